import PyProof.Rows.All
import PySem.Str
import PySem.PyData
import Wide.All
import OpenK.AllK
import Wide.FinOn
import HandS.ForMost
import HandS.Wide
import HandS.Gcd
import HandS.IsInst
import HandS.TupAny
import HandS.TupLe
import HandS.Style
import HandS.Flow
import HandS.Deep
import KE.SortData
import HandS.SortInts
import KE.DataMinMax
import KE.KTupSum
import HandS.Steps
import HandS.More
import HandS.SetFor
import HandS.Strs
import HandS.SetKeys
import HandS.Conv
import PyProof.TupleOfSeq
import HandS.DictComp
import HandS.Text
import HandS.Iter
import PyProof.StrOps2
import PySem.Challenge.RW_oddsweighed_k94_whole_runs_of_tosses
set_option linter.all false
/-! DL0: plain data, a store of lists, and what a piece of a program asks of them (weakest preconditions by parts). No model in sight. -/
namespace DL
open PySem (Str)

/-- a value: tuples by value, a list of one's own by its place in the store, rol: a list that is only read -/
inductive D where
  | non | bl (b : Bool) | int (i : Int) | str (x : Str) | tup (xs : List D) | rol (xs : List D) | ref (n : Nat) | ty (n : String)

/-- a key of a dict: an int or a text -/
abbrev Ky := Int ⊕ Str
inductive O where
  | lst (xs : List D)
  | dK (kvs : List (Ky × D))
  | dT (kvs : List (List Ky × D))
  | fK (kvs : List (Ky × D))
  | fT (kvs : List (List Ky × D))

abbrev Sto := List O
abbrev Env := List (Option D)
abbrev VK := D → Sto → Prop
abbrev WE := Env → Sto → VK → Prop
abbrev WT := Env → Sto → (Bool → Sto → Prop) → Prop
abbrev WA := Env → Sto → (List D → Sto → Prop) → Prop
abbrev WG := D → Env → Sto → (Env → Sto → Prop) → Prop
abbrev WI := Env → Sto → (List D → (Sto → Prop) → Sto → Prop) → Prop
abbrev WP := Env → Sto → (Option Int → Sto → Prop) → Prop
structure Ends where
  nx : Env → Sto → Prop
  rt : VK
  bk : Env → Sto → Prop
  ct : Env → Sto → Prop
abbrev WS := Ends → Env → Sto → Prop
abbrev R1 := D → Sto → VK → Prop
abbrev R2 := D → D → Sto → VK → Prop
abbrev RL := List D → Sto → VK → Prop
abbrev RM := D → List D → Sto → VK → Prop
abbrev Spc := List D → Sto → VK → Prop

def szL : Nat := 16777216

/-! ### equality, order of plain data -/
mutual
def eqD : D → D → Bool
  | .non, .non => true
  | .bl a, .bl b => a == b
  | .bl a, .int j => (if a then 1 else 0) == j
  | .int i, .bl b => i == (if b then 1 else 0)
  | .int i, .int j => decide (i = j)
  | .str x, .str y => decide (x = y)
  | .tup xs, .tup ys => eqDs xs ys
  | _, _ => false
def eqDs : List D → List D → Bool
  | [], [] => true
  | x :: xs, y :: ys => eqD x y && eqDs xs ys
  | [], _ :: _ => false
  | _ :: _, [] => false
end
/-! without lists -/
mutual
def flat : D → Bool
  | .non | .bl _ | .int _ => true
  | .str x => x.cps.all (· < 0x110000)
  | .tup xs => flats xs
  | .rol _ | .ref _ | .ty _ => false
def flats : List D → Bool
  | [] => true
  | x :: xs => flat x && flats xs
end
mutual
def deep : D → Nat
  | .tup xs => deeps xs + 1
  | _ => 0
def deeps : List D → Nat
  | [] => 0
  | x :: xs => max (deep x) (deeps xs)
end
mutual
def toPy : D → PySem.PyData
  | .non => .none
  | .bl b => .bool b
  | .int i => .int i
  | .str x => .str x
  | .tup xs => .tuple (toPys xs)
  | .rol _ => .none
  | .ref _ => .none
  | .ty _ => .none
def toPys : List D → List PySem.PyData
  | [] => []
  | x :: xs => toPy x :: toPys xs
end
/-- intD all through, as tuples of one length or single -/
abbrev intD (ns : List Int) : List D := ns.map D.int

/-! ### the environment -/
@[reducible] def lk : Env → Nat → Option D
  | [], _ => none
  | x :: _, 0 => x
  | _ :: r, n + 1 => lk r n
@[reducible] def up : Env → Nat → Option D → Env
  | [], _, _ => []
  | _ :: r, 0, d => d :: r
  | x :: r, n + 1, d => x :: up r n d
@[reducible] def wipe (ρ : Env) : List Nat → Env
  | [] => ρ
  | i :: r => up (wipe ρ r) i none
def start (n : Nat) (ds : List D) : Env := ds.map some ++ List.replicate (n - ds.length) none

/-! ### expressions -/
@[reducible] def wVar (i : Nat) : WE := fun ρ S Q => match lk ρ i with
  | some d => Q d S
  | none => False
@[reducible] def wC (d : D) : WE := fun _ S Q => Q d S
@[reducible] def wOp (r : R2) (a b : WE) : WE := fun ρ S Q => a ρ S fun x S1 => b ρ S1 fun y S2 => r x y S2 Q
@[reducible] def wUn (r : R1) (a : WE) : WE := fun ρ S Q => a ρ S fun x S1 => r x S1 Q
@[reducible] def wNil : WA := fun _ S Q => Q [] S
@[reducible] def wCons (a : WE) (r : WA) : WA := fun ρ S Q => a ρ S fun x S1 => r ρ S1 fun xs S2 => Q (x :: xs) S2
@[reducible] def wTup (a : WA) : WE := fun ρ S Q => a ρ S fun xs S1 => xs.length ≤ szL ∧ Q (.tup xs) S1
@[reducible] def wLst (a : WA) : WE := fun ρ S Q => a ρ S fun xs S1 => xs.length ≤ szL ∧ Q (.ref S1.length) (S1 ++ [.lst xs])
@[reducible] def wCall (n : Nat) (sp : Spc) (a : WA) : WE := fun ρ S Q => a ρ S fun ds S1 => ds.length = n ∧ sp ds S1 Q
@[reducible] def wB (r : RL) (a : WA) : WE := fun ρ S Q => a ρ S fun ds S1 => r ds S1 Q
/-- a list there -/
@[reducible] def isL : D → Sto → Prop
  | .ref n, S => ∃ xs, S[n]? = some (.lst xs)
  | _, _ => False
/-- o.m(..), o a list of one's own -/
@[reducible] def wM (r : RM) (o : WE) (a : WA) : WE := fun ρ S Q => o ρ S fun x S1 => isL x S1 ∧ a ρ S1 fun ds S2 => r x ds S2 Q
@[reducible] def wM0 (r : RM) (o : WE) : WE := fun ρ S Q => o ρ S fun x S1 => isL x S1 ∧ r x [] S1 Q
@[reducible] def wPNo : WP := fun _ S Q => Q none S
@[reducible] def wPAt (a : WE) : WP := fun ρ S Q => a ρ S fun x S1 => match x with
  | .int i => Q (some i) S1
  | _ => False
@[reducible] def wSl (r : D → Option Int → Option Int → Sto → VK → Prop) (o : WE) (l u : WP) : WE := fun ρ S Q => o ρ S fun x S1 => l ρ S1 fun i S2 => u ρ S2 fun j S3 => r x i j S3 Q
/-! tests -/
@[reducible] def wtVal (a : WE) : WT := fun ρ S Q => a ρ S fun x S1 => match x with
  | .bl b => Q b S1
  | _ => False
@[reducible] def wtAnd (a b : WT) : WT := fun ρ S Q => a ρ S fun c S1 => if c = true then b ρ S1 Q else Q false S1
@[reducible] def wtOr (a b : WT) : WT := fun ρ S Q => a ρ S fun c S1 => if c = true then Q true S1 else b ρ S1 Q
@[reducible] def wtNot (a : WT) : WT := fun ρ S Q => a ρ S fun c S1 => Q (!c) S1
@[reducible] def wAnd (a b : WE) : WE := fun ρ S Q => a ρ S fun x S1 => match x with
  | .bl c => if c = true then b ρ S1 Q else Q (.bl false) S1
  | _ => False
@[reducible] def wOr (a b : WE) : WE := fun ρ S Q => a ρ S fun x S1 => match x with
  | .bl c => if c = true then Q (.bl true) S1 else b ρ S1 Q
  | _ => False
@[reducible] def wNot (a : WE) : WE := fun ρ S Q => a ρ S fun x S1 => match x with
  | .bl c => Q (.bl (!c)) S1
  | _ => False
@[reducible] def wIf (c : WT) (a b : WE) : WE := fun ρ S Q => c ρ S fun k S1 => if k = true then a ρ S1 Q else b ρ S1 Q
@[reducible] def wChain (r r' : R2) (a b c : WE) : WE := fun ρ S Q => a ρ S fun x S1 => b ρ S1 fun y S2 => r x y S2 fun z S3 => match z with
  | .bl k => if k = true then c ρ S3 fun u S4 => r' y u S4 Q else Q (.bl false) S3
  | _ => False

/-! ### what is walked -/
@[reducible] def wIt (a : WE) : WI := fun ρ S R => a ρ S fun x S1 => match x with
  | .tup xs => R xs (fun _ => True) S1
  | .rol xs => R xs (fun _ => True) S1
  | .ref n => match S1[n]? with
    | some (.lst xs) => R xs (fun S' => S'[n]? = some (.lst xs)) S1
    | _ => False
  | _ => False
/-- lo, lo + 1, .. below hi -/
def rangeD (lo hi : Int) : List D := (List.range (hi - lo).toNat).map fun (i : Nat) => D.int (lo + i)
def smallI (i : Int) : Prop := -(2 ^ 62) ≤ i ∧ i < 2 ^ 62
@[reducible] def wR1 (a : WE) : WI := fun ρ S R => a ρ S fun x S1 => match x with
  | .int j => smallI j ∧ R (rangeD 0 j) (fun _ => True) S1
  | _ => False
@[reducible] def wR2 (a b : WE) : WI := fun ρ S R => a ρ S fun x S1 => b ρ S1 fun y S2 => match x, y with
  | .int i, .int j => smallI i ∧ smallI j ∧ R (rangeD i j) (fun _ => True) S2
  | _, _ => False

/-! ### targets: a name, a tuple of names -/
@[reducible] def gN (i : Nat) : WG := fun d ρ S Q => Q (up ρ i (some d)) S
@[reducible] def gNs : List Nat → List D → Env → Option Env
  | [], [], ρ => some ρ
  | i :: r, d :: ds, ρ => gNs r ds (up ρ i (some d))
  | _, _, _ => none
@[reducible] def gT (is : List Nat) : WG := fun d ρ S Q => match d with
  | .tup ds => match gNs is ds ρ with
    | some ρ' => Q ρ' S
    | none => False
  | _ => False

/-! ### comprehensions: one clause, at most one test -/
@[reducible] def wtYes : WT := fun _ S Q => Q true S
/-- I: by the turn, what is made so far, the store; a step tells what it adds -/
def Lc (items : List D) (guard : Sto → Prop) (S1 : Sto) (step : D → Sto → (Option D → Sto → Prop) → Prop) (Q : VK) : Prop := items.length ≤ szL ∧ ∃ I : Nat → List D → Sto → Prop,
  I 0 [] S1 ∧ (∀ i acc S', I i acc S' → guard S') ∧
  (∀ i d acc S', items[i]? = some d → I i acc S' → step d S' fun o S2 => I (i + 1) (acc ++ o.toList) S2) ∧
  ∀ acc S', I items.length acc S' → Q (.ref S'.length) (S' ++ [.lst acc])
@[reducible] def wLc (wi : WI) (g : WG) (tt : WT) (te : WE) (vs : List Nat) : WE := fun ρ S Q => wi ρ S fun items guard S1 =>
  Lc items guard S1 (fun d S' R => g d (wipe ρ vs) S' fun ρ2 S2 => tt ρ2 S2 fun b S3 => if b = true then te ρ2 S3 fun y S4 => R (some y) S4 else R none S3) Q

/-! ### statements -/
@[reducible] def sNext : WS := fun E ρ S => E.nx ρ S
@[reducible] def sSeq (a b : WS) : WS := fun E ρ S => a { E with nx := b E } ρ S
@[reducible] def sBreak : WS := fun E ρ S => E.bk ρ S
@[reducible] def sCont : WS := fun E ρ S => E.ct ρ S
@[reducible] def sDrop (a : WE) : WS := fun E ρ S => a ρ S fun _ S1 => E.nx ρ S1
@[reducible] def sRet (a : WE) : WS := fun E ρ S => a ρ S E.rt
@[reducible] def sRetN : WS := fun E _ S => E.rt .non S
@[reducible] def sIf (c : WT) (a b : WS) : WS := fun E ρ S => c ρ S fun k S1 => if k = true then a E ρ S1 else b E ρ S1
@[reducible] def sNever : WS := fun _ _ _ => False
@[reducible] def sAsg (a : WE) (g : WG) : WS := fun E ρ S => a ρ S fun d S1 => g d ρ S1 E.nx
/-- a, b = x, y by names -/
@[reducible] def sPar (i j : Nat) (a b : WE) : WS := fun E ρ S => a ρ S fun x S1 => b ρ S1 fun y S2 => E.nx (up (up ρ i (some x)) j (some y)) S2
@[reducible] def sAug (i : Nat) (a : WE) (r : R2) : WS := fun E ρ S => match lk ρ i with
  | some x => a ρ S fun y S1 => r x y S1 fun z S2 => E.nx (up ρ i (some z)) S2
  | none => False
/-- o[i] = e -/
@[reducible] def sSub (r : D → D → D → Sto → (Sto → Prop) → Prop) (e o i : WE) : WS := fun E ρ S => e ρ S fun d S1 => o ρ S1 fun x S2 => i ρ S2 fun k S3 => r x k d S3 fun S4 => E.nx ρ S4
/-- o[i] op= e -/
@[reducible] def sAugSub (rg : R2) (rop : R2) (rs : D → D → D → Sto → (Sto → Prop) → Prop) (o i e : WE) : WS := fun E ρ S => o ρ S fun x S1 => i ρ S1 fun k S2 => rg x k S2 fun v S3 => e ρ S3 fun y S4 => rop v y S4 fun z S5 => rs x k z S5 fun S6 => E.nx ρ S6
/-- for: I by the turn -/
def Loop (items : List D) (guard : Sto → Prop) (step : D → Env → Sto → (Env → Sto → Prop) → Prop) (done : Env → Sto → Prop) (ρ : Env) (S : Sto) : Prop := ∃ I : Nat → Env → Sto → Prop,
  I 0 ρ S ∧ (∀ i ρ' S', I i ρ' S' → guard S') ∧ (∀ i d ρ' S', items[i]? = some d → I i ρ' S' → step d ρ' S' (I (i + 1))) ∧ ∀ ρ' S', I items.length ρ' S' → done ρ' S'
@[reducible] def sFor (wi : WI) (g : WG) (b : WS) : WS := fun E ρ S => wi ρ S fun items guard S1 =>
  Loop items guard (fun d ρ' S' N => g d ρ' S' fun ρ2 S2 => b { nx := N, rt := E.rt, bk := E.nx, ct := N } ρ2 S2) E.nx ρ S1
/-- while: I by a measure -/
@[reducible] def sWhile (c : WT) (b : WS) : WS := fun E ρ S => ∃ I : Nat → Env → Sto → Prop, (∃ m, I m ρ S) ∧
  ∀ m ρ' S', I m ρ' S' → c ρ' S' fun k S2 => if k = true then b { nx := fun ρ3 S3 => ∃ m', m' < m ∧ I m' ρ3 S3, rt := E.rt, bk := E.nx, ct := fun ρ3 S3 => ∃ m', m' < m ∧ I m' ρ3 S3 } ρ' S2 else E.nx ρ' S2
/-- a def's body keeps what is asked of it -/
def Body (n k : Nat) (w : WS) (sp : Spc) : Prop := ∀ ds S Q, ds.length = k → sp ds S Q → w { nx := fun _ S' => Q .non S', rt := Q, bk := fun _ _ => False, ct := fun _ _ => False } (start n ds) S

/-! ### operations by values -/
def MulOk (i j : Int) : Prop := (i.natAbs < 2 ^ 64 ∨ j.natAbs < 2 ^ 64) ∨ ∃ a b : Nat, i.natAbs < 2 ^ a ∧ j.natAbs < 2 ^ b ∧ a + b ≤ 1000000
def DivOk (j : Int) : Prop := j ≠ 0 ∧ j.natAbs < 2 ^ 9000
def PowOk (i j : Int) : Prop := 0 ≤ j ∧ j ≤ 1000000 ∧ i.natAbs < 2 ^ 64
def isLst (S : Sto) (n : Nat) (P : List D → Prop) : Prop := match S[n]? with
  | some (.lst xs) => P xs
  | _ => False
@[reducible] def rAdd : R2
  | .int i, .int j, S, Q => Q (.int (i + j)) S
  | .tup xs, .tup ys, S, Q => xs.length + ys.length ≤ szL ∧ Q (.tup (xs ++ ys)) S
  | .str x, .str y, S, Q => x.length + y.length ≤ szL ∧ Q (.str (x ++ y)) S
  | .ref m, .ref n, S, Q => isLst S m fun xs => isLst S n fun ys => xs.length + ys.length ≤ szL ∧ Q (.ref S.length) (S ++ [.lst (xs ++ ys)])
  | _, _, _, _ => False
@[reducible] def rSub : R2
  | .int i, .int j, S, Q => Q (.int (i - j)) S
  | _, _, _, _ => False
@[reducible] def rMul : R2
  | .int i, .int j, S, Q => MulOk i j ∧ Q (.int (i * j)) S
  | .ref m, .int k, S, Q => isLst S m fun xs => (-(2 ^ 63) ≤ k ∧ k < 2 ^ 63) ∧ xs.length * k.toNat ≤ szL ∧ Q (.ref S.length) (S ++ [.lst (List.replicate k.toNat xs).flatten])
  | _, _, _, _ => False
@[reducible] def rMul' : R2
  | .int i, .int j, S, Q => MulOk i j ∧ Q (.int (i * j)) S
  | _, _, _, _ => False
@[reducible] def rDiv : R2
  | .int i, .int j, S, Q => DivOk j ∧ Q (.int (i.fdiv j)) S
  | _, _, _, _ => False
@[reducible] def rMod : R2
  | .int i, .int j, S, Q => j ≠ 0 ∧ Q (.int (i.fmod j)) S
  | _, _, _, _ => False
@[reducible] def rPow : R2
  | .int i, .int j, S, Q => PowOk i j ∧ Q (.int (i ^ j.toNat)) S
  | _, _, _, _ => False
@[reducible] def rNeg : R1
  | .int i, S, Q => Q (.int (-i)) S
  | _, _, _ => False
@[reducible] def rCmp (f : Int → Int → Bool) : R2
  | .int i, .int j, S, Q => Q (.bl (f i j)) S
  | _, _, _, _ => False
abbrev rLt : R2 := rCmp fun i j => decide (i < j)
abbrev rLe : R2 := rCmp fun i j => decide (i ≤ j)
abbrev rGt : R2 := rCmp fun i j => decide (j < i)
abbrev rGe : R2 := rCmp fun i j => decide (j ≤ i)
@[reducible] def rEq : R2 := fun x y S Q => (flat x = true ∧ flat y = true ∧ deep x ≤ 64 ∧ deep y ≤ 64) ∧ Q (.bl (eqD x y)) S
@[reducible] def rNe : R2 := fun x y S Q => (flat x = true ∧ flat y = true ∧ deep x ≤ 64 ∧ deep y ≤ 64) ∧ Q (.bl (!eqD x y)) S
def isNon : D → Bool
  | .non => true
  | _ => false
@[reducible] def rIs : R2
  | x, .non, S, Q => Q (.bl (isNon x)) S
  | .bl a, .bl b, S, Q => Q (.bl (decide (a = b))) S
  | _, _, _, _ => False
@[reducible] def rIsNot : R2
  | x, .non, S, Q => Q (.bl (!isNon x)) S
  | .bl a, .bl b, S, Q => Q (.bl (!decide (a = b))) S
  | _, _, _, _ => False
/-- place i, from the end if negative -/
def ixZ (n : Nat) (i : Int) : Option Nat := if 0 ≤ i then (if i < n then some i.toNat else none) else if -(n : Int) ≤ i then some (i + n).toNat else none
def atZ {α : Type} (xs : List α) (i : Int) : Option α := (ixZ xs.length i).bind fun j => xs[j]?
@[reducible] def rIx : R2
  | .tup xs, .int i, S, Q => ∃ d, atZ xs i = some d ∧ Q d S
  | .rol xs, .int i, S, Q => ∃ d, atZ xs i = some d ∧ Q d S
  | .ref n, .int i, S, Q => isLst S n fun xs => ∃ d, atZ xs i = some d ∧ Q d S
  | .str z, .int i, S, Q => z.length ≤ szL ∧ ∃ c, atZ z.cps.toList i = some c ∧ Q (.str ⟨#[c]⟩) S
  | _, _, _, _ => False
def sIx (n d : Nat) : Option Int → Nat
  | none => d
  | some i => if i < 0 then (i + n).toNat else min i.toNat n
def cut {α : Type} (xs : List α) (lo hi : Option Int) : List α := (xs.drop (sIx xs.length 0 lo)).take (sIx xs.length xs.length hi - sIx xs.length 0 lo)
@[reducible] def rSl : D → Option Int → Option Int → Sto → VK → Prop
  | .tup xs, lo, hi, S, Q => Q (.tup (cut xs lo hi)) S
  | .ref n, lo, hi, S, Q => isLst S n fun xs => Q (.ref S.length) (S ++ [.lst (cut xs lo hi)])
  | _, _, _, _, _ => False
@[reducible] def rRev : R1
  | .tup xs, S, Q => Q (.tup xs.reverse) S
  | .ref n, S, Q => isLst S n fun xs => Q (.ref S.length) (S ++ [.lst xs.reverse])
  | _, _, _ => False
/-- plain things, for in -/
def flat0 : D → Bool
  | .non | .bl _ | .int _ | .str _ => true
  | _ => false
@[reducible] def rIn (neg : Bool) : R2
  | x, .tup ys, S, Q => (flat0 x = true ∧ ys.all flat0 = true) ∧ Q (.bl (if neg then !ys.any fun y => eqD y x else ys.any fun y => eqD y x)) S
  | x, .ref n, S, Q => isLst S n fun ys => (flat x = true ∧ flats ys = true ∧ deep x ≤ 63 ∧ deeps ys ≤ 63) ∧ Q (.bl (if neg then !ys.any fun y => eqD y x else ys.any fun y => eqD y x)) S
  | _, _, _, _ => False
/-! built-ins -/
@[reducible] def rLen : RL
  | [.tup xs], S, Q => Q (.int xs.length) S
  | [.rol xs], S, Q => Q (.int xs.length) S
  | [.str z], S, Q => z.length ≤ szL ∧ Q (.int z.length) S
  | [.ref n], S, Q => isLst S n fun xs => Q (.int xs.length) S
  | _, _, _ => False
@[reducible] def rAbs : RL
  | [.int i], S, Q => Q (.int i.natAbs) S
  | _, _, _ => False
@[reducible] def rInt : RL
  | [.int i], S, Q => Q (.int i) S
  | [.bl b], S, Q => Q (.int (if b = true then 1 else 0)) S
  | _, _, _ => False
@[reducible] def rMax2 : RL
  | [.int i, .int j], S, Q => Q (.int (max i j)) S
  | _, _, _ => False
@[reducible] def rMin2 : RL
  | [.int i, .int j], S, Q => Q (.int (min i j)) S
  | _, _, _ => False
@[reducible] def rList : RL
  | [.tup xs], S, Q => Q (.ref S.length) (S ++ [.lst xs])
  | [.rol xs], S, Q => Q (.ref S.length) (S ++ [.lst xs])
  | [.ref n], S, Q => isLst S n fun xs => Q (.ref S.length) (S ++ [.lst xs])
  | _, _, _ => False
@[reducible] def rTuple : RL
  | [.tup xs], S, Q => Q (.tup xs) S
  | [.rol xs], S, Q => Q (.tup xs) S
  | [.ref n], S, Q => isLst S n fun xs => Q (.tup xs) S
  | _, _, _ => False
/-- intD all through -/
def intsOf : List D → Option (List Int)
  | [] => some []
  | .int i :: r => (intsOf r).map (i :: ·)
  | _ => none
def bsOf : List D → Option (List Bool)
  | [] => some []
  | .bl i :: r => (bsOf r).map (i :: ·)
  | _ => none
/-- the list behind a list of one's own or a tuple -/
def itemsAt : D → Sto → Option (List D)
  | .tup xs, _ => some xs
  | .ref n, S => match S[n]? with
    | some (.lst xs) => some xs
    | _ => none
  | _, _ => none
@[reducible] def withInts (d : D) (S : Sto) (P : List Int → Prop) : Prop := ∃ ns, itemsAt d S = some (intD ns) ∧ P ns
@[reducible] def rSum : RL
  | [d], S, Q => withInts d S fun ns => Q (.int ns.sum) S
  | _, _, _ => False
@[reducible] def rMax : RL
  | [d], S, Q => withInts d S fun ns => 0 < ns.length ∧ ∀ m, m ∈ ns → (∀ y, y ∈ ns → y ≤ m) → Q (.int m) S
  | _, _, _ => False
@[reducible] def rMin : RL
  | [d], S, Q => withInts d S fun ns => 0 < ns.length ∧ ∀ m, m ∈ ns → (∀ y, y ∈ ns → m ≤ y) → Q (.int m) S
  | _, _, _ => False
@[reducible] def rAll : RL
  | [.ref n], S, Q => ∃ bs : List Bool, S[n]? = some (.lst (bs.map .bl)) ∧ Q (.bl (bs.all id)) S
  | _, _, _ => False
@[reducible] def rAny : RL
  | [.ref n], S, Q => ∃ bs : List Bool, S[n]? = some (.lst (bs.map .bl)) ∧ Q (.bl (bs.any id)) S
  | _, _, _ => False
@[reducible] def rGcd : RL
  | [.int a, .int b], S, Q => Q (.int (Nat.gcd a.natAbs b.natAbs : Nat)) S
  | _, _, _ => False
/-- isinstance(x, T): T one of bool, int, str, tuple, list -/
def isT : D → String → Option Bool
  | .non, t => if t ∈ ["bool", "int", "str", "tuple", "list"] then some false else none
  | .bl _, t => if t ∈ ["bool", "int"] then some true else if t ∈ ["str", "tuple", "list"] then some false else none
  | .int _, t => if t = "int" then some true else if t ∈ ["bool", "str", "tuple", "list"] then some false else none
  | .str _, t => if t = "str" then some true else if t ∈ ["bool", "int", "tuple", "list"] then some false else none
  | .tup _, t => if t = "tuple" then some true else if t ∈ ["bool", "int", "str", "list"] then some false else none
  | _, _ => none
@[reducible] def rIsi : RL
  | [d, .ty t], S, Q => ∃ b, isT d t = some b ∧ Q (.bl b) S
  | _, _, _ => False
/-! sorting -/
mutual
def ltD : D → D → Bool
  | .int i, .int j => decide (i < j)
  | .str x, .str y => decide (x.cps.toList < y.cps.toList)
  | .tup xs, .tup ys => ltDs xs ys
  | _, _ => false
def ltDs : List D → List D → Bool
  | [], [] => false
  | [], _ :: _ => true
  | _ :: _, [] => false
  | x :: xs, y :: ys => if eqD x y = true then ltDs xs ys else ltD x y
end
mutual
def akin : D → D → Bool
  | .int _, .int _ => true
  | .str _, .str _ => true
  | .tup xs, .tup ys => akins xs ys
  | _, _ => false
def akins : List D → List D → Bool
  | x :: xs, y :: ys => akin x y && akins xs ys
  | _, _ => true
end
/-- all ints, all texts, or all tuples with an item -/
def sortOk (xs : List D) : Prop := flats xs = true ∧ deeps xs ≤ 60 ∧ (∀ a ∈ xs, ∀ b ∈ xs, akin a b = true) ∧ ((∀ a ∈ xs, ∃ x r, a = .tup (x :: r)) ∨ ∀ a ∈ xs, a ≠ .non ∧ ∀ ys, a ≠ .tup ys)
@[reducible] def rSorted : RL
  | [.ref n], S, Q => isLst S n fun xs => sortOk xs ∧ ∀ ys, ys.Perm xs → ys.Pairwise (fun a b => ltD b a = false) → Q (.ref S.length) (S ++ [.lst ys])
  | _, _, _ => False
/-- sorted(set(a)) of ints -/
@[reducible] def wSortedSet (a : WE) : WE := fun ρ S Q => a ρ S fun d S1 => withInts d S1 fun ns => ns.length < 60 ∧ ∀ ms : List Int, ms.Pairwise (· < ·) → (∀ k, k ∈ ms ↔ k ∈ ns) → Q (.ref S1.length) (S1 ++ [.lst (intD ms)])
/-! methods of lists -/
@[reducible] def rAppend : RM
  | .ref n, [d], S, Q => isLst S n fun xs => xs.length < szL ∧ Q .non (S.set n (.lst (xs ++ [d])))
  | _, _, _, _ => False
@[reducible] def rPop : RM
  | .ref n, [], S, Q => isLst S n fun xs => ∃ d, xs[xs.length - 1]? = some d ∧ Q d (S.set n (.lst xs.dropLast))
  | _, _, _, _ => False
@[reducible] def rPopAt : RM
  | .ref n, [.int i], S, Q => isLst S n fun xs => (-(2 ^ 63) ≤ i ∧ i < 2 ^ 63) ∧ ∃ j d, ixZ xs.length i = some j ∧ xs[j]? = some d ∧ Q d (S.set n (.lst (xs.eraseIdx j)))
  | _, _, _, _ => False
@[reducible] def rReverse : RM
  | .ref n, [], S, Q => isLst S n fun xs => Q .non (S.set n (.lst xs.reverse))
  | _, _, _, _ => False
@[reducible] def rInsert : RM
  | .ref n, [.int i, d], S, Q => isLst S n fun xs => xs.length < szL ∧ (0 ≤ i ∧ i < 2 ^ 63) ∧ Q .non (S.set n (.lst (xs.take i.toNat ++ [d] ++ xs.drop i.toNat)))
  | _, _, _, _ => False
/-- o[i] = d -/
@[reducible] def rPut : D → D → D → Sto → (Sto → Prop) → Prop
  | .ref n, .int i, d, S, Q => isLst S n fun xs => ∃ j, ixZ xs.length i = some j ∧ Q (S.set n (.lst (xs.set j d)))
  | _, _, _, _, _ => False
end DL
set_option Elab.async false
set_option linter.all false
set_option maxRecDepth 100000
set_option maxHeartbeats 4000000
/-! DL1: the parts of DL0 hold of the model, rule by rule. -/
namespace DL
open PySem PySem.Spec
open L2 (V Hp HO St TE TT TA TS TG TI TO PE PT PW PA PS PSs PG PI PO Cx Inv RelV Vals SqL SqT Rd upd upd_same upd_ne ne_of ne_of_none OpR UnR CallR MtR IxR SlR It thn)

/-! ### how plain data lies in the heap -/
/-- a list that is only read -/
def RoL (K : PySem.W.Frag) (H : Hp) (a : Addr) (vs : List V) : Prop := (∃ o, H a = some (.frz o (.lst vs))) ∨
    ∃ (o : Obj) (its : Array Value) (n : Nat), K.lookup a = some o ∧ o.cls = .type "list" ∧ o.dict = none ∧ o.data = .seq its n ∧ its.size ≤ sizeLine ∧ Vals vs its.toList
theorem RoL.seq {K : PySem.W.Frag} {H : Hp} {a : Addr} {vs : List V} (h : RoL K H a vs) : SqL K H a vs := by
  rcases h with h | h
  · exact .inl (.inr h)
  · exact .inr h
/-- whether tuples of the module's own (constants) may be about -/
def cst : Bool := true
/-- a tuple that we made, or a constant one -/
def SqK (K : PySem.W.Frag) (H : Hp) (a : Addr) (vs : List V) : Prop := H a = some (.tup vs) ∨ (cst = true ∧ SqT K H a vs)
theorem SqK.sqT {K : PySem.W.Frag} {H : Hp} {a : Addr} {vs : List V} (h : SqK K H a vs) : SqT K H a vs := by
  rcases h with h | h
  · exact L2.SqT.of h
  · exact h.2
/-- what may change -/
def mutO : HO → Bool
  | .lst _ | .dK _ | .dT _ => true
  | _ => false
mutual
def Rep (K : PySem.W.Frag) (H : Hp) (m : List Addr) : D → V → Prop
  | .non, v => v = .non
  | .bl b, v => v = .bl b
  | .int i, v => v = .int i
  | .str x, v => v = .str x
  | .ty n, v => v = .ty n
  | .ref n, v => ∃ a, m[n]? = some a ∧ v = .ref a
  | .tup ds, v => ∃ a vs, v = .ref a ∧ SqK K H a vs ∧ Reps K H m ds vs
  | .rol ds, v => ∃ a vs, v = .ref a ∧ RoL K H a vs ∧ Reps K H m ds vs
def Reps (K : PySem.W.Frag) (H : Hp) (m : List Addr) : List D → List V → Prop
  | [], vs => vs = []
  | d :: ds, vs => ∃ v r, vs = v :: r ∧ Rep K H m d v ∧ Reps K H m ds r
end
/-- from one heap to a later one: what is not ours stands, what is ours may have grown -/
structure Ext (m : List Addr) (H : Hp) (m' : List Addr) (H' : Hp) : Prop where
  pre : ∀ (n : Nat) (a : Addr), m[n]? = some a → m'[n]? = some a
  keep : ∀ (b : Addr) (o : HO), H b = some o → b ∉ m → H' b = some o
  new : ∀ b : Addr, b ∈ m' → b ∈ m ∨ H b = none
  lst : ∀ (b : Addr) (o : HO), H b = some o → mutO o = false → H' b = some o
theorem Ext.refl (m : List Addr) (H : Hp) : Ext m H m H := ⟨fun _ _ h => h, fun _ _ h _ => h, fun _ h => .inl h, fun _ _ h _ => h⟩
theorem Ext.trans {m m1 m2 : List Addr} {H H1 H2 : Hp} (a : Ext m H m1 H1) (b : Ext m1 H1 m2 H2) : Ext m H m2 H2 where
  pre := fun n x h => b.pre n x (a.pre n x h)
  keep := fun c o h hn => b.keep c o (a.keep c o h hn) fun z => by
    rcases a.new c z with z | z
    · exact hn z
    · rw [z] at h; cases h
  new := fun c h => by
    rcases b.new c h with z | z
    · exact a.new c z
    · by_cases hc : c ∈ m
      · exact .inl hc
      · refine .inr ?_
        cases e : H c with
        | none => rfl
        | some o => rw [a.keep c o e hc] at z; cases z
  lst := fun c o h hn => b.lst c o (a.lst c o h hn) hn
theorem Ext.sqT {m m' : List Addr} {H H' : Hp} (e : Ext m H m' H') {K : PySem.W.Frag} {a : Addr} {vs : List V} (h : SqT K H a vs) : SqT K H' a vs := by
  rcases h with (h | ⟨o, h⟩) | h
  · exact .inl (.inl (e.lst _ _ h rfl))
  · exact .inl (.inr ⟨o, e.lst _ _ h rfl⟩)
  · exact .inr h
theorem Ext.sqK {m m' : List Addr} {H H' : Hp} (e : Ext m H m' H') {K : PySem.W.Frag} {a : Addr} {vs : List V} (h : SqK K H a vs) : SqK K H' a vs := by
  rcases h with h | ⟨h1, h2⟩
  · exact .inl (e.lst _ _ h rfl)
  · exact .inr ⟨h1, e.sqT h2⟩
theorem Ext.ro {m m' : List Addr} {H H' : Hp} (e : Ext m H m' H') {K : PySem.W.Frag} {a : Addr} {vs : List V} (h : RoL K H a vs) : RoL K H' a vs := by
  rcases h with ⟨o, h⟩ | h
  · exact .inl ⟨o, e.lst _ _ h rfl⟩
  · exact .inr h
section
variable {K : PySem.W.Frag} {m m' m1 : List Addr} {H H' H1 : Hp} {S S' : Sto}
mutual
theorem Rep.ext (e : Ext m H m' H') : ∀ (d : D) (v : V), Rep K H m d v → Rep K H' m' d v
  | .non, _, h => h
  | .bl _, _, h => h
  | .int _, _, h => h
  | .str _, _, h => h
  | .ty _, _, h => h
  | .ref _, _, ⟨a, h1, h2⟩ => ⟨a, e.pre _ _ h1, h2⟩
  | .tup ds, _, ⟨a, vs, h1, h2, h3⟩ => ⟨a, vs, h1, e.sqK h2, Reps.ext e ds vs h3⟩
  | .rol ds, _, ⟨a, vs, h1, h2, h3⟩ => ⟨a, vs, h1, e.ro h2, Reps.ext e ds vs h3⟩
theorem Reps.ext (e : Ext m H m' H') : ∀ (ds : List D) (vs : List V), Reps K H m ds vs → Reps K H' m' ds vs
  | [], _, h => h
  | d :: ds, _, ⟨v, r, h1, h2, h3⟩ => ⟨v, r, h1, Rep.ext e d v h2, Reps.ext e ds r h3⟩
end
theorem Reps.len : ∀ {ds : List D} {vs : List V}, Reps K H m ds vs → vs.length = ds.length
  | [], _, h => by rw [show _ = ([] : List V) from h]; rfl
  | d :: ds, _, ⟨v, r, h1, h2, h3⟩ => by rw [h1, List.length_cons, List.length_cons, Reps.len h3]
theorem Reps.get : ∀ {ds : List D} {vs : List V}, Reps K H m ds vs → ∀ (i : Nat) (d : D), ds[i]? = some d → ∃ v, vs[i]? = some v ∧ Rep K H m d v
  | [], _, h, i, d, e => by simp at e
  | d :: ds, _, ⟨v, r, h1, h2, h3⟩, 0, d', e => by
    simp at e
    subst e
    exact ⟨v, by rw [h1]; rfl, h2⟩
  | d :: ds, _, ⟨v, r, h1, h2, h3⟩, i + 1, d', e => by
    obtain ⟨w, e1, e2⟩ := Reps.get h3 i d' (by simpa using e)
    exact ⟨w, by rw [h1]; simpa using e1, e2⟩
theorem Reps.get' : ∀ {ds : List D} {vs : List V}, Reps K H m ds vs → ∀ (i : Nat) (v : V), vs[i]? = some v → ∃ d, ds[i]? = some d ∧ Rep K H m d v
  | [], _, h, i, d, e => by
    rw [show _ = ([] : List V) from h] at e
    simp at e
  | d :: ds, _, ⟨v, r, h1, h2, h3⟩, 0, d', e => by
    rw [h1] at e
    simp at e
    subst e
    exact ⟨d, rfl, h2⟩
  | d :: ds, _, ⟨v, r, h1, h2, h3⟩, i + 1, d', e => by
    rw [h1] at e
    obtain ⟨w, e1, e2⟩ := Reps.get' h3 i d' (by simpa using e)
    exact ⟨w, by simpa using e1, e2⟩
theorem Reps.app : ∀ {ds es : List D} {vs us : List V}, Reps K H m ds vs → Reps K H m es us → Reps K H m (ds ++ es) (vs ++ us)
  | [], _, _, _, h, q => by rw [show _ = ([] : List V) from h]; exact q
  | d :: ds, _, _, _, ⟨v, r, h1, h2, h3⟩, q => ⟨v, r ++ _, by rw [h1]; rfl, h2, Reps.app h3 q⟩
theorem Reps.one {d : D} {v : V} (h : Rep K H m d v) : Reps K H m [d] [v] := ⟨v, [], rfl, h, rfl⟩
theorem Reps.drop : ∀ {ds : List D} {vs : List V} (n : Nat), Reps K H m ds vs → Reps K H m (ds.drop n) (vs.drop n)
  | _, _, 0, h => h
  | [], _, n + 1, h => by rw [show _ = ([] : List V) from h]; rfl
  | d :: ds, _, n + 1, ⟨v, r, h1, h2, h3⟩ => by rw [h1]; exact Reps.drop n h3
theorem Reps.take : ∀ {ds : List D} {vs : List V} (n : Nat), Reps K H m ds vs → Reps K H m (ds.take n) (vs.take n)
  | _, _, 0, h => rfl
  | [], _, n + 1, h => by rw [show _ = ([] : List V) from h]; rfl
  | d :: ds, _, n + 1, ⟨v, r, h1, h2, h3⟩ => by rw [h1]; exact ⟨v, _, rfl, h2, Reps.take n h3⟩
theorem Reps.rev : ∀ {ds : List D} {vs : List V}, Reps K H m ds vs → Reps K H m ds.reverse vs.reverse
  | [], _, h => by rw [show _ = ([] : List V) from h]; rfl
  | d :: ds, _, ⟨v, r, h1, h2, h3⟩ => by
    rw [h1, List.reverse_cons, List.reverse_cons]
    exact Reps.app (Reps.rev h3) (Reps.one h2)
theorem Reps.set : ∀ {ds : List D} {vs : List V} {d : D} {v : V} (i : Nat), Reps K H m ds vs → Rep K H m d v → Reps K H m (ds.set i d) (vs.set i v)
  | [], _, _, _, i, h, q => by rw [show _ = ([] : List V) from h]; rfl
  | d :: ds, _, _, _, 0, ⟨v, r, h1, h2, h3⟩, q => by rw [h1]; exact ⟨_, _, rfl, q, h3⟩
  | d :: ds, _, _, _, i + 1, ⟨v, r, h1, h2, h3⟩, q => by rw [h1]; exact ⟨_, _, rfl, h2, Reps.set i h3 q⟩
theorem Reps.erase : ∀ {ds : List D} {vs : List V} (i : Nat), Reps K H m ds vs → Reps K H m (ds.eraseIdx i) (vs.eraseIdx i)
  | [], _, i, h => by rw [show _ = ([] : List V) from h]; cases i <;> rfl
  | d :: ds, _, 0, ⟨v, r, h1, h2, h3⟩ => by rw [h1]; exact h3
  | d :: ds, _, i + 1, ⟨v, r, h1, h2, h3⟩ => by rw [h1]; exact ⟨_, _, rfl, h2, Reps.erase i h3⟩
theorem Reps.dropLast {ds : List D} {vs : List V} (h : Reps K H m ds vs) : Reps K H m ds.dropLast vs.dropLast := by
  rw [List.dropLast_eq_take, List.dropLast_eq_take, h.len]
  exact h.take _
theorem Reps.rep {ds : List D} {vs : List V} (h : Reps K H m ds vs) : ∀ k : Nat, Reps K H m (List.replicate k ds).flatten (List.replicate k vs).flatten
  | 0 => rfl
  | k + 1 => by
    rw [List.replicate_succ, List.replicate_succ, List.flatten_cons, List.flatten_cons]
    exact Reps.app h (Reps.rep h k)
theorem Reps.ints : ∀ {ns : List Int} {vs : List V}, Reps K H m (intD ns) vs → vs = ns.map V.int
  | [], _, h => h
  | n :: ns, _, ⟨v, r, h1, h2, h3⟩ => by rw [h1, show v = V.int n from h2, Reps.ints h3]; rfl
theorem Reps.bls : ∀ {ns : List Bool} {vs : List V}, Reps K H m (ns.map D.bl) vs → vs = ns.map V.bl
  | [], _, h => h
  | n :: ns, _, ⟨v, r, h1, h2, h3⟩ => by rw [h1, show v = V.bl n from h2, Reps.bls h3]; rfl
theorem Reps.of_ints : ∀ {ns : List Int}, Reps K H m (DL.intD ns) (ns.map V.int)
  | [] => rfl
  | n :: ns => ⟨_, _, rfl, rfl, Reps.of_ints⟩

/-- one object of the store -/
def RepO (K : PySem.W.Frag) (H : Hp) (m : List Addr) : O → Addr → Prop
  | .lst ds, a => ∃ vs, H a = some (.lst vs) ∧ Reps K H m ds vs
  | .dK kvs, a => ∃ ks : List (L2.Key × V), H a = some (.dK ks) ∧ ks.map (·.1) = kvs.map (·.1) ∧ Reps K H m (kvs.map (·.2)) (ks.map (·.2))
  | .dT kvs, a => ∃ ks : List (List L2.Key × V), H a = some (.dT ks) ∧ ks.map (·.1) = kvs.map (·.1) ∧ Reps K H m (kvs.map (·.2)) (ks.map (·.2))
  | .fK kvs, a => ∃ (od : Obj) (ks : List (L2.Key × V)), H a = some (.frz od (.dK ks)) ∧ ks.map (·.1) = kvs.map (·.1) ∧ Reps K H m (kvs.map (·.2)) (ks.map (·.2))
  | .fT kvs, a => ∃ (od : Obj) (ks : List (List L2.Key × V)), H a = some (.frz od (.dT ks)) ∧ ks.map (·.1) = kvs.map (·.1) ∧ Reps K H m (kvs.map (·.2)) (ks.map (·.2))
/-- what may be written -/
def isMut : O → Bool
  | .lst _ | .dK _ | .dT _ => true
  | .fK _ | .fT _ => false
structure RepS (K : PySem.W.Frag) (H : Hp) (m : List Addr) (S : Sto) : Prop where
  len : m.length = S.length
  nd : ∀ (i j : Nat) (a : Addr), m[i]? = some a → m[j]? = some a → i = j
  obj : ∀ (n : Nat) (o : O), S[n]? = some o → ∃ a, m[n]? = some a ∧ RepO K H m o a
theorem RepS.lst (h : RepS K H m S) {n : Nat} {ds : List D} (e : S[n]? = some (.lst ds)) : ∃ a vs, m[n]? = some a ∧ H a = some (.lst vs) ∧ Reps K H m ds vs := by
  obtain ⟨a, h1, vs, h2, h3⟩ := h.obj n _ e
  exact ⟨a, vs, h1, h2, h3⟩
theorem RepO.ext {o : O} {a : Addr} (e : Ext m H m' H') (r : RepO K H m o a) (hk : H' a = H a) : RepO K H' m' o a := by
  cases o with
  | lst ds => obtain ⟨vs, h1, h2⟩ := r; exact ⟨vs, hk.trans h1, Reps.ext e _ _ h2⟩
  | dK ds => obtain ⟨vs, h1, h2, h3⟩ := r; exact ⟨vs, hk.trans h1, h2, Reps.ext e _ _ h3⟩
  | dT ds => obtain ⟨vs, h1, h2, h3⟩ := r; exact ⟨vs, hk.trans h1, h2, Reps.ext e _ _ h3⟩
  | fK ds => obtain ⟨od, vs, h1, h2, h3⟩ := r; exact ⟨od, vs, hk.trans h1, h2, Reps.ext e _ _ h3⟩
  | fT ds => obtain ⟨od, vs, h1, h2, h3⟩ := r; exact ⟨od, vs, hk.trans h1, h2, Reps.ext e _ _ h3⟩
theorem RepO.mut {o : O} {a : Addr} (r : RepO K H m o a) (hm : isMut o = true) : ∃ u, H a = some u ∧ mutO u = true := by
  cases o with
  | lst ds => obtain ⟨vs, h1, h2⟩ := r; exact ⟨_, h1, rfl⟩
  | dK ds => obtain ⟨vs, h1, h2, h3⟩ := r; exact ⟨_, h1, rfl⟩
  | dT ds => obtain ⟨vs, h1, h2, h3⟩ := r; exact ⟨_, h1, rfl⟩
  | fK ds => cases hm
  | fT ds => cases hm
theorem RepO.ex {o : O} {a : Addr} (r : RepO K H m o a) : ∃ u, H a = some u := by
  cases o with
  | lst ds => obtain ⟨vs, h1, h2⟩ := r; exact ⟨_, h1⟩
  | dK ds => obtain ⟨vs, h1, h2, h3⟩ := r; exact ⟨_, h1⟩
  | dT ds => obtain ⟨vs, h1, h2, h3⟩ := r; exact ⟨_, h1⟩
  | fK ds => obtain ⟨od, vs, h1, h2, h3⟩ := r; exact ⟨_, h1⟩
  | fT ds => obtain ⟨od, vs, h1, h2, h3⟩ := r; exact ⟨_, h1⟩
theorem RepS.mem (h : RepS K H m S) {b : Addr} (hb : b ∈ m) : ∃ u, H b = some u := by
  obtain ⟨n, hn, e⟩ := List.getElem_of_mem hb
  have e' : m[n]? = some b := by rw [List.getElem?_eq_getElem hn, e]
  have hs : n < S.length := by rw [← h.len]; exact hn
  obtain ⟨a, h1, h2⟩ := h.obj n S[n] (List.getElem?_eq_getElem hs)
  rw [e'] at h1
  cases h1
  exact h2.ex
theorem RepS.notin (h : RepS K H m S) {p : Addr} (hp : H p = none) : p ∉ m := fun z => by
  obtain ⟨vs, e⟩ := h.mem z
  rw [hp] at e; cases e
/-- a new thing that is not a list of ours -/
theorem Ext.fresh (hp : H p = none) (o : HO) : Ext m H m (upd H p o) where
  pre := fun _ _ h => h
  keep := fun b u h _ => by rw [upd_ne (ne_of_none h hp)]; exact h
  new := fun _ h => .inl h
  lst := fun b u h _ => by rw [upd_ne (ne_of_none h hp)]; exact h
theorem Ext.pushed (hp : H p = none) (o : HO) : Ext m H (m ++ [p]) (upd H p o) where
  pre := fun n a h => by
    rw [List.getElem?_append_left]
    · exact h
    · exact (List.getElem?_eq_some_iff.mp h).1
  keep := fun b u h _ => by rw [upd_ne (ne_of_none h hp)]; exact h
  new := fun b h => by
    rcases List.mem_append.mp h with z | z
    · exact .inl z
    · refine .inr ?_
      rw [List.mem_singleton.mp z]
      exact hp
  lst := fun b u h _ => by rw [upd_ne (ne_of_none h hp)]; exact h
theorem Ext.wrote {a : Addr} {o o' : HO} (ha : a ∈ m) (h : H a = some o) (mo : mutO o = true) : Ext m H m (upd H a o') where
  pre := fun _ _ h => h
  keep := fun b u q hn => by
    rw [upd_ne (a := a) (b := b) (fun z => hn (by rw [z]; exact ha))]
    exact q
  new := fun _ h => .inl h
  lst := fun b u q hl => by
    have hne : b ≠ a := fun z => by
      rw [z, h] at q
      rw [← Option.some.inj q, mo] at hl
      cases hl
    rw [upd_ne hne]
    exact q
theorem RepS.fresh (h : RepS K H m S) (hp : H p = none) (o : HO) : RepS K (upd H p o) m S where
  len := h.len
  nd := h.nd
  obj := fun n u e => by
    obtain ⟨a, h1, h2⟩ := h.obj n u e
    obtain ⟨w, h3⟩ := h2.ex
    exact ⟨a, h1, h2.ext (Ext.fresh hp o) (by rw [upd_ne (ne_of_none h3 hp)])⟩
theorem RepS.pushO (h : RepS K H m S) (hp : H p = none) {o : O} {ob : HO} (r : ∀ H', H' = upd H p ob → RepO K H' (m ++ [p]) o p) : RepS K (upd H p ob) (m ++ [p]) (S ++ [o]) where
  len := by rw [List.length_append, List.length_append, h.len]; rfl
  nd := fun i j a h1 h2 => by
    have hn := h.notin hp
    have pos : ∀ (i : Nat) (a : Addr), (m ++ [p])[i]? = some a → (m[i]? = some a ∧ a ≠ p) ∨ (i = m.length ∧ a = p) := fun i a e => by
      by_cases hi : i < m.length
      · rw [List.getElem?_append_left hi] at e
        exact .inl ⟨e, fun z => hn (z ▸ List.mem_of_getElem? e)⟩
      · have hi' := (List.getElem?_eq_some_iff.mp e).1
        rw [List.length_append] at hi'
        have : i = m.length := by simp at hi'; omega
        subst this
        simp at e
        exact .inr ⟨rfl, e.symm⟩
    rcases pos i a h1 with ⟨e1, n1⟩ | ⟨e1, n1⟩ <;> rcases pos j a h2 with ⟨e2, n2⟩ | ⟨e2, n2⟩
    · exact h.nd i j a e1 e2
    · exact absurd n2 n1
    · exact absurd n1 n2
    · rw [e1, e2]
  obj := fun n u e => by
    by_cases hn : n < S.length
    · rw [List.getElem?_append_left hn] at e
      obtain ⟨a, h1, h2⟩ := h.obj n u e
      obtain ⟨w, h3⟩ := h2.ex
      exact ⟨a, (Ext.pushed (m := m) hp ob).pre _ _ h1, h2.ext (Ext.pushed hp ob) (by rw [upd_ne (ne_of_none h3 hp)])⟩
    · have hi' := (List.getElem?_eq_some_iff.mp e).1
      rw [List.length_append] at hi'
      have : n = S.length := by simp at hi'; omega
      subst this
      simp at e
      subst e
      exact ⟨p, by rw [← h.len]; simp, r _ rfl⟩
theorem RepS.push (h : RepS K H m S) (hp : H p = none) {ds : List D} {vs : List V} (r : Reps K H m ds vs) : RepS K (upd H p (.lst vs)) (m ++ [p]) (S ++ [.lst ds]) :=
  h.pushO hp fun H' e => ⟨vs, by rw [e, upd_same], by rw [e]; exact Reps.ext (Ext.pushed hp _) _ _ r⟩
theorem RepS.setO (h : RepS K H m S) {n : Nat} {a : Addr} {o o' : O} {ob : HO} (hm : isMut o = true) (e : S[n]? = some o) (ha : m[n]? = some a) (r : ∀ H', H' = upd H a ob → Ext m H m H' → RepO K H' m o' a) :
    RepS K (upd H a ob) m (S.set n o') := by
  obtain ⟨a', h1, h2⟩ := h.obj n o e
  rw [ha] at h1
  cases h1
  obtain ⟨w, h3, h4⟩ := h2.mut hm
  have ext : Ext m H m (upd H a ob) := Ext.wrote (List.mem_of_getElem? ha) h3 h4
  have hn : n < S.length := (List.getElem?_eq_some_iff.mp e).1
  refine ⟨by rw [List.length_set]; exact h.len, h.nd, fun i u q => ?_⟩
  by_cases hi : i = n
  · subst hi
    rw [List.getElem?_set_self hn] at q
    cases q
    exact ⟨a, ha, r _ rfl ext⟩
  · rw [List.getElem?_set_ne (Ne.symm hi)] at q
    obtain ⟨b, g1, g2⟩ := h.obj i u q
    have hne : b ≠ a := fun z => hi (h.nd i n a (by rw [← z]; exact g1) ha)
    exact ⟨b, g1, g2.ext ext (by rw [upd_ne hne])⟩
theorem RepS.set (h : RepS K H m S) {n : Nat} {a : Addr} {ds ds' : List D} {vs' : List V} (e : S[n]? = some (.lst ds)) (ha : m[n]? = some a) (r : Reps K H m ds' vs') :
    RepS K (upd H a (.lst vs')) m (S.set n (.lst ds')) := h.setO rfl e ha fun H' eH ext => ⟨vs', by rw [eH, upd_same], Reps.ext ext _ _ r⟩

/-! ### slots -/
structure RepE (K : PySem.W.Frag) (H : Hp) (m : List Addr) (ρ : Env) (σ : St) : Prop where
  len : ρ.length = σ.length
  get : ∀ (i : Nat) (d : D), lk ρ i = some d → ∃ v, σ[i]? = some (some v) ∧ Rep K H m d v
theorem RepE.ext {ρ : Env} {σ : St} (r : RepE K H m ρ σ) (e : Ext m H m' H') : RepE K H' m' ρ σ := ⟨r.len, fun i d h => let ⟨v, h1, h2⟩ := r.get i d h; ⟨v, h1, Rep.ext e _ _ h2⟩⟩
theorem lk_up : ∀ (ρ : Env) (i j : Nat) (d : Option D), lk (up ρ i d) j = if j = i ∧ i < ρ.length then d else lk ρ j
  | [], i, j, d => by simp [up, lk]
  | x :: r, 0, 0, d => by simp [up, lk]
  | x :: r, 0, j + 1, d => by simp [up, lk]
  | x :: r, i + 1, 0, d => by simp [up, lk]
  | x :: r, i + 1, j + 1, d => by simp [up, lk, lk_up r i j d]
theorem up_len : ∀ (ρ : Env) (i : Nat) (d : Option D), (up ρ i d).length = ρ.length
  | [], _, _ => rfl
  | x :: r, 0, _ => rfl
  | x :: r, i + 1, d => by simp [up, up_len r i d]
theorem RepE.set {ρ : Env} {σ : St} (r : RepE K H m ρ σ) {d : D} {v : V} (q : Rep K H m d v) (i : Nat) : RepE K H m (up ρ i (some d)) (σ.set i (some v)) := by
  refine ⟨by rw [up_len, List.length_set]; exact r.len, fun j e h => ?_⟩
  rw [lk_up] at h
  by_cases hj : j = i ∧ i < ρ.length
  · rw [if_pos hj] at h
    cases h
    obtain ⟨rfl, hl⟩ := hj
    exact ⟨v, by rw [List.getElem?_set_self (by rw [← r.len]; exact hl)], q⟩
  · rw [if_neg hj] at h
    obtain ⟨w, h1, h2⟩ := r.get j e h
    refine ⟨w, ?_, h2⟩
    have hlt := (List.getElem?_eq_some_iff.mp h1).1
    by_cases hji : j = i
    · exact absurd ⟨hji, by rw [r.len, ← hji]; exact hlt⟩ hj
    · rw [List.getElem?_set_ne (Ne.symm hji)]
      exact h1
theorem RepE.drop1 {ρ : Env} {σ : St} (r : RepE K H m ρ σ) (i : Nat) : RepE K H m (up ρ i none) (σ.set i none) := by
  refine ⟨by rw [up_len, List.length_set]; exact r.len, fun j e h => ?_⟩
  rw [lk_up] at h
  by_cases hj : j = i ∧ i < ρ.length
  · rw [if_pos hj] at h; cases h
  · rw [if_neg hj] at h
    obtain ⟨w, h1, h2⟩ := r.get j e h
    have hlt := (List.getElem?_eq_some_iff.mp h1).1
    refine ⟨w, ?_, h2⟩
    by_cases hji : j = i
    · exact absurd ⟨hji, by rw [r.len, ← hji]; exact hlt⟩ hj
    · rw [List.getElem?_set_ne (Ne.symm hji)]
      exact h1
end
section
variable {K : PySem.W.Frag} {m m' m1 : List Addr} {H H' H1 : Hp} {S S' : Sto}
/-- places stay, all but lists stay -/
structure Ex0 (m : List Addr) (H : Hp) (m' : List Addr) (H' : Hp) : Prop where
  pre : ∀ (n : Nat) (a : Addr), m[n]? = some a → m'[n]? = some a
  lst : ∀ (b : Addr) (o : HO), H b = some o → mutO o = false → H' b = some o
theorem Ex0.sqT (e : Ex0 m H m' H') {a : Addr} {vs : List V} (h : SqT K H a vs) : SqT K H' a vs := by
  rcases h with (h | ⟨o, h⟩) | h
  · exact .inl (.inl (e.lst _ _ h rfl))
  · exact .inl (.inr ⟨o, e.lst _ _ h rfl⟩)
  · exact .inr h
theorem Ex0.sqK (e : Ex0 m H m' H') {a : Addr} {vs : List V} (h : SqK K H a vs) : SqK K H' a vs := by
  rcases h with h | ⟨h1, h2⟩
  · exact .inl (e.lst _ _ h rfl)
  · exact .inr ⟨h1, e.sqT h2⟩
theorem Ex0.ro (e : Ex0 m H m' H') {a : Addr} {vs : List V} (h : RoL K H a vs) : RoL K H' a vs := by
  rcases h with ⟨o, h⟩ | h
  · exact .inl ⟨o, e.lst _ _ h rfl⟩
  · exact .inr h
mutual
theorem Rep.ext0 (e : Ex0 m H m' H') : ∀ (d : D) (v : V), Rep K H m d v → Rep K H' m' d v
  | .non, _, h => h
  | .bl _, _, h => h
  | .int _, _, h => h
  | .str _, _, h => h
  | .ty _, _, h => h
  | .ref _, _, ⟨a, h1, h2⟩ => ⟨a, e.pre _ _ h1, h2⟩
  | .tup ds, _, ⟨a, vs, h1, h2, h3⟩ => ⟨a, vs, h1, e.sqK h2, Reps.ext0 e ds vs h3⟩
  | .rol ds, _, ⟨a, vs, h1, h2, h3⟩ => ⟨a, vs, h1, e.ro h2, Reps.ext0 e ds vs h3⟩
theorem Reps.ext0 (e : Ex0 m H m' H') : ∀ (ds : List D) (vs : List V), Reps K H m ds vs → Reps K H' m' ds vs
  | [], _, h => h
  | d :: ds, _, ⟨v, r, h1, h2, h3⟩ => ⟨v, r, h1, Rep.ext0 e d v h2, Reps.ext0 e ds r h3⟩
end
theorem Ext.ex0 (e : Ext m H m' H') : Ex0 m H m' H' := ⟨e.pre, e.lst⟩
end
end DL
set_option Elab.async false
set_option linter.all false
set_option maxRecDepth 100000
set_option maxHeartbeats 4000000
/-! DL2: the parts as rules of the layer: tests, calls, displays, blocks, loops, comprehensions. -/
namespace DL
open PySem PySem.Spec
open L2 (V Hp HO St TE TT TA TS TG TI TO PE PT PW PA PS PSs PG PI PO Cx Inv RelV Vals SqL SqT Rd upd upd_same upd_ne ne_of ne_of_none OpR UnR CallR MtR IxR SlR It thn)

/-! ### from a part to the layer's reading -/
abbrev Kont (K : PySem.W.Frag) (m : List Addr) (H : Hp) (R : D → Sto → Prop) (Q : V → Hp → Prop) : Prop :=
  ∀ v d H' S' m', Ext m H m' H' → RepS K H' m' S' → Rep K H' m' d v → R d S' → Q v H'
def teOf (K : PySem.W.Frag) (w : WE) : TE := fun σ H Q => ∃ ρ S m R, RepE K H m ρ σ ∧ RepS K H m S ∧ w ρ S R ∧ Kont K m H R Q
def ttOf (K : PySem.W.Frag) (w : WT) : TT := fun σ H Q => ∃ ρ S m R, RepE K H m ρ σ ∧ RepS K H m S ∧ w ρ S R ∧ ∀ b H' S' m', Ext m H m' H' → RepS K H' m' S' → R b S' → Q b H'
def taOf (K : PySem.W.Frag) (w : WA) : TA := fun σ H Q => ∃ ρ S m R, RepE K H m ρ σ ∧ RepS K H m S ∧ w ρ S R ∧ ∀ vs ds H' S' m', Ext m H m' H' → RepS K H' m' S' → Reps K H' m' ds vs → R ds S' → Q vs H'
def toOf (K : PySem.W.Frag) (w : WP) : TO := fun σ H Q => ∃ ρ S m R, RepE K H m ρ σ ∧ RepS K H m S ∧ w ρ S R ∧ ∀ b H' S' m', Ext m H m' H' → RepS K H' m' S' → R b S' → Q b H'
/-- slots but those at vs as they were -/
def tgOf (K : PySem.W.Frag) (vs : List Nat) (g : WG) : TG := fun v σ H Q => ∃ d ρ S m R, RepE K H m ρ σ ∧ RepS K H m S ∧ Rep K H m d v ∧ g d ρ S R ∧
  ∀ σ' ρ' S' m' H', L2.wipe σ' vs = L2.wipe σ vs → Ext m H m' H' → RepS K H' m' S' → RepE K H' m' ρ' σ' → R ρ' S' → Q σ' H'
def tsOf (K : PySem.W.Frag) (w : WS) : TS := fun D σ H => ∃ ρ S m E, RepE K H m ρ σ ∧ RepS K H m S ∧ w E ρ S ∧
  (∀ σ' ρ' H' S' m', Ext m H m' H' → RepS K H' m' S' → RepE K H' m' ρ' σ' → E.nx ρ' S' → D.nx σ' H') ∧ Kont K m H E.rt D.rt ∧
  (∀ σ' ρ' H' S' m', Ext m H m' H' → RepS K H' m' S' → RepE K H' m' ρ' σ' → E.bk ρ' S' → D.bk σ' H') ∧
  (∀ σ' ρ' H' S' m', Ext m H m' H' → RepS K H' m' S' → RepE K H' m' ρ' σ' → E.ct ρ' S' → D.ct σ' H')
/-- the items that an iterator yields -/
def Yields (K : PySem.W.Frag) (J : It) (items : List D) (guard : Sto → Prop) (m0 : List Addr) (H0 : Hp) : Prop :=
  ∀ m H S, Ex0 m0 H0 m H → RepS K H m S → guard S → (∀ (i : Nat) (d : D), items[i]? = some d → J.go i H ∧ ∀ x H', J.yld i H x H' → ∃ m', Ext m H m' H' ∧ RepS K H' m' S ∧ Rep K H' m' d x) ∧ (∀ i : Nat, items.length ≤ i → J.stop i H)
def tiOf (K : PySem.W.Frag) (w : WI) : TI := fun σ H R => ∃ ρ S m Rd, RepE K H m ρ σ ∧ RepS K H m S ∧ w ρ S Rd ∧
  ∀ J items guard S' m' H', Ext m H m' H' → RepS K H' m' S' → Yields K J items guard m' H' → Rd items guard S' → R J H'
def r2Of (K : PySem.W.Frag) (r : R2) : L2.R2 := fun x y H Q => ∃ m S dx dy R, RepS K H m S ∧ Rep K H m dx x ∧ Rep K H m dy y ∧ r dx dy S R ∧ Kont K m H R Q
def r1Of (K : PySem.W.Frag) (r : R1) : V → Hp → L2.VK → Prop := fun x H Q => ∃ m S dx R, RepS K H m S ∧ Rep K H m dx x ∧ r dx S R ∧ Kont K m H R Q
def rlOf (K : PySem.W.Frag) (r : RL) : List V → Hp → L2.VK → Prop := fun xs H Q => ∃ m S ds R, RepS K H m S ∧ Reps K H m ds xs ∧ r ds S R ∧ Kont K m H R Q
def rmOf (K : PySem.W.Frag) (r : RM) : V → List V → Hp → L2.VK → Prop := fun x xs H Q => ∃ m S dx ds R, RepS K H m S ∧ Rep K H m dx x ∧ Reps K H m ds xs ∧ r dx ds S R ∧ Kont K m H R Q
def rsOf (K : PySem.W.Frag) (r : D → Option Int → Option Int → Sto → VK → Prop) : V → Option Int → Option Int → Hp → L2.VK → Prop := fun x lo hi H Q => ∃ m S dx R, RepS K H m S ∧ Rep K H m dx x ∧ r dx lo hi S R ∧ Kont K m H R Q
/-- a def's promise -/
def spOf (K : PySem.W.Frag) (n : Nat) (sp : Spc) : L2.Sp := fun vs H Q _ => ∃ m S ds R, RepS K H m S ∧ Reps K H m ds vs ∧ ds.length = n ∧ sp ds S R ∧ Kont K m H R Q

theorem Kont.ext {K : PySem.W.Frag} {m m1 : List Addr} {H H1 : Hp} {R : D → Sto → Prop} {Q : V → Hp → Prop} (k : Kont K m H R Q) (e : Ext m H m1 H1) : Kont K m1 H1 R Q :=
  fun v d H' S' m' e' s r q => k v d H' S' m' (e.trans e') s r q

section
variable {X : Cx} {e : Expr} {es : List Expr} {a b c : Expr} {pos : Pos}
theorem peI {t t' : TE} (h : PE X e t) (hi : ∀ σ H Q, t' σ H Q → t σ H Q) : PE X e t' := ⟨fun pins s σ H Q I q => h.run pins s σ H Q I (hi _ _ _ q)⟩
theorem ptI {t t' : TT} (h : PT X e t) (hi : ∀ σ H Q, t' σ H Q → t σ H Q) : PT X e t' := ⟨fun pins s σ H Q I q => h.run pins s σ H Q I (hi _ _ _ q)⟩
theorem pwI {t t' : TT} (h : PW X e t) (hi : ∀ σ H Q, t' σ H Q → t σ H Q) : PW X e t' := ⟨fun wh pins s σ H Q I q => h.run wh pins s σ H Q I (hi _ _ _ q)⟩
theorem paI {t t' : TA} (h : PA X es t) (hi : ∀ σ H Q, t' σ H Q → t σ H Q) : PA X es t' := ⟨fun p pins s σ H Q I q => h.run p pins s σ H Q I (hi _ _ _ q)⟩
theorem psI {st : Stmt} {t t' : TS} (h : PS X st t) (hi : ∀ D σ H, t' D σ H → t D σ H) : PS X st t' := ⟨fun pins s σ H D I q => h.run pins s σ H D I (hi _ _ _ q)⟩
theorem pssI {st : List Stmt} {t t' : TS} (h : PSs X st t) (hi : ∀ D σ H, t' D σ H → t D σ H) : PSs X st t' := ⟨fun pins s σ H D I q => h.run pins s σ H D I (hi _ _ _ q)⟩
theorem pgI {tg : Expr} {t t' : TG} (h : PG X tg t) (hi : ∀ v σ H Q, t' v σ H Q → t v σ H Q) : PG X tg t' := ⟨fun pins s σ H v u Q I r q => h.run pins s σ H v u Q I r (hi _ _ _ _ q)⟩
theorem piI {tg it : Expr} {t t' : TI} (h : PI X tg it t) (hi : ∀ σ H Q, t' σ H Q → t σ H Q) : PI X tg it t' := ⟨fun pins s σ H R I q => h.run pins s σ H R I (hi _ _ _ q)⟩

variable {wa wb wc : WE}
/-- the first part's end, the second part begun -/
theorem and2 {K : PySem.W.Frag} {σ : St} {H : Hp} {ρ : Env} {S : Sto} {m : List Addr} {R : D → D → Sto → Prop} {T : V → V → Hp → Prop} (hE : RepE K H m ρ σ) (hS : RepS K H m S)
    (h : wa ρ S fun x S1 => wb ρ S1 fun y S2 => R x y S2)
    (k : ∀ m2 H2 S2 v u x y, Ext m H m2 H2 → RepS K H2 m2 S2 → Rep K H2 m2 x v → Rep K H2 m2 y u → R x y S2 → T v u H2) :
    teOf K wa σ H fun v H1 => teOf K wb σ H1 fun u H2 => T v u H2 :=
  ⟨ρ, S, m, _, hE, hS, h, fun v x H1 S1 m1 e1 s1 r1 q1 => ⟨ρ, S1, m1, _, hE.ext e1, s1, q1, fun u y H2 S2 m2 e2 s2 r2 q2 => k m2 H2 S2 v u x y (e1.trans e2) s2 (Rep.ext e2 _ _ r1) r2 q2⟩⟩

/-! ### names, constants -/
theorem d_var (i : Nat) {x : Str} (hN : X.N[i]? = some x := by rfl) (hv : L2.Vis X.env.scope x := by first | exact Or.inl rfl | exact Or.inr (Or.inl rfl) | exact Or.inr (Or.inr rfl)) (hd : (x == ("__debug__" : Str)) = false := by decide)
    (hcd : (x == ("__classdict__" : Str)) = false := by decide) : PE X (.Name x pos) (teOf X.K (wVar i)) := peI (L2.pe_var (i := i) hN hv hd hcd) fun σ H Q ⟨ρ, S, m, R, hE, hS, h, k⟩ => by
  unfold wVar at h
  cases e : lk ρ i with
  | none => rw [e] at h; exact h.elim
  | some d =>
    rw [e] at h
    obtain ⟨v, h1, h2⟩ := hE.get i d e
    exact ⟨v, h1, k v d H S m (Ext.refl _ _) hS h2 h⟩
theorem d_int {i j} : PE X (.Constant (.int i) j pos) (teOf X.K (wC (.int i))) := peI L2.pe_int fun σ H Q ⟨ρ, S, m, R, hE, hS, h, k⟩ => k _ (.int i) H S m (Ext.refl _ _) hS rfl h
theorem d_bl {b j} : PE X (.Constant (.bool b) j pos) (teOf X.K (wC (.bl b))) := peI L2.pe_bl fun σ H Q ⟨ρ, S, m, R, hE, hS, h, k⟩ => k _ (.bl b) H S m (Ext.refl _ _) hS rfl h
theorem d_non {j} : PE X (.Constant .none j pos) (teOf X.K (wC .non)) := peI L2.pe_non fun σ H Q ⟨ρ, S, m, R, hE, hS, h, k⟩ => k _ .non H S m (Ext.refl _ _) hS rfl h
theorem d_str {x j} : PE X (.Constant (.str x) j pos) (teOf X.K (wC (.str x))) := peI L2.pe_str fun σ H Q ⟨ρ, S, m, R, hE, hS, h, k⟩ => k _ (.str x) H S m (Ext.refl _ _) hS rfl h
/-- a built-in type as a value -/
theorem d_ty {x : Str} {n : String} (hg : L2.Gl X x) (hm : X.mg x = none) (hv : bootBuiltins x = some (.type n)) (hn : x ≠ "__name__" := by decide) (hd : (x == ("__debug__" : Str)) = false := by decide) : PE X (.Name x pos) (teOf X.K (wC (.ty n))) :=
  peI (L2.pe_bltn (v := .ty n) hg hm hv rfl hn hd) fun σ H Q ⟨ρ, S, m, R, hE, hS, h, k⟩ => k _ (.ty n) H S m (Ext.refl _ _) hS rfl h
/-- a constant of the module -/
theorem d_glob {x : Str} {v : V} {u : Value} {d : D} (hg : L2.Gl X x) (hm : X.mg x = some u) (r : RelV v u) (hr : ∀ H m, Rep X.K H m d v) (hd : (x == ("__debug__" : Str)) = false := by decide) : PE X (.Name x pos) (teOf X.K (wC d)) :=
  peI (L2.pe_glob hg hm r hd) fun σ H Q ⟨ρ, S, m, R, hE, hS, h, k⟩ => k _ _ H S m (Ext.refl _ _) hS (hr H m) h

/-! ### operators -/
theorem d_op {op : Operator} {r : R2} (ho : OpR X (binaryOp op) (r2Of X.K r)) (ha : PE X a (teOf X.K wa)) (hb : PE X b (teOf X.K wb)) : PE X (.BinOp a op b pos) (teOf X.K (wOp r wa wb)) :=
  peI (L2.pe_op ho ha hb) fun σ H Q ⟨ρ, S, m, R, hE, hS, h, k⟩ => and2 hE hS h fun m2 H2 S2 v u x y e s rx ry q => ⟨m2, S2, x, y, R, s, rx, ry, q, k.ext e⟩
theorem d_un {op : UnaryOp} {r : R1} (ho : UnR X (unaryOp op) (r1Of X.K r)) (ha : PE X a (teOf X.K wa)) : PE X (.UnaryOp op a pos) (teOf X.K (wUn r wa)) :=
  peI (L2.pe_un ho ha) fun σ H Q ⟨ρ, S, m, R, hE, hS, h, k⟩ => ⟨ρ, S, m, _, hE, hS, h, fun v x H1 S1 m1 e1 s1 r1 q1 => ⟨m1, S1, x, R, s1, r1, q1, k.ext e1⟩⟩
theorem d_cmp {op : CmpOp} {r : R2} (ho : OpR X (compareOp op) (r2Of X.K r)) (ha : PE X a (teOf X.K wa)) (hb : PE X b (teOf X.K wb)) (hm : behindInMarks op b = false := by first | exact L2.nobehind _ (by decide) (by decide) | rfl) : PE X (.Compare a [op] [b] pos) (teOf X.K (wOp r wa wb)) :=
  peI (L2.pe_cmpR ho ha hb hm) fun σ H Q ⟨ρ, S, m, R, hE, hS, h, k⟩ => and2 hE hS h fun m2 H2 S2 v u x y e s rx ry q => ⟨m2, S2, x, y, R, s, rx, ry, q, k.ext e⟩
theorem d_ix {r : R2} (ho : IxR X (r2Of X.K r)) (ha : PE X a (teOf X.K wa)) (hb : PE X b (teOf X.K wb)) (hs : L2.PlainIx b := by intro _ _; rfl) : PE X (.Subscript a b pos) (teOf X.K (wOp r wa wb)) :=
  peI (L2.pe_ix ho ha hb hs) fun σ H Q ⟨ρ, S, m, R, hE, hS, h, k⟩ => and2 hE hS h fun m2 H2 S2 v u x y e s rx ry q => ⟨m2, S2, x, y, R, s, rx, ry, q, k.ext e⟩
theorem d_chain {op op' : CmpOp} {r r' : R2} (ho : OpR X (compareOp op) (r2Of X.K r)) (ho' : OpR X (compareOp op') (r2Of X.K r')) (ha : PE X a (teOf X.K wa)) (hb : PE X b (teOf X.K wb)) (hc : PE X c (teOf X.K wc)) (hm : lastMarks [op, op'] [b, c] = false := by rfl) :
    PE X (.Compare a [op, op'] [b, c] pos) (teOf X.K (wChain r r' wa wb wc)) :=
  peI (L2.pe_chain ho ho' ha hb hc (hm := hm)) fun σ H Q ⟨ρ, S, m, R, hE, hS, h, k⟩ => and2 hE hS h fun m2 H2 S2 v u x y e s rx ry q => ⟨m2, S2, x, y, _, s, rx, ry, q, fun z d H3 S3 m3 e3 s3 r3 q3 => by
    cases d with
    | bl kk =>
      refine ⟨kk, r3, ?_⟩
      have q3 : if kk = true then wc ρ S3 fun u S4 => r' y u S4 R else R (.bl false) S3 := q3
      by_cases hk : kk = true
      · rw [if_pos hk] at q3 ⊢
        exact ⟨ρ, S3, m3, _, hE.ext (e.trans e3), s3, q3, fun w d4 H4 S4 m4 e4 s4 r4 q4 => ⟨m4, S4, y, d4, R, s4, Rep.ext (e3.trans e4) _ _ ry, r4, q4, k.ext (e.trans (e3.trans e4))⟩⟩
      · rw [if_neg hk] at q3 ⊢
        exact k _ (.bl false) H3 S3 m3 (e.trans e3) s3 rfl q3
    | _ => exact (show False from q3).elim⟩

/-! ### tests -/
theorem dt_val (h : PE X e (teOf X.K wa)) (he : ∀ whole, isTrue e X.env whole = (do let v ← whole; standAt e.pos; holding [v] (truthy v)) := by intro _; rfl) : PT X e (ttOf X.K (wtVal wa)) :=
  ptI (L2.pt_val h he) fun σ H Q ⟨ρ, S, m, R, hE, hS, h, k⟩ => ⟨ρ, S, m, _, hE, hS, h, fun v d H' S' m' e s r q => by
    cases d with
    | bl b => exact ⟨b, r, k b H' S' m' e s q⟩
    | _ => exact (show False from q).elim⟩
theorem dt_cmp {op : CmpOp} {r : R2} (ho : OpR X (compareOp op) (r2Of X.K r)) (ha : PE X a (teOf X.K wa)) (hb : PE X b (teOf X.K wb)) (hm : behindInMarks op b = false := by first | exact L2.nobehind _ (by decide) (by decide) | rfl) : PT X (.Compare a [op] [b] pos) (ttOf X.K (wtVal (wOp r wa wb))) :=
  ptI (L2.pt_cmpR ho ha hb hm) fun σ H Q ⟨ρ, S, m, R, hE, hS, h, k⟩ => and2 hE hS h fun m2 H2 S2 v u x y e s rx ry q => ⟨m2, S2, x, y, _, s, rx, ry, q, fun z d H3 S3 m3 e3 s3 r3 q3 => by
    cases d with
    | bl kk => exact ⟨kk, r3, k kk H3 S3 m3 (e.trans e3) s3 q3⟩
    | _ => exact (show False from q3).elim⟩
theorem dt_chain {op op' : CmpOp} {r r' : R2} (ho : OpR X (compareOp op) (r2Of X.K r)) (ho' : OpR X (compareOp op') (r2Of X.K r')) (ha : PE X a (teOf X.K wa)) (hb : PE X b (teOf X.K wb)) (hc : PE X c (teOf X.K wc)) (hm : lastMarks [op, op'] [b, c] = false := by rfl) :
    PT X (.Compare a [op, op'] [b, c] pos) (ttOf X.K (wtVal (wChain r r' wa wb wc))) :=
  ptI (L2.pt_chain ho ho' ha hb hc (hm := hm)) fun σ H Q ⟨ρ, S, m, R, hE, hS, h, k⟩ => and2 hE hS h fun m2 H2 S2 v u x y e s rx ry q => ⟨m2, S2, x, y, _, s, rx, ry, q, fun z d H3 S3 m3 e3 s3 r3 q3 => by
    cases d with
    | bl kk =>
      refine ⟨kk, r3, ?_⟩
      have q3 : if kk = true then wc ρ S3 fun u S4 => r' y u S4 _ else _ := q3
      by_cases hk : kk = true
      · rw [if_pos hk] at q3 ⊢
        exact ⟨ρ, S3, m3, _, hE.ext (e.trans e3), s3, q3, fun w d4 H4 S4 m4 e4 s4 r4 q4 => ⟨m4, S4, y, d4, _, s4, Rep.ext (e3.trans e4) _ _ ry, r4, q4, fun v5 d5 H5 S5 m5 e5 s5 r5 q5 => by
          cases d5 with
          | bl k5 => exact ⟨k5, r5, k k5 H5 S5 m5 (e.trans (e3.trans (e4.trans e5))) s5 q5⟩
          | _ => exact (show False from q5).elim⟩⟩
      · rw [if_neg hk] at q3 ⊢
        exact ⟨false, rfl, k false H3 S3 m3 (e.trans e3) s3 q3⟩
    | _ => exact (show False from q3).elim⟩
variable {ta tb : WT} {rest : List Expr}
theorem dt_not (ha : PT X a (ttOf X.K ta)) : PT X (.UnaryOp .Not a pos) (ttOf X.K (wtNot ta)) :=
  ptI (L2.pt_not ha) fun σ H Q ⟨ρ, S, m, R, hE, hS, h, k⟩ => ⟨ρ, S, m, _, hE, hS, h, fun b H' S' m' e s q => k _ H' S' m' e s q⟩
theorem dw_and1 (ha : PT X a (ttOf X.K ta)) : PW X (.BoolOp .And [a] pos) (ttOf X.K ta) := L2.pw_and1 ha
theorem dw_or1 (ha : PT X a (ttOf X.K ta)) : PW X (.BoolOp .Or [a] pos) (ttOf X.K ta) := L2.pw_or1 ha
theorem dw_and (ha : PT X a (ttOf X.K ta)) (hb : PW X (.BoolOp .And (b :: rest) pos) (ttOf X.K tb)) : PW X (.BoolOp .And (a :: b :: rest) pos) (ttOf X.K (wtAnd ta tb)) :=
  pwI (L2.pw_and ha hb) fun σ H Q ⟨ρ, S, m, R, hE, hS, h, k⟩ => ⟨ρ, S, m, _, hE, hS, h, fun b H' S' m' e s q => by
    have q : if b = true then tb ρ S' R else R false S' := q
    show if b = true then ttOf X.K tb σ H' Q else Q false H'
    by_cases hb : b = true
    · rw [if_pos hb] at q ⊢
      exact ⟨ρ, S', m', R, hE.ext e, s, q, fun b2 H2 S2 m2 e2 s2 q2 => k b2 H2 S2 m2 (e.trans e2) s2 q2⟩
    · rw [if_neg hb] at q ⊢
      exact k _ H' S' m' e s q⟩
theorem dw_or (ha : PT X a (ttOf X.K ta)) (hb : PW X (.BoolOp .Or (b :: rest) pos) (ttOf X.K tb)) : PW X (.BoolOp .Or (a :: b :: rest) pos) (ttOf X.K (wtOr ta tb)) :=
  pwI (L2.pw_or ha hb) fun σ H Q ⟨ρ, S, m, R, hE, hS, h, k⟩ => ⟨ρ, S, m, _, hE, hS, h, fun b H' S' m' e s q => by
    have q : if b = true then R true S' else tb ρ S' R := q
    show if b = true then Q true H' else ttOf X.K tb σ H' Q
    by_cases hb : b = true
    · rw [if_pos hb] at q ⊢
      exact k _ H' S' m' e s q
    · rw [if_neg hb] at q ⊢
      exact ⟨ρ, S', m', R, hE.ext e, s, q, fun b2 H2 S2 m2 e2 s2 q2 => k b2 H2 S2 m2 (e.trans e2) s2 q2⟩⟩
/-! as values -/
theorem d_one {op} (h : PE X a (teOf X.K wa)) : PE X (.BoolOp op [a] pos) (teOf X.K wa) := L2.pe_one h
theorem d_and (ha : PE X a (teOf X.K wa)) (hb : PE X (.BoolOp .And (b :: rest) pos) (teOf X.K wb)) : PE X (.BoolOp .And (a :: b :: rest) pos) (teOf X.K (wAnd wa wb)) :=
  peI (L2.pe_and ha hb) fun σ H Q ⟨ρ, S, m, R, hE, hS, h, k⟩ => ⟨ρ, S, m, _, hE, hS, h, fun v d H' S' m' e s r q => by
    cases d with
    | bl c =>
      refine ⟨c, r, ?_⟩
      have q : if c = true then wb ρ S' R else R (.bl false) S' := q
      by_cases hb : c = true
      · rw [if_pos hb] at q ⊢
        exact ⟨ρ, S', m', R, hE.ext e, s, q, k.ext e⟩
      · rw [if_neg hb] at q ⊢
        exact k _ (.bl false) H' S' m' e s rfl q
    | _ => exact (show False from q).elim⟩
theorem d_or (ha : PE X a (teOf X.K wa)) (hb : PE X (.BoolOp .Or (b :: rest) pos) (teOf X.K wb)) : PE X (.BoolOp .Or (a :: b :: rest) pos) (teOf X.K (wOr wa wb)) :=
  peI (L2.pe_or ha hb) fun σ H Q ⟨ρ, S, m, R, hE, hS, h, k⟩ => ⟨ρ, S, m, _, hE, hS, h, fun v d H' S' m' e s r q => by
    cases d with
    | bl c =>
      refine ⟨c, r, ?_⟩
      have q : if c = true then R (.bl true) S' else wb ρ S' R := q
      by_cases hb : c = true
      · rw [if_pos hb] at q ⊢
        exact k _ (.bl true) H' S' m' e s rfl q
      · rw [if_neg hb] at q ⊢
        exact ⟨ρ, S', m', R, hE.ext e, s, q, k.ext e⟩
    | _ => exact (show False from q).elim⟩
theorem d_not (ha : PE X a (teOf X.K wa)) : PE X (.UnaryOp .Not a pos) (teOf X.K (wNot wa)) :=
  peI (L2.pe_not ha) fun σ H Q ⟨ρ, S, m, R, hE, hS, h, k⟩ => ⟨ρ, S, m, _, hE, hS, h, fun v d H' S' m' e s r q => by
    cases d with
    | bl c => exact ⟨c, r, k _ (.bl (!c)) H' S' m' e s rfl q⟩
    | _ => exact (show False from q).elim⟩
theorem d_if (hc : PT X c (ttOf X.K ta)) (ha : PE X a (teOf X.K wa)) (hb : PE X b (teOf X.K wb)) : PE X (.IfExp c a b pos) (teOf X.K (wIf ta wa wb)) :=
  peI (L2.pe_ifExp hc ha hb) fun σ H Q ⟨ρ, S, m, R, hE, hS, h, k⟩ => ⟨ρ, S, m, _, hE, hS, h, fun c H' S' m' e s q => by
    have q : if c = true then wa ρ S' R else wb ρ S' R := q
    show if c = true then teOf X.K wa σ H' Q else teOf X.K wb σ H' Q
    by_cases hb : c = true
    · rw [if_pos hb] at q ⊢
      exact ⟨ρ, S', m', R, hE.ext e, s, q, k.ext e⟩
    · rw [if_neg hb] at q ⊢
      exact ⟨ρ, S', m', R, hE.ext e, s, q, k.ext e⟩⟩

/-! ### displays, calls -/
variable {va : WA}
theorem da_nil : PA X [] (taOf X.K wNil) := paI L2.pa_nil fun σ H Q ⟨ρ, S, m, R, hE, hS, h, k⟩ => k [] [] H S m (Ext.refl _ _) hS rfl h
theorem da_cons (ha : PE X e (teOf X.K wa)) (hr : PA X es (taOf X.K va)) (hs : starEach (e :: es) X.env = (false, eval e X.env) :: starEach es X.env := by rfl) : PA X (e :: es) (taOf X.K (wCons wa va)) :=
  paI (L2.pa_cons ha hr hs) fun σ H Q ⟨ρ, S, m, R, hE, hS, h, k⟩ => ⟨ρ, S, m, _, hE, hS, h, fun v x H1 S1 m1 e1 s1 r1 q1 => ⟨ρ, S1, m1, _, hE.ext e1, s1, q1, fun vs xs H2 S2 m2 e2 s2 r2 q2 =>
    k (v :: vs) (x :: xs) H2 S2 m2 (e1.trans e2) s2 ⟨_, _, rfl, Rep.ext e2 _ _ r1, r2⟩ q2⟩⟩
theorem d_tup {x1} (h : PA X es (taOf X.K va)) : PE X (.Tuple es x1 pos) (teOf X.K (wTup va)) :=
  peI (L2.pe_tup h) fun σ H Q ⟨ρ, S, m, R, hE, hS, h, k⟩ => ⟨ρ, S, m, _, hE, hS, h, fun vs ds H1 S1 m1 e1 s1 r1 ⟨z, q1⟩ => ⟨by rw [r1.len]; exact z, fun p hp =>
    k _ (.tup ds) _ S1 m1 (e1.trans (Ext.fresh hp _)) (s1.fresh hp _) ⟨p, vs, rfl, .inl upd_same, Reps.ext (Ext.fresh hp _) _ _ r1⟩ q1⟩⟩
theorem d_lst (h : PA X es (taOf X.K va)) : PE X (.List es pos) (teOf X.K (wLst va)) :=
  peI (L2.pe_lst h) fun σ H Q ⟨ρ, S, m, R, hE, hS, h, k⟩ => ⟨ρ, S, m, _, hE, hS, h, fun vs ds H1 S1 m1 e1 s1 r1 ⟨z, q1⟩ => ⟨by rw [r1.len]; exact z, fun p hp =>
    k _ (.ref S1.length) _ _ (m1 ++ [p]) (e1.trans (Ext.pushed hp _)) (s1.push hp r1) ⟨p, by rw [← s1.len]; simp, rfl⟩ q1⟩⟩
theorem d_call {n kk : Nat} {f : Addr} {fd : FuncData} {ps : List Str} {sp : Spc} {x : Str} {p : Pos} (F : L2.FnOk X.prog X.w X.K X.mg X.base L2.CX0 kk f fd ps (spOf X.K n sp)) (hr : L2.Room kk X.A) (hg : L2.Gl X x) (hm : X.mg x = some (.ref f))
    (hk : PySem.W.keepIn X.K (.ref f) = true) (hb : L2.Binds X.K fd ps []) (ha : PA X (e :: es) (taOf X.K va)) (hd : (x == ("__debug__" : Str)) = false := by decide)
    (he : starEach (e :: es) X.env = (false, eval e X.env) :: starEach es X.env := by rfl) (hpl : (backTo pos (starEach es X.env)).any (·.1) = false := by rfl) :
    PE X (.Call (.Name x p) (e :: es) [] pos) (teOf X.K (wCall n sp va)) :=
  peI (L2.pe_call (dvs := []) (ds := []) (E := L2.E0) F hr hg hm hk hb .nil L2.pass0 ha hd he hpl) fun σ H Q ⟨ρ, S, m, R, hE, hS, h, k⟩ => ⟨ρ, S, m, _, hE, hS, h, fun vs ds H1 S1 m1 e1 s1 r1 ⟨z, q1⟩ =>
    ⟨m1, S1, ds, R, s1, by rw [List.append_nil]; exact r1, z, q1, k.ext e1⟩⟩
theorem d_callB {id : String} {r : RL} {x : Str} {p : Pos} (hc : CallR X (.builtin id) (rlOf X.K r)) (hg : L2.Gl X x) (hm : X.mg x = none) (hv : bootBuiltins x = some (.builtin id)) (ha : PA X (e :: es) (taOf X.K va)) (hn : x ≠ "__name__" := by decide) (hdb : (x == ("__debug__" : Str)) = false := by decide)
    (he : starEach (e :: es) X.env = (false, eval e X.env) :: starEach es X.env := by rfl) (hpl : (backTo pos (starEach es X.env)).any (·.1) = false := by rfl) : PE X (.Call (.Name x p) (e :: es) [] pos) (teOf X.K (wB r va)) :=
  peI (L2.pe_callB hc hg hm hv ha hn hdb he hpl) fun σ H Q ⟨ρ, S, m, R, hE, hS, h, k⟩ => ⟨ρ, S, m, _, hE, hS, h, fun vs ds H1 S1 m1 e1 s1 r1 q1 => ⟨m1, S1, ds, R, s1, r1, q1, k.ext e1⟩⟩
theorem d_callT {id : String} {r : RL} {x : Str} {p : Pos} (hc : CallR X (.type id) (rlOf X.K r)) (hg : L2.Gl X x) (hm : X.mg x = none) (hv : bootBuiltins x = some (.type id)) (ha : PA X (e :: es) (taOf X.K va)) (hn : x ≠ "__name__" := by decide) (hdb : (x == ("__debug__" : Str)) = false := by decide)
    (he : starEach (e :: es) X.env = (false, eval e X.env) :: starEach es X.env := by rfl) (hpl : (backTo pos (starEach es X.env)).any (·.1) = false := by rfl) : PE X (.Call (.Name x p) (e :: es) [] pos) (teOf X.K (wB r va)) :=
  peI (L2.pe_callTy hc hg hm hv ha hn hdb he hpl) fun σ H Q ⟨ρ, S, m, R, hE, hS, h, k⟩ => ⟨ρ, S, m, _, hE, hS, h, fun vs ds H1 S1 m1 e1 s1 r1 q1 => ⟨m1, S1, ds, R, s1, r1, q1, k.ext e1⟩⟩
/-- a name of the module that holds a built-in function (math.gcd) -/
theorem d_callF {id : String} {r : RL} {x : Str} {p : Pos} (hc : CallR X (.builtin id) (rlOf X.K r)) (hg : L2.Gl X x) (hm : X.mg x = some (.builtin id)) (ha : PA X (e :: es) (taOf X.K va)) (hdb : (x == ("__debug__" : Str)) = false := by decide)
    (he : starEach (e :: es) X.env = (false, eval e X.env) :: starEach es X.env := by rfl) (hpl : (backTo pos (starEach es X.env)).any (·.1) = false := by rfl) : PE X (.Call (.Name x p) (e :: es) [] pos) (teOf X.K (wB r va)) :=
  peI (L2.pe_callBfun hc hg hm ha hdb he hpl) fun σ H Q ⟨ρ, S, m, R, hE, hS, h, k⟩ => ⟨ρ, S, m, _, hE, hS, h, fun vs ds H1 S1 m1 e1 s1 r1 q1 => ⟨m1, S1, ds, R, s1, r1, q1, k.ext e1⟩⟩
theorem isL_ty {K : PySem.W.Frag} {H : Hp} {m : List Addr} {S : Sto} {x : D} {v : V} (s : RepS K H m S) (r : Rep K H m x v) (h : isL x S) : L2.tyV K "list" v H := by
  cases x with
  | ref n =>
    obtain ⟨xs, h⟩ := h
    obtain ⟨a, vs, h1, h2, h3⟩ := s.lst h
    obtain ⟨b, g1, rfl⟩ := r
    rw [h1] at g1
    cases g1
    exact .inl ⟨rfl, vs, L2.SqL.of h2⟩
  | _ => exact (show False from h).elim
variable {o : Expr} {wo : WE}
theorem d_m {name : Str} {id : String} {r : RM} {apos cpos : Pos} (slot : Slot "list" name id) (hty : typeOf (.builtin id) = pure (.type "method_descriptor")) (hm : MtR X id (rmOf X.K r)) (ho : PE X o (teOf X.K wo)) (ha : PA X (e :: es) (taOf X.K va))
    (hbase : attributeBase o name X.env (eval o X.env) = eval o X.env := by rfl)
    (hfew : ((backTo cpos (starEach (e :: es) X.env)).all (fun x => !x.1) && (backToKw cpos (keywordEach [] X.env)).all (fun x => x.1.isSome)
      && decide ((e :: es).length + ([] : List Keyword).length + (if ([] : List Keyword).isEmpty then 0 else 1) < 30)) = true := by rfl)
    (hline : (apos.endLine == cpos.line) = true := by rfl) (hs : starEach (e :: es) X.env = (false, eval e X.env) :: starEach es X.env := by rfl) (hplain : (backTo cpos (starEach es X.env)).any (·.1) = false := by rfl) :
    PE X (.Call (.Attribute o name apos) (e :: es) [] cpos) (teOf X.K (wM r wo va)) :=
  peI (L2.pe_bm PySem.F.plainAttrs_list slot hty hm ho ha hbase hfew hline hs hplain) fun σ H Q ⟨ρ, S, m, R, hE, hS, h, k⟩ => ⟨ρ, S, m, _, hE, hS, h, fun v x H1 S1 m1 e1 s1 r1 ⟨z, q1⟩ =>
    ⟨isL_ty s1 r1 z, ρ, S1, m1, _, hE.ext e1, s1, q1, fun vs ds H2 S2 m2 e2 s2 r2 q2 => ⟨m2, S2, x, ds, R, s2, Rep.ext e2 _ _ r1, r2, q2, k.ext (e1.trans e2)⟩⟩⟩
theorem d_m0 {name : Str} {id : String} {r : RM} {apos cpos : Pos} (slot : Slot "list" name id) (hty : typeOf (.builtin id) = pure (.type "method_descriptor")) (hm : MtR X id (rmOf X.K r)) (ho : PE X o (teOf X.K wo))
    (hbase : attributeBase o name X.env (eval o X.env) = eval o X.env := by rfl) (hline : (apos.endLine == cpos.line) = true := by rfl) :
    PE X (.Call (.Attribute o name apos) [] [] cpos) (teOf X.K (wM0 r wo)) :=
  peI (L2.pe_bm0 PySem.F.plainAttrs_list slot hty hm ho hbase hline) fun σ H Q ⟨ρ, S, m, R, hE, hS, h, k⟩ => ⟨ρ, S, m, _, hE, hS, h, fun v x H1 S1 m1 e1 s1 r1 ⟨z, q1⟩ =>
    ⟨isL_ty s1 r1 z, m1, S1, x, [], R, s1, r1, rfl, q1, k.ext e1⟩⟩
/-! slices -/
theorem dp_no : PO X none (toOf X.K wPNo) := ⟨fun pins s σ H Q I ⟨ρ, S, m, R, hE, hS, h, k⟩ => L2.po_none.run pins s σ H Q I (k none H S m (Ext.refl _ _) hS h)⟩
theorem dp_at (h : PE X e (teOf X.K wa)) : PO X (some e) (toOf X.K (wPAt wa)) := ⟨fun pins s σ H Q I ⟨ρ, S, m, R, hE, hS, hw, k⟩ => (L2.po_some h).run pins s σ H Q I ⟨ρ, S, m, _, hE, hS, hw, fun v d H1 S1 m1 e1 s1 r1 q1 => by
    cases d with
    | int i => exact ⟨i, r1, k _ H1 S1 m1 e1 s1 q1⟩
    | _ => exact (show False from q1).elim⟩⟩
theorem d_sl {r : D → Option Int → Option Int → Sto → VK → Prop} {lo hi : Option Expr} {wl wh : WP} {p2 : Pos} (hr : SlR X (rsOf X.K r)) (ho : PE X o (teOf X.K wo)) (hl : PO X lo (toOf X.K wl)) (hh : PO X hi (toOf X.K wh)) :
    PE X (.Subscript o (.Slice lo hi none p2) pos) (teOf X.K (wSl r wo wl wh)) :=
  peI (L2.pe_slice hr ho hl hh) fun σ H Q ⟨ρ, S, m, R, hE, hS, h, k⟩ => ⟨ρ, S, m, _, hE, hS, h, fun v x H1 S1 m1 e1 s1 r1 q1 => ⟨ρ, S1, m1, _, hE.ext e1, s1, q1, fun i H2 S2 m2 e2 s2 q2 => ⟨ρ, S2, m2, _, hE.ext (e1.trans e2), s2, q2, fun j H3 S3 m3 e3 s3 q3 =>
    ⟨m3, S3, x, R, s3, Rep.ext (e2.trans e3) _ _ r1, q3, k.ext (e1.trans (e2.trans e3))⟩⟩⟩⟩
end
end DL
set_option Elab.async false
set_option linter.all false
set_option maxRecDepth 100000
set_option maxHeartbeats 4000000
/-! DL3: what is walked, targets, statements, loops, comprehensions, defs. -/
namespace DL
open PySem PySem.Spec
open L2 (V Hp HO St TE TT TA TS TG TI TO PE PT PW PA PS PSs PG PI PO Cx Inv RelV Vals SqL SqT Rd upd upd_same upd_ne ne_of ne_of_none OpR UnR CallR MtR IxR SlR It thn)

/-! ### what is walked -/
theorem yields_list {K : PySem.W.Frag} {m : List Addr} {H : Hp} {S : Sto} {n : Nat} {a : Addr} {xs : List D} (ha : m[n]? = some a) : Yields K (L2.Itl K a) xs (fun S' => S'[n]? = some (.lst xs)) m H := by
  intro m1 H1 S1 e s g
  obtain ⟨b, vs, h1, h2, h3⟩ := s.lst g
  have hb := e.pre n a ha
  rw [h1] at hb
  cases hb
  refine ⟨fun i d hd => ?_, fun i hi => ⟨vs, SqL.of h2, by rw [h3.len]; exact hi⟩⟩
  obtain ⟨v, g1, g2⟩ := h3.get i d hd
  exact ⟨⟨vs, v, SqL.of h2, g1⟩, fun x H' ⟨q1, q2⟩ => by
    subst q1
    have ex := q2 vs (SqL.of h2)
    rw [g1] at ex
    cases ex
    exact ⟨m1, Ext.refl _ _, s, g2⟩⟩
theorem yields_tup {K : PySem.W.Frag} {m : List Addr} {H : Hp} {a : Addr} {xs : List D} {vs : List V} (hT : SqT K H a vs) (r : Reps K H m xs vs) : Yields K (L2.Itt K a) xs (fun _ => True) m H := by
  intro m1 H1 S1 e s g
  have h3 := Reps.ext0 e _ _ r
  refine ⟨fun i d hd => ?_, fun i hi => ⟨vs, e.sqT hT, by rw [h3.len]; exact hi⟩⟩
  obtain ⟨v, g1, g2⟩ := h3.get i d hd
  exact ⟨⟨vs, v, e.sqT hT, g1⟩, fun x H' ⟨q1, q2⟩ => by
    subst q1
    have ex := q2 vs (e.sqT hT)
    rw [g1] at ex
    cases ex
    exact ⟨m1, Ext.refl _ _, s, g2⟩⟩
theorem yields_rol {K : PySem.W.Frag} {m : List Addr} {H : Hp} {a : Addr} {xs : List D} {vs : List V} (hT : RoL K H a vs) (r : Reps K H m xs vs) : Yields K (L2.Itl K a) xs (fun _ => True) m H := by
  intro m1 H1 S1 e s g
  have h3 := Reps.ext0 e _ _ r
  refine ⟨fun i d hd => ?_, fun i hi => ⟨vs, (e.ro hT).seq, by rw [h3.len]; exact hi⟩⟩
  obtain ⟨v, g1, g2⟩ := h3.get i d hd
  exact ⟨⟨vs, v, (e.ro hT).seq, g1⟩, fun x H' ⟨q1, q2⟩ => by
    subst q1
    have ex := q2 vs (e.ro hT).seq
    rw [g1] at ex
    cases ex
    exact ⟨m1, Ext.refl _ _, s, g2⟩⟩
theorem rangeD_getM {lo hi : Int} {i : Nat} {d : D} (h : (rangeD lo hi)[i]? = some d) : i < (hi - lo).toNat ∧ d = .int (lo + i) := by
  unfold rangeD at h
  rw [List.getElem?_map] at h
  by_cases hi : i < (hi - lo).toNat
  · rw [List.getElem?_range hi] at h
    exact ⟨hi, (Option.some.inj h).symm⟩
  · rw [List.getElem?_eq_none (by simpa using hi)] at h
    cases h
theorem rangeD_lenM (lo hi : Int) : (rangeD lo hi).length = (hi - lo).toNat := by simp [rangeD]
theorem yields_rng {K : PySem.W.Frag} {m : List Addr} {H : Hp} {lo hi : Int} : Yields K (L2.Itr lo (hi - lo).toNat) (rangeD lo hi) (fun _ => True) m H := by
  intro m1 H1 S1 e s g
  refine ⟨fun i d hd => ?_, fun i hi => by rw [rangeD_lenM] at hi; exact hi⟩
  obtain ⟨h1, h2⟩ := rangeD_getM hd
  exact ⟨h1, fun x H' ⟨q1, q2⟩ => ⟨m1, by rw [q1]; exact Ext.refl _ _, by rw [q1]; exact s, by rw [q2, h2]; rfl⟩⟩
section
variable {X : Cx} {tg : Expr} {wa wb : WE} {a b : Expr} {p pos : Pos}
theorem di_it {l : Expr} (hl : PE X l (teOf X.K wa)) : PI X tg l (tiOf X.K (wIt wa)) := by
  refine ⟨fun pins s σ H R I ⟨ρ, S, m, Rd, hE, hS, hw, k⟩ => ?_⟩
  refine thn (hl.run pins s σ H (fun v H1 => ∃ d S1 m1, Ext m H m1 H1 ∧ RepS X.K H1 m1 S1 ∧ Rep X.K H1 m1 d v ∧ (match d with
    | .tup xs => Rd xs (fun _ => True) S1
    | .rol xs => Rd xs (fun _ => True) S1
    | .ref n => match S1[n]? with
      | some (.lst xs) => Rd xs (fun S' => S'[n]? = some (.lst xs)) S1
      | _ => False
    | _ => False)) I ⟨ρ, S, m, _, hE, hS, hw, fun v d H1 S1 m1 e1 s1 r1 q1 => ⟨d, S1, m1, e1, s1, r1, q1⟩⟩) fun u s1 ⟨v, H1, I1, ru, d, S1, m1, e1, hs, rd, q⟩ => ?_
  have new : ∀ b ∈ [s1.heap.objs.size], L2.FpOk X pins H1 b := fun b hb => by
    rw [List.mem_singleton.mp hb]
    exact I1.fpOk (Nat.le_refl _) (I1.hok.fresh (Nat.le_refl _))
  cases d with
  | tup xs =>
    obtain ⟨a, vs, rfl, hT, rs⟩ := rd
    cases ru
    obtain ⟨its, rv, pt, _⟩ := I1.tuple hT.sqT
    refine wpAny_pyIter_tuple (show s1.heap.IsTuple a its.toArray from pt) ?_
    exact ⟨_, [s1.heap.objs.size], _, _, H1, rfl, I1.kept (t' := s1.toks) fun _ _ e => Heap.get?_push_of_some _ e, L2.turn_tuple a _, ⟨_, Heap.get?_push_size _ rfl, rfl, rfl⟩, new, k _ _ _ _ _ _ e1 hs (yields_tup hT.sqT rs) q⟩
  | rol xs =>
    obtain ⟨a, vs, rfl, hT, rs⟩ := rd
    cases ru
    obtain ⟨its, rv, pl, _⟩ := I1.list hT.seq
    refine wpAny_pyIter_list pl.isList ?_
    exact ⟨_, [s1.heap.objs.size], _, _, H1, rfl, I1.kept (t' := s1.toks) fun _ _ e => Heap.get?_push_of_some _ e, L2.turn_list a _, ⟨_, Heap.get?_push_size _ rfl, rfl, rfl⟩, new, k _ _ _ _ _ _ e1 hs (yields_rol hT rs) q⟩
  | ref n =>
    obtain ⟨a, ha, rfl⟩ := rd
    have q : (match S1[n]? with
      | some (.lst xs) => Rd xs (fun S' => S'[n]? = some (.lst xs)) S1
      | _ => False) := q
    split at q
    · rename_i xs hx
      obtain ⟨b, vs, h1, h2, h3⟩ := hs.lst hx
      rw [ha] at h1
      cases h1
      cases ru
      obtain ⟨its, rv, pl, _⟩ := I1.list (SqL.of h2)
      refine wpAny_pyIter_list pl.isList ?_
      exact ⟨_, [s1.heap.objs.size], _, _, H1, rfl, I1.kept (t' := s1.toks) fun _ _ e => Heap.get?_push_of_some _ e, L2.turn_list a _, ⟨_, Heap.get?_push_size _ rfl, rfl, rfl⟩, new, k _ _ _ _ _ _ e1 hs (yields_list (S := S1) ha) q⟩
    · exact q.elim
  | _ => exact (show False from q).elim
theorem di_r1 (hg : L2.Gl X "range") (hm : X.mg "range" = none) (ha : PE X a (teOf X.K wa)) (h1 : starEach [a] X.env = [(false, eval a X.env)] := by rfl) : PI X tg (.Call (.Name "range" p) [a] [] pos) (tiOf X.K (wR1 wa)) :=
  piI (L2.pi_range1 hg hm (da_cons ha da_nil h1) h1) fun σ H Q ⟨ρ, S, m, R, hE, hS, h, k⟩ => ⟨ρ, S, m, fun ds S1 => match ds with
    | [.int j] => smallI j ∧ R (rangeD 0 j) (fun _ => True) S1
    | _ => False, hE, hS, (by
      show wa ρ S _
      refine cast (congrArg (wa ρ S) ?_) h
      funext x S1
      cases x <;> rfl), fun vs ds H' S' m' e s r q => by
      match ds, q, r with
      | [.int j], ⟨⟨q1, q2⟩, q3⟩, ⟨v, r', hv, rv, rn⟩ =>
        rw [show r' = [] from rn] at hv
        refine ⟨j, by rw [hv, show v = V.int j from rv], q1, q2, ?_⟩
        have y := yields_rng (K := X.K) (m := m') (H := H') (lo := 0) (hi := j)
        rw [show j - 0 = j by omega] at y
        exact k _ _ _ _ _ _ e s y q3⟩
theorem di_r2 (hg : L2.Gl X "range") (hm : X.mg "range" = none) (ha : PE X a (teOf X.K wa)) (hb : PE X b (teOf X.K wb)) (h1 : starEach [a, b] X.env = [(false, eval a X.env), (false, eval b X.env)] := by rfl) (h2 : starEach [b] X.env = [(false, eval b X.env)] := by rfl) : PI X tg (.Call (.Name "range" p) [a, b] [] pos) (tiOf X.K (wR2 wa wb)) :=
  piI (L2.pi_range2 hg hm (da_cons ha (da_cons hb da_nil h2) (by rw [h1, h2])) h1 h2) fun σ H Q ⟨ρ, S, m, R, hE, hS, h, k⟩ => ⟨ρ, S, m, fun ds S1 => match ds with
    | [.int i, .int j] => smallI i ∧ smallI j ∧ R (rangeD i j) (fun _ => True) S1
    | _ => False, hE, hS, (by
      show wa ρ S _
      refine cast (congrArg (wa ρ S) ?_) h
      funext x S1
      show wb ρ S1 _ = wb ρ S1 _
      refine congrArg (wb ρ S1) ?_
      funext y S2
      cases x <;> cases y <;> rfl), fun vs ds H' S' m' e s r q => by
      match ds, q, r with
      | [.int i, .int j], ⟨⟨q1, q2⟩, ⟨q3, q4⟩, q5⟩, ⟨v, r', hv, rv, ⟨v2, r2, hv2, rv2, rn⟩⟩ =>
        rw [show r2 = [] from rn] at hv2
        rw [hv2] at hv
        exact ⟨i, j, by rw [hv, show v = V.int i from rv, show v2 = V.int j from rv2], ⟨q1, q2, q3, q4⟩, k _ _ _ _ _ _ e s yields_rng q5⟩⟩

/-! ### targets -/
theorem wipe_get (σ : St) : ∀ (vs : List Nat) (j : Nat), (L2.wipe σ vs)[j]? = if j ∈ vs then (if j < σ.length then some none else none) else σ[j]?
  | [], j => by simp [L2.wipe]
  | v :: vs, j => by
    unfold L2.wipe
    by_cases h : j = v
    · subst h
      rw [List.getElem?_set]
      simp [L2.wipe_length]
    · rw [List.getElem?_set_ne (Ne.symm h), wipe_get σ vs j]
      simp [h]
theorem wipe_set {σ : St} {i : Nat} {x : Option V} {vs : List Nat} (h : i ∈ vs) : L2.wipe (σ.set i x) vs = L2.wipe σ vs := by
  apply List.ext_getElem?
  intro j
  rw [wipe_get, wipe_get, List.length_set]
  by_cases hj : j ∈ vs
  · rw [if_pos hj, if_pos hj]
  · rw [if_neg hj, if_neg hj, List.getElem?_set_ne]
    intro z
    exact hj (z ▸ h)
theorem RepE.wipe {K : PySem.W.Frag} {H : Hp} {m : List Addr} {ρ : Env} {σ : St} (r : RepE K H m ρ σ) : ∀ vs : List Nat, RepE K H m (wipe ρ vs) (L2.wipe σ vs)
  | [] => r
  | v :: vs => (RepE.wipe r vs).drop1 v
theorem dg_name (i : Nat) {x : Str} (hN : X.N.Nodup) (hi : X.N[i]? = some x := by rfl) (hx : L2.Loc X.env.scope x := by first | exact Or.inl rfl | exact Or.inr rfl) (hf : X.fn x = true ∨ X.env.scope.names.lookup x = some .local := by first | exact .inl rfl | exact .inr rfl | assumption) : PG X (.Name x pos) (tgOf X.K [i] (gN i)) :=
  pgI (L2.pg_name hN hi hx hf) fun v σ H Q ⟨d, ρ, S, m, R, hE, hS, r, h, k⟩ => k _ _ _ _ _ (wipe_set (List.mem_singleton.mpr rfl)) (Ext.refl _ _) hS (hE.set r i) h
/-- several names -/
inductive Gs (X : Cx) : List Expr → List Nat → Prop where
  | nil : Gs X [] []
  | cons {e : Expr} {es : List Expr} {i : Nat} {is : List Nat} : PG X e (L2.gName i) → (assignEach (e :: es) X.env).map (·.2) = assign e X.env :: (assignEach es X.env).map (·.2) → Gs X es is → Gs X (e :: es) (i :: is)
theorem dgs_one (i : Nat) {x : Str} {es : List Expr} {is : List Nat} (hN : X.N.Nodup) (r : Gs X es is) (hi : X.N[i]? = some x := by rfl) (hx : L2.Loc X.env.scope x := by first | exact Or.inl rfl | exact Or.inr rfl) (hf : X.fn x = true ∨ X.env.scope.names.lookup x = some .local := by first | exact .inl rfl | exact .inr rfl | assumption)
    (hs : (assignEach (.Name x pos :: es) X.env).map (·.2) = assign (.Name x pos) X.env :: (assignEach es X.env).map (·.2) := by rfl) : Gs X (.Name x pos :: es) (i :: is) := .cons (L2.pg_name hN hi hx hf) hs r
/-- the layer's reading of several names -/
def tgs : List Nat → L2.TGs
  | [] => L2.gNil
  | i :: is => L2.gCons (L2.gName i) (tgs is)
theorem pgs_of {es : List Expr} {is : List Nat} (g : Gs X es is) : L2.PGs X es (tgs is) := by
  induction g with
  | nil => exact L2.pgs_nil
  | cons h hs _ ih => exact L2.pgs_cons h ih hs
theorem tgs_run {K : PySem.W.Frag} {H : Hp} {m : List Addr} {vs0 : List Nat} : ∀ (is : List Nat) (ds : List D) (vs : List V) (ρ ρ' : Env) (σ : St) (Q : St → Hp → Prop), Reps K H m ds vs → RepE K H m ρ σ → gNs is ds ρ = some ρ' → (∀ i ∈ is, i ∈ vs0) →
    (∀ σ', L2.wipe σ' vs0 = L2.wipe σ vs0 → RepE K H m ρ' σ' → Q σ' H) → tgs is vs σ H Q
  | [], [], vs, ρ, ρ', σ, Q, r, hE, h, _, k => by
    have h : some ρ = some ρ' := h
    cases h
    exact ⟨r, k σ rfl hE⟩
  | i :: is, d :: ds, vs, ρ, ρ', σ, Q, ⟨v, rr, hv, r1, r2⟩, hE, h, hi, k =>
    ⟨v, rr, hv, tgs_run is ds rr (up ρ i (some d)) ρ' (σ.set i (some v)) Q r2 (hE.set r1 i) h (fun j hj => hi j (List.mem_cons_of_mem _ hj)) fun σ' w e => k σ' (by rw [w, wipe_set (hi i List.mem_cons_self)]) e⟩
  | [], d :: ds, _, _, _, _, _, _, _, h, _, _ => by cases (show (none : Option Env) = some _ from h)
  | i :: is, [], _, _, _, _, _, _, _, h, _, _ => by cases (show (none : Option Env) = some _ from h)
theorem gNs_len : ∀ (is : List Nat) (ds : List D) (ρ ρ' : Env), gNs is ds ρ = some ρ' → ds.length = is.length
  | [], [], _, _, _ => rfl
  | _ :: is, _ :: ds, ρ, ρ', h => by rw [List.length_cons, List.length_cons, gNs_len is ds _ ρ' h]
  | [], _ :: _, _, _, h => by cases (show (none : Option Env) = some _ from h)
  | _ :: _, [], _, _, h => by cases (show (none : Option Env) = some _ from h)
theorem dg_tup {es : List Expr} {k : Nat} {is : List Nat} (hc : X.calm = true) (g : Gs X es is) (hn : (assignEach es X.env).length = is.length := by rfl) (hst : (assignEach es X.env).findIdx? (·.1) = none := by rfl) : PG X (.Tuple es k pos) (tgOf X.K is (gT is)) :=
  pgI (L2.pg_tup hc (pgs_of g) hn hst) fun v σ H Q ⟨d, ρ, S, m, R, hE, hS, r, h, kk⟩ => by
    cases d with
    | tup ds =>
      obtain ⟨a, vs, rfl, hT, rs⟩ := r
      have h : (match gNs is ds ρ with
        | some ρ' => R ρ' S
        | none => False) := h
      split at h
      · rename_i ρ' hg
        exact ⟨a, vs, rfl, hT.sqT, by rw [rs.len, gNs_len _ _ _ _ hg], tgs_run is ds vs ρ ρ' σ Q rs hE hg (fun _ h => h) fun σ' w e => kk σ' ρ' S m H w (Ext.refl _ _) hS e h⟩
      · exact h.elim
    | _ => exact (show False from h).elim

/-! ### statements -/
variable {e : Expr} {st : Stmt} {rest : List Stmt} {ws wu : WS}
theorem dss_nil : PSs X [] (tsOf X.K sNext) := pssI L2.pss_nil fun D σ H ⟨ρ, S, m, E, hE, hS, h, k, _⟩ => k σ ρ H S m (Ext.refl _ _) hS hE h
theorem dss_cons (h1 : PS X st (tsOf X.K ws)) (h2 : PSs X rest (tsOf X.K wu)) : PSs X (st :: rest) (tsOf X.K (sSeq ws wu)) :=
  pssI (L2.pss_cons h1 h2) fun D σ H ⟨ρ, S, m, E, hE, hS, h, k1, k2, k3, k4⟩ => ⟨ρ, S, m, { E with nx := wu E }, hE, hS, h, fun σ' ρ' H' S' m' e s r q =>
    ⟨ρ', S', m', E, r, s, q, fun σ2 ρ2 H2 S2 m2 e2 s2 r2 q2 => k1 σ2 ρ2 H2 S2 m2 (e.trans e2) s2 r2 q2, k2.ext e, fun σ2 ρ2 H2 S2 m2 e2 s2 r2 q2 => k3 σ2 ρ2 H2 S2 m2 (e.trans e2) s2 r2 q2, fun σ2 ρ2 H2 S2 m2 e2 s2 r2 q2 => k4 σ2 ρ2 H2 S2 m2 (e.trans e2) s2 r2 q2⟩, k2, k3, k4⟩
theorem dss_one (h1 : PS X st (tsOf X.K ws)) : PSs X [st] (tsOf X.K ws) := L2.pss_one h1
theorem ds_pass : PS X (.Pass pos) (tsOf X.K sNext) := psI L2.ps_pass fun D σ H ⟨ρ, S, m, E, hE, hS, h, k, _⟩ => k σ ρ H S m (Ext.refl _ _) hS hE h
theorem ds_break : PS X (.Break pos) (tsOf X.K sBreak) := psI L2.ps_break fun D σ H ⟨ρ, S, m, E, hE, hS, h, _, _, k, _⟩ => k σ ρ H S m (Ext.refl _ _) hS hE h
theorem ds_continue : PS X (.Continue pos) (tsOf X.K sCont) := psI L2.ps_continue fun D σ H ⟨ρ, S, m, E, hE, hS, h, _, _, _, k⟩ => k σ ρ H S m (Ext.refl _ _) hS hE h
theorem ds_expr (he : PE X e (teOf X.K wa)) (hs : swapsWith e none pos.line X.env = pure false := by rfl) : PS X (.Expr e pos) (tsOf X.K (sDrop wa)) :=
  psI (L2.ps_expr he hs) fun D σ H ⟨ρ, S, m, E, hE, hS, h, k, _⟩ => ⟨ρ, S, m, _, hE, hS, h, fun v d H1 S1 m1 e1 s1 r1 q1 => k σ ρ H1 S1 m1 e1 s1 (hE.ext e1) q1⟩
theorem ds_ret (he : PE X e (teOf X.K wa)) : PS X (.Return (some e) pos) (tsOf X.K (sRet wa)) :=
  psI (L2.ps_ret he) fun D σ H ⟨ρ, S, m, E, hE, hS, h, _, k, _⟩ => ⟨ρ, S, m, E.rt, hE, hS, h, k⟩
theorem ds_retN : PS X (.Return none pos) (tsOf X.K sRetN) :=
  psI L2.ps_retN fun D σ H ⟨ρ, S, m, E, hE, hS, h, _, k, _⟩ => k _ .non H S m (Ext.refl _ _) hS rfl h
theorem ds_if {c : Expr} {a b : List Stmt} {tc : WT} (hc : PT X c (ttOf X.K tc)) (ha : PSs X a (tsOf X.K ws)) (hb : PSs X b (tsOf X.K wu)) : PS X (.If c a b pos) (tsOf X.K (sIf tc ws wu)) :=
  psI (L2.ps_if hc ha hb) fun D σ H ⟨ρ, S, m, E, hE, hS, h, k1, k2, k3, k4⟩ => ⟨ρ, S, m, _, hE, hS, h, fun c H1 S1 m1 e1 s1 q => by
    have q : if c = true then ws E ρ S1 else wu E ρ S1 := q
    have go : ∀ w : WS, w E ρ S1 → tsOf X.K w D σ H1 := fun w q => ⟨ρ, S1, m1, E, hE.ext e1, s1, q, fun σ2 ρ2 H2 S2 m2 e2 s2 r2 q2 => k1 σ2 ρ2 H2 S2 m2 (e1.trans e2) s2 r2 q2, k2.ext e1, fun σ2 ρ2 H2 S2 m2 e2 s2 r2 q2 => k3 σ2 ρ2 H2 S2 m2 (e1.trans e2) s2 r2 q2, fun σ2 ρ2 H2 S2 m2 e2 s2 r2 q2 => k4 σ2 ρ2 H2 S2 m2 (e1.trans e2) s2 r2 q2⟩
    show if c = true then tsOf X.K ws D σ H1 else tsOf X.K wu D σ H1
    by_cases hb : c = true
    · rw [if_pos hb] at q ⊢
      exact go _ q
    · rw [if_neg hb] at q ⊢
      exact go _ q⟩
theorem ds_never : PS X st (tsOf X.K sNever) := psI L2.ps_never fun D σ H ⟨ρ, S, m, E, hE, hS, h, _⟩ => h
theorem dss_never {sts : List Stmt} : PSs X sts (tsOf X.K sNever) := pssI L2.pss_never fun D σ H ⟨ρ, S, m, E, hE, hS, h, _⟩ => h
theorem ds_asg {tg : Expr} {vs : List Nat} {g : WG} (he : PE X e (teOf X.K wa)) (hg : PG X tg (tgOf X.K vs g)) (hs : swapsWithSole [tg] e pos.line X.env = pure false := by rfl) (hw : swappedStores [tg] e X.env = pure none := by rfl)
    (h1 : (assignEach [tg] X.env).map (·.2) = [assign tg X.env] := by rfl) : PS X (.Assign [tg] e pos) (tsOf X.K (sAsg wa g)) :=
  psI (L2.ps_asg he hg hs hw h1) fun D σ H ⟨ρ, S, m, E, hE, hS, h, k, _⟩ => ⟨ρ, S, m, _, hE, hS, h, fun v d H1 S1 m1 e1 s1 r1 q1 => ⟨d, ρ, S1, m1, E.nx, hE.ext e1, s1, r1, q1, fun σ' ρ' S' m' H' _ e2 s2 r2 q2 => k σ' ρ' H' S' m' (e1.trans e2) s2 r2 q2⟩⟩
theorem ds_set (i : Nat) {x : Str} {pos' : Pos} (hN : X.N.Nodup) (he : PE X e (teOf X.K wa)) (hi : X.N[i]? = some x := by rfl) (hx : L2.Loc X.env.scope x := by first | exact Or.inl rfl | exact Or.inr rfl) (hs : swapsWith e (some (.Name x pos')) pos.line X.env = pure false := by rfl)
    (hf : X.fn x = true ∨ X.env.scope.names.lookup x = some .local := by first | exact .inl rfl | exact .inr rfl | assumption) : PS X (.Assign [.Name x pos'] e pos) (tsOf X.K (sAsg wa (gN i))) :=
  psI (L2.ps_set hN hi hx he hs hf) fun D σ H ⟨ρ, S, m, E, hE, hS, h, k, _⟩ => ⟨ρ, S, m, _, hE, hS, h, fun v d H1 S1 m1 e1 s1 r1 q1 => k _ _ H1 S1 m1 e1 s1 ((hE.ext e1).set r1 i) q1⟩
theorem ds_par (i j : Nat) {x y : Str} {px py pt : Pos} {kt k2 pt2} (hc : X.calm = true) (hN : X.N.Nodup) (ha : PE X a (teOf X.K wa)) (hb : PE X b (teOf X.K wb)) (hi : X.N[i]? = some x := by rfl) (hj : X.N[j]? = some y := by rfl) (hij : i ≠ j := by decide)
    (hx : X.env.scope.names.lookup x = some .local := by rfl) (hy : X.env.scope.names.lookup y = some .local := by rfl)
    (hw : swappedStores [.Tuple [.Name x px, .Name y py] kt pt] (.Tuple [a, b] k2 pt2) X.env = pure (some [x, y]) := by rfl)
    (hs : swapsWithSole [.Tuple [.Name x px, .Name y py] kt pt] (.Tuple [a, b] k2 pt2) pos.line X.env = pure false := by rfl)
    (e1 : starEach [a, b] X.env = (false, eval a X.env) :: starEach [b] X.env := by rfl) (e2 : starEach [b] X.env = (false, eval b X.env) :: starEach [] X.env := by rfl) :
    PS X (.Assign [.Tuple [.Name x px, .Name y py] kt pt] (.Tuple [a, b] k2 pt2) pos) (tsOf X.K (sPar i j wa wb)) :=
  psI (L2.ps_par hc hN hi hj hij hx hy (da_cons ha (da_cons hb da_nil e2) e1) hw hs) fun D σ H ⟨ρ, S, m, E, hE, hS, h, k, _⟩ =>
    ⟨ρ, S, m, fun ds S2 => match ds with
      | [d, d2] => E.nx (up (up ρ i (some d)) j (some d2)) S2
      | _ => False, hE, hS, h, fun vs ds H2 S2 m2 e s r q => by
      match ds, q, r with
      | [d, d2], q, ⟨v, r', hv, rv, ⟨v2, r2, hv2, rv2, rn⟩⟩ =>
        rw [show r2 = [] from rn] at hv2
        rw [hv2] at hv
        exact ⟨v, v2, hv, k _ _ H2 S2 m2 e s (((hE.ext e).set rv i).set rv2 j) q⟩⟩
theorem ds_aug (i : Nat) {x : Str} {op : Operator} {r : R2} {pos' : Pos} (hN : X.N.Nodup) (ho : OpR X (inplaceOp op) (r2Of X.K r)) (he : PE X e (teOf X.K wa)) (hi : X.N[i]? = some x := by rfl) (hx : L2.Loc X.env.scope x := by first | exact Or.inl rfl | exact Or.inr rfl)
    (hf : X.fn x = true ∨ X.env.scope.names.lookup x = some .local := by first | exact .inl rfl | exact .inr rfl | assumption) : PS X (.AugAssign (.Name x pos') op e pos) (tsOf X.K (sAug i wa r)) :=
  psI (L2.ps_aug hN hi hx he ho hf) fun D σ H ⟨ρ, S, m, E, hE, hS, h, k, _⟩ => by
    unfold sAug at h
    cases el : lk ρ i with
    | none => rw [el] at h; exact h.elim
    | some d =>
      rw [el] at h
      obtain ⟨v, h1, h2⟩ := hE.get i d el
      exact ⟨v, h1, ρ, S, m, _, hE, hS, h, fun u y H1 S1 m1 e1 s1 r1 q1 => ⟨m1, S1, d, y, _, s1, Rep.ext e1 _ _ h2, r1, q1, fun w z H2 S2 m2 e2 s2 r2 q2 => k _ _ H2 S2 m2 (e1.trans e2) s2 ((hE.ext (e1.trans e2)).set r2 i) q2⟩⟩
def rpOf (K : PySem.W.Frag) (r : D → D → D → Sto → (Sto → Prop) → Prop) : V → V → V → Hp → (Hp → Prop) → Prop := fun o i v H Q => ∃ m S x k d R, RepS K H m S ∧ Rep K H m x o ∧ Rep K H m k i ∧ Rep K H m d v ∧ r x k d S R ∧
  ∀ H' S' m', Ext m H m' H' → RepS K H' m' S' → R S' → Q H'
theorem ds_sub {o i : Expr} {wo wi : WE} {r : D → D → D → Sto → (Sto → Prop) → Prop} {spos : Pos} (hp : L2.PSet X (rpOf X.K r)) (he : PE X e (teOf X.K wa)) (ho : PE X o (teOf X.K wo)) (hi : PE X i (teOf X.K wi))
    (ha : ∀ v, assign (.Subscript o i spos) X.env v = (do
      let ov ← holding [v] (eval o X.env)
      let iv ← holding [v, ov] (eval i X.env)
      standAt spos
      holding [v, ov, iv] (setItem ov iv v)
      release [v, ov, iv] []) := by intro _; rfl)
    (hs : swapsWithSole [.Subscript o i spos] e pos.line X.env = pure false := by rfl) (hw : swappedStores [.Subscript o i spos] e X.env = pure none := by rfl)
    (h1 : (assignEach [.Subscript o i spos] X.env).map (·.2) = [assign (.Subscript o i spos) X.env] := by rfl) : PS X (.Assign [.Subscript o i spos] e pos) (tsOf X.K (sSub r wa wo wi)) :=
  psI (L2.ps_asg he (L2.pg_sub ho hi hp ha) hs hw h1) fun D σ H ⟨ρ, S, m, E, hE, hS, h, k, _⟩ => ⟨ρ, S, m, _, hE, hS, h, fun v d H1 S1 m1 e1 s1 r1 q1 => ⟨ρ, S1, m1, _, hE.ext e1, s1, q1, fun v2 x H2 S2 m2 e2 s2 r2 q2 =>
    ⟨ρ, S2, m2, _, hE.ext (e1.trans e2), s2, q2, fun v3 j H3 S3 m3 e3 s3 r3 q3 => ⟨m3, S3, x, j, d, _, s3, Rep.ext e3 _ _ r2, r3, Rep.ext (e2.trans e3) _ _ r1, q3, fun H4 S4 m4 e4 s4 q4 =>
      k σ ρ H4 S4 m4 (e1.trans (e2.trans (e3.trans e4))) s4 (hE.ext (e1.trans (e2.trans (e3.trans e4)))) q4⟩⟩⟩⟩
def rgOf (K : PySem.W.Frag) (r : R2) : V → V → Hp → L2.VK → Prop := r2Of K r
theorem ds_augSub {o i : Expr} {wo wi : WE} {rg ro : R2} {rs : D → D → D → Sto → (Sto → Prop) → Prop} {op : Operator} {spos : Pos} (hg : L2.PGet X (r2Of X.K rg)) (hop : OpR X (inplaceOp op) (r2Of X.K ro)) (hp : L2.PSet X (rpOf X.K rs))
    (ho : PE X o (teOf X.K wo)) (hi : PE X i (teOf X.K wi)) (he : PE X e (teOf X.K wa))
    (ha : ∀ ov iv new, augStore i ov iv new = (do holding [new, ov, iv] (setItem ov iv new); release [new, ov, iv] []; pure .next) := by intros; rfl) :
    PS X (.AugAssign (.Subscript o i spos) op e pos) (tsOf X.K (sAugSub rg ro rs wo wi wa)) :=
  psI (L2.ps_augS ho hi hg he hop hp ha) fun D σ H ⟨ρ, S, m, E, hE, hS, h, k, _⟩ => ⟨ρ, S, m, _, hE, hS, h, fun v x H1 S1 m1 e1 s1 r1 q1 => ⟨ρ, S1, m1, _, hE.ext e1, s1, q1, fun v2 j H2 S2 m2 e2 s2 r2 q2 =>
    ⟨m2, S2, x, j, _, s2, Rep.ext e2 _ _ r1, r2, q2, fun v3 z H3 S3 m3 e3 s3 r3 q3 => ⟨ρ, S3, m3, _, hE.ext (e1.trans (e2.trans e3)), s3, q3, fun v4 y H4 S4 m4 e4 s4 r4 q4 => ⟨m4, S4, z, y, _, s4, Rep.ext e4 _ _ r3, r4, q4, fun v5 u H5 S5 m5 e5 s5 r5 q5 =>
      ⟨m5, S5, x, j, u, _, s5, Rep.ext (e2.trans (e3.trans (e4.trans e5))) _ _ r1, Rep.ext (e3.trans (e4.trans e5)) _ _ r2, r5, q5, fun H6 S6 m6 e6 s6 q6 =>
        k σ ρ H6 S6 m6 (e1.trans (e2.trans (e3.trans (e4.trans (e5.trans e6))))) s6 (hE.ext (e1.trans (e2.trans (e3.trans (e4.trans (e5.trans e6)))))) q6⟩⟩⟩⟩⟩⟩

/-! ### loops -/
theorem ds_for {iter : Expr} {body : List Stmt} {wi : WI} {vs : List Nat} {g : WG} (hc : X.calm = true) (hp : PassesOwn (model X.prog X.w) X.A X.env X.xe) (hi : PI X tg iter (tiOf X.K wi)) (hg : PG X tg (tgOf X.K vs g)) (hb : PSs X body (tsOf X.K ws))
    (hs : ∀ x, foldedSetIterable iter X.env x = pure x := by intro _; rfl) : PS X (.For tg iter body [] pos) (tsOf X.K (sFor wi g ws)) :=
  psI (L2.ps_for hp hc hi hg hb hs) fun D σ H ⟨ρ, S, m, E, hE, hS, h, k1, k2, k3, k4⟩ => ⟨ρ, S, m, _, hE, hS, h, fun J items guard S1 m1 H1 e1 s1 y ⟨I, i0, ig, it, ie⟩ => by
    refine ⟨fun i n σ' H' => n = items.length - i ∧ ∃ ρ' S' m', Ext m1 H1 m' H' ∧ RepS X.K H' m' S' ∧ RepE X.K H' m' ρ' σ' ∧ I i ρ' S' ∧ i ≤ items.length, ⟨_, rfl, ρ, S1, m1, Ext.refl _ _, s1, hE.ext e1, i0, Nat.zero_le _⟩, ?_⟩
    rintro i n σ2 H2 ⟨hn, ρ2, S2, m2, e2, s2, r2, hI, hle⟩
    obtain ⟨yg, ys⟩ := y m2 H2 S2 e2.ex0 s2 (ig _ _ _ hI)
    by_cases hlt : i < items.length
    · obtain ⟨go, yd⟩ := yg i items[i] (List.getElem?_eq_getElem hlt)
      refine .inr ⟨go, fun σ' H' => ∃ ρ' S' m', Ext m1 H1 m' H' ∧ RepS X.K H' m' S' ∧ RepE X.K H' m' ρ' σ' ∧ I (i + 1) ρ' S', fun σ' H' ⟨ρ', S', m', e', s', r', hI'⟩ => ⟨_, by omega, rfl, ρ', S', m', e', s', r', hI', hlt⟩, fun x H' hy => ?_⟩
      obtain ⟨m3, e3, s3, rx⟩ := yd x H' hy
      refine ⟨items[i], ρ2, S2, m3, _, r2.ext e3, s3, rx, it i _ ρ2 S2 (List.getElem?_eq_getElem hlt) hI, fun σ4 ρ4 S4 m4 H4 _ e4 s4 r4 q4 => ⟨ρ4, S4, m4, _, r4, s4, q4, fun σ5 ρ5 H5 S5 m5 e5 s5 r5 q5 => ⟨ρ5, S5, m5, e2.trans (e3.trans (e4.trans e5)), s5, r5, q5⟩,
        (k2.ext (e1.trans (e2.trans (e3.trans e4)))), fun σ5 ρ5 H5 S5 m5 e5 s5 r5 q5 => k1 σ5 ρ5 H5 S5 m5 (e1.trans (e2.trans (e3.trans (e4.trans e5)))) s5 r5 q5, fun σ5 ρ5 H5 S5 m5 e5 s5 r5 q5 => ⟨ρ5, S5, m5, e2.trans (e3.trans (e4.trans e5)), s5, r5, q5⟩⟩⟩
    · have ei : i = items.length := by omega
      subst ei
      exact .inl ⟨ys _ (Nat.le_refl _), k1 σ2 ρ2 H2 S2 m2 (e1.trans e2) s2 r2 (ie _ _ hI)⟩⟩
theorem ds_while {c : Expr} {body : List Stmt} {tc : WT} (hp : PassesOwn (model X.prog X.w) X.A X.env X.xe) (hc : PT X c (ttOf X.K tc)) (hb : PSs X body (tsOf X.K ws)) : PS X (.While c body [] pos) (tsOf X.K (sWhile tc ws)) :=
  psI (L2.ps_while hp hc hb) fun D σ H ⟨ρ, S, m, E, hE, hS, ⟨I, ⟨n0, i0⟩, it⟩, k1, k2, k3, k4⟩ => by
    refine ⟨fun n σ' H' => ∃ ρ' S' m', Ext m H m' H' ∧ RepS X.K H' m' S' ∧ RepE X.K H' m' ρ' σ' ∧ I n ρ' S', ⟨n0, ρ, S, m, Ext.refl _ _, hS, hE, i0⟩, ?_⟩
    rintro n σ2 H2 ⟨ρ2, S2, m2, e2, s2, r2, hI⟩
    refine ⟨ρ2, S2, m2, _, r2, s2, it n ρ2 S2 hI, fun b H3 S3 m3 e3 s3 q => ?_⟩
    by_cases hbt : b = true
    · rw [if_pos hbt] at q ⊢
      refine ⟨fun σ' H' => ∃ n', n' < n ∧ ∃ ρ' S' m', Ext m H m' H' ∧ RepS X.K H' m' S' ∧ RepE X.K H' m' ρ' σ' ∧ I n' ρ' S', fun σ' H' h => h, ρ2, S3, m3, _, r2.ext e3, s3, q, fun σ5 ρ5 H5 S5 m5 e5 s5 r5 ⟨n', hn, q5⟩ => ⟨n', hn, ρ5, S5, m5, e2.trans (e3.trans e5), s5, r5, q5⟩,
        k2.ext (e2.trans e3), fun σ5 ρ5 H5 S5 m5 e5 s5 r5 q5 => k1 σ5 ρ5 H5 S5 m5 (e2.trans (e3.trans e5)) s5 r5 q5, fun σ5 ρ5 H5 S5 m5 e5 s5 r5 ⟨n', hn, q5⟩ => ⟨n', hn, ρ5, S5, m5, e2.trans (e3.trans e5), s5, r5, q5⟩⟩
    · rw [if_neg hbt] at q ⊢
      exact k1 σ2 ρ2 H3 S3 m3 (e2.trans e3) s3 (r2.ext e3) q
end
end DL
set_option Elab.async false
set_option linter.all false
set_option maxRecDepth 100000
set_option maxHeartbeats 4000000
/-! DL4: comprehensions, defs, the script. -/
namespace DL
open PySem PySem.Spec
open L2 (V Hp HO St TE TT TA TS TG TI TO PE PT PW PA PS PSs PG PI PO Cx Inv RelV Vals SqL SqT Rd upd upd_same upd_ne ne_of ne_of_none OpR UnR CallR MtR IxR SlR It thn)
section
variable {K : PySem.W.Frag} {m m' m1 : List Addr} {H H' H1 : Hp} {S S' : Sto}
/-- a list beside the store is written -/
theorem Ex0.side {a : Addr} {vs us : List V} (h : H a = some (.lst vs)) : Ex0 m H m (upd H a (.lst us)) where
  pre := fun _ _ h => h
  lst := fun b o q hl => by
    have hne : b ≠ a := fun z => by
      rw [z, h] at q
      rw [← Option.some.inj q] at hl
      cases hl
    rw [upd_ne hne]
    exact q
theorem RepO.ext0 {o : O} {a : Addr} (e : Ex0 m H m' H') (r : RepO K H m o a) (hk : H' a = H a) : RepO K H' m' o a := by
  cases o with
  | lst ds => obtain ⟨vs, h1, h2⟩ := r; exact ⟨vs, hk.trans h1, Reps.ext0 e _ _ h2⟩
  | dK ds => obtain ⟨vs, h1, h2, h3⟩ := r; exact ⟨vs, hk.trans h1, h2, Reps.ext0 e _ _ h3⟩
  | dT ds => obtain ⟨vs, h1, h2, h3⟩ := r; exact ⟨vs, hk.trans h1, h2, Reps.ext0 e _ _ h3⟩
  | fK ds => obtain ⟨od, vs, h1, h2, h3⟩ := r; exact ⟨od, vs, hk.trans h1, h2, Reps.ext0 e _ _ h3⟩
  | fT ds => obtain ⟨od, vs, h1, h2, h3⟩ := r; exact ⟨od, vs, hk.trans h1, h2, Reps.ext0 e _ _ h3⟩
theorem RepS.side {a : Addr} {vs us : List V} (s : RepS K H m S) (h : H a = some (.lst vs)) (hn : a ∉ m) : RepS K (upd H a (.lst us)) m S where
  len := s.len
  nd := s.nd
  obj := fun n o e => by
    obtain ⟨b, h1, h2⟩ := s.obj n o e
    have hne : b ≠ a := fun z => hn (by rw [← z]; exact List.mem_of_getElem? h1)
    exact ⟨b, h1, h2.ext0 (Ex0.side h) (by rw [upd_ne hne])⟩
theorem Ext.side {a : Addr} {o : HO} (e : Ext m H m' H') (h : H a = none) (hn : a ∉ m') : Ext m H m' (upd H' a o) where
  pre := e.pre
  keep := fun b u q hb => by rw [upd_ne (ne_of_none q h)]; exact e.keep b u q hb
  new := e.new
  lst := fun b u q hl => by rw [upd_ne (ne_of_none q h)]; exact e.lst b u q hl
/-- a list beside the store stands -/
theorem Ext.own {a : Addr} {o : HO} (e : Ext m H m' H') (h : H a = some o) (hn : a ∉ m) : H' a = some o ∧ a ∉ m' :=
  ⟨e.keep a o h hn, fun z => by
    rcases e.new a z with q | q
    · exact hn q
    · rw [h] at q; cases q⟩
theorem Ext.adopt {a : Addr} (e : Ext m H m' H') (h : H a = none) : Ext m H (m' ++ [a]) H' where
  pre := fun n b q => by
    have z := e.pre n b q
    rw [List.getElem?_append_left (List.getElem?_eq_some_iff.mp z).1]
    exact z
  keep := e.keep
  new := fun b hb => by
    rcases List.mem_append.mp hb with z | z
    · exact e.new b z
    · rw [List.mem_singleton.mp z]; exact .inr h
  lst := e.lst
theorem RepS.adopt {a : Addr} {ds : List D} {vs : List V} (s : RepS K H m S) (h : H a = some (.lst vs)) (hn : a ∉ m) (r : Reps K H m ds vs) : RepS K H (m ++ [a]) (S ++ [.lst ds]) where
  len := by rw [List.length_append, List.length_append, s.len]; rfl
  nd := fun i j b h1 h2 => by
    have pos : ∀ (i : Nat) (b : Addr), (m ++ [a])[i]? = some b → (m[i]? = some b ∧ b ≠ a) ∨ (i = m.length ∧ b = a) := fun i b e => by
      by_cases hi : i < m.length
      · rw [List.getElem?_append_left hi] at e
        exact .inl ⟨e, fun z => hn (by rw [← z]; exact List.mem_of_getElem? e)⟩
      · have hi' := (List.getElem?_eq_some_iff.mp e).1
        rw [List.length_append] at hi'
        have : i = m.length := by simp at hi'; omega
        subst this
        simp at e
        exact .inr ⟨rfl, e.symm⟩
    rcases pos i b h1 with ⟨e1, n1⟩ | ⟨e1, n1⟩ <;> rcases pos j b h2 with ⟨e2, n2⟩ | ⟨e2, n2⟩
    · exact s.nd i j b e1 e2
    · exact absurd n2 n1
    · exact absurd n1 n2
    · rw [e1, e2]
  obj := fun n u e => by
    have ex : Ex0 m H (m ++ [a]) H := ⟨fun n b q => by rw [List.getElem?_append_left (List.getElem?_eq_some_iff.mp q).1]; exact q, fun _ _ q _ => q⟩
    by_cases hl : n < S.length
    · rw [List.getElem?_append_left hl] at e
      obtain ⟨b, h1, h2⟩ := s.obj n u e
      exact ⟨b, ex.pre _ _ h1, h2.ext0 ex rfl⟩
    · have hi' := (List.getElem?_eq_some_iff.mp e).1
      rw [List.length_append] at hi'
      have : n = S.length := by simp at hi'; omega
      subst this
      simp at e
      subst e
      exact ⟨a, by rw [← s.len]; simp, vs, h, Reps.ext0 ex _ _ r⟩
end
theorem wipe_idem (σ : St) (vs : List Nat) : L2.wipe (L2.wipe σ vs) vs = L2.wipe σ vs := by
  apply List.ext_getElem?
  intro j
  rw [wipe_get, wipe_get, L2.wipe_length]
  by_cases hj : j ∈ vs
  · rw [if_pos hj, if_pos hj]
  · rw [if_neg hj, if_neg hj]
theorem szL_eq : szL = sizeLine := by rfl
section
variable {X : Cx}
theorem dts_nil : L2.PTs X [] (ttOf X.K wtYes) := ⟨fun pins s σ H Q I ⟨ρ, S, m, R, hE, hS, h, k⟩ => L2.pts_nil.run pins s σ H Q I (k true H S m (Ext.refl _ _) hS h)⟩
theorem dts_one {c : Expr} {t : WT} (h : PT X c (ttOf X.K t)) : L2.PTs X [c] (ttOf X.K t) := L2.pts_one h
theorem lc_read {wi : WI} {g : WG} {tt : WT} {te : WE} {vs : List Nat} (K : PySem.W.Frag) (σ : St) (H : Hp) (Q : L2.VK) (h : teOf K (wLc wi g tt te vs) σ H Q) : L2.tLc (tiOf K wi) (tgOf K vs g) (ttOf K tt) (teOf K te) vs σ H Q := by
  obtain ⟨ρ, S, m, R, hE, hS, h, k⟩ := h
  refine ⟨ρ, S, m, _, hE, hS, h, fun J items guard S1 m1 H1 e1 s1 y ⟨hz, I, i0, ig, it, ie⟩ D hD => ?_⟩
  have nD := s1.notin hD
  refine ⟨fun i n H' => n = items.length - i ∧ ∃ S' m' acc av, Ext m1 H1 m' H' ∧ RepS K H' m' S' ∧ D ∉ m' ∧ H' D = some (.lst av) ∧ Reps K H' m' acc av ∧ acc.length ≤ i ∧ I i acc S' ∧ i ≤ items.length,
    ⟨_, rfl, S1, m1, [], [], Ext.fresh hD _, s1.fresh hD _, nD, upd_same, rfl, Nat.le_refl _, i0, Nat.zero_le _⟩, ?_⟩
  rintro i n H2 ⟨hn, S2, m2, acc, av, e2, s2, n2, a2, r2, hl, hI, hle⟩
  obtain ⟨yg, ys⟩ := y m2 H2 S2 e2.ex0 s2 (ig _ _ _ hI)
  by_cases hlt : i < items.length
  · obtain ⟨go, yd⟩ := yg i items[i] (List.getElem?_eq_getElem hlt)
    refine .inr ⟨go, fun H' => ∃ S' m' acc av, Ext m1 H1 m' H' ∧ RepS K H' m' S' ∧ D ∉ m' ∧ H' D = some (.lst av) ∧ Reps K H' m' acc av ∧ acc.length ≤ i + 1 ∧ I (i + 1) acc S', fun H' ⟨S', m', acc', av', q1, q2, q3, q4, q5, q6, q7⟩ => ⟨_, by omega, rfl, S', m', acc', av', q1, q2, q3, q4, q5, q6, q7, hlt⟩, fun x H' hy => ?_⟩
    obtain ⟨m3, e3, s3, rx⟩ := yd x H' hy
    obtain ⟨a3, n3⟩ := e3.own a2 n2
    refine ⟨items[i], wipe ρ vs, S2, m3, _, (hE.ext (e1.trans (e2.trans e3))).wipe vs, s3, rx, it i _ acc S2 (List.getElem?_eq_getElem hlt) hI, fun σ4 ρ4 S4 m4 H4 w4 e4 s4 r4 q4 => ⟨by rw [w4, wipe_idem], ρ4, S4, m4, _, r4, s4, q4, fun b H5 S5 m5 e5 s5 q5 => ?_⟩⟩
    obtain ⟨a4, n4⟩ := e4.own a3 n3
    obtain ⟨a5, n5⟩ := e5.own a4 n4
    by_cases hb : b = true
    · rw [if_pos hb] at q5 ⊢
      refine ⟨ρ4, S5, m5, _, r4.ext e5, s5, q5, fun v d H6 S6 m6 e6 s6 r6 q6 => ?_⟩
      obtain ⟨a6, n6⟩ := e6.own a5 n5
      have racc := Reps.ext (e3.trans (e4.trans (e5.trans e6))) _ _ r2
      refine ⟨av, a6, by rw [racc.len, ← szL_eq]; omega, S6, m6, acc ++ [d], av ++ [v], (e2.trans (e3.trans (e4.trans (e5.trans e6)))).side hD n6, s6.side a6 n6, n6, upd_same, ?_, by rw [List.length_append]; simp; omega, q6⟩
      exact Reps.app (Reps.ext0 (Ex0.side a6) _ _ racc) (Reps.one (Rep.ext0 (Ex0.side a6) _ _ r6))
    · rw [if_neg hb] at q5 ⊢
      exact ⟨S5, m5, acc, av, e2.trans (e3.trans (e4.trans e5)), s5, n5, a5, Reps.ext (e3.trans (e4.trans e5)) _ _ r2, by omega, by simpa using q5⟩
  · have ei : i = items.length := by omega
    subst ei
    refine .inl ⟨ys _ (Nat.le_refl _), k _ (.ref S2.length) H2 (S2 ++ [.lst acc]) (m2 ++ [D]) (e1.trans (e2.adopt hD)) (s2.adopt a2 n2 r2) ⟨D, by rw [← s2.len]; simp, rfl⟩ (ie _ _ hI)⟩
theorem d_lc {elt tg iter : Expr} {ifs : List Expr} {scope : Scope} {own : List (Str × Nat)} {pos : Pos} {wi : WI} {g : WG} {tt : WT} {te : WE} (hc : X.calm = true) (hN : X.N.Nodup) (hi : PI X tg iter (tiOf X.K wi)) (ok : L2.BlkOk X.N X.env.scope scope own)
    (hg : ∀ (s : Shared) (H : Hp) (C : Addr) (cl : List (Str × Addr)) (fp : List Addr), PG (X.blk s H scope (compEnvC scope cl C X.env) fp) tg (tgOf X.K (own.map (·.2)) g))
    (ht : ∀ (s : Shared) (H : Hp) (C : Addr) (cl : List (Str × Addr)) (fp : List Addr), L2.PTs (X.blk s H scope (compEnvC scope cl C X.env) fp) ifs (ttOf X.K tt))
    (he : ∀ (s : Shared) (H : Hp) (C : Addr) (cl : List (Str × Addr)) (fp : List Addr), PE (X.blk s H scope (compEnvC scope cl C X.env) fp) elt (teOf X.K te)) (hs : ∀ x, foldedSetIterable iter X.env x = pure x := by intro _; rfl) :
    PE X (.ListComp elt [⟨tg, iter, ifs, 0⟩] scope pos) (teOf X.K (wLc wi g tt te (own.map (·.2)))) :=
  peI (L2.pe_lc hc hN hi ok hg ht he hs) fun σ H Q h => lc_read X.K σ H Q h
/-- name = [..] on one line, the name a local -/
theorem ds_setLc (i : Nat) {y : Str} {py : Pos} {elt tg iter : Expr} {ifs : List Expr} {scope : Scope} {own : List (Str × Nat)} {pos spos : Pos} {wi : WI} {g : WG} {tt : WT} {te : WE} (hc : X.calm = true) (hN : X.N.Nodup) (hi : PI X tg iter (tiOf X.K wi)) (ok : L2.BlkOk X.N X.env.scope scope own)
    (hg : ∀ (s : Shared) (H : Hp) (C : Addr) (cl : List (Str × Addr)) (fp : List Addr), PG (X.blk s H scope (compEnvC scope cl C X.env) fp) tg (tgOf X.K (own.map (·.2)) g))
    (ht : ∀ (s : Shared) (H : Hp) (C : Addr) (cl : List (Str × Addr)) (fp : List Addr), L2.PTs (X.blk s H scope (compEnvC scope cl C X.env) fp) ifs (ttOf X.K tt))
    (he : ∀ (s : Shared) (H : Hp) (C : Addr) (cl : List (Str × Addr)) (fp : List Addr), PE (X.blk s H scope (compEnvC scope cl C X.env) fp) elt (teOf X.K te))
    (hsw : swapsWith (.ListComp elt [⟨tg, iter, ifs, 0⟩] scope pos) (some (.Name y py)) spos.line X.env = pure true) (hy : X.N[i]? = some y := by rfl) (hyl : X.env.scope.names.lookup y = some .local := by rfl)
    (hs : ∀ x, foldedSetIterable iter X.env x = pure x := by intro _; rfl) :
    PS X (.Assign [.Name y py] (.ListComp elt [⟨tg, iter, ifs, 0⟩] scope pos) spos) (tsOf X.K (sAsg (wLc wi g tt te (own.map (·.2))) (gN i))) :=
  psI (L2.ps_setLc hc hN hy hyl hsw hi ok hg ht he hs) fun Dd σ H ⟨ρ, S, m, E, hE, hS, h, k, _⟩ => lc_read X.K σ H _ ⟨ρ, S, m, _, hE, hS, h, fun v d H1 S1 m1 e1 s1 r1 q1 => k _ _ H1 S1 m1 e1 s1 ((hE.ext e1).set r1 i) q1⟩
end

/-! ### defs -/
theorem lk_start : ∀ (ds : List D) (n i : Nat) (d : D), lk (ds.map some ++ List.replicate n none) i = some d → ds[i]? = some d
  | [], n, i, d, h => by
    exfalso
    rw [List.map_nil, List.nil_append] at h
    induction n generalizing i with
    | zero => cases (show (none : Option D) = some d from h)
    | succ n ih =>
      rw [List.replicate_succ] at h
      cases i with
      | zero => cases (show (none : Option D) = some d from h)
      | succ i => exact ih i h
  | x :: ds, n, 0, d, h => by
    have h : some x = some d := h
    cases h
    rfl
  | x :: ds, n, i + 1, d, h => by
    have := lk_start ds n i d h
    simpa using this
theorem rep_start {K : PySem.W.Frag} {H : Hp} {m : List Addr} {ds : List D} {vs : List V} {N : List Str} (r : Reps K H m ds vs) : RepE K H m (start N.length ds) (L2.start N vs) := by
  refine ⟨by simp [start, L2.start, r.len], fun i d h => ?_⟩
  obtain ⟨v, h1, h2⟩ := r.get i d (lk_start _ _ _ _ h)
  refine ⟨v, ?_, h2⟩
  unfold L2.start
  rw [List.getElem?_append_left (by rw [List.length_map]; exact (List.getElem?_eq_some_iff.mp h1).1), List.getElem?_map, h1]
  rfl
section
variable {P : Program} {w : World} {K : PySem.W.Frag} {mg : Str → Option Value} {base : Heap}
/-- THE RULE for a def -/
theorem fn_body {x qual : Str} {st : Stmt} {f : Addr} {fd : FuncData} {N ps : List Str} {k n a : Nat} {sp : Spc} {ws : WS} (F : L2.Fun K x qual st f fd) (Sc : L2.FnScope N ps (L2.defScope st)) (hn : N.length = n) (ha : ps.length = a)
    (hw : ∀ (cdv : Value) (A : Around) (outer : List PySem.Env) (s : Shared) (H : Hp) (E : L2.XK), L2.Room k (A.deeper (PyProof.Rows.envOfC qual (L2.defScope st) s.heap.objs.size f cdv)) →
      PSs (L2.cxOf L2.CX0 P w K mg base N qual (L2.defScope st) f cdv A outer s H E).nox (L2.defBody st) (tsOf K ws)) (hb : Body n a ws sp) : L2.FnOk P w K mg base L2.CX0 (k + 1) f fd ps (spOf K a sp) := by
  refine F.ok Sc (fun vs H Q E ⟨m, S, ds, R, s, r, l, _⟩ => by rw [r.len, l, ha]) (fun cdv A outer s H vs Q E hr ⟨m, S, ds, R, hS, r, l, h, kk⟩ => ⟨_, hw cdv A outer s H E hr, ?_⟩)
  refine ⟨start N.length ds, S, m, { nx := fun _ S' => R .non S', rt := R, bk := fun _ _ => False, ct := fun _ _ => False }, rep_start r, hS, ?_, fun σ' ρ' H' S' m' e s r q => kk .non .non H' S' m' e s rfl q, kk, fun σ' ρ' H' S' m' e s r q => q.elim, fun σ' ρ' H' S' m' e s r q => q.elim⟩
  rw [hn]
  exact hb ds S R l h
/-- a law's promise from that of its def -/
theorem law_sp {sp : Spc} {H : Hp} {a : Addr} {ns : List Int} (hO : L2.Only H) (hS : SqL K H a (ns.map V.int)) (h : sp [.rol (intD ns)] [] fun d _ => d = .bl true) : spOf K 1 sp [.ref a] H (fun v _ => v = .bl true) fun _ _ _ => False := by
  refine ⟨[], [], [.rol (intD ns)], _, ⟨rfl, fun i j a h => by simp at h, fun n o h => by simp at h⟩, ⟨_, [], rfl, ⟨a, _, rfl, ?_, Reps.of_ints⟩, rfl⟩, rfl, h, fun v d H' S' m' e s r q => ?_⟩
  · rcases hS with (h | h) | h
    · rcases hO a with z | ⟨o, xs, z⟩
      · rw [h] at z; cases z
      · rw [h] at z; cases z
    · exact .inl h
    · exact .inr h
  · rw [q] at r
    exact r
end
end DL
set_option Elab.async false
set_option linter.all false
set_option maxRecDepth 100000
set_option maxHeartbeats 4000000
/-! DL5: operations by values. -/
namespace DL
open PySem PySem.Spec
open L2 (V Hp HO St TE TT TA TS TG TI TO PE PT PW PA PS PSs PG PI PO Cx Inv RelV Vals SqL SqT Rd upd upd_same upd_ne ne_of ne_of_none OpR UnR CallR MtR IxR SlR It thn)
section
variable {X : Cx}
/-- a rule between values, from one by the layer -/
theorem r2I {f : Value → Value → Sem Value} {r : L2.R2} {q : R2} (h : OpR X f r) (hi : ∀ x y H Q, r2Of X.K q x y H Q → r x y H Q) : OpR X f (r2Of X.K q) := fun pins s σ H x y v u Q I rx ry hq => h pins s σ H x y v u Q I rx ry (hi _ _ _ _ hq)
theorem r1I {f : Value → Sem Value} {r : V → Hp → L2.VK → Prop} {q : R1} (h : UnR X f r) (hi : ∀ x H Q, r1Of X.K q x H Q → r x H Q) : UnR X f (r1Of X.K q) := fun pins s σ H x v Q I rx hq => h pins s σ H x v Q I rx (hi _ _ _ hq)
theorem rlI {f : Value} {r : List V → Hp → L2.VK → Prop} {q : RL} (h : CallR X f r) (hi : ∀ x H Q, rlOf X.K q x H Q → r x H Q) : CallR X f (rlOf X.K q) := fun pins s σ H x v Q I rx hq => h pins s σ H x v Q I rx (hi _ _ _ hq)
theorem rmI {id : String} {r : V → List V → Hp → L2.VK → Prop} {q : RM} (h : MtR X id r) (hi : ∀ x xs H Q, rmOf X.K q x xs H Q → r x xs H Q) : MtR X id (rmOf X.K q) := fun pins s σ H x xs v us Q I rx rxs hq => h pins s σ H x xs v us Q I rx rxs (hi _ _ _ _ hq)
theorem rix {r : L2.R2} {q : R2} (h : IxR X r) (hi : ∀ x y H Q, r2Of X.K q x y H Q → r x y H Q) : IxR X (r2Of X.K q) := fun e1 e2 pins s σ H x y v u Q I rx ry hq hs => h e1 e2 pins s σ H x y v u Q I rx ry (hi _ _ _ _ hq) hs
theorem rsl {r : V → Option Int → Option Int → Hp → L2.VK → Prop} {q : D → Option Int → Option Int → Sto → VK → Prop} (h : SlR X r) (hi : ∀ x l u H Q, rsOf X.K q x l u H Q → r x l u H Q) : SlR X (rsOf X.K q) := fun pins s σ H x v vl vu lo hi' sl Q I rx hs p1 p2 hq => h pins s σ H x v vl vu lo hi' sl Q I rx hs p1 p2 (hi _ _ _ _ _ hq)
theorem isLst_iff {S : Sto} {n : Nat} {P : List D → Prop} : isLst S n P ↔ ∃ xs, S[n]? = some (.lst xs) ∧ P xs := by
  unfold isLst
  constructor
  · intro h
    split at h
    · rename_i xs e
      exact ⟨xs, e, h⟩
    · exact h.elim
  · rintro ⟨xs, e, h⟩
    rw [e]
    exact h
/-- a new tuple, a new list -/
theorem Kont.tup {K : PySem.W.Frag} {m : List Addr} {H : Hp} {S : Sto} {R : D → Sto → Prop} {Q : V → Hp → Prop} (k : Kont K m H R Q) (s : RepS K H m S) {ds : List D} {vs : List V} (r : Reps K H m ds vs) (q : R (.tup ds) S) : ∀ p, H p = none → Q (.ref p) (upd H p (.tup vs)) :=
  fun p hp => k _ (.tup ds) _ S m (Ext.fresh hp _) (s.fresh hp _) ⟨p, vs, rfl, .inl upd_same, Reps.ext (Ext.fresh hp _) _ _ r⟩ q
theorem Kont.lst {K : PySem.W.Frag} {m : List Addr} {H : Hp} {S : Sto} {R : D → Sto → Prop} {Q : V → Hp → Prop} (k : Kont K m H R Q) (s : RepS K H m S) {ds : List D} {vs : List V} (r : Reps K H m ds vs) (q : R (.ref S.length) (S ++ [.lst ds])) : ∀ p, H p = none → Q (.ref p) (upd H p (.lst vs)) :=
  fun p hp => k _ (.ref S.length) _ _ (m ++ [p]) (Ext.pushed hp _) (s.push hp r) ⟨p, by rw [← s.len]; simp, rfl⟩ q
/-- a list written -/
theorem Kont.put {K : PySem.W.Frag} {m : List Addr} {H : Hp} {S : Sto} {R : D → Sto → Prop} {Q : V → Hp → Prop} (k : Kont K m H R Q) (s : RepS K H m S) {n : Nat} {a : Addr} {ds ds' : List D} {vs vs' : List V} {d : D} {v : V} (e : S[n]? = some (.lst ds)) (ha : m[n]? = some a) (hv : H a = some (.lst vs)) (r : Reps K H m ds' vs')
    (rd : Rep K H m d v) (q : R d (S.set n (.lst ds'))) : Q v (upd H a (.lst vs')) :=
  k v d _ _ m (Ext.wrote (List.mem_of_getElem? ha) hv rfl) (s.set e ha r) (Rep.ext (Ext.wrote (List.mem_of_getElem? ha) hv rfl) _ _ rd) q

theorem szL' : szL = sizeLine := szL_eq
theorem o_add : OpR X (binaryOp .Add) (r2Of X.K rAdd) :=
  r2I ((((L2.op_add (X := X)).or L2.op_catA).or L2.op_add_str).or L2.op_cat) fun x y H Q ⟨m, S, d, e, R, s, rx, ry, h, k⟩ => by
    cases d with
    | int i => cases e with
      | int j => exact .inl (.inl (.inl ⟨i, j, rx, ry, k _ (.int (i + j)) H S m (Ext.refl _ _) s rfl h⟩))
      | _ => exact (show False from h).elim
    | tup xs => cases e with
      | tup ys =>
        obtain ⟨a, vs, rfl, hT, r1⟩ := rx
        obtain ⟨b, us, rfl, hU, r2⟩ := ry
        obtain ⟨hz, q⟩ := h
        refine .inl (.inl (.inr ⟨a, b, vs, us, rfl, rfl, hT.sqT, hU.sqT, by rw [r1.len, r2.len, ← szL']; exact hz, fun e => ?_, fun _ e => ?_, fun _ _ => k.tup s (r1.app r2) q⟩))
        · subst e
          have : xs = [] := List.eq_nil_of_length_eq_zero (by rw [← r1.len]; rfl)
          subst this
          exact k _ (.tup ys) H S m (Ext.refl _ _) s ⟨b, us, rfl, hU, r2⟩ q
        · subst e
          have : ys = [] := List.eq_nil_of_length_eq_zero (by rw [← r2.len]; rfl)
          subst this
          rw [List.append_nil] at q
          exact k _ (.tup xs) H S m (Ext.refl _ _) s ⟨a, vs, rfl, hT, r1⟩ q
      | _ => exact (show False from h).elim
    | str z => cases e with
      | str z' =>
        obtain ⟨hz, q⟩ := h
        exact .inl (.inr ⟨z, z', rx, ry, by rw [← szL']; exact hz, k _ (.str (z ++ z')) H S m (Ext.refl _ _) s rfl q⟩)
      | _ => exact (show False from h).elim
    | ref n => cases e with
      | ref n' =>
        obtain ⟨xs, e1, h⟩ := isLst_iff.mp h
        obtain ⟨ys, e2, hz, q⟩ := isLst_iff.mp h
        obtain ⟨a, vs, h1, h2, h3⟩ := s.lst e1
        obtain ⟨b, us, g1, g2, g3⟩ := s.lst e2
        obtain ⟨a', q1, rfl⟩ := rx
        obtain ⟨b', q2, rfl⟩ := ry
        rw [h1] at q1
        rw [g1] at q2
        cases q1
        cases q2
        exact .inr ⟨a, b, vs, us, rfl, rfl, h2, g2, by rw [h3.len, g3.len, ← szL']; exact hz, k.lst s (h3.app g3) q⟩
      | _ => exact (show False from h).elim
    | _ => exact (show False from h).elim
theorem o_sub : OpR X (binaryOp .Sub) (r2Of X.K rSub) := r2I L2.op_sub fun x y H Q ⟨m, S, d, e, R, s, rx, ry, h, k⟩ => by
  cases d with
  | int i => cases e with
    | int j => exact ⟨i, j, rx, ry, k _ (.int (i - j)) H S m (Ext.refl _ _) s rfl h⟩
    | _ => exact (show False from h).elim
  | _ => exact (show False from h).elim
theorem CMul_or {i j : Int} (h : MulOk i j) : IntMulOk i j := by
  rcases h with (h | h) | ⟨a, b, h1, h2, h3⟩
  · exact L2.CMul.ok (.inl (by have : (2 : Nat) ^ 64 = 18446744073709551616 := by decide
                               have : (2 : Int) ^ 64 = 18446744073709551616 := by decide
                               omega))
  · exact L2.CMul.ok (.inr (by have : (2 : Nat) ^ 64 = 18446744073709551616 := by decide
                               have : (2 : Int) ^ 64 = 18446744073709551616 := by decide
                               omega))
  · have w1 : i.natAbs < 2 ^ (a + 1) := Nat.lt_trans h1 (Nat.pow_lt_pow_right (by decide) (by omega))
    have w2 : j.natAbs < 2 ^ (b + 1) := Nat.lt_trans h2 (Nat.pow_lt_pow_right (by decide) (by omega))
    have x := PySem.Flt.log2_lt_of (by omega) w1
    have y := PySem.Flt.log2_lt_of (by omega) w2
    by_cases hc : i.natAbs.log2 + j.natAbs.log2 < 1000000
    · exact L2.CMulW.ok hc
    · have e1 : i.natAbs.log2 ≤ a := by omega
      have e2 : j.natAbs.log2 ≤ b := by omega
      exfalso
      have ha : a = i.natAbs.log2 := by omega
      have hb : b = j.natAbs.log2 := by omega
      by_cases h0 : i.natAbs = 0
      · rw [h0] at ha
        have : Nat.log2 0 = 0 := by decide
        rw [this] at ha
        have hb1 : 0 < b := by omega
        have := PySem.Flt.log2_lt_of hb1 h2
        omega
      · by_cases ha0 : a = 0
        · subst ha0
          have hb1 : 0 < b := by omega
          have := PySem.Flt.log2_lt_of hb1 h2
          omega
        · have := PySem.Flt.log2_lt_of (by omega : 0 < a) h1
          omega
theorem op_mulAny : OpR X (binaryOp .Mult) (L2.rI (fun i j => IntMulOk i j) fun i j => .int (i * j)) := L2.opI fun _ _ _ _ _ _ _ hc q => PyProof.Rows.mul_int q hc
theorem iop_mulAny : OpR X (inplaceOp .Mult) (L2.rI (fun i j => IntMulOk i j) fun i j => .int (i * j)) := L2.opI fun _ _ _ _ _ _ _ hc q => PyProof.Rows.imul_int q hc

/-- ints alone -/
theorem ii {K : PySem.W.Frag} {x y : V} {H : Hp} {Q : L2.VK} {C : Int → Int → Prop} {g : Int → Int → D} {gv : Int → Int → V} {r : R2} (hg : ∀ i j H m, Rep K H m (g i j) (gv i j)) (hr : ∀ d e S R, r d e S R → ∃ i j, d = .int i ∧ e = .int j ∧ C i j ∧ R (g i j) S) (h : r2Of K r x y H Q) : L2.rI C gv x y H Q := by
  obtain ⟨m, S, d, e, R, s, rx, ry, h, k⟩ := h
  obtain ⟨i, j, rfl, rfl, hc, q⟩ := hr d e S R h
  exact ⟨i, j, rx, ry, hc, k _ _ H S m (Ext.refl _ _) s (hg i j H m) q⟩
theorem o_mul : OpR X (binaryOp .Mult) (r2Of X.K rMul) := r2I ((op_mulAny (X := X)).or L2.op_rep) fun x y H Q ⟨m, S, d, e, R, s, rx, ry, h, k⟩ => by
  cases d with
  | int i => cases e with
    | int j => exact .inl ⟨i, j, rx, ry, CMul_or h.1, k _ (.int (i * j)) H S m (Ext.refl _ _) s rfl h.2⟩
    | _ => exact (show False from h).elim
  | ref n => cases e with
    | int j =>
      obtain ⟨xs, e1, ⟨h1, h2⟩, hz, q⟩ := isLst_iff.mp h
      obtain ⟨a, vs, g1, g2, g3⟩ := s.lst e1
      obtain ⟨a', q1, rfl⟩ := rx
      rw [g1] at q1
      cases q1
      exact .inr ⟨a, j, vs, rfl, ry, g2, h1, h2, by rw [g3.len, ← szL']; exact hz, k.lst s (g3.rep _) q⟩
    | _ => exact (show False from h).elim
  | _ => exact (show False from h).elim
theorem int_of {r : R2} {C : Int → Int → Prop} {g : Int → Int → D} {d e : D} {S : Sto} {R : D → Sto → Prop} (h : r d e S R) (h1 : ∀ i j, r (.int i) (.int j) S R → C i j ∧ R (g i j) S) (h2 : ∀ d e, r d e S R → ∃ i j, d = .int i ∧ e = .int j) : ∃ i j, d = .int i ∧ e = .int j ∧ C i j ∧ R (g i j) S := by
  obtain ⟨i, j, rfl, rfl⟩ := h2 d e h
  exact ⟨i, j, rfl, rfl, h1 i j h⟩
theorem only_ii {r : R2} {S : Sto} {R : D → Sto → Prop} (h0 : ∀ d e, (∀ i j, ¬ (d = .int i ∧ e = .int j)) → ¬ r d e S R) : ∀ d e, r d e S R → ∃ i j, d = .int i ∧ e = .int j := fun d e h => by
  cases d with
  | int i => cases e with
    | int j => exact ⟨i, j, rfl, rfl⟩
    | _ => exact absurd h (h0 _ _ fun _ _ z => nomatch z.2)
  | _ => exact absurd h (h0 _ _ fun _ _ z => nomatch z.1)
theorem i_mul : OpR X (inplaceOp .Mult) (r2Of X.K rMul') := r2I (iop_mulAny (X := X)) fun x y H Q h => ii (g := fun i j => .int (i * j)) (fun _ _ _ _ => rfl) (fun d e S R h => by
  cases d with
  | int i => cases e with
    | int j => exact ⟨i, j, rfl, rfl, CMul_or h.1, h.2⟩
    | _ => exact (show False from h).elim
  | _ => exact (show False from h).elim) h
theorem div_ok {j : Int} (h : DivOk j) (i : Int) : Builtin.divisionGoesByPylong i j = false := by
  refine PyProof.noPylong_of_log2 ?_
  exact PySem.Flt.log2_lt_of (by decide) h.2
theorem op_divAny : OpR X (binaryOp .FloorDiv) (L2.rI (fun _ j => DivOk j) fun i j => .int (i.fdiv j)) := L2.opI fun i j _ _ _ _ _ hc q => PyProof.Rows.floordiv_int hc.1 q (.inl (div_ok hc i))
theorem iop_divAny : OpR X (inplaceOp .FloorDiv) (L2.rI (fun _ j => DivOk j) fun i j => .int (i.fdiv j)) := L2.opI fun i j _ _ _ _ _ hc q => PyProof.Rows.ifloordiv_int hc.1 q (.inl (div_ok hc i))
theorem o_div : OpR X (binaryOp .FloorDiv) (r2Of X.K rDiv) := r2I (op_divAny (X := X)) fun x y H Q h => ii (g := fun i j => .int (i.fdiv j)) (fun _ _ _ _ => rfl) (fun d e S R h => by
  cases d with
  | int i => cases e with
    | int j => exact ⟨i, j, rfl, rfl, h.1, h.2⟩
    | _ => exact (show False from h).elim
  | _ => exact (show False from h).elim) h
theorem i_div : OpR X (inplaceOp .FloorDiv) (r2Of X.K rDiv) := r2I (iop_divAny (X := X)) fun x y H Q h => ii (g := fun i j => .int (i.fdiv j)) (fun _ _ _ _ => rfl) (fun d e S R h => by
  cases d with
  | int i => cases e with
    | int j => exact ⟨i, j, rfl, rfl, h.1, h.2⟩
    | _ => exact (show False from h).elim
  | _ => exact (show False from h).elim) h
theorem o_mod : OpR X (binaryOp .Mod) (r2Of X.K rMod) := r2I (L2.op_modN (X := X)) fun x y H Q h => ii (g := fun i j => .int (i.fmod j)) (fun _ _ _ _ => rfl) (fun d e S R h => by
  cases d with
  | int i => cases e with
    | int j => exact ⟨i, j, rfl, rfl, h.1, h.2⟩
    | _ => exact (show False from h).elim
  | _ => exact (show False from h).elim) h
theorem o_pow : OpR X (binaryOp .Pow) (r2Of X.K rPow) := r2I (L2.op_pow (X := X)) fun x y H Q h => ii (g := fun i j => .int (i ^ j.toNat)) (fun _ _ _ _ => rfl) (fun d e S R h => by
  cases d with
  | int i => cases e with
    | int j => exact ⟨i, j, rfl, rfl, h.1, h.2⟩
    | _ => exact (show False from h).elim
  | _ => exact (show False from h).elim) h
theorem u_neg : UnR X (unaryOp .USub) (r1Of X.K rNeg) := r1I L2.un_neg fun x H Q ⟨m, S, d, R, s, rx, h, k⟩ => by
  cases d with
  | int i => exact ⟨i, rx, k _ (.int (-i)) H S m (Ext.refl _ _) s rfl h⟩
  | _ => exact (show False from h).elim
theorem cmp_of {f : Value → Value → Sem Value} {g : Int → Int → Bool} (h : OpR X f (L2.rI0 fun i j => .bl (g i j))) : OpR X f (r2Of X.K (rCmp g)) := r2I h fun x y H Q ⟨m, S, d, e, R, s, rx, ry, h, k⟩ => by
  cases d with
  | int i => cases e with
    | int j => exact ⟨i, j, rx, ry, k _ (.bl (g i j)) H S m (Ext.refl _ _) s rfl h⟩
    | _ => exact (show False from h).elim
  | _ => exact (show False from h).elim
theorem c_lt : OpR X (compareOp .Lt) (r2Of X.K rLt) := cmp_of L2.op_lt
theorem c_le : OpR X (compareOp .LtE) (r2Of X.K rLe) := cmp_of L2.op_le
theorem c_gt : OpR X (compareOp .Gt) (r2Of X.K rGt) := cmp_of L2.op_gt
theorem c_ge : OpR X (compareOp .GtE) (r2Of X.K rGe) := cmp_of L2.op_ge
/-! equality of plain data -/
mutual
theorem toPy_dp {K : PySem.W.Frag} {H : Hp} {m : List Addr} : ∀ (d : D) (v : V), flat d = true → Rep K H m d v → L2.Dp K H v (toPy d)
  | .non, v, _, h => by rw [show v = .non from h]; exact .non
  | .bl b, v, _, h => by rw [show v = .bl b from h]; exact .bl b
  | .int b, v, _, h => by rw [show v = .int b from h]; exact .int b
  | .str b, v, _, h => by rw [show v = .str b from h]; exact .str b
  | .tup ds, v, f, ⟨a, vs, hv, hT, r⟩ => by rw [hv]; exact .tup hT.sqT (toPys_dp ds vs f r)
  | .rol _, _, f, _ => by cases (show false = true from f)
  | .ref _, _, f, _ => by cases (show false = true from f)
  | .ty _, _, f, _ => by cases (show false = true from f)
theorem toPys_dp {K : PySem.W.Frag} {H : Hp} {m : List Addr} : ∀ (ds : List D) (vs : List V), flats ds = true → Reps K H m ds vs → L2.DpAll K H vs (toPys ds)
  | [], vs, _, h => by rw [show vs = [] from h]; exact .nil
  | d :: ds, vs, f, ⟨v, r, hv, h1, h2⟩ => by
    rw [hv]
    have f := Bool.and_eq_true_iff.mp (show (flat d && flats ds) = true from f)
    exact .cons (toPy_dp d v f.1 h1) (toPys_dp ds r f.2 h2)
end
theorem strOk_of {K : PySem.W.Frag} : True := trivial
mutual
theorem eqv_eq : ∀ (d e : D), flat d = true → flat e = true → PyData.eqv (toPy d) (toPy e) = eqD d e
  | .non, .non, _, _ => rfl
  | .non, .bl _, _, _ => rfl
  | .non, .int _, _, _ => rfl
  | .non, .str _, _, _ => rfl
  | .non, .tup _, _, _ => rfl
  | .bl _, .non, _, _ => rfl
  | .bl _, .bl _, _, _ => rfl
  | .bl _, .int _, _, _ => rfl
  | .bl _, .str _, _, _ => rfl
  | .bl _, .tup _, _, _ => rfl
  | .int _, .non, _, _ => rfl
  | .int _, .bl _, _, _ => rfl
  | .int i, .int j, _, _ => by
    show (i == j) = decide (i = j)
    rw [Bool.beq_eq_decide_eq]
  | .int _, .str _, _, _ => rfl
  | .int _, .tup _, _, _ => rfl
  | .str _, .non, _, _ => rfl
  | .str _, .bl _, _, _ => rfl
  | .str _, .int _, _, _ => rfl
  | .str i, .str j, _, _ => by
    show (i == j) = decide (i = j)
    rw [Bool.beq_eq_decide_eq]
  | .str _, .tup _, _, _ => rfl
  | .tup _, .non, _, _ => rfl
  | .tup _, .bl _, _, _ => rfl
  | .tup _, .int _, _, _ => rfl
  | .tup _, .str _, _, _ => rfl
  | .tup xs, .tup ys, f, g => eqvs_eq xs ys f g
  | .rol _, _, f, _ => by cases (show false = true from f)
  | .ref _, _, f, _ => by cases (show false = true from f)
  | .ty _, _, f, _ => by cases (show false = true from f)
  | _, .rol _, _, f => by cases (show false = true from f)
  | _, .ref _, _, f => by cases (show false = true from f)
  | _, .ty _, _, f => by cases (show false = true from f)
theorem eqvs_eq : ∀ (ds es : List D), flats ds = true → flats es = true → PyData.eqvAll (toPys ds) (toPys es) = eqDs ds es
  | [], [], _, _ => rfl
  | [], _ :: _, _, _ => rfl
  | _ :: _, [], _, _ => rfl
  | d :: ds, e :: es, f, g => by
    have f := Bool.and_eq_true_iff.mp (show (flat d && flats ds) = true from f)
    have g := Bool.and_eq_true_iff.mp (show (flat e && flats es) = true from g)
    show (PyData.eqv (toPy d) (toPy e) && PyData.eqvAll (toPys ds) (toPys es)) = (eqD d e && eqDs ds es)
    rw [eqv_eq d e f.1 g.1, eqvs_eq ds es f.2 g.2]
end
mutual
theorem deep_eq : ∀ d : D, PyData.depth (toPy d) = deep d
  | .non => rfl
  | .bl _ => rfl
  | .int _ => rfl
  | .str _ => rfl
  | .tup ds => by
    show PyData.depthAll (toPys ds) + 1 = deeps ds + 1
    rw [deeps_eq ds]
  | .rol _ => rfl
  | .ref _ => rfl
  | .ty _ => rfl
theorem deeps_eq : ∀ ds : List D, PyData.depthAll (toPys ds) = deeps ds
  | [] => rfl
  | d :: ds => by
    show max (PyData.depth (toPy d)) (PyData.depthAll (toPys ds)) = max (deep d) (deeps ds)
    rw [deep_eq d, deeps_eq ds]
end

end
end DL
set_option Elab.async false
set_option linter.all false
set_option maxRecDepth 100000
set_option maxHeartbeats 4000000
/-! DL6: comparisons of data, subscripts, slices, built-ins, methods, stores. -/
namespace DL
open PySem PySem.Spec
open L2 (V Hp HO St TE TT TA TS TG TI TO PE PT PW PA PS PSs PG PI PO Cx Inv RelV Vals SqL SqT Rd upd upd_same upd_ne ne_of ne_of_none OpR UnR CallR MtR IxR SlR It thn)
section
variable {X : Cx}
mutual
theorem lay_of : ∀ d : D, flat d = true → PyData.canLay0 (toPy d) = true
  | .non, _ => rfl
  | .bl _, _ => rfl
  | .int _, _ => rfl
  | .str x, h => h
  | .tup ds, h => lays_of ds h
  | .rol _, h => by cases (show false = true from h)
  | .ref _, h => by cases (show false = true from h)
  | .ty _, h => by cases (show false = true from h)
theorem lays_of : ∀ ds : List D, flats ds = true → PyData.canLayAll0 (toPys ds) = true
  | [], _ => rfl
  | d :: ds, h => by
    have h := Bool.and_eq_true_iff.mp (show (flat d && flats ds) = true from h)
    show (PyData.canLay0 (toPy d) && PyData.canLayAll0 (toPys ds)) = true
    rw [lay_of d h.1, lays_of ds h.2]
    rfl
end
theorem shaped_of {d : D} (h : flat d = true) (h2 : deep d ≤ 64) : SeqAt.shaped (toPy d) = true := by
  unfold SeqAt.shaped
  rw [lay_of d h, deep_eq, Bool.true_and]
  exact decide_eq_true h2
theorem shapeds_of {ds : List D} (h : flats ds = true) (h2 : deeps ds ≤ 63) : SeqAt.shaped (.list (toPys ds)) = true := by
  unfold SeqAt.shaped
  have e : PyData.canLay0 (.list (toPys ds)) = true := lays_of ds h
  rw [e, Bool.true_and]
  refine decide_eq_true ?_
  show PyData.depthAll (toPys ds) + 1 ≤ 64
  rw [deeps_eq]
  omega
theorem c_eq {kk : Nat} (hr : L2.Room kk X.A) : OpR X (compareOp .Eq) (r2Of X.K rEq) := r2I (L2.op_eqD hr.units) fun x y H Q ⟨m, S, d, e, R, s, rx, ry, ⟨⟨f1, f2, g1, g2⟩, q⟩, k⟩ =>
  ⟨toPy d, toPy e, toPy_dp d x f1 rx, toPy_dp e y f2 ry, shaped_of f1 g1, shaped_of f2 g2, by rw [eqv_eq d e f1 f2]; exact k _ (.bl (eqD d e)) H S m (Ext.refl _ _) s rfl q⟩
theorem c_ne {kk : Nat} (hr : L2.Room kk X.A) : OpR X (compareOp .NotEq) (r2Of X.K rNe) := r2I (L2.op_neD hr.units) fun x y H Q ⟨m, S, d, e, R, s, rx, ry, ⟨⟨f1, f2, g1, g2⟩, q⟩, k⟩ =>
  ⟨toPy d, toPy e, toPy_dp d x f1 rx, toPy_dp e y f2 ry, shaped_of f1 g1, shaped_of f2 g2, by rw [eqv_eq d e f1 f2]; exact k _ (.bl (!eqD d e)) H S m (Ext.refl _ _) s rfl q⟩
theorem isNon_eq {K : PySem.W.Frag} {H : Hp} {m : List Addr} {d : D} {x : V} (r : Rep K H m d x) : isNon d = decide (x = .non) := by
  cases d with
  | non => rw [show x = .non from r]; rfl
  | bl b => rw [show x = .bl b from r]; rfl
  | int b => rw [show x = .int b from r]; rfl
  | str b => rw [show x = .str b from r]; rfl
  | ty b => rw [show x = .ty b from r]; rfl
  | tup b => obtain ⟨a, vs, rfl, _⟩ := r; rfl
  | rol b => obtain ⟨a, vs, rfl, _⟩ := r; rfl
  | ref b => obtain ⟨a, _, rfl⟩ := r; rfl
theorem c_is : OpR X (compareOp .Is) (r2Of X.K rIs) := r2I ((L2.op_isN (X := X)).or L2.op_is_bl) fun x y H Q ⟨m, S, d, e, R, s, rx, ry, h, k⟩ => by
  cases e with
  | non =>
    have h : R (.bl (isNon d)) S := by cases d <;> exact h
    exact .inl ⟨ry, by rw [← isNon_eq rx]; exact k _ (.bl (isNon d)) H S m (Ext.refl _ _) s rfl h⟩
  | bl b => cases d with
    | bl a => exact .inr ⟨a, b, rx, ry, k _ (.bl (decide (a = b))) H S m (Ext.refl _ _) s rfl h⟩
    | _ => exact (show False from h).elim
  | _ => cases d <;> exact (show False from h).elim
theorem c_isnot : OpR X (compareOp .IsNot) (r2Of X.K rIsNot) := r2I ((L2.op_notN (X := X)).or L2.op_isnot_bl) fun x y H Q ⟨m, S, d, e, R, s, rx, ry, h, k⟩ => by
  cases e with
  | non =>
    have h : R (.bl (!isNon d)) S := by cases d <;> exact h
    exact .inl ⟨ry, by rw [← isNon_eq rx]; exact k _ (.bl (!isNon d)) H S m (Ext.refl _ _) s rfl h⟩
  | bl b => cases d with
    | bl a => exact .inr ⟨a, b, rx, ry, k _ (.bl (!decide (a = b))) H S m (Ext.refl _ _) s rfl h⟩
    | _ => exact (show False from h).elim
  | _ => cases d <;> exact (show False from h).elim
/-! in -/
theorem flat0_V {K : PySem.W.Frag} {H : Hp} {m : List Addr} {d : D} {x : V} (r : Rep K H m d x) (h : flat0 d = true) : L2.flatV x = true := by
  cases d with
  | non => rw [show x = .non from r]; rfl
  | bl b => rw [show x = .bl b from r]; rfl
  | int b => rw [show x = .int b from r]; rfl
  | str b => rw [show x = .str b from r]; rfl
  | _ => cases (show false = true from h)
theorem eqV_eq {K : PySem.W.Frag} {H : Hp} {m : List Addr} {d e : D} {x y : V} (r : Rep K H m d x) (r' : Rep K H m e y) (h : flat0 d = true) (h' : flat0 e = true) : L2.eqV x y = eqD d e := by
  cases d with
  | non => cases e with
    | non => rw [show x = .non from r, show y = .non from r']; rfl
    | bl b => rw [show x = .non from r, show y = .bl b from r']; rfl
    | int b => rw [show x = .non from r, show y = .int b from r']; rfl
    | str b => rw [show x = .non from r, show y = .str b from r']; rfl
    | _ => cases (show false = true from h')
  | bl a => cases e with
    | non => rw [show x = .bl a from r, show y = .non from r']; rfl
    | bl b => rw [show x = .bl a from r, show y = .bl b from r']; rfl
    | int b => rw [show x = .bl a from r, show y = .int b from r']; rfl
    | str b => rw [show x = .bl a from r, show y = .str b from r']; rfl
    | _ => cases (show false = true from h')
  | int a => cases e with
    | non => rw [show x = .int a from r, show y = .non from r']; rfl
    | bl b => rw [show x = .int a from r, show y = .bl b from r']; rfl
    | int b =>
      rw [show x = .int a from r, show y = .int b from r']
      show (a == b) = decide (a = b)
      rw [Bool.beq_eq_decide_eq]
    | str b => rw [show x = .int a from r, show y = .str b from r']; rfl
    | _ => cases (show false = true from h')
  | str a => cases e with
    | non => rw [show x = .str a from r, show y = .non from r']; rfl
    | bl b => rw [show x = .str a from r, show y = .bl b from r']; rfl
    | int b => rw [show x = .str a from r, show y = .int b from r']; rfl
    | str b =>
      rw [show x = .str a from r, show y = .str b from r']
      show (a == b) = decide (a = b)
      rw [Bool.beq_eq_decide_eq]
    | _ => cases (show false = true from h')
  | _ => cases (show false = true from h)
theorem inV_eq {K : PySem.W.Frag} {H : Hp} {m : List Addr} {d : D} {x : V} (r : Rep K H m d x) (h : flat0 d = true) : ∀ (ds : List D) (vs : List V), Reps K H m ds vs → ds.all flat0 = true → L2.inV x vs = (ds.any fun y => eqD y d) ∧ vs.all L2.flatV = true
  | [], vs, rs, _ => by rw [show vs = [] from rs]; exact ⟨rfl, rfl⟩
  | e :: ds, vs, ⟨v, us, hv, r1, r2⟩, f => by
    rw [hv]
    have f := Bool.and_eq_true_iff.mp (show (flat0 e && ds.all flat0) = true from f)
    obtain ⟨h1, h2⟩ := inV_eq r h ds us r2 f.2
    refine ⟨?_, ?_⟩
    · show (L2.eqV v x || us.any fun y => L2.eqV y x) = (eqD e d || ds.any fun y => eqD y d)
      rw [eqV_eq r1 r f.1 h]
      exact congrArg (eqD e d || ·) h1
    · show (L2.flatV v && us.all L2.flatV) = true
      rw [flat0_V r1 f.1, h2]
      rfl
theorem any_py {d : D} (h : flat d = true) : ∀ ds : List D, flats ds = true → ((toPys ds).any fun z => PyData.eqv z (toPy d)) = ds.any fun y => eqD y d
  | [], _ => rfl
  | e :: ds, f => by
    have f := Bool.and_eq_true_iff.mp (show (flat e && flats ds) = true from f)
    show (PyData.eqv (toPy e) (toPy d) || (toPys ds).any fun z => PyData.eqv z (toPy d)) = (eqD e d || ds.any fun y => eqD y d)
    rw [eqv_eq e d f.1 h, any_py h ds f.2]
theorem room65 {kk : Nat} (hr : L2.Room kk X.A) : X.A.units + 65 < cLine := by
  have := hr.un
  omega
theorem c_in {kk : Nat} (hr : L2.Room kk X.A) : OpR X (compareOp .In) (r2Of X.K (rIn false)) := r2I (L2.op_in_seq.or (L2.op_inD (room65 hr))) fun x y H Q ⟨m, S, d, e, R, s, rx, ry, h, k⟩ => by
  cases e with
  | tup ys =>
    have h : (flat0 d = true ∧ ys.all flat0 = true) ∧ R (.bl (ys.any fun y => eqD y d)) S := by cases d <;> exact h
    obtain ⟨⟨f, g⟩, q⟩ := h
    obtain ⟨a, vs, rfl, hT, rs⟩ := ry
    obtain ⟨h1, h2⟩ := inV_eq rx f ys vs rs g
    refine .inl ⟨a, vs, rfl, .inr hT.sqT, flat0_V rx f, h2, ?_⟩
    show Q (.bl (L2.inV x vs)) H
    rw [h1]
    exact k _ (.bl (ys.any fun y => eqD y d)) H S m (Ext.refl _ _) s rfl q
  | ref n =>
    have h : isLst S n fun ys => (flat d = true ∧ flats ys = true ∧ deep d ≤ 63 ∧ deeps ys ≤ 63) ∧ R (.bl (ys.any fun y => eqD y d)) S := by cases d <;> exact h
    obtain ⟨ys, e1, ⟨f1, f2, g1, g2⟩, q⟩ := isLst_iff.mp h
    obtain ⟨a, vs, h1, h2, h3⟩ := s.lst e1
    obtain ⟨b, q1, rfl⟩ := ry
    rw [h1] at q1
    cases q1
    exact .inr ⟨toPy d, toPys ys, toPy_dp d x f1 rx, .lst (SqL.of h2) (toPys_dp ys vs f2 h3), shaped_of f1 (by omega), shapeds_of f2 g2, by rw [any_py f1 ys f2]; exact k _ (.bl (ys.any fun y => eqD y d)) H S m (Ext.refl _ _) s rfl q⟩
  | _ => cases d <;> exact (show False from h).elim
theorem c_notin {kk : Nat} (hr : L2.Room kk X.A) : OpR X (compareOp .NotIn) (r2Of X.K (rIn true)) := r2I (L2.op_notIn_seq.or (L2.op_notInD (room65 hr))) fun x y H Q ⟨m, S, d, e, R, s, rx, ry, h, k⟩ => by
  cases e with
  | tup ys =>
    have h : (flat0 d = true ∧ ys.all flat0 = true) ∧ R (.bl (!ys.any fun y => eqD y d)) S := by cases d <;> exact h
    obtain ⟨⟨f, g⟩, q⟩ := h
    obtain ⟨a, vs, rfl, hT, rs⟩ := ry
    obtain ⟨h1, h2⟩ := inV_eq rx f ys vs rs g
    refine .inl ⟨a, vs, rfl, .inr hT.sqT, flat0_V rx f, h2, ?_⟩
    show Q (.bl (!L2.inV x vs)) H
    rw [h1]
    exact k _ (.bl (!ys.any fun y => eqD y d)) H S m (Ext.refl _ _) s rfl q
  | ref n =>
    have h : isLst S n fun ys => (flat d = true ∧ flats ys = true ∧ deep d ≤ 63 ∧ deeps ys ≤ 63) ∧ R (.bl (!ys.any fun y => eqD y d)) S := by cases d <;> exact h
    obtain ⟨ys, e1, ⟨f1, f2, g1, g2⟩, q⟩ := isLst_iff.mp h
    obtain ⟨a, vs, h1, h2, h3⟩ := s.lst e1
    obtain ⟨b, q1, rfl⟩ := ry
    rw [h1] at q1
    cases q1
    exact .inr ⟨toPy d, toPys ys, toPy_dp d x f1 rx, .lst (SqL.of h2) (toPys_dp ys vs f2 h3), shaped_of f1 (by omega), shapeds_of f2 g2, by rw [any_py f1 ys f2]; exact k _ (.bl (!ys.any fun y => eqD y d)) H S m (Ext.refl _ _) s rfl q⟩
  | _ => cases d <;> exact (show False from h).elim
/-! subscripts -/
theorem atZ_rep {K : PySem.W.Frag} {H : Hp} {m : List Addr} {ds : List D} {vs : List V} (r : Reps K H m ds vs) {i : Int} {d : D} (h : atZ ds i = some d) : ∃ v, L2.atI vs i = some v ∧ Rep K H m d v := by
  unfold atZ at h
  unfold L2.atI
  rw [r.len]
  cases e : ixZ ds.length i with
  | none => rw [e] at h; cases h
  | some j =>
    rw [e] at h
    obtain ⟨v, h1, h2⟩ := r.get j d h
    have e' : L2.ixN ds.length i = some j := e
    exact ⟨v, by rw [e']; exact h1, h2⟩
theorem i_ix : IxR X (r2Of X.K rIx) := rix L2.ix_seq fun x y H Q ⟨m, S, d, e, R, s, rx, ry, h, k⟩ => by
  cases d with
  | tup xs => cases e with
    | int i =>
      obtain ⟨d, hd, q⟩ := h
      obtain ⟨a, vs, rfl, hT, rs⟩ := rx
      obtain ⟨v, h1, h2⟩ := atZ_rep rs hd
      exact .inr (.inl ⟨a, vs, i, v, rfl, ry, hT.sqT, h1, k _ _ H S m (Ext.refl _ _) s h2 q⟩)
    | _ => exact (show False from h).elim
  | rol xs => cases e with
    | int i =>
      obtain ⟨d, hd, q⟩ := h
      obtain ⟨a, vs, rfl, hT, rs⟩ := rx
      obtain ⟨v, h1, h2⟩ := atZ_rep rs hd
      exact .inl ⟨a, vs, i, v, rfl, ry, hT.seq, h1, k _ _ H S m (Ext.refl _ _) s h2 q⟩
    | _ => exact (show False from h).elim
  | ref n => cases e with
    | int i =>
      obtain ⟨xs, e1, d, hd, q⟩ := isLst_iff.mp h
      obtain ⟨a, vs, h1, h2, h3⟩ := s.lst e1
      obtain ⟨b, q1, rfl⟩ := rx
      rw [h1] at q1
      cases q1
      obtain ⟨v, g1, g2⟩ := atZ_rep h3 hd
      exact .inl ⟨a, vs, i, v, rfl, ry, SqL.of h2, g1, k _ _ H S m (Ext.refl _ _) s g2 q⟩
    | _ => exact (show False from h).elim
  | str z => cases e with
    | int i =>
      obtain ⟨hz, c, hc, q⟩ := h
      exact .inr (.inr ⟨z, i, c, rx, ry, by rw [← szL']; exact hz, hc, k _ (.str ⟨#[c]⟩) H S m (Ext.refl _ _) s rfl q⟩)
    | _ => exact (show False from h).elim
  | _ => cases e <;> exact (show False from h).elim
theorem sIx_eq (n d : Nat) (o : Option Int) : sIx n d o = HT.sIx n d o := by
  cases o with
  | none => rfl
  | some v =>
    show (if v < 0 then (v + n).toNat else min v.toNat n) = _
    rfl

theorem cut_rep {K : PySem.W.Frag} {H : Hp} {m : List Addr} {ds : List D} {vs : List V} (r : Reps K H m ds vs) (lo hi : Option Int) : Reps K H m (cut ds lo hi) (L2.cutV vs lo hi) := by
  unfold cut L2.cutV
  rw [r.len, sIx_eq, sIx_eq]
  exact (r.drop _).take _
theorem cut_full {K : PySem.W.Frag} {H : Hp} {m : List Addr} {ds : List D} {vs : List V} (r : Reps K H m ds vs) (lo hi : Option Int) (h : HT.sIx vs.length 0 lo = 0 ∧ HT.sIx vs.length vs.length hi = vs.length) : cut ds lo hi = ds := by
  unfold cut
  rw [sIx_eq, sIx_eq, ← r.len, h.1, h.2, List.drop_zero, Nat.sub_zero, r.len, List.take_length]
theorem s_cut : SlR X (rsOf X.K rSl) := rsl ((L2.sl_tupA (X := X)).or L2.sl_list) fun x l u H Q ⟨m, S, d, R, s, rx, h, k⟩ => by
  cases d with
  | tup xs =>
    obtain ⟨a, vs, rfl, hT, rs⟩ := rx
    refine .inl ⟨a, vs, rfl, hT.sqT, fun hf => ?_, fun _ => k.tup s (cut_rep rs l u) h⟩
    have h : R (.tup (cut xs l u)) S := h
    rw [cut_full rs l u hf] at h
    exact k _ (.tup xs) H S m (Ext.refl _ _) s ⟨a, vs, rfl, hT, rs⟩ h
  | ref n =>
    obtain ⟨xs, e1, q⟩ := isLst_iff.mp h
    obtain ⟨a, vs, h1, h2, h3⟩ := s.lst e1
    obtain ⟨b, q1, rfl⟩ := rx
    rw [h1] at q1
    cases q1
    exact .inr ⟨a, vs, rfl, SqL.of h2, k.lst s (cut_rep h3 l u) q⟩
  | _ => exact (show False from h).elim

/-! ### built-ins -/
theorem reps1 {K : PySem.W.Frag} {H : Hp} {m : List Addr} {d : D} {vs : List V} (r : Reps K H m [d] vs) : ∃ v, vs = [v] ∧ Rep K H m d v := by
  obtain ⟨v, us, hv, h1, h2⟩ := r
  exact ⟨v, by rw [hv, show us = [] from h2], h1⟩
theorem reps2 {K : PySem.W.Frag} {H : Hp} {m : List Addr} {d e : D} {vs : List V} (r : Reps K H m [d, e] vs) : ∃ v u, vs = [v, u] ∧ Rep K H m d v ∧ Rep K H m e u := by
  obtain ⟨v, us, hv, h1, h2⟩ := r
  obtain ⟨u, rfl, h3⟩ := reps1 h2
  exact ⟨v, u, hv, h1, h3⟩
theorem b_len : CallR X (.builtin "len") (rlOf X.K rLen) := rlI L2.call_len fun xs H Q ⟨m, S, ds, R, s, rx, h, k⟩ => by
  match ds, h, rx with
  | [.tup ys], h, rx =>
    obtain ⟨v, rfl, a, vs, rfl, hT, rs⟩ := reps1 rx
    exact ⟨_, vs.length, rfl, .inr ⟨vs, hT.sqT, rfl⟩, by rw [rs.len]; exact k _ (.int ys.length) H S m (Ext.refl _ _) s rfl h⟩
  | [.rol ys], h, rx =>
    obtain ⟨v, rfl, a, vs, rfl, hT, rs⟩ := reps1 rx
    exact ⟨_, vs.length, rfl, .inl ⟨vs, hT.seq, rfl⟩, by rw [rs.len]; exact k _ (.int ys.length) H S m (Ext.refl _ _) s rfl h⟩
  | [.str z], h, rx =>
    obtain ⟨v, rfl, hv⟩ := reps1 rx
    have hv : v = .str z := hv
    subst hv
    exact ⟨_, z.length, rfl, ⟨by rw [← szL']; exact h.1, rfl⟩, k _ (.int z.length) H S m (Ext.refl _ _) s rfl h.2⟩
  | [.ref n], h, rx =>
    obtain ⟨v, rfl, b, q1, rfl⟩ := reps1 rx
    obtain ⟨ys, e1, q⟩ := isLst_iff.mp h
    obtain ⟨a, vs, h1, h2, h3⟩ := s.lst e1
    rw [h1] at q1
    cases q1
    exact ⟨_, vs.length, rfl, .inl ⟨vs, SqL.of h2, rfl⟩, by rw [h3.len]; exact k _ (.int ys.length) H S m (Ext.refl _ _) s rfl q⟩
theorem b_abs : CallR X (.builtin "abs") (rlOf X.K rAbs) := rlI L2.call_abs fun xs H Q ⟨m, S, ds, R, s, rx, h, k⟩ => by
  match ds, h, rx with
  | [.int i], h, rx =>
    obtain ⟨v, rfl, hv⟩ := reps1 rx
    have hv : v = .int i := hv
    subst hv
    refine ⟨i, rfl, ?_⟩
    have e : (if i < 0 then -i else i) = (i.natAbs : Int) := by split <;> omega
    rw [e]
    exact k _ (.int i.natAbs) H S m (Ext.refl _ _) s rfl h
theorem b_int : CallR X (.type "int") (rlOf X.K rInt) := rlI L2.call_int1 fun xs H Q ⟨m, S, ds, R, s, rx, h, k⟩ => by
  match ds, h, rx with
  | [.int i], h, rx =>
    obtain ⟨v, rfl, hv⟩ := reps1 rx
    have hv : v = .int i := hv
    subst hv
    exact .inl ⟨i, rfl, k _ (.int i) H S m (Ext.refl _ _) s rfl h⟩
  | [.bl i], h, rx =>
    obtain ⟨v, rfl, hv⟩ := reps1 rx
    have hv : v = .bl i := hv
    subst hv
    exact .inr ⟨i, rfl, k _ (.int (if i = true then 1 else 0)) H S m (Ext.refl _ _) s rfl h⟩
theorem b_max2 (hc : X.calm = true) : CallR X (.builtin "max") (rlOf X.K rMax2) := rlI (L2.call_max2 hc) fun xs H Q ⟨m, S, ds, R, s, rx, h, k⟩ => by
  match ds, h, rx with
  | [.int i, .int j], h, rx =>
    obtain ⟨v, u, rfl, hv, hu⟩ := reps2 rx
    have hv : v = .int i := hv
    have hu : u = .int j := hu
    subst hv hu
    refine ⟨i, j, rfl, ?_⟩
    have e : (if j > i then j else i) = max i j := by split <;> omega
    rw [e]
    exact k _ (.int (max i j)) H S m (Ext.refl _ _) s rfl h
theorem b_min2 (hc : X.calm = true) : CallR X (.builtin "min") (rlOf X.K rMin2) := rlI (L2.call_min2 hc) fun xs H Q ⟨m, S, ds, R, s, rx, h, k⟩ => by
  match ds, h, rx with
  | [.int i, .int j], h, rx =>
    obtain ⟨v, u, rfl, hv, hu⟩ := reps2 rx
    have hv : v = .int i := hv
    have hu : u = .int j := hu
    subst hv hu
    refine ⟨i, j, rfl, ?_⟩
    have e : (if j < i then j else i) = min i j := by split <;> omega
    rw [e]
    exact k _ (.int (min i j)) H S m (Ext.refl _ _) s rfl h
theorem b_list : CallR X (.type "list") (rlOf X.K rList) := rlI L2.call_list_of fun xs H Q ⟨m, S, ds, R, s, rx, h, k⟩ => by
  match ds, h, rx with
  | [.tup ys], h, rx =>
    obtain ⟨v, rfl, a, vs, rfl, hT, rs⟩ := reps1 rx
    exact ⟨a, vs, rfl, .inr hT.sqT, k.lst s rs h⟩
  | [.rol ys], h, rx =>
    obtain ⟨v, rfl, a, vs, rfl, hT, rs⟩ := reps1 rx
    exact ⟨a, vs, rfl, .inl hT.seq, k.lst s rs h⟩
  | [.ref n], h, rx =>
    obtain ⟨v, rfl, b, q1, rfl⟩ := reps1 rx
    obtain ⟨ys, e1, q⟩ := isLst_iff.mp h
    obtain ⟨a, vs, h1, h2, h3⟩ := s.lst e1
    rw [h1] at q1
    cases q1
    exact ⟨b, vs, rfl, .inl (SqL.of h2), k.lst s h3 q⟩
theorem b_tuple : CallR X (.type "tuple") (rlOf X.K rTuple) := rlI L2.call_tuple_of fun xs H Q ⟨m, S, ds, R, s, rx, h, k⟩ => by
  match ds, h, rx with
  | [.tup ys], h, rx =>
    obtain ⟨v, rfl, a, vs, rfl, hT, rs⟩ := reps1 rx
    exact ⟨a, vs, rfl, .inr ⟨hT.sqT, k _ (.tup ys) H S m (Ext.refl _ _) s ⟨a, vs, rfl, hT, rs⟩ h⟩⟩
  | [.rol ys], h, rx =>
    obtain ⟨v, rfl, a, vs, rfl, hT, rs⟩ := reps1 rx
    exact ⟨a, vs, rfl, .inl ⟨hT.seq, k.tup s rs h⟩⟩
  | [.ref n], h, rx =>
    obtain ⟨v, rfl, b, q1, rfl⟩ := reps1 rx
    obtain ⟨ys, e1, q⟩ := isLst_iff.mp h
    obtain ⟨a, vs, h1, h2, h3⟩ := s.lst e1
    rw [h1] at q1
    cases q1
    exact ⟨b, vs, rfl, .inl ⟨SqL.of h2, k.tup s h3 q⟩⟩
theorem b_all (hc : X.calm = true) : CallR X (.builtin "all") (rlOf X.K rAll) := rlI (L2.cr_all hc) fun xs H Q ⟨m, S, ds, R, s, rx, h, k⟩ => by
  match ds, h, rx with
  | [.ref n], h, rx =>
    obtain ⟨v, rfl, b, q1, rfl⟩ := reps1 rx
    obtain ⟨bs, e1, q⟩ := h
    obtain ⟨a, vs, h1, h2, h3⟩ := s.lst e1
    rw [h1] at q1
    cases q1
    exact ⟨b, bs, rfl, by rw [← h3.bls]; exact SqL.of h2, k _ (.bl (bs.all id)) H S m (Ext.refl _ _) s rfl q⟩
theorem b_any (hc : X.calm = true) : CallR X (.builtin "any") (rlOf X.K rAny) := rlI (L2.cr_any hc) fun xs H Q ⟨m, S, ds, R, s, rx, h, k⟩ => by
  match ds, h, rx with
  | [.ref n], h, rx =>
    obtain ⟨v, rfl, b, q1, rfl⟩ := reps1 rx
    obtain ⟨bs, e1, q⟩ := h
    obtain ⟨a, vs, h1, h2, h3⟩ := s.lst e1
    rw [h1] at q1
    cases q1
    exact ⟨b, bs, rfl, by rw [← h3.bls]; exact SqL.of h2, k _ (.bl (bs.any id)) H S m (Ext.refl _ _) s rfl q⟩
theorem b_gcd : CallR X (.builtin "math.gcd") (rlOf X.K rGcd) := rlI L2.cr_gcd fun xs H Q ⟨m, S, ds, R, s, rx, h, k⟩ => by
  match ds, h, rx with
  | [.int i, .int j], h, rx =>
    obtain ⟨v, u, rfl, hv, hu⟩ := reps2 rx
    have hv : v = .int i := hv
    have hu : u = .int j := hu
    subst hv hu
    exact ⟨i, j, rfl, k _ (.int (Nat.gcd i.natAbs j.natAbs : Nat)) H S m (Ext.refl _ _) s rfl h⟩
theorem kit5 {K : PySem.W.Frag} {a t : String} {b : Bool} (h : (["bool", "int", "str", "tuple", "list"].all fun t => decide (L2.kitB a t = some (if t = a then true else if (a, t) = ("bool", "int") then true else false))) = true) (ht : t ∈ ["bool", "int", "str", "tuple", "list"])
    (hb : b = (if t = a then true else if (a, t) = ("bool", "int") then true else false)) : PySem.W.kitOne K (.type a) (.type t) = some b := by
  refine L2.kit_ty ?_
  rw [hb]
  exact of_decide_eq_true (List.all_eq_true.mp h t ht)
theorem b_isi : CallR X (.builtin "isinstance") (rlOf X.K rIsi) := rlI L2.call_isi fun xs H Q ⟨m, S, ds, R, s, rx, h, k⟩ => by
  match ds, h, rx with
  | [d, .ty t], ⟨b, hb, q⟩, rx =>
    obtain ⟨v, u, rfl, hv, hu⟩ := reps2 rx
    have hu : u = .ty t := hu
    subst hu
    have fin : ∀ {T : String}, L2.TyX X.K H v (.type T) → PySem.W.kitOne X.K (.type T) (.type t) = some b → L2.rIsi X.K [v, .ty t] H Q := fun ty e => ⟨v, .ty t, _, _, b, rfl, .ty t, ty, e, k _ (.bl b) H S m (Ext.refl _ _) s rfl q⟩
    cases d with
    | non =>
      have hv : v = .non := hv
      subst hv
      have hb : (if t ∈ ["bool", "int", "str", "tuple", "list"] then some false else none) = some b := hb
      split at hb
      · rename_i ht
        cases hb
        refine fin (.base .non) ?_
        simp at ht
        rcases ht with rfl | rfl | rfl | rfl | rfl
        · exact kit5 (by decide +kernel) (by decide) (by decide)
        · exact kit5 (by decide +kernel) (by decide) (by decide)
        · exact kit5 (by decide +kernel) (by decide) (by decide)
        · exact kit5 (by decide +kernel) (by decide) (by decide)
        · exact kit5 (by decide +kernel) (by decide) (by decide)
      · cases hb
    | bl c =>
      have hv : v = .bl c := hv
      subst hv
      have hb : (if t ∈ ["bool", "int"] then some true else if t ∈ ["str", "tuple", "list"] then some false else none) = some b := hb
      refine fin (.base (.bl c)) ?_
      split at hb
      · rename_i ht
        cases hb
        simp at ht
        rcases ht with rfl | rfl
        · exact kit5 (by decide +kernel) (by decide) (by decide)
        · exact kit5 (by decide +kernel) (by decide) (by decide)
      · split at hb
        · rename_i ht
          cases hb
          simp at ht
          rcases ht with rfl | rfl | rfl
          · exact kit5 (by decide +kernel) (by decide) (by decide)
          · exact kit5 (by decide +kernel) (by decide) (by decide)
          · exact kit5 (by decide +kernel) (by decide) (by decide)
        · cases hb
    | int c =>
      have hv : v = .int c := hv
      subst hv
      have hb : (if t = "int" then some true else if t ∈ ["bool", "str", "tuple", "list"] then some false else none) = some b := hb
      refine fin (.base (.int c)) ?_
      split at hb
      · rename_i ht
        cases hb
        subst ht
        exact kit5 (by decide +kernel) (by decide) (by decide)
      · split at hb
        · rename_i ht
          cases hb
          simp at ht
          rcases ht with rfl | rfl | rfl | rfl
          · exact kit5 (by decide +kernel) (by decide) (by decide)
          · exact kit5 (by decide +kernel) (by decide) (by decide)
          · exact kit5 (by decide +kernel) (by decide) (by decide)
          · exact kit5 (by decide +kernel) (by decide) (by decide)
        · cases hb
    | str c =>
      have hv : v = .str c := hv
      subst hv
      have hb : (if t = "str" then some true else if t ∈ ["bool", "int", "tuple", "list"] then some false else none) = some b := hb
      refine fin (.base (.str c)) ?_
      split at hb
      · rename_i ht
        cases hb
        subst ht
        exact kit5 (by decide +kernel) (by decide) (by decide)
      · split at hb
        · rename_i ht
          cases hb
          simp at ht
          rcases ht with rfl | rfl | rfl | rfl
          · exact kit5 (by decide +kernel) (by decide) (by decide)
          · exact kit5 (by decide +kernel) (by decide) (by decide)
          · exact kit5 (by decide +kernel) (by decide) (by decide)
          · exact kit5 (by decide +kernel) (by decide) (by decide)
        · cases hb
    | tup c =>
      obtain ⟨a, vs, rfl, hT, rs⟩ := hv
      have hb : (if t = "tuple" then some true else if t ∈ ["bool", "int", "str", "list"] then some false else none) = some b := hb
      have ty : L2.TyX X.K H (.ref a) (.type "tuple") := by
        rcases hT.sqT with (hT | ⟨o, hT⟩) | ⟨o, its, n, h1, h2, _⟩
        · exact .base (.tup hT)
        · exact .fTuple hT
        · exact .kTuple h1 h2
      refine fin ty ?_
      split at hb
      · rename_i ht
        cases hb
        subst ht
        exact kit5 (by decide +kernel) (by decide) (by decide)
      · split at hb
        · rename_i ht
          cases hb
          simp at ht
          rcases ht with rfl | rfl | rfl | rfl
          · exact kit5 (by decide +kernel) (by decide) (by decide)
          · exact kit5 (by decide +kernel) (by decide) (by decide)
          · exact kit5 (by decide +kernel) (by decide) (by decide)
          · exact kit5 (by decide +kernel) (by decide) (by decide)
        · cases hb
    | _ => cases (show (none : Option Bool) = some b from hb)
end
end DL
set_option Elab.async false
set_option linter.all false
set_option maxRecDepth 100000
set_option maxHeartbeats 8000000
/-! DL7: sums, greatest and least, sorting, sorted sets of ints, methods of lists, stores. -/
namespace L2
open PySem PySem.Spec PyProof.Rows
section
variable {P : Program} {w : World} {A : Around} {E : Value → Shared → Prop} {s : Shared}
theorem set_ints_list {l : Addr} {items : Array Value} (ns : List Int) {Q : Value → Shared → Prop} (hh : A.handled = none) (hl : s.heap.IsList l items) (hit : IntsAre items.toList ns) (hb : ns.length + 1 < scanBound)
    (h : ∀ (h' : Heap) (tk c : Nat), SetR w h' s.heap.objs.size (fun j => decide (j ∈ ns)) c → c ≤ ns.length → (∀ b o, s.heap.get? b = some o → h'.get? b = some o) → Q (.ref s.heap.objs.size) { s with heap := h', toks := tk }) :
    wpAny (model P w) A (call (.type "set") [.ref l]) Q E s := by
  have hisz : items.size = ns.length := by
    have q := IntsAre.length hit
    rw [Array.length_toList] at q
    exact q
  obtain ⟨c, tl, hmro⟩ := F.called_set.mro
  have hmade := F.called_set.made
  have hsub := F.called_set.sub
  refine wpAny_call (codeAny_of_tree ?_)
  show wpAny _ _ (callAny (.type "set") _) _ _ _
  refine wpAny_pure ⟨Code.quiet_builtin _ (by decide +kernel), codeAny_builtin F.entry_type_call ?_⟩
  rw [Around.under_plain (weight_type_call_type "set" [.ref l] []) rfl]
  have h1 := F.called_set.notType
  have h2 := F.called_set.canCreate
  have hct := F.typeCall_set_1 (.ref l)
  repeat (any_goals (first | assumption | wp_step))

  refine codeAny_mono (code_set_led1 (.ref l) (E := E) (Q₁ := fun obj s₁ => obj = .ref s.heap.objs.size ∧ s₁ = { s with heap := s.heap.push { cls := .type "set", dict := none, data := .set #[] 0 (.fresh 0 0 (!w.params.followText "set-order")) } }) ⟨rfl, rfl⟩) fun r s₁ hr => ?_
  cases r with
  | error e => exact hr
  | ok fl =>
    cases fl with
    | ret obj =>
      obtain ⟨rfl, rfl⟩ := hr
      have hS : (s.heap.push { cls := .type "set", dict := none, data := .set #[] 0 (.fresh 0 0 (!w.params.followText "set-order")) }).get? s.heap.objs.size = some { cls := .type "set", dict := none, data := .set #[] 0 (.fresh 0 0 (!w.params.followText "set-order")) } := Heap.get?_push_size _ rfl
      have hT : Shared.TypeIs { s with heap := s.heap.push { cls := .type "set", dict := none, data := .set #[] 0 (.fresh 0 0 (!w.params.followText "set-order")) } } (.ref s.heap.objs.size) "set" := ⟨_, hS, rfl⟩
      have hli := F.called_set.init.lookup
      have hbi := F.called_set.init.bind (.ref s.heap.objs.size)
      repeat (any_goals (first | assumption | wp_step))

      refine codeAny_mono (codeAny_call_builtin (R := wants (fun r s₂ => r = .none ∧ ∃ h' tk c, s₂ = { s with heap := h', toks := tk } ∧ SetR w h' s.heap.objs.size (fun j => decide (j ∈ ns)) c ∧ c ≤ ns.length ∧
          (∀ b o, s.heap.get? b = some o → h'.get? b = some o)) E) F.called_set.init.plain F.entry_set_init (check_set_init_1 hT ?_)) fun r₂ s₂ hr₂ => ?_
      · obtain ⟨ol, hol, hcl, nl, hdl⟩ := hl
        obtain ⟨ocls, odict, odata, oslots⟩ := ol
        simp only at hcl hdl
        subst hcl; subst hdl
        have hol' : (s.heap.push { cls := .type "set", dict := none, data := .set #[] 0 (.fresh 0 0 (!w.params.followText "set-order")) }).get? l = some { cls := .type "list", dict := odict, data := .seq items nl, slots := oslots } := Heap.get?_push_of_some _ hol
        have hsls := F.sub_list_set
        have hslf := F.sub_list_frozenset
        have hne : (Value.type "list" == Value.type "dict") = false := by decide
        have hl1 : (s.heap.push { cls := .type "set", dict := none, data := .set #[] 0 (.fresh 0 0 (!w.params.followText "set-order")) }).IsList l items := ⟨_, hol', rfl, nl, rfl⟩
        unfold Builtin.«set.__init__» noKeywords Builtin.Frozenset.updateFrom
        generalize hPI : pyIter = PI
        wp_walk
        subst hPI

        refine wpAny_pyIter_list hl1 ?_
        refine wpAny_bind (wpAny_runValue ?_)
        have hlS : l < s.heap.objs.size := Heap.lt_size hol
        have hh3 : A.in1.in1.in1.handled = none := by simp [hh]
        have hz1 : (s.heap.push { cls := .type "set", dict := none, data := .set #[] 0 (.fresh 0 0 (!w.params.followText "set-order")) }).objs.size = s.heap.objs.size + 1 := Heap.size_push ..
        have hneI : l ≠ (s.heap.push { cls := .type "set", dict := none, data := .set #[] 0 (.fresh 0 0 (!w.params.followText "set-order")) }).objs.size := by
          rw [Heap.size_push]; exact Nat.ne_of_lt (Nat.lt_succ_of_lt hlS)
        have hSf : s.heap.objs.size ∉ [(s.heap.push { cls := .type "set", dict := none, data := .set #[] 0 (.fresh 0 0 (!w.params.followText "set-order")) }).objs.size, l] := by
          rw [Heap.size_push]; simp only [List.mem_cons, List.mem_singleton, List.not_mem_nil, or_false, not_or]
          exact ⟨Nat.ne_of_lt (Nat.lt_succ_self _), Nat.ne_of_gt hlS⟩
        have hval : ∀ (i : Nat) (v : Value), items[i]? = some v → ∃ k t, ns[i]? = some k ∧ v = .int k t := fun i v hv => by
          have hi : i < ns.length := by rw [← hisz]; exact (Array.getElem?_eq_some_iff.mp hv).1
          obtain ⟨t, e⟩ := PyProof.Rows.IntsAre.int_at hit i v (by rw [Array.getElem?_toList]; exact hv)
          refine ⟨ns[i], t, List.getElem?_eq_getElem hi, ?_⟩
          rw [e, List.getD_eq_getElem?_getD, List.getElem?_eq_getElem hi] <;> rfl
        refine set_update_ints ((Walks.list hh3 _ l hneI items).toS) s.heap.objs.size
          hSf ns hisz hb hval (items.size - 0) 0 _ (by omega) (Nat.zero_le _)
          ⟨⟨_, Heap.get?_push_size _ rfl, rfl, rfl⟩, (hl1.push _)⟩ ?hS0 ?hR
        case hS0 =>
          have hget : ((s.heap.push { cls := .type "set", dict := none, data := .set #[] 0 (.fresh 0 0 (!w.params.followText "set-order")) }).push { cls := .type "list_iterator", data := .fields #[.ref l, .int 0 0] }).get? s.heap.objs.size
              = some { cls := .type "set", dict := none, data := .set #[] 0 (.fresh 0 0 (!w.params.followText "set-order")) } := Heap.get?_push_of_some _ hS
          exact ⟨0, Nat.le_refl 0, setR_new_at hget⟩
        case hR =>
          intro s' c' hm hc' hS'
          obtain ⟨h', g2, d', tk', os'⟩ := s'
          have eg : g2 = s.gens := hm.gens
          have ed : d' = s.drawn := hm.drawn
          have eo : os' = s.os := hm.os
          subst eg; subst ed; subst eo
          show wpAny _ _ _ _ _ _
          refine wpAny_pure ?_
          show wpAny _ _ (ret Value.none) _ _ _
          rw [hisz] at hc'
          refine wpAny_pure ⟨rfl, h', tk', c', rfl, hS', hc', fun b o e => ?_⟩
          have hb0 : b < s.heap.objs.size := Heap.lt_size e
          have hb1 : b ≠ s.heap.objs.size := Nat.ne_of_lt hb0
          have hb2 : b ≠ (s.heap.push { cls := .type "set", dict := none, data := .set #[] 0 (.fresh 0 0 (!w.params.followText "set-order")) }).objs.size := by
            rw [Heap.size_push]; exact Nat.ne_of_lt (Nat.lt_succ_of_lt hb0)
          exact hm.heap b o (by simp only [List.mem_cons, List.mem_singleton, List.not_mem_nil, or_false, not_or]; exact ⟨hb1, hb2⟩) (Heap.get?_push_of_some _ (Heap.get?_push_of_some _ e))

      · cases r₂ with
        | error e => exact hr₂
        | ok fl₂ =>
          cases fl₂ with
          | ret r =>
            obtain ⟨rfl, h', tk, c', rfl, hS', hc', hk'⟩ := hr₂
            repeat (any_goals (first | assumption | wp_step))
            exact h _ _ _ hS' hc' hk'
          | _ => exact hr₂.elim
    | _ => exact hr.elim

end
end L2
namespace DL
open PySem PySem.Spec
open L2 (V Hp HO St TE TT TA TS TG TI TO PE PT PW PA PS PSs PG PI PO Cx Inv RelV Vals SqL SqT Rd upd upd_same upd_ne ne_of ne_of_none OpR UnR CallR MtR IxR SlR It thn)
section
variable {X : Cx}
theorem sum_tup (hc : X.calm = true) : CallR X (.builtin "sum") (fun xs H Q => ∃ (a : Addr) (ns : List Int), xs = [V.ref a] ∧ SqT X.K H a (ns.map V.int) ∧ Q (.int ns.sum) H) := by
  intro pins s σ H xs us Q I r h
  obtain ⟨a, ns, rfl, hT, q⟩ := h
  rw [L2.Vals.ref1 r]
  obtain ⟨its, rv, pt, _⟩ := I.tuple hT
  have hi := L2.Vals.ints rv
  obtain ⟨zs, e⟩ := hi.allInts.items
  have hn : numsOf (intItems zs).toList = ns := by rw [← e]; exact hi.numsOf
  rw [nums_intItems] at hn
  have pt' : s.heap.IsTuple a (intItems zs) := by rw [← e]; exact pt
  refine PySem.W.ktm_sumG (I.ok.hd hc) pt' fun h' tk t' hk => ?_
  have e2 : preSum (numAt zs) zs.size = ns.sum := by rw [preSum_eq, List.take_of_length_le (by simp), hn]
  rw [e2]
  exact ⟨.int ns.sum, H, I.kept (h' := h') (t' := tk) hk, ⟨t', rfl⟩, q⟩
theorem itemsAt_rep {K : PySem.W.Frag} {H : Hp} {m : List Addr} {S : Sto} {d : D} {v : V} {xs : List D} (s : RepS K H m S) (r : Rep K H m d v) (h : itemsAt d S = some xs) : (∃ a vs, v = .ref a ∧ SqL K H a vs ∧ Reps K H m xs vs) ∨ ∃ a vs, v = .ref a ∧ SqT K H a vs ∧ Reps K H m xs vs := by
  cases d with
  | tup ys =>
    have h : some ys = some xs := h
    cases h
    obtain ⟨a, vs, rfl, hT, rs⟩ := r
    exact .inr ⟨a, vs, rfl, hT.sqT, rs⟩
  | ref n =>
    obtain ⟨a, ha, rfl⟩ := r
    have h : (match S[n]? with
      | some (.lst xs) => some xs
      | _ => none) = some xs := h
    split at h
    · rename_i ys hy
      cases h
      obtain ⟨b, vs, h1, h2, h3⟩ := s.lst hy
      rw [ha] at h1
      cases h1
      exact .inl ⟨a, vs, rfl, SqL.of h2, h3⟩
    · cases h
  | _ => cases (show (none : Option (List D)) = some xs from h)
theorem b_sum (hc : X.calm = true) : CallR X (.builtin "sum") (rlOf X.K rSum) := rlI ((L2.cr_sum hc).or (sum_tup hc)) fun xs H Q ⟨m, S, ds, R, s, rx, h, k⟩ => by
  match ds, h, rx with
  | [d], ⟨ns, h1, q⟩, rx =>
    obtain ⟨v, rfl, hv⟩ := reps1 rx
    rcases itemsAt_rep s hv h1 with ⟨a, vs, rfl, hL, rs⟩ | ⟨a, vs, rfl, hL, rs⟩
    · exact .inl ⟨a, ns, rfl, by rw [← rs.ints]; exact hL, k _ (.int ns.sum) H S m (Ext.refl _ _) s rfl q⟩
    · exact .inr ⟨a, ns, rfl, by rw [← rs.ints]; exact hL, k _ (.int ns.sum) H S m (Ext.refl _ _) s rfl q⟩

theorem readsI {h : Heap} : ∀ {us : List Value} {ns : List Int}, PyProof.Rows.IntsAre us ns → ReadsAll h us (ns.map PyData.int) []
  | _, _, .nil => .nil
  | _, _, .cons n t r => by
    have := ReadsAll.cons (h := h) (Reads.int n t) (readsI r)
    simpa using this
theorem alike_all_ints (ns : List Int) : PySem.W.AlikeAll (ns.map PyData.int) := by
  refine ⟨fun x hx y hy => ?_, fun x hx z => ?_⟩
  · obtain ⟨a, _, rfl⟩ := List.mem_map.mp hx
    obtain ⟨b, _, rfl⟩ := List.mem_map.mp hy
    simp [PySem.W.alike]
  · obtain ⟨a, _, rfl⟩ := List.mem_map.mp hx
    cases z
theorem fold_max : ∀ (ns : List Int) (n : Int), (ns.foldl max n = n ∨ ns.foldl max n ∈ ns) ∧ n ≤ ns.foldl max n ∧ ∀ y ∈ ns, y ≤ ns.foldl max n
  | [], n => ⟨.inl rfl, Int.le_refl _, fun y hy => nomatch hy⟩
  | a :: ns, n => by
    obtain ⟨h1, h2, h3⟩ := fold_max ns (max n a)
    rw [List.foldl_cons]
    refine ⟨?_, by omega, fun y hy => ?_⟩
    · rcases h1 with h1 | h1
      · rw [h1]
        by_cases c : n ≤ a
        · exact .inr (by rw [Int.max_eq_right c]; exact List.mem_cons_self)
        · exact .inl (Int.max_eq_left (by omega))
      · exact .inr (List.mem_cons_of_mem _ h1)
    · rcases List.mem_cons.mp hy with rfl | hy
      · omega
      · exact h3 y hy
theorem fold_min : ∀ (ns : List Int) (n : Int), (ns.foldl min n = n ∨ ns.foldl min n ∈ ns) ∧ ns.foldl min n ≤ n ∧ ∀ y ∈ ns, ns.foldl min n ≤ y
  | [], n => ⟨.inl rfl, Int.le_refl _, fun y hy => nomatch hy⟩
  | a :: ns, n => by
    obtain ⟨h1, h2, h3⟩ := fold_min ns (min n a)
    rw [List.foldl_cons]
    refine ⟨?_, by omega, fun y hy => ?_⟩
    · rcases h1 with h1 | h1
      · rw [h1]
        by_cases c : a ≤ n
        · exact .inr (by rw [Int.min_eq_right c]; exact List.mem_cons_self)
        · exact .inl (Int.min_eq_left (by omega))
      · exact .inr (List.mem_cons_of_mem _ h1)
    · rcases List.mem_cons.mp hy with rfl | hy
      · omega
      · exact h3 y hy
theorem depth_ints : ∀ ns : List Int, PyData.depthAll (ns.map PyData.int) = 0
  | [] => rfl
  | n :: ns => by
    show max 0 (PyData.depthAll (ns.map PyData.int)) = 0
    rw [depth_ints ns]
    rfl
theorem max_tup {kk : Nat} (hc : X.calm = true) (hr : L2.Room kk X.A) : CallR X (.builtin "max") (fun xs H Q => ∃ (a : Addr) (ns : List Int), xs = [V.ref a] ∧ SqT X.K H a (ns.map V.int) ∧ 0 < ns.length ∧ ∀ m, m ∈ ns → (∀ y, y ∈ ns → y ≤ m) → Q (.int m) H) := by
  intro pins s σ H xs us Q I r h
  obtain ⟨a, ns, rfl, hT, hn, q⟩ := h
  rw [L2.Vals.ref1 r]
  obtain ⟨its, rv, pt, _⟩ := I.tuple hT
  have hi := L2.Vals.ints rv
  cases ns with
  | nil => exact absurd hn (Nat.lt_irrefl 0)
  | cons n ns =>
    refine PySem.W.max_tuple_data (I.ok.hd hc) (show s.heap.IsTuple a its.toArray from pt) (x := .int n) (xs := ns.map PyData.int) (as := []) (by simpa using readsI hi) (alike_all_ints (n :: ns)) ?_ fun i v h' tk bs _ rd hk => ?_
    · have e := depth_ints (n :: ns)
      rw [List.map_cons] at e
      rw [e]
      have := hr.un
      omega
    · rw [PySem.W.maxD_ints] at rd
      obtain ⟨h1, h2, h3⟩ := fold_max ns n
      cases rd with
      | int _ t =>
        refine ⟨.int (ns.foldl max n), H, I.kept (h' := h') (t' := tk) hk, ⟨t, rfl⟩, q _ ?_ fun y hy => ?_⟩
        · rcases h1 with h1 | h1
          · rw [h1]; exact List.mem_cons_self
          · exact List.mem_cons_of_mem _ h1
        · rcases List.mem_cons.mp hy with rfl | hy
          · exact h2
          · exact h3 y hy
theorem min_tup {kk : Nat} (hc : X.calm = true) (hr : L2.Room kk X.A) : CallR X (.builtin "min") (fun xs H Q => ∃ (a : Addr) (ns : List Int), xs = [V.ref a] ∧ SqT X.K H a (ns.map V.int) ∧ 0 < ns.length ∧ ∀ m, m ∈ ns → (∀ y, y ∈ ns → m ≤ y) → Q (.int m) H) := by
  intro pins s σ H xs us Q I r h
  obtain ⟨a, ns, rfl, hT, hn, q⟩ := h
  rw [L2.Vals.ref1 r]
  obtain ⟨its, rv, pt, _⟩ := I.tuple hT
  have hi := L2.Vals.ints rv
  cases ns with
  | nil => exact absurd hn (Nat.lt_irrefl 0)
  | cons n ns =>
    refine PySem.W.min_tuple_data (I.ok.hd hc) (show s.heap.IsTuple a its.toArray from pt) (x := .int n) (xs := ns.map PyData.int) (as := []) (by simpa using readsI hi) (alike_all_ints (n :: ns)) ?_ fun i v h' tk bs _ rd hk => ?_
    · have e := depth_ints (n :: ns)
      rw [List.map_cons] at e
      rw [e]
      have := hr.un
      omega
    · rw [PySem.W.minD_ints] at rd
      obtain ⟨h1, h2, h3⟩ := fold_min ns n
      cases rd with
      | int _ t =>
        refine ⟨.int (ns.foldl min n), H, I.kept (h' := h') (t' := tk) hk, ⟨t, rfl⟩, q _ ?_ fun y hy => ?_⟩
        · rcases h1 with h1 | h1
          · rw [h1]; exact List.mem_cons_self
          · exact List.mem_cons_of_mem _ h1
        · rcases List.mem_cons.mp hy with rfl | hy
          · exact h2
          · exact h3 y hy
theorem b_max {kk : Nat} (hc : X.calm = true) (hr : L2.Room kk X.A) : CallR X (.builtin "max") (rlOf X.K rMax) := rlI ((L2.cr_max hc).or (max_tup hc hr)) fun xs H Q ⟨m, S, ds, R, s, rx, h, k⟩ => by
  match ds, h, rx with
  | [d], ⟨ns, h1, h2, q⟩, rx =>
    obtain ⟨v, rfl, hv⟩ := reps1 rx
    rcases itemsAt_rep s hv h1 with ⟨a, vs, rfl, hL, rs⟩ | ⟨a, vs, rfl, hL, rs⟩
    · exact .inl ⟨a, ns, rfl, by rw [← rs.ints]; exact hL, h2, fun n hn hy => k _ (.int n) H S m (Ext.refl _ _) s rfl (q n hn hy)⟩
    · exact .inr ⟨a, ns, rfl, by rw [← rs.ints]; exact hL, h2, fun n hn hy => k _ (.int n) H S m (Ext.refl _ _) s rfl (q n hn hy)⟩
theorem b_min {kk : Nat} (hc : X.calm = true) (hr : L2.Room kk X.A) : CallR X (.builtin "min") (rlOf X.K rMin) := rlI ((L2.cr_min hc).or (min_tup hc hr)) fun xs H Q ⟨m, S, ds, R, s, rx, h, k⟩ => by
  match ds, h, rx with
  | [d], ⟨ns, h1, h2, q⟩, rx =>
    obtain ⟨v, rfl, hv⟩ := reps1 rx
    rcases itemsAt_rep s hv h1 with ⟨a, vs, rfl, hL, rs⟩ | ⟨a, vs, rfl, hL, rs⟩
    · exact .inl ⟨a, ns, rfl, by rw [← rs.ints]; exact hL, h2, fun n hn hy => k _ (.int n) H S m (Ext.refl _ _) s rfl (q n hn hy)⟩
    · exact .inr ⟨a, ns, rfl, by rw [← rs.ints]; exact hL, h2, fun n hn hy => k _ (.int n) H S m (Ext.refl _ _) s rfl (q n hn hy)⟩
/-! methods, stores -/
theorem refL {K : PySem.W.Frag} {H : Hp} {m : List Addr} {S : Sto} {n : Nat} {x : V} {P : List D → Prop} (s : RepS K H m S) (r : Rep K H m (.ref n) x) (h : isLst S n P) : ∃ a vs xs, x = .ref a ∧ m[n]? = some a ∧ H a = some (.lst vs) ∧ Reps K H m xs vs ∧ S[n]? = some (.lst xs) ∧ P xs := by
  obtain ⟨xs, e1, q⟩ := isLst_iff.mp h
  obtain ⟨a, vs, h1, h2, h3⟩ := s.lst e1
  obtain ⟨b, q1, rfl⟩ := r
  rw [h1] at q1
  cases q1
  exact ⟨_, vs, xs, rfl, h1, h2, h3, e1, q⟩
theorem m_append : MtR X "list.append" (rmOf X.K rAppend) := rmI L2.mt_append fun x xs H Q ⟨m, S, d, ds, R, s, rx, rs, h, k⟩ => by
  match d, ds, h, rx, rs with
  | .ref n, [d], h, rx, rs =>
    obtain ⟨a, vs, ys, rfl, h1, h2, h3, e1, hz, q⟩ := refL s rx h
    obtain ⟨v, rfl, hv⟩ := reps1 rs
    exact ⟨a, vs, v, rfl, rfl, h2, by rw [h3.len, ← szL']; exact hz, k.put s e1 h1 h2 (h3.app (Reps.one hv)) (d := .non) rfl q⟩
theorem m_pop : MtR X "list.pop" (rmOf X.K rPop) := rmI L2.mt_pop fun x xs H Q ⟨m, S, d, ds, R, s, rx, rs, h, k⟩ => by
  match d, ds, h, rx, rs with
  | .ref n, [], h, rx, rs =>
    obtain ⟨a, vs, ys, rfl, h1, h2, h3, e1, d, hd, q⟩ := refL s rx h
    obtain ⟨v, g1, g2⟩ := h3.get _ _ hd
    exact ⟨a, vs, v, rfl, rs, h2, by rw [h3.len]; exact g1, k.put s e1 h1 h2 h3.dropLast g2 q⟩
theorem ixZ_seq {n : Nat} {i : Int} {j : Nat} (h : ixZ n i = some j) : seqIndex? i n = some j ∧ j < n ∧ -(n : Int) ≤ i ∧ i < n := L2.ixN_seq h
theorem m_popAt : MtR X "list.pop" (rmOf X.K rPopAt) := rmI L2.mt_popAt fun x xs H Q ⟨m, S, d, ds, R, s, rx, rs, h, k⟩ => by
  match d, ds, h, rx, rs with
  | .ref n, [.int i], h, rx, rs =>
    obtain ⟨a, vs, ys, rfl, h1, h2, h3, e1, ⟨i0, i1⟩, j, d, hj, hd, q⟩ := refL s rx h
    obtain ⟨v, rfl, hv⟩ := reps1 rs
    have hv : v = .int i := hv
    subst hv
    obtain ⟨u, g1, g2⟩ := h3.get _ _ hd
    obtain ⟨p1, p2, p3, p4⟩ := ixZ_seq hj
    exact ⟨a, vs, i, j, u, rfl, rfl, h2, i0, i1, by rw [h3.len]; exact p1, g1, k.put s e1 h1 h2 (h3.erase j) g2 q⟩
theorem m_reverse : MtR X "list.reverse" (rmOf X.K rReverse) := rmI L2.mt_reverse fun x xs H Q ⟨m, S, d, ds, R, s, rx, rs, h, k⟩ => by
  match d, ds, h, rx, rs with
  | .ref n, [], h, rx, rs =>
    obtain ⟨a, vs, ys, rfl, h1, h2, h3, e1, q⟩ := refL s rx h
    exact ⟨a, vs, rfl, rs, h2, k.put s e1 h1 h2 h3.rev (d := .non) rfl q⟩
theorem m_insert : MtR X "list.insert" (rmOf X.K rInsert) := rmI L2.mt_insert fun x xs H Q ⟨m, S, d, ds, R, s, rx, rs, h, k⟩ => by
  match d, ds, h, rx, rs with
  | .ref n, [.int i, d], h, rx, rs =>
    obtain ⟨a, vs, ys, rfl, h1, h2, h3, e1, hz, ⟨i0, i1⟩, q⟩ := refL s rx h
    obtain ⟨v, u, rfl, hv, hu⟩ := reps2 rs
    have hv : v = .int i := hv
    subst hv
    exact ⟨a, vs, i, u, rfl, rfl, h2, by rw [h3.len, ← szL']; exact hz, i0, i1, k.put s e1 h1 h2 (((h3.take _).app (Reps.one hu)).app (h3.drop _)) (d := .non) rfl q⟩
theorem p_put : L2.PSet X (rpOf X.K rPut) := fun pins s σ H o i v ov iv u Q I ro ri rv ⟨m, S, x, j, d, R, hs, rx, rk, rd, h, k⟩ => by
  match x, j, h, rx, rk with
  | .ref n, .int z, h, rx, rk =>
    obtain ⟨a, vs, ys, rfl, h1, h2, h3, e1, jj, hj, q⟩ := refL hs rx h
    have rk : i = .int z := rk
    subst rk
    refine L2.set_list pins s σ H (.ref a) (.int z) v ov iv u Q I ro ri rv ⟨a, vs, z, jj, rfl, rfl, h2, by rw [h3.len]; exact hj, ?_⟩
    exact k _ _ m (Ext.wrote (List.mem_of_getElem? h1) h2 rfl) (hs.set e1 h1 (h3.set jj rd)) q

/-! sorting -/
mutual
theorem akin_eq : ∀ a b : D, akin a b = true → PySem.W.alike (toPy a) (toPy b) = true
  | .int _, .int _, _ => by simp [toPy, PySem.W.alike]
  | .str _, .str _, _ => by simp [toPy, PySem.W.alike]
  | .tup xs, .tup ys, h => by
    have := akins_eq xs ys h
    simpa [toPy, PySem.W.alike] using this
  | .non, b, h => by cases b <;> cases (show false = true from h)
  | .bl _, b, h => by cases b <;> cases (show false = true from h)
  | .rol _, b, h => by cases b <;> cases (show false = true from h)
  | .ref _, b, h => by cases b <;> cases (show false = true from h)
  | .ty _, b, h => by cases b <;> cases (show false = true from h)
  | .int _, .non, h | .int _, .bl _, h | .int _, .str _, h | .int _, .tup _, h | .int _, .rol _, h | .int _, .ref _, h | .int _, .ty _, h => by cases (show false = true from h)
  | .str _, .non, h | .str _, .bl _, h | .str _, .int _, h | .str _, .tup _, h | .str _, .rol _, h | .str _, .ref _, h | .str _, .ty _, h => by cases (show false = true from h)
  | .tup _, .non, h | .tup _, .bl _, h | .tup _, .int _, h | .tup _, .str _, h | .tup _, .rol _, h | .tup _, .ref _, h | .tup _, .ty _, h => by cases (show false = true from h)
theorem akins_eq : ∀ a b : List D, akins a b = true → PySem.W.alikeAll (toPys a) (toPys b) = true
  | [], _, _ => by simp [toPys, PySem.W.alikeAll]
  | _ :: _, [], _ => by simp [toPys, PySem.W.alikeAll]
  | x :: xs, y :: ys, h => by
    have h := Bool.and_eq_true_iff.mp (show (akin x y && akins xs ys) = true from h)
    simp [toPys, PySem.W.alikeAll, akin_eq x y h.1, akins_eq xs ys h.2]
end
mutual
theorem lt_eq : ∀ a b : D, flat a = true → flat b = true → akin a b = true → PySem.W.dataLt (toPy a) (toPy b) = ltD a b
  | .int i, .int j, _, _, _ => PySem.W.dataLt_int i j
  | .str i, .str j, _, _, _ => PySem.W.dataLt_str i j
  | .tup xs, .tup ys, f, g, h => by
    show PySem.W.dataLt (.tuple (toPys xs)) (.tuple (toPys ys)) = ltDs xs ys
    rw [PySem.W.dataLt_tuple]
    exact lts_eq xs ys f g h
  | .non, b, _, _, h => by cases b <;> cases (show false = true from h)
  | .bl _, b, _, _, h => by cases b <;> cases (show false = true from h)
  | .rol _, b, _, _, h => by cases b <;> cases (show false = true from h)
  | .ref _, b, _, _, h => by cases b <;> cases (show false = true from h)
  | .ty _, b, _, _, h => by cases b <;> cases (show false = true from h)
  | .int _, .non, _, _, h | .int _, .bl _, _, _, h | .int _, .str _, _, _, h | .int _, .tup _, _, _, h | .int _, .rol _, _, _, h | .int _, .ref _, _, _, h | .int _, .ty _, _, _, h => by cases (show false = true from h)
  | .str _, .non, _, _, h | .str _, .bl _, _, _, h | .str _, .int _, _, _, h | .str _, .tup _, _, _, h | .str _, .rol _, _, _, h | .str _, .ref _, _, _, h | .str _, .ty _, _, _, h => by cases (show false = true from h)
  | .tup _, .non, _, _, h | .tup _, .bl _, _, _, h | .tup _, .int _, _, _, h | .tup _, .str _, _, _, h | .tup _, .rol _, _, _, h | .tup _, .ref _, _, _, h | .tup _, .ty _, _, _, h => by cases (show false = true from h)
theorem lts_eq : ∀ a b : List D, flats a = true → flats b = true → akins a b = true → PyProof.Rows.lexLt PyProof.Rows.itemOrd (PySem.W.keyToksAll (toPys a)) (PySem.W.keyToksAll (toPys b)) = ltDs a b
  | [], [], _, _, _ => PyProof.Rows.lex_irrefl _
  | [], y :: ys, _, _, _ => by
    exact PyProof.Rows.lex_true.mpr (.inl rfl)
  | x :: xs, [], _, _, _ => by
    exact PyProof.Rows.lex_false.mpr ⟨rfl, .inl rfl⟩
  | x :: xs, y :: ys, f, g, h => by
    have f := Bool.and_eq_true_iff.mp (show (flat x && flats xs) = true from f)
    have g := Bool.and_eq_true_iff.mp (show (flat y && flats ys) = true from g)
    have h := Bool.and_eq_true_iff.mp (show (akin x y && akins xs ys) = true from h)
    show PyProof.Rows.lexLt PyProof.Rows.itemOrd (PySem.W.keyToksAll (toPy x :: toPys xs)) (PySem.W.keyToksAll (toPy y :: toPys ys)) = if eqD x y = true then ltDs xs ys else ltD x y
    rw [PySem.W.dataLt_cons (akin_eq x y h.1), eqv_eq x y f.1 g.1, lts_eq xs ys f.2 g.2 h.2, lt_eq x y f.1 g.1 h.1]
end

theorem sort_trans (a b c : D) : PySem.W.dataLe false toPy a b = true → PySem.W.dataLe false toPy b c = true → PySem.W.dataLe false toPy a c = true := by
  rw [PySem.W.dataLe_eq]
  show (!PySem.W.dataLt (toPy b) (toPy a)) = true → (!PySem.W.dataLt (toPy c) (toPy b)) = true → (!PySem.W.dataLt (toPy c) (toPy a)) = true
  intro h1 h2
  cases e : PySem.W.dataLt (toPy c) (toPy a) with
  | false => rfl
  | true =>
    rcases PyProof.Rows.lex_negTrans _ (PySem.W.keyToks (toPy b)) _ e with q | q
    · rw [show PySem.W.dataLt (toPy c) (toPy b) = true from q] at h2; cases h2
    · rw [show PySem.W.dataLt (toPy b) (toPy a) = true from q] at h1; cases h1
theorem sort_total (a b : D) : (PySem.W.dataLe false toPy a b || PySem.W.dataLe false toPy b a) = true := by
  rw [PySem.W.dataLe_eq]
  show ((!PySem.W.dataLt (toPy b) (toPy a)) || (!PySem.W.dataLt (toPy a) (toPy b))) = true
  cases e : PySem.W.dataLt (toPy b) (toPy a) with
  | false => rfl
  | true =>
    cases e2 : PySem.W.dataLt (toPy a) (toPy b) with
    | false => rfl
    | true =>
      have := PyProof.Rows.lex_trans _ _ _ (show PyProof.Rows.lexLt PyProof.Rows.itemOrd (PySem.W.keyToks (toPy b)) (PySem.W.keyToks (toPy a)) = true from e) e2
      rw [PyProof.Rows.lex_irrefl] at this
      cases this
theorem flats_mem : ∀ {xs : List D}, flats xs = true → ∀ a ∈ xs, flat a = true
  | [], _, a, h => nomatch h
  | x :: xs, f, a, h => by
    have f := Bool.and_eq_true_iff.mp (show (flat x && flats xs) = true from f)
    rcases List.mem_cons.mp h with rfl | h
    · exact f.1
    · exact flats_mem f.2 a h
theorem deeps_mem : ∀ {xs : List D} (a : D), a ∈ xs → deep a ≤ deeps xs
  | [], a, h => nomatch h
  | x :: xs, a, h => by
    show deep a ≤ max (deep x) (deeps xs)
    rcases List.mem_cons.mp h with rfl | h
    · exact Nat.le_max_left _ _
    · exact Nat.le_trans (deeps_mem a h) (Nat.le_max_right _ _)
/-- a value that stands for plain data -/
def Stands (K : PySem.W.Frag) (H : Hp) (m : List Addr) (u : Value) (d : D) : Prop := ∃ v, RelV v u ∧ Rep K H m d v
theorem stands_all {K : PySem.W.Frag} {H : Hp} {m : List Addr} : ∀ {ds : List D} {vs : List V} {us : List Value}, Reps K H m ds vs → Vals vs us → PySem.W.EachIs (Stands K H m) us ds
  | [], _, _, r, rv => by
    rw [show _ = ([] : List V) from r] at rv
    cases rv
    exact .nil
  | d :: ds, _, _, ⟨v, r, h1, h2, h3⟩, rv => by
    subst h1
    cases rv with
    | cons a b => exact .cons ⟨v, a, h2⟩ (stands_all h3 b)
theorem stands_back {K : PySem.W.Frag} {H : Hp} {m : List Addr} : ∀ {ds : List D} {us : List Value}, PySem.W.EachIs (Stands K H m) us ds → ∃ vs, Reps K H m ds vs ∧ Vals vs us
  | _, _, .nil => ⟨[], rfl, .nil⟩
  | _, _, .cons ⟨v, h1, h2⟩ t => by
    obtain ⟨vs, g1, g2⟩ := stands_back t
    exact ⟨v :: vs, ⟨v, vs, rfl, h2, g1⟩, .cons h1 g2⟩
theorem toPy_tup {d : D} {x : D} {r : List D} (h : d = .tup (x :: r)) : ∃ y s, toPy d = .tuple (y :: s) := ⟨toPy x, toPys r, by rw [h]; rfl⟩
theorem b_sorted {kk : Nat} (hr : L2.Room kk X.A) : CallR X (.builtin "sorted") (rlOf X.K rSorted) := by
  intro pins s σ H vs us Q I rv ⟨m, S, ds, R, hS, rs, h, k⟩
  match ds, h, rs with
  | [.ref n], h, rs =>
    obtain ⟨v, rfl, hv⟩ := reps1 rs
    obtain ⟨a, ws, xs, rfl, h1, h2, h3, e1, ⟨f, dp, ak, so⟩, q⟩ := refL hS hv h
    rw [L2.Vals.ref1 rv]
    obtain ⟨its, rw', pl, hz⟩ := I.list (SqL.of h2)
    have st := stands_all h3 rw'
    have hm : ∀ b ∈ xs, flat b = true := flats_mem f
    have rd : ∀ {ds : List D} {us : List Value}, PySem.W.EachIs (Stands X.K H m) us ds → (∀ d ∈ ds, flat d = true) → PySem.W.EachIs (fun u d => ∃ as, Reads s.heap u (toPy d) as) us ds := by
      intro ds us e
      induction e with
      | nil => intro _; exact .nil
      | cons h t ih =>
        intro hf
        obtain ⟨v, g1, g2⟩ := h
        exact .cons (L2.Dp.reads I _ _ _ (toPy_dp _ _ (hf _ List.mem_cons_self) g2) g1) (ih fun d hd => hf d (List.mem_cons_of_mem _ hd))
    refine PySem.W.sorted_data (enc := toPy) (bs := xs) (R := Stands X.K H m) pl.isList st (rd st hm) ?_ ?_ (by rw [← h3.len]; exact hz) (fun b hb => ?_) fun out ho eo => ?_
    · intro d hd d' hd'
      obtain ⟨b, hb, rfl⟩ := List.mem_map.mp hd
      obtain ⟨b', hb', rfl⟩ := List.mem_map.mp hd'
      exact akin_eq b b' (ak b hb b' hb')
    · rcases so with so | so
      · refine .inl fun d hd => ?_
        obtain ⟨b, hb, rfl⟩ := List.mem_map.mp hd
        obtain ⟨x, r, e⟩ := so b hb
        exact toPy_tup e
      · refine .inr fun d hd => ?_
        obtain ⟨b, hb, rfl⟩ := List.mem_map.mp hd
        obtain ⟨n1, n2⟩ := so b hb
        have fb := hm b hb
        cases b with
        | non => exact absurd rfl n1
        | tup ys => exact absurd rfl (n2 ys)
        | rol _ => cases (show false = true from fb)
        | ref _ => cases (show false = true from fb)
        | ty _ => cases (show false = true from fb)
        | bl _ => exact ⟨(fun z => nomatch z), (fun _ z => nomatch z)⟩
        | int _ => exact ⟨(fun z => nomatch z), (fun _ z => nomatch z)⟩
        | str _ => exact ⟨(fun z => nomatch z), (fun _ z => nomatch z)⟩
    · rw [deep_eq]
      have := deeps_mem b hb
      have := hr.units
      omega
    · obtain ⟨c, hc⟩ := PyProof.Rows.sortedAll_at s.heap its out.toArray
      obtain ⟨ys, g1, g2⟩ := stands_back eo
      have hp : H (s.heap.objs.size + 1) = none := I.hok.fresh (Nat.le_succ _)
      have perm := List.mergeSort_perm xs (PySem.W.dataLe false toPy)
      have pw := List.pairwise_mergeSort sort_trans sort_total xs
      refine ⟨.ref (s.heap.objs.size + 1), upd H (s.heap.objs.size + 1) (.lst ys), I.laid (t' := s.toks) (fun _ _ => PyProof.Rows.sortedAll_old) (Nat.le_succ _) ⟨?_, out, c, g2, hc⟩, rfl, ?_⟩
      · rw [g1.len, List.length_mergeSort, ← h3.len]
        exact hz
      · refine k.lst hS g1 (q _ perm ?_) _ hp
        refine List.Pairwise.imp_of_mem (fun {x y} hx hy hxy => ?_) pw
        have hx' := perm.mem_iff.mp hx
        have hy' := perm.mem_iff.mp hy
        have hxy : (!PySem.W.dataLt (toPy y) (toPy x)) = true := hxy
        rw [lt_eq y x (hm y hy') (hm x hx') (ak y hy' x hx')] at hxy
        simpa using hxy
/-- set(xs) of ints: tracked beside -/
theorem set_ints (hc : X.calm = true) : CallR X (.type "set") (fun xs H Q => ∃ (a : Addr) (ns : List Int), xs = [V.ref a] ∧ (SqL X.K H a (ns.map V.int) ∨ SqT X.K H a (ns.map V.int)) ∧ ns.length < 60 ∧
    ∀ p c, H p = none → c ≤ ns.length → Q (.ref p) (upd H p (L2.SetO X.w p (fun j => decide (j ∈ ns)) c))) := by
  intro pins s σ H xs us Q I r h
  obtain ⟨a, ns, rfl, hT, hn, q⟩ := h
  rw [L2.Vals.ref1 r]
  have hb : ns.length + 1 < scanBound := by unfold scanBound; omega
  have hp : H s.heap.objs.size = none := I.hok.fresh (Nat.le_refl _)
  rcases hT with hT | hT
  · obtain ⟨its, rv, pt, _⟩ := I.list hT
    refine L2.set_ints_list (items := its.toArray) ns (I.ok.hd hc) pt.isList (by simpa using L2.Vals.ints rv) hb fun h' tk c R hc hk => ?_
    exact ⟨.ref s.heap.objs.size, _, I.laid (t' := tk) hk (Nat.le_refl _) (L2.setO_new R), rfl, q _ c hp hc⟩
  · obtain ⟨its, rv, pt, _⟩ := I.tuple hT
    refine L2.call_set_tupI (items := its.toArray) ns (I.ok.hd hc) (show s.heap.IsTuple a its.toArray from pt) (by simpa using L2.Vals.ints rv) hb fun h' tk c R hc hk => ?_
    exact ⟨.ref s.heap.objs.size, _, I.laid (t' := tk) hk (Nat.le_refl _) (L2.setO_new R), rfl, q _ c hp hc⟩
theorem d_sortedSet {e : Expr} {wa : WE} {p p2 pos pos2 : Pos} (hc : X.calm = true) (hg : L2.Gl X "sorted") (hm : X.mg "sorted" = none) (hg2 : L2.Gl X "set") (hm2 : X.mg "set" = none) (he : PE X e (teOf X.K wa))
    (h1 : starEach [e] X.env = [(false, eval e X.env)] := by rfl) : PE X (.Call (.Name "sorted" p) [.Call (.Name "set" p2) [e] [] pos2] [] pos) (teOf X.K (wSortedSet wa)) :=
  peI (L2.pe_callB (L2.cr_sortedSet hc) hg hm (by decide +kernel) (L2.pa_cons (L2.pe_callTy (set_ints hc) hg2 hm2 (by decide +kernel) (L2.pa_cons he L2.pa_nil h1) (he := h1)) L2.pa_nil)) fun σ H Q ⟨ρ, S, m, R, hE, hS, h, k⟩ =>
    ⟨ρ, S, m, _, hE, hS, h, fun v d H1 S1 m1 e1 s1 r1 ⟨ns, g1, g2, q⟩ => by
      have go : ∀ (a : Addr), v = .ref a → (SqL X.K H1 a (ns.map V.int) ∨ SqT X.K H1 a (ns.map V.int)) → ∃ (a : Addr) (ns' : List Int), [v] = [V.ref a] ∧ (SqL X.K H1 a (ns'.map V.int) ∨ SqT X.K H1 a (ns'.map V.int)) ∧ ns'.length < 60 ∧
          ∀ p c, H1 p = none → c ≤ ns'.length → (L2.tNil σ (upd H1 p (L2.SetO X.w p (fun j => decide (j ∈ ns')) c)) fun xs H2 => L2.rSortedSet X.w (V.ref p :: xs) H2 Q) := by
        rintro a rfl hT
        refine ⟨a, ns, rfl, hT, g2, fun p c hp hcl => ⟨p, _, c, rfl, upd_same, by omega, fun ms p2 pw mem hl hp2 => ?_⟩⟩
        have e2 := e1.trans (Ext.fresh (m := m1) hp (L2.SetO X.w p (fun j => decide (j ∈ ns)) c))
        exact (k.ext e2).lst (s1.fresh hp _) (ds := intD ms) Reps.of_ints (q ms pw fun kk => by rw [mem kk]; simp) p2 hp2
      rcases itemsAt_rep s1 r1 g1 with ⟨a, vs, e, hL, rs⟩ | ⟨a, vs, e, hL, rs⟩
      · exact go a e (.inl (by rw [← rs.ints]; exact hL))
      · exact go a e (.inr (by rw [← rs.ints]; exact hL))⟩
end
end DL
set_option Elab.async false
set_option linter.all false
set_option maxRecDepth 100000
set_option maxHeartbeats 4000000
/-! DL8: defs as they are called. -/
namespace DL
open PySem PySem.Spec
open L2 (V Hp HO St TE TT TA TS TG TI TO PE PT PW PA PS PSs PG PI PO Cx Inv RelV Vals SqL SqT Rd upd upd_same upd_ne ne_of ne_of_none OpR UnR CallR MtR IxR SlR It thn)
/-- the def that stands at the name x: it keeps sp, with k calls within one another -/
structure Callee (P : Program) (w : World) (K : PySem.W.Frag) (mg : Str → Option Value) (base : Heap) (x : Str) (k n : Nat) (sp : Spc) : Prop where
  ex : ∃ (f : Addr) (fd : FuncData) (ps : List Str), L2.FnOk P w K mg base L2.CX0 k f fd ps (spOf K n sp) ∧ mg x = some (.ref f) ∧ PySem.W.keepIn K (.ref f) = true ∧ L2.Binds K fd ps []
theorem Callee.imp {P : Program} {w : World} {K : PySem.W.Frag} {mg : Str → Option Value} {base : Heap} {x : Str} {k n : Nat} {sp sp' : Spc} (C : Callee P w K mg base x k n sp) (h : ∀ ds S Q, sp' ds S Q → sp ds S Q) : Callee P w K mg base x k n sp' := by
  obtain ⟨f, fd, ps, h1, h2, h3, h4⟩ := C.ex
  exact ⟨f, fd, ps, h1.imp fun vs H Q E ⟨m, S, ds, R, a, b, c, d, e⟩ => ⟨m, S, ds, R, a, b, c, h _ _ _ d, e⟩, h2, h3, h4⟩
section
variable {X : Cx} {e : Expr} {es : List Expr} {pos p : Pos} {va : WA}
theorem d_calle {kk k0 n : Nat} {sp : Spc} {x : Str} (C : Callee X.prog X.w X.K X.mg X.base x k0 n sp) (hr : L2.Room kk X.A) (hk : k0 ≤ kk) (hg : L2.Gl X x) (ha : PA X (e :: es) (taOf X.K va)) (hd : (x == ("__debug__" : Str)) = false := by decide)
    (he : starEach (e :: es) X.env = (false, eval e X.env) :: starEach es X.env := by rfl) (hpl : (backTo pos (starEach es X.env)).any (·.1) = false := by rfl) :
    PE X (.Call (.Name x p) (e :: es) [] pos) (teOf X.K (wCall n sp va)) := by
  obtain ⟨f, fd, ps, h1, h2, h3, h4⟩ := C.ex
  exact d_call h1 (hr.mono hk) hg h2 h3 h4 ha hd he hpl
end
section
variable {P : Program} {w : World} {K : PySem.W.Frag} {mg : Str → Option Value} {base : Heap}
theorem callee_of {x : Str} {st : Stmt} {f : Addr} {fd : FuncData} {N ps : List Str} {k n a : Nat} {sp : Spc} {ws : WS} (F : L2.Fun K x x st f fd) (hm : mg x = some (.ref f)) (hb : L2.Binds K fd ps []) (Sc : L2.FnScope N ps (L2.defScope st)) (hn : N.length = n) (ha : ps.length = a)
    (hw : ∀ (cdv : Value) (A : Around) (outer : List PySem.Env) (s : Shared) (H : Hp) (E : L2.XK), L2.Room k (A.deeper (PyProof.Rows.envOfC x (L2.defScope st) s.heap.objs.size f cdv)) →
      PSs (L2.cxOf L2.CX0 P w K mg base N x (L2.defScope st) f cdv A outer s H E).nox (L2.defBody st) (tsOf K ws)) (body : Body n a ws sp) : Callee P w K mg base x (k + 1) a sp :=
  ⟨f, fd, ps, fn_body F Sc hn ha hw body, hm, F.kp, hb⟩
/-- nobody calls with no calls left -/
theorem callee_none {x : Str} {st : Stmt} {f : Addr} {fd : FuncData} {ps : List Str} {a : Nat} {sp : Spc} (F : L2.Fun K x x st f fd) (hm : mg x = some (.ref f)) (hb : L2.Binds K fd ps []) (h : ∀ ds S Q, ¬ sp ds S Q) : Callee P w K mg base x 0 a sp :=
  ⟨f, fd, ps, ⟨fun vs H Q E ⟨m, S, ds, R, _, _, _, d, _⟩ => absurd d (h _ _ _), fun A outer s H args us vs Q E _ _ _ _ ⟨m, S, ds, R, _, _, _, d, _⟩ => absurd d (h _ _ _)⟩, hm, F.kp, hb⟩
end
end DL
set_option linter.all false
/-! DLX: more operations by values. -/
namespace DL
/-- a list turned -/
@[reducible] def rRevL : R1
  | .ref n, S, Q => isLst S n fun xs => Q (.ref S.length) (S ++ [.lst xs.reverse])
  | _, _, _ => False
/-- sorted of a list or a tuple -/
@[reducible] def rSortedA : RL
  | [.ref n], S, Q => isLst S n fun xs => sortOk xs ∧ ∀ ys, ys.Perm xs → ys.Pairwise (fun a b => ltD b a = false) → Q (.ref S.length) (S ++ [.lst ys])
  | [.tup xs], S, Q => sortOk xs ∧ ∀ ys, ys.Perm xs → ys.Pairwise (fun a b => ltD b a = false) → Q (.ref S.length) (S ++ [.lst ys])
  | _, _, _ => False
/-- x += y: ints, texts -/
@[reducible] def rIAdd : R2
  | .int i, .int j, S, Q => Q (.int (i + j)) S
  | .str x, .str y, S, Q => x.length + y.length ≤ szL ∧ Q (.str (x ++ y)) S
  | .ref m, .ref n, S, Q => isLst S m fun xs => isLst S n fun ys => xs.length + ys.length ≤ szL ∧ Q (.ref m) (S.set m (.lst (xs ++ ys)))
  | _, _, _, _ => False
/-! ranges with a step, ranges as lists and tuples -/
def rg3N (i j k : Int) : Nat := (if 0 < k then (if i < j then (j - i - 1) / k + 1 else 0) else (if j < i then (i - j - 1) / (-k) + 1 else 0)).toNat
def rangeD3 (i j k : Int) : List D := (List.range (rg3N i j k)).map fun (t : Nat) => D.int (i + t * k)
@[reducible] def wR3 (a b c : WE) : WI := fun ρ S R => a ρ S fun x S1 => b ρ S1 fun y S2 => c ρ S2 fun z S3 => match x, y, z with
  | .int i, .int j, .int k => (k ≠ 0 ∧ (-(2 ^ 29) < k ∧ k < 2 ^ 29) ∧ (-(2 ^ 61) ≤ i ∧ i < 2 ^ 61) ∧ (-(2 ^ 61) ≤ j ∧ j < 2 ^ 61)) ∧ R (rangeD3 i j k) (fun _ => True) S3
  | _, _, _ => False
@[reducible] def wLstR (a : WE) : WE := fun ρ S Q => a ρ S fun x S1 => match x with
  | .int j => (smallI j ∧ j ≤ szL) ∧ Q (.ref S1.length) (S1 ++ [.lst (rangeD 0 j)])
  | _ => False
@[reducible] def wTupR (a : WE) : WE := fun ρ S Q => a ρ S fun x S1 => match x with
  | .int j => (smallI j ∧ j ≤ szL) ∧ Q (.tup (rangeD 0 j)) S1
  | _ => False
end DL
set_option Elab.async false
set_option linter.all false
set_option maxRecDepth 100000
set_option maxHeartbeats 4000000
/-! DL9: more rules. -/
namespace DL
open PySem PySem.Spec
open L2 (V Hp HO St TE TT TA TS TG TI TO PE PT PW PA PS PSs PG PI PO Cx Inv RelV Vals SqL SqT Rd upd upd_same upd_ne ne_of ne_of_none OpR UnR CallR MtR IxR SlR It thn)
section
variable {X : Cx} {o : Expr} {pos p1 p2 p3 : Pos} {wo : WE}
theorem d_revL {k : Nat} (ho : PE X o (teOf X.K wo)) : PE X (.Subscript o (.Slice none none (some (.UnaryOp .USub (.Constant (.int 1) k p1) p2)) p3) pos) (teOf X.K (wUn rRevL wo)) :=
  peI (L2.pe_revL ho) fun σ H Q ⟨ρ, S, m, R, hE, hS, h, k⟩ => ⟨ρ, S, m, _, hE, hS, h, fun v x H1 S1 m1 e1 s1 r1 q1 => by
    cases x with
    | ref n =>
      obtain ⟨ys, e2, q⟩ := isLst_iff.mp q1
      obtain ⟨a, vs, h1, h2, h3⟩ := s1.lst e2
      obtain ⟨b, q2, rfl⟩ := r1
      rw [h1] at q2
      cases q2
      exact ⟨a, vs, rfl, SqL.of h2, (k.ext e1).lst s1 h3.rev q⟩
    | _ => exact (show False from q1).elim⟩
end
theorem i_add {X : Cx} : OpR X (inplaceOp .Add) (r2Of X.K rIAdd) := r2I (((L2.iop_add (X := X)).or L2.iop_add_str).or L2.iop_ext) fun x y H Q ⟨m, S, d, e, R, s, rx, ry, h, k⟩ => by
  cases d with
  | int i => cases e with
    | int j => exact .inl (.inl ⟨i, j, rx, ry, k _ (.int (i + j)) H S m (Ext.refl _ _) s rfl h⟩)
    | _ => exact (show False from h).elim
  | str z => cases e with
    | str z' =>
      obtain ⟨hz, q⟩ := h
      exact .inl (.inr ⟨z, z', rx, ry, by rw [← szL']; exact hz, k _ (.str (z ++ z')) H S m (Ext.refl _ _) s rfl q⟩)
    | _ => exact (show False from h).elim
  | ref i => cases e with
    | ref j =>
      obtain ⟨xs, e1, h⟩ := isLst_iff.mp h
      obtain ⟨ys, e2, hz, q⟩ := isLst_iff.mp h
      obtain ⟨a, vs, h1, h2, h3⟩ := s.lst e1
      obtain ⟨b, us, g1, g2, g3⟩ := s.lst e2
      obtain ⟨a', q1, rfl⟩ := rx
      obtain ⟨b', q2, rfl⟩ := ry
      rw [h1] at q1
      rw [g1] at q2
      cases q1
      cases q2
      exact .inr ⟨a, b, vs, us, rfl, rfl, h2, g2, by rw [h3.len, g3.len, ← szL']; exact hz, k.put s e1 h1 h2 (h3.app g3) (d := .ref i) ⟨a, h1, rfl⟩ q⟩
    | _ => exact (show False from h).elim
  | _ => exact (show False from h).elim
section
variable {X : Cx} {tg : Expr} {wa wb wc : WE} {a b c : Expr} {p p2 pos pos2 : Pos}
theorem rg3_ok {i j k : Int} (h : k ≠ 0 ∧ (-(2 ^ 29) < k ∧ k < 2 ^ 29) ∧ (-(2 ^ 61) ≤ i ∧ i < 2 ^ 61) ∧ (-(2 ^ 61) ≤ j ∧ j < 2 ^ 61)) : L2.RgC i j k (rg3N i j k) := by
  obtain ⟨h0, ⟨k1, k2⟩, ⟨i1, i2⟩, j1, j2⟩ := h
  have e : Builtin.Range.rangeSize i j k = (rg3N i j k : Int) ∧ (rg3N i j k : Int) < 2 ^ 63 := by
    unfold Builtin.Range.rangeSize rg3N
    by_cases hk : 0 < k
    · rw [if_pos hk]
      by_cases hc : i < j
      · rw [if_pos hc]
        have a1 : (j - i - 1) / k ≤ j - i - 1 := Int.ediv_le_self k (by omega)
        have a2 : 0 ≤ (j - i - 1) / k := Int.ediv_nonneg (by omega) (by omega)
        omega
      · rw [if_neg hc]; omega
    · rw [if_neg hk]
      by_cases hc : j < i
      · rw [if_pos hc]
        have a1 : (i - j - 1) / -k ≤ i - j - 1 := Int.ediv_le_self (-k) (by omega)
        have a2 : 0 ≤ (i - j - 1) / -k := Int.ediv_nonneg (by omega) (by omega)
        omega
      · rw [if_neg hc]; omega
  refine ⟨h0, by omega, ?_, e.1⟩
  unfold Builtin.Range.small Builtin.Range.rangeFitsLong
  rw [e.1]
  have := e.2
  have n0 : (0 : Int) ≤ rg3N i j k := by omega
  generalize (rg3N i j k : Int) = n at *
  by_cases hk : 0 < k
  · rw [if_pos hk]
    simp only [Bool.and_eq_true, Bool.or_eq_true, decide_eq_true_eq]
    omega
  · rw [if_neg hk]
    simp only [Bool.and_eq_true, Bool.or_eq_true, decide_eq_true_eq]
    omega
theorem yields_rng3 {K : PySem.W.Frag} {m : List Addr} {H : Hp} {i j k : Int} : Yields K (L2.Itc i k (rg3N i j k)) (rangeD3 i j k) (fun _ => True) m H := by
  intro m1 H1 S1 e s g
  refine ⟨fun t d hd => ?_, fun t ht => by unfold rangeD3 at ht; rw [List.length_map, List.length_range] at ht; exact ht⟩
  unfold rangeD3 at hd
  rw [List.getElem?_map] at hd
  by_cases hi : t < rg3N i j k
  · rw [List.getElem?_range hi] at hd
    have h2 := (Option.some.inj hd).symm
    exact ⟨hi, fun x H' ⟨q1, q2⟩ => ⟨m1, by rw [q1]; exact Ext.refl _ _, by rw [q1]; exact s, by rw [q2, h2]; rfl⟩⟩
  · rw [List.getElem?_eq_none (by simpa using hi)] at hd
    cases hd
theorem di_r3 (hg : L2.Gl X "range") (hm : X.mg "range" = none) (ha : PE X a (teOf X.K wa)) (hb : PE X b (teOf X.K wb)) (hc : PE X c (teOf X.K wc)) (h1 : starEach [a, b, c] X.env = (false, eval a X.env) :: starEach [b, c] X.env := by rfl) (h2 : starEach [b, c] X.env = (false, eval b X.env) :: starEach [c] X.env := by rfl)
    (h3 : starEach [c] X.env = (false, eval c X.env) :: starEach [] X.env := by rfl) (h4 : ((backTo pos (starEach [b, c] X.env)).any fun x => x.fst) = false := by rfl) : PI X tg (.Call (.Name "range" p) [a, b, c] [] pos) (tiOf X.K (wR3 wa wb wc)) :=
  piI (L2.pi_range3 hg hm (da_cons ha (da_cons hb (da_cons hc da_nil h3) h2) h1) h1 h4) fun σ H Q ⟨ρ, S, m, R, hE, hS, h, k⟩ => ⟨ρ, S, m, fun ds S1 => match ds with
    | [.int i, .int j, .int l] => (l ≠ 0 ∧ (-(2 ^ 29) < l ∧ l < 2 ^ 29) ∧ (-(2 ^ 61) ≤ i ∧ i < 2 ^ 61) ∧ (-(2 ^ 61) ≤ j ∧ j < 2 ^ 61)) ∧ R (rangeD3 i j l) (fun _ => True) S1
    | _ => False, hE, hS, (by
      show wa ρ S _
      refine cast (congrArg (wa ρ S) ?_) h
      funext x S1
      show wb ρ S1 _ = wb ρ S1 _
      refine congrArg (wb ρ S1) ?_
      funext y S2
      show wc ρ S2 _ = wc ρ S2 _
      refine congrArg (wc ρ S2) ?_
      funext z S3
      cases x <;> cases y <;> cases z <;> rfl), fun vs ds H' S' m' e s r q => by
      match ds, q, r with
      | [.int i, .int j, .int l], ⟨hok, q5⟩, ⟨v, r', hv, rv, ⟨v2, r2, hv2, rv2, ⟨v3, r3, hv3, rv3, rn⟩⟩⟩ =>
        rw [show r3 = [] from rn] at hv3
        rw [hv3] at hv2
        rw [hv2] at hv
        exact ⟨i, j, l, _, by rw [hv, show v = V.int i from rv, show v2 = V.int j from rv2, show v3 = V.int l from rv3], rg3_ok hok, k _ _ _ _ _ _ e s yields_rng3 q5⟩⟩
theorem rgV_rep {K : PySem.W.Frag} {H : Hp} {m : List Addr} (j : Int) : Reps K H m (rangeD 0 j) (L2.rgV 0 j) := by
  unfold rangeD L2.rgV
  generalize List.range (j - 0).toNat = l
  induction l with
  | nil => rfl
  | cons x l ih => exact ⟨_, _, rfl, rfl, ih⟩
theorem rgOk_of {j : Int} (h : smallI j ∧ j ≤ szL) : L2.RgOk 0 j := by
  obtain ⟨⟨h1, h2⟩, h3⟩ := h
  unfold szL at h3
  exact ⟨by omega, by omega, h1, h2, by omega⟩
theorem d_lstR (hc : X.calm = true) (hg : L2.Gl X "list") (hm : X.mg "list" = none) (hg2 : L2.Gl X "range") (hm2 : X.mg "range" = none) (ha : PE X a (teOf X.K wa)) (h1 : starEach [a] X.env = (false, eval a X.env) :: starEach [] X.env := by rfl)
    (h2 : starEach [Expr.Call (.Name "range" p2) [a] [] pos2] X.env = (false, eval (Expr.Call (.Name "range" p2) [a] [] pos2) X.env) :: starEach [] X.env := by rfl) : PE X (.Call (.Name "list" p) [.Call (.Name "range" p2) [a] [] pos2] [] pos) (teOf X.K (wLstR wa)) :=
  peI (L2.pe_listRg hc hg hm (L2.prg_1 hg2 hm2 ha h1) h2) fun σ H Q ⟨ρ, S, m, R, hE, hS, h, k⟩ => ⟨ρ, S, m, _, hE, hS, h, fun v x H1 S1 m1 e1 s1 r1 q1 => by
    cases x with
    | int j => exact ⟨j, r1, rgOk_of q1.1, (k.ext e1).lst s1 (rgV_rep j) q1.2⟩
    | _ => exact (show False from q1).elim⟩
theorem d_tupR (hc : X.calm = true) (hg : L2.Gl X "tuple") (hm : X.mg "tuple" = none) (hg2 : L2.Gl X "range") (hm2 : X.mg "range" = none) (ha : PE X a (teOf X.K wa)) (h1 : starEach [a] X.env = (false, eval a X.env) :: starEach [] X.env := by rfl)
    (h2 : starEach [Expr.Call (.Name "range" p2) [a] [] pos2] X.env = (false, eval (Expr.Call (.Name "range" p2) [a] [] pos2) X.env) :: starEach [] X.env := by rfl) : PE X (.Call (.Name "tuple" p) [.Call (.Name "range" p2) [a] [] pos2] [] pos) (teOf X.K (wTupR wa)) :=
  peI (L2.pe_tupRg hc hg hm (L2.prg_1 hg2 hm2 ha h1) h2) fun σ H Q ⟨ρ, S, m, R, hE, hS, h, k⟩ => ⟨ρ, S, m, _, hE, hS, h, fun v x H1 S1 m1 e1 s1 r1 q1 => by
    cases x with
    | int j => exact ⟨j, r1, rgOk_of q1.1, (k.ext e1).tup s1 (rgV_rep j) q1.2⟩
    | _ => exact (show False from q1).elim⟩
end
/-- a tuple of ints that the top has made -/
theorem rep_ints {K : PySem.W.Frag} {t : Addr} {od : Option Addr} {its : Array Value} {n : Nat} {sl : Array (Option Value)} {ns : List Int} (hc : cst = true) (hl : K.lookup t = some ⟨.type "tuple", od, .seq its n, sl⟩) (hz : its.size ≤ sizeLine) (hv : Vals (ns.map V.int) its.toList) (H : Hp) (m : List Addr) : Rep K H m (.tup (intD ns)) (.ref t) :=
  ⟨t, ns.map V.int, rfl, .inr ⟨hc, .inr ⟨_, its, n, hl, rfl, rfl, hz, hv⟩⟩, Reps.of_ints⟩
end DL
set_option Elab.async false
set_option linter.all false
set_option maxRecDepth 100000
set_option maxHeartbeats 4000000
/-! DLS: sorted(a tuple). -/
namespace DL
open PySem PySem.Spec PyProof PyProof.Rows
section
theorem collect_seqE {prog : Program} {w : World} {A : Around} {E : Value → Shared → Prop} {s : Shared} {Q : List Value → Shared → Prop} (it : Addr) {T : String} {o : Obj} {items : Array Value} {n : Nat} (hT : T = "list" ∨ T = "tuple") (ho : s.heap.get? it = some o) (hc : o.cls = Value.type T) (hd : o.data = Data.seq items n)
    (hQ : ∀ h' : Heap, (∀ (b : Addr) (o' : Obj), s.heap.get? b = some o' → h'.get? b = some o') → s.heap.objs.size ≤ h'.objs.size → Q items.toList { heap := h', gens := s.gens, drawn := s.drawn, toks := s.toks, os := s.os }) (hsz : items.size ≤ sizeLine) : wpAny (model prog w) A (collect (.ref it)) Q E s := by
  unfold collect
  refine wpAny_bind (wpAny_runValue (codeAny_builtin F.entry_proto_collect ?_))
  rw [Around.under_plainId F.plain_proto_collect]
  refine wpAny_bind (wpAny_newObj_type (wpAny_pure ⟨plainId_quiet F.plain_list_iadd _, codeAny_builtin F.entry_list_iadd ?_⟩))
  rw [Around.under_plainId F.plain_list_iadd]
  refine wpAny_extend_seq (R := fun r s' => match r with
      | Except.ok (Flow.ret v) => wpAny (model prog w) A (match v with
          | Value.ref a => do
            let __do_lift ← load a
            match __do_lift.data with
            | Data.seq xs epoch => pure xs.toList
            | x => unsupported "internal:collect"
          | x => unsupported "internal:collect") Q E s'
      | Except.ok a => False
      | Except.error e => E e s') s.heap.objs.size it (.ref s.heap.objs.size) 0 hT ?_ ?_ hc hd ?_ hsz
  · exact Heap.get?_push_size s.heap rfl
  · exact Heap.get?_push_of_some _ ho
  · show wpAny (model prog w) A _ Q E _
    refine wpAny_bind (wpAny_load (Heap.get?_update_self _ (Heap.get?_push_size s.heap rfl) rfl) ?_)
    refine wpAny_pure ?_
    have e : ((fun x => x ++ items) (#[] : Array Value)).toList = items.toList := by simp
    rw [e]
    refine hQ _ (fun b o' hb => ?_) ?_
    · rw [Heap.get?_update_other _ _ (Ne.symm (Nat.ne_of_lt (Heap.lt_size hb)))]
      exact Heap.get?_push_of_some _ hb
    · rw [Heap.size_update]
      show s.heap.objs.size ≤ (s.heap.push _).objs.size
      rw [PyProof.Rows.size_push']
      omega
theorem sorted_tup {prog : Program} {w : World} {A : Around} {E : Value → Shared → Prop} {s : Shared} {β : Type} {vs : List Value} {bs : List β} {enc : β → PyData} {R : Value → β → Prop} {l : Addr} {Q : Value → Shared → Prop}
    (hl : s.heap.IsTuple l vs.toArray) (e : PySem.W.EachIs R vs bs) (er : PySem.W.EachIs (fun v b => ∃ as, Reads s.heap v (enc b) as) vs bs) (hal : PySem.W.AllAlike (bs.map enc)) (hk : PySem.W.Sortable (bs.map enc)) (hL : bs.length ≤ sizeLine) (hu : ∀ b, b ∈ bs → A.units + 2 + (enc b).depth < cLine)
    (h : ∀ (out : List Value) (h1 : Heap) (a : Addr), out.length = bs.length → PySem.W.EachIs R out (bs.mergeSort (PySem.W.dataLe false enc)) → (∀ (b : Addr) (o : Obj), s.heap.get? b = some o → h1.get? b = some o) → s.heap.objs.size ≤ a → (∃ c, h1.get? a = some (PyProof.Rows.seqObj "list" out.toArray c)) →
      Q (.ref a) { heap := h1, gens := s.gens, drawn := s.drawn, toks := s.toks, os := s.os }) : wpAny (model prog w) A (call (.builtin "sorted") [.ref l]) Q E s := by
  obtain ⟨o, ho, hc, n, hd⟩ := hl
  have hLv : vs.length ≤ sizeLine := by rw [e.length]; exact hL
  refine PyProof.Rows.call_function_entry_kw PyProof.Rows.kind_sorted PyProof.Rows.plain_sorted PyProof.Rows.entry_sorted (PyProof.Rows.args_sorted1 (.ref l)) ?_
  refine wpAny_bind (wpAny_pure (wpAny_bind (collect_seqE l (.inr rfl) ho hc hd (fun h' keep hsz => ?_) (by simpa using hLv))))
  have hat : (h'.push (PyProof.Rows.seqObj "list" vs.toArray 0)).get? h'.objs.size = some (PyProof.Rows.seqObj "list" vs.toArray 0) := Heap.get?_push_size h' rfl
  have old1 : ∀ (b : Addr) (o : Obj), s.heap.get? b = some o → (h'.push (PyProof.Rows.seqObj "list" vs.toArray 0)).get? b = some o ∧ b < h'.objs.size := fun b o hb => by
    have hk := keep b o hb
    have hlt := Heap.lt_size hk
    exact ⟨by rw [Heap.get?_push_ne h' b _ (Nat.ne_of_lt hlt)]; exact hk, hlt⟩
  have old2 : ∀ (b : Addr) (o : Obj), s.heap.get? b = some o → (PySem.W.sortingHeap (h'.push (PyProof.Rows.seqObj "list" vs.toArray 0)) h'.objs.size vs).get? b = some o := fun b o hb => by
    obtain ⟨h1, h2⟩ := old1 b o hb
    unfold PySem.W.sortingHeap
    have z1 : ((h'.push (PyProof.Rows.seqObj "list" vs.toArray 0)).update h'.objs.size (Obj.mapSeq fun x => #[])).objs.size = h'.objs.size + 1 := by rw [Heap.size_update, PyProof.Rows.size_push']
    have z2 : (((h'.push (PyProof.Rows.seqObj "list" vs.toArray 0)).update h'.objs.size (Obj.mapSeq fun x => #[])).push (PyProof.Rows.seqObj "tuple" vs.toArray 0)).objs.size = h'.objs.size + 1 + 1 := by rw [PyProof.Rows.size_push', z1]
    rw [Heap.get?_push_ne _ b _ (by rw [z2]; exact Nat.ne_of_lt (Nat.lt_succ_of_lt (Nat.lt_succ_of_lt h2))), Heap.get?_push_ne _ b _ (by rw [z1]; exact Nat.ne_of_lt (Nat.lt_succ_of_lt h2)), Heap.get?_update_ne _ b _ _ (Nat.ne_of_lt h2)]
    exact h1
  have er' := PySem.W.EachIs.mono (fun x y ⟨as, r⟩ => (⟨as, PyProof.Rows.Reads.keeps (h' := PySem.W.sortingHeap (h'.push (PyProof.Rows.seqObj "list" vs.toArray 0)) h'.objs.size vs) (fun b o hb => old2 b o hb) r⟩ : ∃ as, _)) er
  have S := PySem.W.SortsAt.data (prog := prog) (w := w) (A := A.in1.in1) (s := { heap := PySem.W.sortingHeap (h'.push (PyProof.Rows.seqObj "list" vs.toArray 0)) h'.objs.size vs, gens := s.gens, drawn := s.drawn, toks := s.toks, os := s.os }) (PySem.W.each_map enc er') hal hk (PySem.W.bound_map hu)
  refine wpAny_bind (wpAny_newList ?_ (by simpa using hLv))
  refine wpAny_bind (wpAny_holding (PyProof.Rows.wpAny_call_entry_kw PyProof.Rows.slot_list_sort ⟨PyProof.Rows.seqObj "list" vs.toArray 0, hat, rfl⟩ PyProof.Rows.entry_list_sort ?_ (PyProof.Rows.args_list_sort (.ref h'.objs.size))))
  refine PySem.W.list_sort_vals hat S hLv ⟨.none, rfl, wpAny_pure ⟨.ref h'.objs.size, rfl, ?_⟩⟩
  refine h _ _ _ (by rw [PySem.W.sortVals_length false rfl]; exact e.length) (PySem.W.sortVals_data false e er' hal) (fun b o hb => ?_) hsz (PyProof.Rows.sortedHeap_at hat)
  obtain ⟨h1, h2⟩ := old1 b o hb
  rw [PyProof.Rows.sortedHeap_old (Nat.ne_of_lt h2) (by rw [PyProof.Rows.size_push']; exact Nat.lt_succ_of_lt h2)]
  exact h1
end
section
open L2 (V Hp HO St TE TT TA TS TG TI TO PE PT PW PA PS PSs PG PI PO Cx Inv RelV Vals SqL SqT Rd upd upd_same upd_ne ne_of ne_of_none OpR UnR CallR MtR IxR SlR It thn)
variable {X : Cx}
theorem b_sortedA {kk : Nat} (hr : L2.Room kk X.A) : CallR X (.builtin "sorted") (rlOf X.K rSortedA) := by
  intro pins s σ H vs us Q I rv ⟨m, S, ds, R, hS, rs, h, k⟩
  match ds, h, rs with
  | [.ref n], h, rs => exact b_sorted hr pins s σ H vs us Q I rv ⟨m, S, [.ref n], R, hS, rs, h, k⟩
  | [.tup xs], h, rs =>
    obtain ⟨v, rfl, a, ws, rfl, h2, h3⟩ := reps1 rs
    obtain ⟨⟨f, dp, ak, so⟩, q⟩ := h
    rw [L2.Vals.ref1 rv]
    obtain ⟨its, rw', pl, hz⟩ := I.tuple h2.sqT
    have st := stands_all h3 rw'
    have hm : ∀ b ∈ xs, flat b = true := flats_mem f
    have rd : ∀ {ds : List D} {us : List Value}, PySem.W.EachIs (Stands X.K H m) us ds → (∀ d ∈ ds, flat d = true) → PySem.W.EachIs (fun u d => ∃ as, Reads s.heap u (toPy d) as) us ds := by
      intro ds us e
      induction e with
      | nil => intro _; exact .nil
      | cons h t ih =>
        intro hf
        obtain ⟨v, g1, g2⟩ := h
        exact .cons (L2.Dp.reads I _ _ _ (toPy_dp _ _ (hf _ List.mem_cons_self) g2) g1) (ih fun d hd => hf d (List.mem_cons_of_mem _ hd))
    refine sorted_tup (enc := toPy) (bs := xs) (R := Stands X.K H m) pl st (rd st hm) ?_ ?_ (by rw [← h3.len]; exact hz) (fun b hb => ?_) fun out hh aa ho eo keep hge hat => ?_
    · intro d hd d' hd'
      obtain ⟨b, hb, rfl⟩ := List.mem_map.mp hd
      obtain ⟨b', hb', rfl⟩ := List.mem_map.mp hd'
      exact akin_eq b b' (ak b hb b' hb')
    · rcases so with so | so
      · refine .inl fun d hd => ?_
        obtain ⟨b, hb, rfl⟩ := List.mem_map.mp hd
        obtain ⟨x, r, e⟩ := so b hb
        exact toPy_tup e
      · refine .inr fun d hd => ?_
        obtain ⟨b, hb, rfl⟩ := List.mem_map.mp hd
        obtain ⟨n1, n2⟩ := so b hb
        have fb := hm b hb
        cases b with
        | non => exact absurd rfl n1
        | tup ys => exact absurd rfl (n2 ys)
        | rol _ => cases (show false = true from fb)
        | ref _ => cases (show false = true from fb)
        | ty _ => cases (show false = true from fb)
        | bl _ => exact ⟨(fun z => nomatch z), (fun _ z => nomatch z)⟩
        | int _ => exact ⟨(fun z => nomatch z), (fun _ z => nomatch z)⟩
        | str _ => exact ⟨(fun z => nomatch z), (fun _ z => nomatch z)⟩
    · rw [deep_eq]
      have := deeps_mem b hb
      have := hr.units
      omega
    · obtain ⟨c, hc⟩ := hat
      obtain ⟨ys, g1, g2⟩ := stands_back eo
      have hp : H aa = none := I.hok.fresh hge
      have perm := List.mergeSort_perm xs (PySem.W.dataLe false toPy)
      have pw := List.pairwise_mergeSort sort_trans sort_total xs
      refine ⟨.ref aa, upd H aa (.lst ys), I.laid (t' := s.toks) keep hge ⟨?_, out, c, g2, hc⟩, rfl, ?_⟩
      · rw [g1.len, List.length_mergeSort, ← h3.len]
        exact hz
      · refine k.lst hS g1 (q _ perm ?_) _ hp
        refine List.Pairwise.imp_of_mem (fun {x y} hx hy hxy => ?_) pw
        have hx' := perm.mem_iff.mp hx
        have hy' := perm.mem_iff.mp hy
        have hxy : (!PySem.W.dataLt (toPy y) (toPy x)) = true := hxy
        rw [lt_eq y x (hm y hy') (hm x hx') (ak y hy' x hx')] at hxy
        simpa using hxy
end
end DL
set_option linter.all false
/-! DLY: dicts by values: keys ints and texts, or tuples of them. -/
namespace DL
def kyOf : D → Option Ky
  | .int i => some (.inl i)
  | .str x => some (.inr x)
  | _ => none
def kysOf : List D → Option (List Ky)
  | [] => some []
  | d :: r => match kyOf d, kysOf r with
    | some k, some ks => some (k :: ks)
    | _, _ => none
def kyt : D → Option (List Ky)
  | .tup ds => kysOf ds
  | _ => none
section
variable {κ : Type} [DecidableEq κ]
def valK (kvs : List (κ × D)) (k : κ) : Option D := (kvs.find? fun kv => decide (kv.1 = k)).map (·.2)
def putD (kvs : List (κ × D)) (k : κ) (v : D) : List (κ × D) :=
  if (kvs.any fun kv => decide (kv.1 = k)) = true then kvs.map (fun kv => if kv.1 = k then (kv.1, v) else kv) else kvs ++ [(k, v)]
end
/-- what x holds at k -/
@[reducible] def dGet : D → D → Sto → (Option D → Prop) → Prop
  | .ref n, k, S, P => match S[n]? with
    | some (.dK kvs) => ∃ y, kyOf k = some y ∧ P (valK kvs y)
    | some (.dT kvs) => ∃ y, kyt k = some y ∧ P (valK kvs y)
    | some (.fK kvs) => ∃ y, kyOf k = some y ∧ P (valK kvs y)
    | some (.fT kvs) => ∃ y, kyt k = some y ∧ P (valK kvs y)
    | _ => False
  | _, _, _, _ => False
def keyD : Ky → D
  | .inl i => .int i
  | .inr x => .str x
/-- over the keys of a dict; it is only read from then on -/
@[reducible] def wItD (a : WE) : WI := fun ρ S R => a ρ S fun x S1 => match x with
  | .ref n => match S1[n]? with
    | some (.dK kvs) => R (kvs.map fun kv => keyD kv.1) (fun _ => True) (S1.set n (.fK kvs))
    | some (.dT kvs) => R (kvs.map fun kv => D.tup (kv.1.map keyD)) (fun _ => True) (S1.set n (.fT kvs))
    | some (.fK kvs) => R (kvs.map fun kv => keyD kv.1) (fun _ => True) S1
    | some (.fT kvs) => R (kvs.map fun kv => D.tup (kv.1.map keyD)) (fun _ => True) S1
    | _ => False
  | _ => False
@[reducible] def rDIx : R2 := fun x k S Q => dGet x k S fun o => ∃ v, o = some v ∧ Q v S
@[reducible] def rDIn (neg : Bool) : R2 := fun k x S Q => dGet x k S fun o => Q (.bl (if neg then !o.isSome else o.isSome)) S
@[reducible] def wDNewK : WE := fun _ S Q => Q (.ref S.length) (S ++ [.dK []])
@[reducible] def wDNewT : WE := fun _ S Q => Q (.ref S.length) (S ++ [.dT []])
@[reducible] def isDc : D → Sto → Prop
  | .ref n, S => (∃ kvs, S[n]? = some (.dK kvs) ∨ S[n]? = some (.fK kvs)) ∨ ∃ kvs, S[n]? = some (.dT kvs) ∨ S[n]? = some (.fT kvs)
  | _, _ => False
/-- d.get(k, x) -/
@[reducible] def wDGet2 (o k f : WE) : WE := fun ρ S Q => o ρ S fun x S1 => isDc x S1 ∧ k ρ S1 fun y S2 => f ρ S2 fun z S3 => dGet x y S3 fun o => Q (o.getD z) S3
/-- d[k] = v -/
@[reducible] def rDPut : D → D → D → Sto → (Sto → Prop) → Prop
  | .ref n, k, d, S, Q => match S[n]? with
    | some (.dK kvs) => ∃ y, kyOf k = some y ∧ kvs.length < szL ∧ Q (S.set n (.dK (putD kvs y d)))
    | some (.dT kvs) => ∃ y, kyt k = some y ∧ kvs.length < szL ∧ Q (S.set n (.dT (putD kvs y d)))
    | _ => False
  | _, _, _, _, _ => False
/-- a, b, c = x, y, z by names -/
@[reducible] def sPar3 (i j l : Nat) (a b c : WE) : WS := fun E ρ S => a ρ S fun x S1 => b ρ S1 fun y S2 => c ρ S2 fun z S3 => E.nx (up (up (up ρ i (some x)) j (some y)) l (some z)) S3
/-- a tuple turned -/
@[reducible] def rRevT : R1
  | .tup xs, S, Q => Q (.tup xs.reverse) S
  | _, _, _ => False
/-- two lists alike -/
@[reducible] def rEqL : R2
  | .ref m, .ref n, S, Q => isLst S m fun xs => isLst S n fun ys => (flats xs = true ∧ flats ys = true ∧ deeps xs ≤ 63 ∧ deeps ys ≤ 63) ∧ Q (.bl (eqDs xs ys)) S
  | _, _, _, _ => False
end DL
set_option Elab.async false
set_option linter.all false
set_option maxRecDepth 100000
set_option maxHeartbeats 8000000
/-! DLG: more rules. -/
namespace DL
open PySem PySem.Spec
open L2 (V Hp HO St TE TT TA TS TG TI TO PE PT PW PA PS PSs PG PI PO Cx Inv RelV Vals SqL SqT Rd upd upd_same upd_ne ne_of ne_of_none OpR UnR CallR MtR IxR SlR It thn Key kV valV putK DGet DPut)
section
variable {X : Cx} {kk : Nat} {o i e f a b c : Expr} {wo wi we wf wa wb wc : WE} {pos apos cpos : Pos}
theorem c_eqL (hr : L2.Room kk X.A) : OpR X (compareOp .Eq) (r2Of X.K rEqL) := r2I (L2.op_eqD hr.units) fun x y H Q ⟨m, S, d, e, R, s, rx, ry, h, k⟩ => by
  cases d with
  | ref i => cases e with
    | ref j =>
      obtain ⟨xs, e1, h⟩ := isLst_iff.mp h
      obtain ⟨ys, e2, ⟨f1, f2, g1, g2⟩, q⟩ := isLst_iff.mp h
      obtain ⟨a, vs, h1, h2, h3⟩ := s.lst e1
      obtain ⟨b, us, l1, l2, l3⟩ := s.lst e2
      obtain ⟨a', q1, rfl⟩ := rx
      rw [h1] at q1
      cases q1
      obtain ⟨b', q2, rfl⟩ := ry
      rw [l1] at q2
      cases q2
      refine ⟨.list (toPys xs), .list (toPys ys), .lst (SqL.of h2) (toPys_dp xs vs f1 h3), .lst (SqL.of l2) (toPys_dp ys us f2 l3), shapeds_of f1 g1, shapeds_of f2 g2, ?_⟩
      have ee : PyData.eqv (.list (toPys xs)) (.list (toPys ys)) = eqDs xs ys := by
        rw [← eqvs_eq xs ys f1 f2]
        rfl
      rw [ee]
      exact k _ (.bl (eqDs xs ys)) H S m (Ext.refl _ _) s rfl q
    | _ => exact (show False from h).elim
  | _ => exact (show False from h).elim
theorem ds_par3 (i j l : Nat) {x y z : Str} {px py pz pt : Pos} {kt k2 pt2} (hc : X.calm = true) (hN : X.N.Nodup) (ha : PE X a (teOf X.K wa)) (hb : PE X b (teOf X.K wb)) (hcc : PE X c (teOf X.K wc)) (hi : X.N[i]? = some x := by rfl) (hj : X.N[j]? = some y := by rfl) (hl : X.N[l]? = some z := by rfl) (hij : i ≠ j := by decide) (hil : i ≠ l := by decide) (hjl : j ≠ l := by decide)
    (hx : X.env.scope.names.lookup x = some .local := by rfl) (hy : X.env.scope.names.lookup y = some .local := by rfl) (hz : X.env.scope.names.lookup z = some .local := by rfl)
    (hw : swappedStores [.Tuple [.Name x px, .Name y py, .Name z pz] kt pt] (.Tuple [a, b, c] k2 pt2) X.env = pure (some [x, y, z]) := by rfl)
    (hs : swapsWithSole [.Tuple [.Name x px, .Name y py, .Name z pz] kt pt] (.Tuple [a, b, c] k2 pt2) pos.line X.env = pure false := by rfl)
    (e1 : starEach [a, b, c] X.env = (false, eval a X.env) :: starEach [b, c] X.env := by rfl) (e2 : starEach [b, c] X.env = (false, eval b X.env) :: starEach [c] X.env := by rfl) (e3 : starEach [c] X.env = (false, eval c X.env) :: starEach [] X.env := by rfl) :
    PS X (.Assign [.Tuple [.Name x px, .Name y py, .Name z pz] kt pt] (.Tuple [a, b, c] k2 pt2) pos) (tsOf X.K (sPar3 i j l wa wb wc)) :=
  psI (L2.ps_par3 hc hN hi hj hl hij hil hjl hx hy hz (da_cons ha (da_cons hb (da_cons hcc da_nil e3) e2) e1) hw hs) fun D σ H ⟨ρ, S, m, E, hE, hS, h, k, _⟩ =>
    ⟨ρ, S, m, fun ds S2 => match ds with
      | [d, d2, d3] => E.nx (up (up (up ρ i (some d)) j (some d2)) l (some d3)) S2
      | _ => False, hE, hS, h, fun vs ds H2 S2 m2 e s r q => by
      match ds, q, r with
      | [d, d2, d3], q, ⟨v, r', hv, rv, ⟨v2, r2, hv2, rv2, ⟨v3, r3, hv3, rv3, rn⟩⟩⟩ =>
        rw [show r3 = [] from rn] at hv3
        rw [hv3] at hv2
        rw [hv2] at hv
        exact ⟨v, v2, v3, hv, k _ _ H2 S2 m2 e s ((((hE.ext e).set rv i).set rv2 j).set rv3 l) q⟩⟩
end
end DL
set_option Elab.async false
set_option linter.all false
set_option maxRecDepth 100000
set_option maxHeartbeats 8000000
/-! DLD: the rules of dicts. -/
namespace DL
open PySem PySem.Spec
open L2 (V Hp HO St TE TT TA TS TG TI TO PE PT PW PA PS PSs PG PI PO Cx Inv RelV Vals SqL SqT Rd upd upd_same upd_ne ne_of ne_of_none OpR UnR CallR MtR IxR SlR It thn Key kV valV putK DGet DPut)
section
variable {K : PySem.W.Frag} {m m' : List Addr} {H H' : Hp} {S : Sto}
theorem ky_rep {d : D} {v : V} {y : Ky} (h : kyOf d = some y) (r : Rep K H m d v) : v = kV y := by
  cases d with
  | int i => cases h; exact r
  | str x => cases h; exact r
  | _ => cases h
theorem kys_rep : ∀ {ds : List D} {vs : List V} {ys : List Ky}, kysOf ds = some ys → Reps K H m ds vs → vs = ys.map kV
  | [], _, _, h, r => by cases h; exact r
  | d :: ds, _, ys, h, ⟨v, w, e, r1, r2⟩ => by
    unfold kysOf at h
    cases e1 : kyOf d with
    | none => rw [e1] at h; cases h
    | some y =>
      cases e2 : kysOf ds with
      | none => rw [e1, e2] at h; cases h
      | some zs =>
        rw [e1, e2] at h
        cases h
        rw [e, ky_rep e1 r1, kys_rep e2 r2]
        rfl
theorem kyt_rep (hcst : cst = false) {d : D} {v : V} {ys : List Ky} (h : kyt d = some ys) (r : Rep K H m d v) : ∃ b, v = .ref b ∧ H b = some (.tup (ys.map kV)) := by
  cases d with
  | tup ds =>
    obtain ⟨b, vs, rfl, hT, rs⟩ := r
    rw [← kys_rep h rs]
    rcases hT with hT | ⟨hc, _⟩
    · exact ⟨b, rfl, hT⟩
    · rw [hcst] at hc; cases hc
  | _ => cases h
section
variable {κ : Type} [DecidableEq κ]
/-- what is held on both sides -/
def RelO (K : PySem.W.Frag) (H : Hp) (m : List Addr) : Option D → Option V → Prop
  | none, o => o = none
  | some d, o => ∃ v, o = some v ∧ Rep K H m d v
theorem val_rep : ∀ {ks : List (κ × V)} {ds : List (κ × D)}, ks.map (·.1) = ds.map (·.1) → Reps K H m (ds.map (·.2)) (ks.map (·.2)) → ∀ y, RelO K H m (valK ds y) (valV ks y)
  | [], [], _, _, y => rfl
  | p :: ks, q :: ds, hk, ⟨v, w, e, r1, r2⟩, y => by
    simp only [List.map_cons, List.cons.injEq] at hk e
    obtain ⟨hk1, hk2⟩ := hk
    obtain ⟨e1, e2⟩ := e
    subst e1 e2
    unfold valK valV
    rw [List.find?_cons, List.find?_cons, hk1]
    by_cases c : q.1 = y
    · rw [decide_eq_true c]
      exact ⟨_, rfl, r1⟩
    · rw [decide_eq_false c]
      exact val_rep hk2 r2 y
  | [], q :: ds, hk, _, _ => by cases hk
  | p :: ks, [], hk, _, _ => by cases hk
theorem put_keys {α β : Type} (f : List (κ × α) → κ → α → List (κ × α)) : True := trivial
theorem any_keys {α β : Type} {ks : List (κ × α)} {ds : List (κ × β)} (h : ks.map (·.1) = ds.map (·.1)) (y : κ) : (ks.any fun kv => decide (kv.1 = y)) = (ds.any fun kv => decide (kv.1 = y)) := by
  have e : ∀ {γ : Type} (l : List (κ × γ)), (l.any fun kv => decide (kv.1 = y)) = ((l.map (·.1)).any fun k => decide (k = y)) := fun l => by rw [List.any_map]; rfl
  rw [e, e, h]
theorem put_rep {ks : List (κ × V)} {ds : List (κ × D)} (h : ks.map (·.1) = ds.map (·.1)) (r : Reps K H m (ds.map (·.2)) (ks.map (·.2))) (y : κ) {d : D} {v : V} (rv : Rep K H m d v) :
    (putK ks y v).map (·.1) = (putD ds y d).map (·.1) ∧ Reps K H m ((putD ds y d).map (·.2)) ((putK ks y v).map (·.2)) := by
  unfold putK putD
  rw [any_keys h]
  by_cases c : (ds.any fun kv => decide (kv.1 = y)) = true
  · rw [if_pos c, if_pos c]
    clear c
    induction ks generalizing ds with
    | nil => cases ds with
      | nil => exact ⟨rfl, rfl⟩
      | cons _ _ => cases h
    | cons p ks ih => cases ds with
      | nil => cases h
      | cons q ds =>
        obtain ⟨u, w, e, r1, r2⟩ := r
        simp only [List.map_cons, List.cons.injEq] at h e
        obtain ⟨hk1, hk2⟩ := h
        obtain ⟨e1, e2⟩ := e
        subst e1 e2
        obtain ⟨i1, i2⟩ := ih hk2 r2
        simp only [List.map_cons]
        rw [hk1]
        by_cases c : q.1 = y
        · rw [if_pos c, if_pos c]
          exact ⟨by rw [i1], _, _, rfl, rv, i2⟩
        · rw [if_neg c, if_neg c]
          exact ⟨by rw [i1, hk1], _, _, rfl, r1, i2⟩
  · rw [if_neg c, if_neg c]
    rw [List.map_append, List.map_append, List.map_append, List.map_append]
    exact ⟨by rw [h]; rfl, r.app (Reps.one rv)⟩
end
theorem dget_rep (s : RepS K H m S) {x k : D} {xv kv : V} (ko : ∀ ys, kyt k = some ys → ∃ b, kv = .ref b ∧ H b = some (.tup (ys.map kV))) (rx : Rep K H m x xv) (rk : Rep K H m k kv) {P : Option D → Prop} (h : dGet x k S P) : ∃ a o ov, xv = .ref a ∧ DGet H a kv ov ∧ P o ∧ RelO K H m o ov := by
  cases x with
  | ref n =>
    obtain ⟨a, ha, rfl⟩ := rx
    have h : (match S[n]? with
      | some (.dK kvs) => ∃ y, kyOf k = some y ∧ P (valK kvs y)
      | some (.dT kvs) => ∃ y, kyt k = some y ∧ P (valK kvs y)
      | some (.fK kvs) => ∃ y, kyOf k = some y ∧ P (valK kvs y)
      | some (.fT kvs) => ∃ y, kyt k = some y ∧ P (valK kvs y)
      | _ => False) := h
    split at h
    · rename_i kvs hS
      obtain ⟨y, hy, q⟩ := h
      obtain ⟨b, g1, ks, g2, g3, g4⟩ := s.obj n _ hS
      rw [ha] at g1
      cases g1
      rw [ky_rep hy rk]
      exact ⟨a, _, _, rfl, .k g2, q, val_rep g3 g4 y⟩
    · rename_i kvs hS
      obtain ⟨y, hy, q⟩ := h
      obtain ⟨b, g1, ks, g2, g3, g4⟩ := s.obj n _ hS
      rw [ha] at g1
      cases g1
      obtain ⟨c, rfl, hc⟩ := ko _ hy
      exact ⟨a, _, _, rfl, .t g2 hc, q, val_rep g3 g4 y⟩
    · rename_i kvs hS
      obtain ⟨y, hy, q⟩ := h
      obtain ⟨b, g1, od, ks, g2, g3, g4⟩ := s.obj n _ hS
      rw [ha] at g1
      cases g1
      rw [ky_rep hy rk]
      exact ⟨a, _, _, rfl, .inl ⟨ks, y, .inr ⟨od, g2⟩, rfl, rfl⟩, q, val_rep g3 g4 y⟩
    · rename_i kvs hS
      obtain ⟨y, hy, q⟩ := h
      obtain ⟨b, g1, od, ks, g2, g3, g4⟩ := s.obj n _ hS
      rw [ha] at g1
      cases g1
      obtain ⟨c, rfl, hc⟩ := ko _ hy
      exact ⟨a, _, _, rfl, .inr ⟨ks, y, c, .inr ⟨od, g2⟩, rfl, hc, rfl⟩, q, val_rep g3 g4 y⟩
    · exact h.elim
  | _ => exact (show False from h).elim
theorem RelO.some {o : Option D} {ov : Option V} {d : D} (h : RelO K H m o ov) (e : o = some d) : ∃ v, ov = some v ∧ Rep K H m d v := by
  subst e
  exact h
theorem RelO.isSome {o : Option D} {ov : Option V} (h : RelO K H m o ov) : ov.isSome = o.isSome := by
  cases o with
  | none => rw [show ov = none from h]; rfl
  | some d => obtain ⟨v, rfl, _⟩ := h; rfl
theorem RelO.getD {o : Option D} {ov : Option V} {d : D} {v : V} (h : RelO K H m o ov) (r : Rep K H m d v) : Rep K H m (o.getD d) (ov.getD v) := by
  cases o with
  | none => rw [show ov = none from h]; exact r
  | some e => obtain ⟨w, rfl, q⟩ := h; exact q
end
section
variable {X : Cx} {kk : Nat} {o i e f : Expr} {wo wi we wf : WE} {pos apos cpos : Pos}
theorem room1 {kk : Nat} (hr : L2.Room kk X.A) : X.A.units + 1 < cLine := by have := room65 hr; omega
theorem d_dnewK : PE X (.Dict [] [] pos) (teOf X.K wDNewK) := peI L2.pe_dnewK fun σ H Q ⟨ρ, S, m, R, hE, hS, h, k⟩ => fun p hp =>
  k _ (.ref S.length) _ (S ++ [.dK []]) (m ++ [p]) (Ext.pushed hp _) (hS.pushO (o := .dK []) hp fun H' eH => ⟨[], by rw [eH, upd_same], rfl, rfl⟩) ⟨p, by rw [← hS.len]; simp, rfl⟩ h
theorem d_dnewT : PE X (.Dict [] [] pos) (teOf X.K wDNewT) := peI L2.pe_dnewT fun σ H Q ⟨ρ, S, m, R, hE, hS, h, k⟩ => fun p hp =>
  k _ (.ref S.length) _ (S ++ [.dT []]) (m ++ [p]) (Ext.pushed hp _) (hS.pushO (o := .dT []) hp fun H' eH => ⟨[], by rw [eH, upd_same], rfl, rfl⟩) ⟨p, by rw [← hS.len]; simp, rfl⟩ h
theorem d_dix (hr : L2.Room kk X.A) (ho : PE X o (teOf X.K wo)) (hi : PE X i (teOf X.K wi)) (hs : L2.NoSl i := by first | exact L2.noSl rfl | (intro _ _; rfl) | trivial) (hcst : cst = false := by rfl) : PE X (.Subscript o i pos) (teOf X.K (wOp rDIx wo wi)) :=
  peI (L2.pe_dget (room1 hr) ho hi hs) fun σ H Q ⟨ρ, S, m, R, hE, hS, h, k⟩ => and2 hE hS h fun m2 H2 S2 v u x y e s rx ry q => by
    obtain ⟨a, od, ov, rfl, g, ⟨d, hd, q⟩, ro⟩ := dget_rep s (fun ys e => kyt_rep hcst e ry) rx ry q
    obtain ⟨w, rfl, rw⟩ := ro.some hd
    exact ⟨a, w, rfl, g, (k.ext e) _ d H2 S2 m2 (Ext.refl _ _) s rw q⟩
theorem g_dix (hr : L2.Room kk X.A) (hcst : cst = false := by rfl) : L2.PGet X (r2Of X.K rDIx) := fun pins s σ H x y v u Q I rx ry ⟨m, S, dx, dy, R, hs, qx, qy, h, k⟩ => by
  obtain ⟨a, od, ov, rfl, g, ⟨d, hd, q⟩, ro⟩ := dget_rep hs (fun ys e => kyt_rep hcst e qy) qx qy h
  obtain ⟨w, rfl, rw⟩ := ro.some hd
  cases rx
  exact L2.d_getItem (room1 hr) I g ry fun w' s' I' r' => ⟨w, H, I', r', k w d H S m (Ext.refl _ _) hs rw q⟩
theorem c_din (hr : L2.Room kk X.A) (hcst : cst = false := by rfl) : OpR X (compareOp .In) (r2Of X.K (rDIn false)) := fun pins s σ H x y v u Q I rx ry ⟨m, S, dx, dy, R, hs, qx, qy, h, k⟩ => by
  obtain ⟨a, od, ov, rfl, g, q, ro⟩ := dget_rep hs (fun ys e => kyt_rep hcst e qx) qy qx h
  cases ry
  refine L2.d_in (room1 hr) I g rx fun s' I' => ⟨.bl ov.isSome, H, I', rfl, k _ (.bl ov.isSome) H S m (Ext.refl _ _) hs rfl ?_⟩
  rw [ro.isSome]
  exact q
theorem c_dnotin (hr : L2.Room kk X.A) (hcst : cst = false := by rfl) : OpR X (compareOp .NotIn) (r2Of X.K (rDIn true)) := fun pins s σ H x y v u Q I rx ry ⟨m, S, dx, dy, R, hs, qx, qy, h, k⟩ => by
  obtain ⟨a, od, ov, rfl, g, q, ro⟩ := dget_rep hs (fun ys e => kyt_rep hcst e qx) qy qx h
  cases ry
  refine L2.d_notIn (room1 hr) I g rx fun s' I' => ⟨.bl (!ov.isSome), H, I', rfl, k _ (.bl (!ov.isSome)) H S m (Ext.refl _ _) hs rfl ?_⟩
  rw [ro.isSome]
  exact q
theorem isDc_rep {K : PySem.W.Frag} {m : List Addr} {H : Hp} {S : Sto} {x : D} {v : V} (s : RepS K H m S) (r : Rep K H m x v) (h : isDc x S) : ∃ a, v = .ref a ∧ L2.IsD H a := by
  cases x with
  | ref n =>
    obtain ⟨a, ha, rfl⟩ := r
    rcases h with ⟨kvs, h | h⟩ | ⟨kvs, h | h⟩
    · obtain ⟨b, g1, ks, g2, g3⟩ := s.obj n _ h
      rw [ha] at g1
      cases g1
      exact ⟨a, rfl, .inl ⟨ks, .inl g2⟩⟩
    · obtain ⟨b, g1, od, ks, g2, g3⟩ := s.obj n _ h
      rw [ha] at g1
      cases g1
      exact ⟨a, rfl, .inl ⟨ks, .inr ⟨od, g2⟩⟩⟩
    · obtain ⟨b, g1, ks, g2, g3⟩ := s.obj n _ h
      rw [ha] at g1
      cases g1
      exact ⟨a, rfl, .inr ⟨ks, .inl g2⟩⟩
    · obtain ⟨b, g1, od, ks, g2, g3⟩ := s.obj n _ h
      rw [ha] at g1
      cases g1
      exact ⟨a, rfl, .inr ⟨ks, .inr ⟨od, g2⟩⟩⟩
  | _ => exact (show False from h).elim
theorem d_dget2 (hr : L2.Room kk X.A) (ho : PE X o (teOf X.K wo)) (he : PE X e (teOf X.K we)) (hf : PE X f (teOf X.K wf)) (hm : L2.M2 X o "get" apos e f cpos := by exact ⟨by rfl, by rfl, by rfl, by rfl⟩) (hcst : cst = false := by rfl) :
    PE X (.Call (.Attribute o "get" apos) [e, f] [] cpos) (teOf X.K (wDGet2 wo we wf)) :=
  peI (L2.pe_dget2 (room1 hr) ho he hf hm) fun σ H Q ⟨ρ, S, m, R, hE, hS, h, k⟩ => ⟨ρ, S, m, _, hE, hS, h, fun v x H1 S1 m1 e1 s1 r1 ⟨z, q1⟩ => by
    obtain ⟨a, rfl, hd⟩ := isDc_rep s1 r1 z
    refine ⟨a, rfl, hd, ρ, S1, m1, _, hE.ext e1, s1, q1, fun u y H2 S2 m2 e2 s2 r2 q2 => ⟨ρ, S2, m2, _, hE.ext (e1.trans e2), s2, q2, fun w t H3 S3 m3 e3 s3 r3 q3 => ?_⟩⟩
    obtain ⟨b, od, ov, eb, g, q, ro⟩ := dget_rep s3 (fun ys e => kyt_rep hcst e (Rep.ext e3 _ _ r2)) (Rep.ext (e2.trans e3) _ _ r1) (Rep.ext e3 _ _ r2) q3
    cases eb
    exact ⟨ov, g, (k.ext ((e1.trans e2).trans e3)) _ (od.getD t) H3 S3 m3 (Ext.refl _ _) s3 (ro.getD r3) q⟩⟩
theorem dput_core {K : PySem.W.Frag} {H : Hp} {m : List Addr} {S : Sto} {o i v : V} {x j d : D} {R : Sto → Prop} {Q : Hp → Prop} (ko : ∀ ys, kyt j = some ys → ∃ b, i = .ref b ∧ H b = some (.tup (ys.map kV))) (hs : RepS K H m S) (rx : Rep K H m x o) (rk : Rep K H m j i) (rd : Rep K H m d v) (h : rDPut x j d S R)
    (k : ∀ H' S' m', Ext m H m' H' → RepS K H' m' S' → R S' → Q H') : ∃ a H', o = .ref a ∧ DPut H a i v H' ∧ Q H' := by
  cases x with
  | ref n =>
    obtain ⟨a, ha, rfl⟩ := rx
    have h : (match S[n]? with
      | some (.dK kvs) => ∃ y, kyOf j = some y ∧ kvs.length < szL ∧ R (S.set n (.dK (putD kvs y d)))
      | some (.dT kvs) => ∃ y, kyt j = some y ∧ kvs.length < szL ∧ R (S.set n (.dT (putD kvs y d)))
      | _ => False) := h
    split at h
    · rename_i kvs hS
      obtain ⟨y, hy, hl, q⟩ := h
      obtain ⟨b, g1, ks, g2, g3, g4⟩ := hs.obj n _ hS
      rw [ha] at g1
      cases g1
      have hlen : ks.length = kvs.length := by have := congrArg List.length g3; simpa using this
      obtain ⟨p1, p2⟩ := put_rep g3 g4 y rd
      refine ⟨a, _, rfl, ?_, k _ _ m (Ext.wrote (List.mem_of_getElem? ha) g2 rfl) (hs.setO (o' := .dK (putD kvs y d)) (ob := .dK (putK ks y v)) rfl hS ha fun H' eH ext => ⟨_, by rw [eH, upd_same], p1, Reps.ext ext _ _ p2⟩) q⟩
      rw [ky_rep hy rk]
      exact .k g2 (by rw [hlen, ← szL']; exact hl)
    · rename_i kvs hS
      obtain ⟨y, hy, hl, q⟩ := h
      obtain ⟨b, g1, ks, g2, g3, g4⟩ := hs.obj n _ hS
      rw [ha] at g1
      cases g1
      have hlen : ks.length = kvs.length := by have := congrArg List.length g3; simpa using this
      obtain ⟨p1, p2⟩ := put_rep g3 g4 y rd
      obtain ⟨c, rfl, hc⟩ := ko _ hy
      refine ⟨a, _, rfl, ?_, k _ _ m (Ext.wrote (List.mem_of_getElem? ha) g2 rfl) (hs.setO (o' := .dT (putD kvs y d)) (ob := .dT (putK ks y v)) rfl hS ha fun H' eH ext => ⟨_, by rw [eH, upd_same], p1, Reps.ext ext _ _ p2⟩) q⟩
      exact .t g2 hc (by rw [hlen, ← szL']; exact hl)
    · exact h.elim
  | _ => exact (show False from h).elim
theorem p_dput (hr : L2.Room kk X.A) (hcst : cst = false := by rfl) : L2.PSet X (rpOf X.K rDPut) := fun pins s σ H o i v ov iv u Q I ro ri rv ⟨m, S, x, j, d, R, hs, rx, rk, rd, h, k⟩ => by
  obtain ⟨a, H', eo, g, q⟩ := dput_core (fun ys e => kyt_rep hcst e rk) hs rx rk rd h k
  subst eo
  cases (show ov = Value.ref a from ro)
  exact L2.d_setItem (room1 hr) I g ri rv fun s' I' => ⟨H', I', q⟩
/-! over the keys of a dict -/
def tFreeze (t : TE) : TE := fun σ H Q => t σ H fun x H1 => ∃ d, x = .ref d ∧ ((∃ od u, H1 d = some (.frz od u) ∧ Q x H1) ∨ ∃ u, H1 d = some u ∧ L2.Mut (some u) ∧ ∀ od, Q x (upd H1 d (.frz od u)))
theorem pe_freeze {t : TE} (he : PE X e t) : PE X e (tFreeze t) := by
  refine ⟨fun pins s σ H Q I h => thn (he.run pins s σ H _ I h) fun v s1 ⟨x, H1, I1, r, d, ex, q⟩ => ?_⟩
  rcases q with ⟨od, u, hd, q⟩ | ⟨u, hd, mu, q⟩
  · exact ⟨x, H1, I1, r, q⟩
  · obtain ⟨od, I2⟩ := I1.lock hd mu
    exact ⟨x, _, I2, r, q od⟩
theorem yields_dK {K : PySem.W.Frag} {m : List Addr} {H : Hp} {a : Addr} {od : Obj} {kvs : List (Ky × D)} {ks : List (Key × V)} (h : H a = some (.frz od (.dK ks))) (hk : ks.map (·.1) = kvs.map (·.1)) : Yields K (L2.Itk a od ks) (kvs.map fun kv => keyD kv.1) (fun _ => True) m H := by
  intro m' H' S e s _
  have h' := e.lst _ _ h rfl
  have hl : ks.length = kvs.length := by have := congrArg List.length hk; simpa using this
  refine ⟨fun i d hd => ?_, fun i hi => ⟨h', by rw [List.length_map] at hi; omega⟩⟩
  rw [List.getElem?_map] at hd
  obtain ⟨kv, h1, rfl⟩ := Option.map_eq_some_iff.mp hd
  have hi := (List.getElem?_eq_some_iff.mp h1).1
  refine ⟨⟨h', by omega⟩, fun x H2 ⟨eH, k, v, h2, ex⟩ => ⟨m', by rw [eH]; exact Ext.refl _ _, by rw [eH]; exact s, ?_⟩⟩
  have : k = kv.1 := by
    have e1 := congrArg (fun l => l[i]?) hk
    simp only [List.getElem?_map, h1, h2, Option.map_some, Option.some.injEq] at e1
    exact e1
  subst this
  rw [ex]
  cases kv.1 <;> exact rfl
theorem key_tup {K : PySem.W.Frag} {H : Hp} {m : List Addr} : ∀ ys : List Ky, Reps K H m (ys.map keyD) (ys.map kV)
  | [] => rfl
  | y :: ys => ⟨_, _, rfl, (by cases y <;> exact rfl), key_tup ys⟩
theorem yields_dT {K : PySem.W.Frag} {m : List Addr} {H : Hp} {a : Addr} {od : Obj} {kvs : List (List Ky × D)} {ks : List (List Key × V)} (h : H a = some (.frz od (.dT ks))) (hk : ks.map (·.1) = kvs.map (·.1)) : Yields K (L2.Itkt a od ks) (kvs.map fun kv => D.tup (kv.1.map keyD)) (fun _ => True) m H := by
  intro m' H' S e s _
  have h' := e.lst _ _ h rfl
  have hl : ks.length = kvs.length := by have := congrArg List.length hk; simpa using this
  refine ⟨fun i d hd => ?_, fun i hi => ⟨h', by rw [List.length_map] at hi; omega⟩⟩
  rw [List.getElem?_map] at hd
  obtain ⟨kv, h1, rfl⟩ := Option.map_eq_some_iff.mp hd
  have hi := (List.getElem?_eq_some_iff.mp h1).1
  refine ⟨⟨h', by omega⟩, fun x H2 ⟨eH, k, v, q, h2, ex, hq⟩ => ⟨m', by rw [eH]; exact Ext.refl _ _, by rw [eH]; exact s, ?_⟩⟩
  have : k = kv.1 := by
    have e1 := congrArg (fun l => l[i]?) hk
    simp only [List.getElem?_map, h1, h2, Option.map_some, Option.some.injEq] at e1
    exact e1
  subst this
  rw [ex, eH]
  exact ⟨q, kv.1.map kV, rfl, .inl hq, key_tup kv.1⟩
theorem di_itD {tg : Expr} (he : PE X e (teOf X.K wo)) : PI X tg e (tiOf X.K (wItD wo)) :=
  piI (L2.pi_keys (pe_freeze he)) fun σ H R ⟨ρ, S, m, Rd, hE, hS, h, k⟩ => ⟨ρ, S, m, _, hE, hS, h, fun v d H1 S1 m1 e1 s1 r1 q1 => by
    cases d with
    | ref n =>
      obtain ⟨a, ha, rfl⟩ := r1
      have q1 : (match S1[n]? with
        | some (.dK kvs) => Rd (kvs.map fun kv => keyD kv.1) (fun _ => True) (S1.set n (.fK kvs))
        | some (.dT kvs) => Rd (kvs.map fun kv => D.tup (kv.1.map keyD)) (fun _ => True) (S1.set n (.fT kvs))
        | some (.fK kvs) => Rd (kvs.map fun kv => keyD kv.1) (fun _ => True) S1
        | some (.fT kvs) => Rd (kvs.map fun kv => D.tup (kv.1.map keyD)) (fun _ => True) S1
        | _ => False) := q1
      split at q1
      · rename_i kvs hS1
        obtain ⟨b, g1, ks, g2, g3, g4⟩ := s1.obj n _ hS1
        rw [ha] at g1
        cases g1
        refine ⟨a, rfl, .inr ⟨_, g2, True.intro, fun od => ⟨a, od, rfl, .inl ⟨ks, upd_same, ?_⟩⟩⟩⟩
        have ew : Ext m1 H1 m1 (upd H1 a (.frz od (.dK ks))) := Ext.wrote (List.mem_of_getElem? ha) g2 rfl
        exact k _ _ _ _ m1 _ (e1.trans ew) (s1.setO (o' := .fK kvs) rfl hS1 ha fun H' eH ext => ⟨od, ks, by rw [eH, upd_same], g3, Reps.ext ext _ _ g4⟩) (yields_dK upd_same g3) q1
      · rename_i kvs hS1
        obtain ⟨b, g1, ks, g2, g3, g4⟩ := s1.obj n _ hS1
        rw [ha] at g1
        cases g1
        refine ⟨a, rfl, .inr ⟨_, g2, True.intro, fun od => ⟨a, od, rfl, .inr ⟨ks, upd_same, ?_⟩⟩⟩⟩
        have ew : Ext m1 H1 m1 (upd H1 a (.frz od (.dT ks))) := Ext.wrote (List.mem_of_getElem? ha) g2 rfl
        exact k _ _ _ _ m1 _ (e1.trans ew) (s1.setO (o' := .fT kvs) rfl hS1 ha fun H' eH ext => ⟨od, ks, by rw [eH, upd_same], g3, Reps.ext ext _ _ g4⟩) (yields_dT upd_same g3) q1
      · rename_i kvs hS1
        obtain ⟨b, g1, od, ks, g2, g3, g4⟩ := s1.obj n _ hS1
        rw [ha] at g1
        cases g1
        exact ⟨a, rfl, .inl ⟨od, _, g2, a, od, rfl, .inl ⟨ks, g2, k _ _ _ _ m1 _ e1 s1 (yields_dK g2 g3) q1⟩⟩⟩
      · rename_i kvs hS1
        obtain ⟨b, g1, od, ks, g2, g3, g4⟩ := s1.obj n _ hS1
        rw [ha] at g1
        cases g1
        exact ⟨a, rfl, .inl ⟨od, _, g2, a, od, rfl, .inr ⟨ks, g2, k _ _ _ _ m1 _ e1 s1 (yields_dT g2 g3) q1⟩⟩⟩
      · exact q1.elim
    | _ => exact (show False from q1).elim⟩
end
end DL
set_option Elab.async false
set_option linter.all false
set_option maxRecDepth 100000
set_option maxHeartbeats 8000000
/-! DLT: slices with a step of tuples. -/
namespace L2
open PySem PySem.Spec PyProof.Rows HT
section
variable {prog : Program} {w : World} {A : Around} {E : Value → Shared → Prop} {s : Shared}
theorem applied_st {sl : Addr} {vl vu vs : Value} {lo hi : Option Int} {st : Int} {n : Nat} {Q : Int × Int × Nat → Shared → Prop} (h0 : st ≠ 0) (hs : s.heap.IsSliceOf sl vl vu vs) (pl : IsPart vl lo) (pu : IsPart vu hi) (ps : IsPart vs (some st))
    (h : Q ((Builtin.Slice.sliceAdjust lo hi st (n : Int)).1, st, Builtin.Slice.slicePlaces (Builtin.Slice.sliceAdjust lo hi st (n : Int)).1 (Builtin.Slice.sliceAdjust lo hi st (n : Int)).2 st) s) :
    wpAny (model prog w) A (Builtin.Slice.sliceApplied (.ref sl) (pure (n : Int))) Q E s := by
  obtain ⟨os, hos, hcs, hds⟩ := id hs
  unfold Builtin.Slice.sliceApplied Builtin.Slice.sliceFields
  refine wpAny_bind (wpAny_bind (wpAny_field hos hds (x := vl) rfl (wpAny_bind (wpAny_field hos hds (x := vu) rfl (wpAny_bind (wpAny_field hos hds (x := vs) rfl (wpAny_pure ?_)))))))
  refine wpAny_bind (slicePart_ ps ?_)
  show wpAny _ _ (if (st == 0) = true then _ else _) _ _ s
  rw [if_neg (by simpa using h0)]
  refine wpAny_bind (slicePart_ pl (wpAny_bind (slicePart_ pu (wpAny_bind (wpAny_pure ?_)))))
  show wpAny _ _ (match Builtin.Slice.sliceAdjust lo hi st (n : Int) with | (lo, hi) => pure (lo, st, Builtin.Slice.slicePlaces lo hi st)) _ _ s
  exact wpAny_pure h
/-- the items of xs[lo:hi:st] -/
def stepL {α : Type} (xs : List α) (lo hi : Option Int) (st : Int) : List α :=
  (List.range (Builtin.Slice.slicePlaces (Builtin.Slice.sliceAdjust lo hi st (xs.length : Int)).1 (Builtin.Slice.sliceAdjust lo hi st (xs.length : Int)).2 st)).filterMap fun (k : Nat) => xs[((Builtin.Slice.sliceAdjust lo hi st (xs.length : Int)).1 + (k : Int) * st).toNat]?
theorem getItem_tuple_step {t sl : Addr} {items : List Value} {vl vu vs : Value} {lo hi : Option Int} {st : Int} {Q : Value → Shared → Prop} (h0 : st ≠ 0) (h1 : st ≠ 1) (ht : IsTup s.heap t items.toArray) (hs : s.heap.IsSliceOf sl vl vu vs) (pl : IsPart vl lo) (pu : IsPart vu hi) (ps : IsPart vs (some st))
    (hz : (stepL items lo hi st).length ≤ sizeLine)
    (h : Q (.ref s.heap.objs.size) { s with heap := s.heap.push { cls := .type "tuple", data := .seq (stepL items lo hi st).toArray } }) : wpAny (model prog w) A (getItem (.ref t) (.ref sl)) Q E s := by
  have htake : sizeOk (.seq (stepL items lo hi st).toArray) := by
    show (stepL items lo hi st).toArray.size ≤ sizeLine
    rw [List.size_toArray]
    exact hz
  obtain ⟨os, hos, hcs, hds⟩ := id hs
  have hTs : s.TypeIs (.ref sl) "slice" := ⟨os, hos, hcs⟩
  unfold getItem
  try with_reducible refine wpAny_holding ?_
  first | refine wpAny_bind (wpAny_pure ?_) | skip
  refine wpAny_bind (wpAny_sequenceKey ht.typeIs (by decide) ?_)
  refine wpAny_bind (wpAny_callSpecial?_slot (name := Str.ofString "__getitem__") ht.typeIs PyProof.Rows.slot_tuple_getitem
    (wpAny_call_entry PyProof.Rows.slot_tuple_getitem ht.typeIs entry_tuple_getitem ?_ (args_tuple_getitem _ _)))
  show wpAny _ _ (Builtin.Tuple.tupleItemsOf (.ref t) >>= _) _ _ s
  refine wpAny_bind (tupleItemsOf_ ht ?_)
  refine wpAny_bind (wpAny_typeOf hTs ?_)
  rw [if_pos (by decide)]
  refine wpAny_bind (applied_st h0 hs pl pu ps ?_)
  have hno : ¬ ((((Builtin.Slice.sliceAdjust lo hi st (items.toArray.size : Int)).1) == 0 && st == 1 && (Builtin.Slice.slicePlaces (Builtin.Slice.sliceAdjust lo hi st (items.toArray.size : Int)).1 (Builtin.Slice.sliceAdjust lo hi st (items.toArray.size : Int)).2 st) == items.toArray.size) = true) := by
    intro q
    rw [Bool.and_eq_true, Bool.and_eq_true] at q
    exact h1 (eq_of_beq q.1.2)
  show wpAny _ _ (if (((Builtin.Slice.sliceAdjust lo hi st (items.toArray.size : Int)).1) == 0 && st == 1 && (Builtin.Slice.slicePlaces (Builtin.Slice.sliceAdjust lo hi st (items.toArray.size : Int)).1 (Builtin.Slice.sliceAdjust lo hi st (items.toArray.size : Int)).2 st) == items.toArray.size) = true then _ else _) _ _ s
  rw [if_neg hno]
  have epick : ((List.range (Builtin.Slice.slicePlaces (Builtin.Slice.sliceAdjust lo hi st (items.toArray.size : Int)).1 (Builtin.Slice.sliceAdjust lo hi st (items.toArray.size : Int)).2 st)).filterMap fun (k : Nat) => items.toArray[((Builtin.Slice.sliceAdjust lo hi st (items.toArray.size : Int)).1 + (k : Int) * st).toNat]?).toArray = (stepL items lo hi st).toArray := by
    unfold stepL
    simp only [List.size_toArray, List.getElem?_toArray]
  rw [epick]
  first
    | exact wpAny_bind (m := Builtin.Tuple.tupleExact _) (wpAny_newObj_type (wpAny_pure ⟨_, rfl, wpAny_pure h⟩) htake)
    | exact wpAny_bind (m := Builtin.Tuple.tupleExact _) (wpAny_newObj_type (wpAny_bind (wpAny_pure (wpAny_pure ⟨_, rfl, wpAny_pure h⟩))) htake)
    | exact wpAny_bind (wpAny_bind (m := Builtin.Tuple.tupleExact _) (wpAny_newObj_type (wpAny_pure (wpAny_pure ⟨_, rfl, wpAny_pure h⟩)) htake))
    | exact wpAny_bind (wpAny_bind (m := Builtin.Tuple.tupleExact _) (wpAny_newObj_type (wpAny_pure ⟨_, rfl, wpAny_pure h⟩) htake))
end
theorem stepL_vals {xs : List V} {us : List Value} (r : Vals xs us) (lo hi : Option Int) (st : Int) : Vals (stepL xs lo hi st) (stepL us lo hi st) := by
  unfold stepL
  rw [Paired.length r]
  generalize Builtin.Slice.slicePlaces _ _ st = n
  generalize (Builtin.Slice.sliceAdjust lo hi st (us.length : Int)).1 = a
  have get : ∀ i : Nat, (xs[i]? = none ∧ us[i]? = none) ∨ ∃ x u, xs[i]? = some x ∧ us[i]? = some u ∧ RelV x u := by
    intro i
    induction r generalizing i with
    | nil => exact .inl ⟨rfl, rfl⟩
    | cons h _ ih => cases i with
      | zero => exact .inr ⟨_, _, rfl, rfl, h⟩
      | succ i => exact ih i
  induction n with
  | zero => exact .nil
  | succ n ih =>
    rw [List.range_succ, List.filterMap_append, List.filterMap_append]
    refine Vals.append ih ?_
    rcases get (a + (n : Int) * st).toNat with ⟨e1, e2⟩ | ⟨x, u, e1, e2, h⟩
    · simp only [List.filterMap_cons, e1, e2, List.filterMap_nil]
      exact .nil
    · simp only [List.filterMap_cons, e1, e2, List.filterMap_nil]
      exact .cons h .nil
def tStp (K : PySem.W.Frag) (te : TE) (tl tu ts : TO) : TE := fun σ H Q => te σ H fun x H1 => tl σ H1 fun l H2 => tu σ H2 fun u H3 => ts σ H3 fun o H4 => ∃ a xs st, x = .ref a ∧ o = some st ∧ st ≠ 0 ∧ st ≠ 1 ∧ SqT K H4 a xs ∧ (xs.length ≤ sizeLine → (stepL xs l u st).length ≤ sizeLine) ∧ ∀ p, H4 p = none → Q (.ref p) (upd H4 p (.tup (stepL xs l u st)))
theorem pe_stp {X : Cx} {e st : Expr} {lo hi : Option Expr} {te : TE} {tl tu ts : TO} {p3 pos : Pos} (he : PE X e te) (hl : PO X lo tl) (hu : PO X hi tu) (hst : PO X (some st) ts) (htl : ∀ (v sl : Value), subscripted (.Slice lo hi (some st) p3) false v sl = operate [v, sl] (getItem v sl) := by intro _ _; rfl) :
    PE X (.Subscript e (.Slice lo hi (some st) p3) pos) (tStp X.K te tl tu ts) := by
  refine ⟨fun pins s σ H Q I h => ?_⟩
  refine Subscript_ (thn (he.run pins s σ H _ I h) fun v s1 ⟨x, H1, I1, r1, q1⟩ => ?_)
  refine wpAny_Slice (thn (hl.run pins s1 σ H1 _ I1 q1) fun vl s2 ⟨l, H2, I2, pl, q2⟩ => thn (hu.run pins s2 σ H2 _ I2 q2) fun vu s3 ⟨u, H3, I3, pu, q3⟩ => thn (hst.run pins s3 σ H3 _ I3 q3) fun vs s4 ⟨o, H4, I4, ps, q4⟩ => ?_)
  obtain ⟨a, xs, k, ex, eo, h0, h1, hx, hz, q⟩ := q4
  subst ex eo
  cases r1
  have I5 : Inv X pins σ H4 { s4 with heap := s4.heap.push { cls := .type "slice", data := .fields #[vl, vu, vs] } } := I4.kept (t' := s4.toks) fun b ob q => Heap.get?_push_of_some _ q
  obtain ⟨its, r, ht, hz0⟩ := I5.tuple hx
  have hlen := Paired.length r
  show wpAny (model X.prog X.w) X.A (subscriptTail e (.Slice lo hi (some st) p3) (.ref a) (.ref s4.heap.objs.size)) (EP X pins σ Q) X.xe { s4 with heap := s4.heap.push { cls := .type "slice", data := .fields #[vl, vu, vs] } }
  refine tail_any (ops := [.ref a, .ref s4.heap.objs.size]) ht.typeIs (PyProof.Rows.slot_tuple_getitem.lookup) ?_ (by with_unfolding_all rfl)
  have hz := hz hz0
  have rs := stepL_vals r l u k
  refine getItem_tuple_step h0 h1 ht (Heap.IsSliceOf.new _ vl vu vs) pl pu ps (by rw [← Paired.length rs]; exact hz) ?_
  refine ⟨.ref _, _, I5.laid (t' := s4.toks) (o := .tup (stepL xs l u k)) (fun b ob q => Heap.get?_push_of_some _ q) (Nat.le_refl _) ?_, rfl, q _ (I5.hok.fresh (Nat.le_refl _))⟩
  exact ⟨hz, _, rs, IsTup.new _ _⟩
end L2
namespace DL
open PySem PySem.Spec
open L2 (V Hp HO St TE TT TA TS TG TI TO PE PT PW PA PS PSs PG PI PO Cx Inv RelV Vals SqL SqT Rd upd upd_same upd_ne ne_of ne_of_none OpR UnR CallR MtR IxR SlR It thn Key kV valV putK DGet DPut)
theorem fm_congr {α β : Type} {f g : α → Option β} : ∀ {l : List α}, (∀ x ∈ l, f x = g x) → l.filterMap f = l.filterMap g
  | [], _ => rfl
  | a :: l, h => by
    rw [List.filterMap_cons, List.filterMap_cons, h a List.mem_cons_self, fm_congr fun x m => h x (List.mem_cons_of_mem _ m)]
theorem pick_rev {α : Type} : ∀ zs : List α, (List.range zs.length).filterMap (fun k => zs.reverse[zs.length - 1 - k]?) = zs
  | [] => rfl
  | a :: zs => by
    have ih := pick_rev zs
    rw [List.length_cons, List.range_succ_eq_map, List.filterMap_cons, List.filterMap_map]
    have e0 : (a :: zs).reverse[zs.length + 1 - 1 - 0]? = some a := by
      rw [List.reverse_cons, List.getElem?_append_right (by simp), List.length_reverse]
      simp
    rw [e0]
    show a :: _ = a :: zs
    congr 1
    refine Eq.trans ?_ ih
    apply fm_congr
    intro k hk
    have hk := List.mem_range.mp hk
    show (a :: zs).reverse[zs.length + 1 - 1 - (k + 1)]? = zs.reverse[zs.length - 1 - k]?
    rw [List.reverse_cons, List.getElem?_append_left (by rw [List.length_reverse]; omega)]
    congr 1
    omega
theorem step_rev {α : Type} (xs : List α) : L2.stepL xs none none (-1) = xs.reverse := by
  have h := pick_rev xs.reverse
  rw [List.reverse_reverse, List.length_reverse] at h
  rw [← h]
  unfold L2.stepL
  have ea : (Builtin.Slice.sliceAdjust none none (-1) (xs.length : Int)) = ((xs.length : Int) - 1, -1) := rfl
  rw [ea]
  have ep : Builtin.Slice.slicePlaces ((xs.length : Int) - 1) (-1) (-1) = xs.length := by
    unfold Builtin.Slice.slicePlaces
    rw [if_neg (by decide), show -(-1 : Int) = 1 from rfl, Int.ediv_one]
    split <;> omega
  rw [ep]
  apply fm_congr
  intro k hk
  have hk := List.mem_range.mp hk
  congr 1
  show ((xs.length : Int) - 1 + (k : Int) * -1).toNat = xs.length - 1 - k
  omega
theorem d_revT {X : Cx} {o : Expr} {wo : WE} {k : Nat} {p1 p2 p3 pos : Pos} (ho : PE X o (teOf X.K wo)) : PE X (.Subscript o (.Slice none none (some (.UnaryOp .USub (.Constant (.int 1) k p1) p2)) p3) pos) (teOf X.K (wUn rRevT wo)) :=
  peI (L2.pe_stp ho L2.po_none L2.po_none (L2.po_some (L2.pe_un L2.un_neg L2.pe_int))) fun σ H Q ⟨ρ, S, m, R, hE, hS, h, kk⟩ => ⟨ρ, S, m, _, hE, hS, h, fun v d H1 S1 m1 e1 s1 r1 q1 => by
    cases d with
    | tup xs =>
      obtain ⟨a, vs, rfl, hT, rs⟩ := r1
      refine ⟨1, rfl, -1, rfl, a, vs, -1, rfl, rfl, by decide, by decide, hT.sqT, fun hz => by rw [step_rev, List.length_reverse]; exact hz, fun p hp => ?_⟩
      rw [step_rev]
      exact kk _ (.tup xs.reverse) _ S1 m1 (e1.trans (Ext.fresh hp _)) (s1.fresh hp _) ⟨p, vs.reverse, rfl, .inl upd_same, Reps.ext (Ext.fresh hp _) _ _ rs.rev⟩ q1
    | _ => exact (show False from q1).elim⟩
end DL
set_option Elab.async false
set_option linter.all false
set_option maxRecDepth 100000
set_option maxHeartbeats 4000000
/-! DLC: comprehensions with two clauses -/
namespace DL
open PySem PySem.Spec
open L2 (V Hp HO St TE TT TA TS TG TI TO PE PT PW PA PS PSs PG PI PO Cx Inv RelV Vals SqL SqT Rd upd upd_same upd_ne ne_of ne_of_none OpR UnR CallR MtR IxR SlR It thn)
def Lc2 (items : List D) (guard : Sto → Prop) (S1 : Sto) (step : D → Sto → List D → (List D → Sto → Prop) → Prop) (Q : VK) : Prop := ∃ I : Nat → List D → Sto → Prop,
  I 0 [] S1 ∧ (∀ i acc S', I i acc S' → guard S') ∧
  (∀ i d acc S', items[i]? = some d → I i acc S' → step d S' acc (I (i + 1))) ∧
  ∀ acc S', I items.length acc S' → Q (.ref S'.length) (S' ++ [.lst acc])
def Lc1 (items : List D) (guard : Sto → Prop) (S1 : Sto) (acc0 : List D) (step : D → Sto → (Option D → Sto → Prop) → Prop) (done : List D → Sto → Prop) : Prop := ∃ I : Nat → List D → Sto → Prop,
  I 0 acc0 S1 ∧ (∀ i acc S', I i acc S' → guard S') ∧
  (∀ i d acc S', items[i]? = some d → I i acc S' → acc.length < szL ∧ step d S' fun o S2 => I (i + 1) (acc ++ o.toList) S2) ∧
  ∀ acc S', I items.length acc S' → done acc S'
@[reducible] def wLc2 (wi : WI) (g : WG) (tt : WT) (wi1 : WI) (g1 : WG) (tt1 : WT) (te : WE) (vs vs1 : List Nat) : WE := fun ρ S Q => wi ρ S fun items guard S1 =>
  Lc2 items guard S1 (fun d S' acc N => g d (wipe ρ vs) S' fun ρ2 S2 => tt ρ2 S2 fun b S3 => if b = true then wi1 ρ2 S3 fun items1 guard1 S4 =>
    Lc1 items1 guard1 S4 acc (fun d1 S5 R => g1 d1 (wipe ρ2 vs1) S5 fun ρ3 S6 => tt1 ρ3 S6 fun b S7 => if b = true then te ρ3 S7 fun y S8 => R (some y) S8 else R none S7) N else N acc S3) Q
theorem Ex0.trans {m m1 m2 : List Addr} {H H1 H2 : Hp} (a : Ex0 m H m1 H1) (b : Ex0 m1 H1 m2 H2) : Ex0 m H m2 H2 := ⟨fun n x h => b.pre n x (a.pre n x h), fun c o h hl => b.lst c o (a.lst c o h hl) hl⟩
theorem RepE.ext0 {K : PySem.W.Frag} {H H' : Hp} {m m' : List Addr} {ρ : Env} {σ : St} (r : RepE K H m ρ σ) (e : Ex0 m H m' H') : RepE K H' m' ρ σ :=
  ⟨r.1, fun i d h => let ⟨v, h1, h2⟩ := r.2 i d h; ⟨v, h1, Rep.ext0 e _ _ h2⟩⟩
section
variable {X : Cx}
theorem lc2_read {wi wi1 : WI} {g g1 : WG} {tt tt1 : WT} {te : WE} {vs vs1 : List Nat} (K : PySem.W.Frag) (σ : St) (H : Hp) (Q : L2.VK) (h : teOf K (wLc2 wi g tt wi1 g1 tt1 te vs vs1) σ H Q) : L2.tLc2 (tiOf K wi) (tgOf K vs g) (ttOf K tt) (tiOf K wi1) (tgOf K vs1 g1) (ttOf K tt1) (teOf K te) vs vs1 σ H Q := by
  obtain ⟨ρ, S, m, R, hE, hS, h, k⟩ := h
  refine ⟨ρ, S, m, _, hE, hS, h, fun J items guard S1 m1 H1 e1 s1 y ⟨I, i0, ig, it, ie⟩ D hD => ?_⟩
  have nD := s1.notin hD
  refine ⟨fun i n H' => n = items.length - i ∧ ∃ S' m' acc av, Ext m1 H1 m' H' ∧ RepS K H' m' S' ∧ D ∉ m' ∧ H' D = some (.lst av) ∧ Reps K H' m' acc av ∧ I i acc S' ∧ i ≤ items.length,
    ⟨_, rfl, S1, m1, [], [], Ext.fresh hD _, s1.fresh hD _, nD, upd_same, rfl, i0, Nat.zero_le _⟩, ?_⟩
  rintro i n H2 ⟨hn, S2, m2, acc, av, e2, s2, n2, a2, r2, hI, hle⟩
  obtain ⟨yg, ys⟩ := y m2 H2 S2 e2.ex0 s2 (ig _ _ _ hI)
  by_cases hlt : i < items.length
  · obtain ⟨go, yd⟩ := yg i items[i] (List.getElem?_eq_getElem hlt)
    refine .inr ⟨go, fun H' => ∃ S' m' acc av, Ext m1 H1 m' H' ∧ RepS K H' m' S' ∧ D ∉ m' ∧ H' D = some (.lst av) ∧ Reps K H' m' acc av ∧ I (i + 1) acc S', fun H' ⟨S', m', acc', av', q1, q2, q3, q4, q5, q7⟩ => ⟨_, by omega, rfl, S', m', acc', av', q1, q2, q3, q4, q5, q7, hlt⟩, fun x H' hy => ?_⟩
    obtain ⟨m3, e3, s3, rx⟩ := yd x H' hy
    obtain ⟨a3, n3⟩ := e3.own a2 n2
    refine ⟨items[i], wipe ρ vs, S2, m3, _, (hE.ext (e1.trans (e2.trans e3))).wipe vs, s3, rx, it i _ acc S2 (List.getElem?_eq_getElem hlt) hI, fun σ4 ρ4 S4 m4 H4 w4 e4 s4 r4 q4 => ⟨by rw [w4, wipe_idem], ρ4, S4, m4, _, r4, s4, q4, fun b H5 S5 m5 e5 s5 q5 => ?_⟩⟩
    obtain ⟨a4, n4⟩ := e4.own a3 n3
    obtain ⟨a5, n5⟩ := e5.own a4 n4
    have e15 := e2.trans (e3.trans (e4.trans e5))
    have racc := Reps.ext (e3.trans (e4.trans e5)) _ _ r2
    by_cases hb : b = true
    · rw [if_pos hb] at q5 ⊢
      refine ⟨ρ4, S5, m5, _, r4.ext e5, s5, q5, fun J1 items1 guard1 S6 m6 H6 e6 s6 y1 ⟨I1, j0, jg, jt, je⟩ => ?_⟩
      obtain ⟨a6, n6⟩ := e6.own a5 n5
      refine ⟨fun j k H' => k = items1.length - j ∧ ∃ S' m' acc av, Ex0 m6 H6 m' H' ∧ Ext m1 H1 m' H' ∧ RepS K H' m' S' ∧ D ∉ m' ∧ H' D = some (.lst av) ∧ Reps K H' m' acc av ∧ I1 j acc S' ∧ j ≤ items1.length,
        ⟨_, rfl, S6, m6, acc, av, (Ext.refl _ _).ex0, e15.trans e6, s6, n6, a6, Reps.ext e6 _ _ racc, j0, Nat.zero_le _⟩, ?_⟩
      rintro j k H7 ⟨hk, S7, m7, acc7, av7, x7, e7, s7, n7, a7, r7, hI7, hle7⟩
      obtain ⟨yg1, ys1⟩ := y1 m7 H7 S7 x7 s7 (jg _ _ _ hI7)
      by_cases hlt1 : j < items1.length
      · obtain ⟨go1, yd1⟩ := yg1 j items1[j] (List.getElem?_eq_getElem hlt1)
        refine .inr ⟨go1, fun H' => ∃ S' m' acc av, Ex0 m6 H6 m' H' ∧ Ext m1 H1 m' H' ∧ RepS K H' m' S' ∧ D ∉ m' ∧ H' D = some (.lst av) ∧ Reps K H' m' acc av ∧ I1 (j + 1) acc S', fun H' ⟨S', m', acc', av', q0, q1, q2, q3, q4, q5, q7⟩ => ⟨_, by omega, rfl, S', m', acc', av', q0, q1, q2, q3, q4, q5, q7, hlt1⟩, fun x H' hy => ?_⟩
        obtain ⟨m8, e8, s8, rx8⟩ := yd1 x H' hy
        obtain ⟨a8, n8⟩ := e8.own a7 n7
        obtain ⟨hz, hst⟩ := jt j _ acc7 S7 (List.getElem?_eq_getElem hlt1) hI7
        refine ⟨items1[j], wipe ρ4 vs1, S7, m8, _, ((((r4.ext e5).ext e6).ext0 x7).ext e8).wipe vs1, s8, rx8, hst, fun σ9 ρ9 S9 m9 H9 w9 e9 s9 r9 q9 => ⟨by rw [w9, wipe_idem], ρ9, S9, m9, _, r9, s9, q9, fun b1 H10 S10 m10 e10 s10 q10 => ?_⟩⟩
        obtain ⟨a9, n9⟩ := e9.own a8 n8
        obtain ⟨a10, n10⟩ := e10.own a9 n9
        by_cases hb1 : b1 = true
        · rw [if_pos hb1] at q10 ⊢
          refine ⟨ρ9, S10, m10, _, r9.ext e10, s10, q10, fun v d H11 S11 m11 e11 s11 r11 q11 => ?_⟩
          obtain ⟨a11, n11⟩ := e11.own a10 n10
          have e711 := e8.trans (e9.trans (e10.trans e11))
          have racc7 := Reps.ext e711 _ _ r7
          refine ⟨av7, a11, by rw [racc7.len, ← szL_eq]; exact hz, S11, m11, acc7 ++ [d], av7 ++ [v], (x7.trans e711.ex0).trans (Ex0.side a11), (e7.trans e711).side hD n11, s11.side a11 n11, n11, upd_same, ?_, q11⟩
          exact Reps.app (Reps.ext0 (Ex0.side a11) _ _ racc7) (Reps.one (Rep.ext0 (Ex0.side a11) _ _ r11))
        · rw [if_neg hb1] at q10 ⊢
          have e710 := e8.trans (e9.trans e10)
          exact ⟨S10, m10, acc7, av7, x7.trans e710.ex0, e7.trans e710, s10, n10, a10, Reps.ext e710 _ _ r7, by simpa using q10⟩
      · have ei : j = items1.length := by omega
        subst ei
        exact .inl ⟨ys1 _ (Nat.le_refl _), S7, m7, acc7, av7, e7, s7, n7, a7, r7, je _ _ hI7⟩
    · rw [if_neg hb] at q5 ⊢
      exact ⟨S5, m5, acc, av, e15, s5, n5, a5, racc, q5⟩
  · have ei : i = items.length := by omega
    subst ei
    refine .inl ⟨ys _ (Nat.le_refl _), k _ (.ref S2.length) H2 (S2 ++ [.lst acc]) (m2 ++ [D]) (e1.trans (e2.adopt hD)) (s2.adopt a2 n2 r2) ⟨D, by rw [← s2.len]; simp, rfl⟩ (ie _ _ hI)⟩
theorem d_lc2 {elt tg iter tg1 iter1 : Expr} {ifs ifs1 : List Expr} {scope : Scope} {own : List (Str × Nat)} {vs1 : List Nat} {pos : Pos} {wi wi1 : WI} {g g1 : WG} {tt tt1 : WT} {te : WE} (hc : X.calm = true) (hN : X.N.Nodup) (hi : PI X tg iter (tiOf X.K wi)) (ok : L2.BlkOk X.N X.env.scope scope own) (hv : ∀ i ∈ vs1, i ∈ own.map (·.2))
    (hg : ∀ (s : Shared) (H : Hp) (C : Addr) (cl : List (Str × Addr)) (fp : List Addr), PG (X.blk s H scope (compEnvC scope cl C X.env) fp) tg (tgOf X.K (own.map (·.2)) g))
    (ht : ∀ (s : Shared) (H : Hp) (C : Addr) (cl : List (Str × Addr)) (fp : List Addr), L2.PTs (X.blk s H scope (compEnvC scope cl C X.env) fp) ifs (ttOf X.K tt))
    (hi1 : ∀ (s : Shared) (H : Hp) (C : Addr) (cl : List (Str × Addr)) (fp : List Addr), PI (X.blk s H scope (compEnvC scope cl C X.env) fp) tg1 iter1 (tiOf X.K wi1))
    (hg1 : ∀ (s : Shared) (H : Hp) (C : Addr) (cl : List (Str × Addr)) (fp : List Addr), PG (X.blk s H scope (compEnvC scope cl C X.env) fp) tg1 (tgOf X.K vs1 g1))
    (ht1 : ∀ (s : Shared) (H : Hp) (C : Addr) (cl : List (Str × Addr)) (fp : List Addr), L2.PTs (X.blk s H scope (compEnvC scope cl C X.env) fp) ifs1 (ttOf X.K tt1))
    (he : ∀ (s : Shared) (H : Hp) (C : Addr) (cl : List (Str × Addr)) (fp : List Addr), PE (X.blk s H scope (compEnvC scope cl C X.env) fp) elt (teOf X.K te)) (hs : ∀ x, foldedSetIterable iter X.env x = pure x := by intro _; rfl) (hs1 : ∀ env x, foldedSetIterable iter1 env x = pure x := by intro _ _; rfl) :
    PE X (.ListComp elt [⟨tg, iter, ifs, 0⟩, ⟨tg1, iter1, ifs1, 0⟩] scope pos) (teOf X.K (wLc2 wi g tt wi1 g1 tt1 te (own.map (·.2)) vs1)) :=
  peI (L2.pe_lc2 hc hN hi ok hv hg ht hi1 hg1 ht1 he hs hs1) fun σ H Q h => lc2_read X.K σ H Q h
theorem ds_setLc2 (i : Nat) {y : Str} {py : Pos} {elt tg iter tg1 iter1 : Expr} {ifs ifs1 : List Expr} {scope : Scope} {own : List (Str × Nat)} {vs1 : List Nat} {pos spos : Pos} {wi wi1 : WI} {g g1 : WG} {tt tt1 : WT} {te : WE} (hc : X.calm = true) (hN : X.N.Nodup) (hi : PI X tg iter (tiOf X.K wi)) (ok : L2.BlkOk X.N X.env.scope scope own) (hv : ∀ i ∈ vs1, i ∈ own.map (·.2))
    (hg : ∀ (s : Shared) (H : Hp) (C : Addr) (cl : List (Str × Addr)) (fp : List Addr), PG (X.blk s H scope (compEnvC scope cl C X.env) fp) tg (tgOf X.K (own.map (·.2)) g))
    (ht : ∀ (s : Shared) (H : Hp) (C : Addr) (cl : List (Str × Addr)) (fp : List Addr), L2.PTs (X.blk s H scope (compEnvC scope cl C X.env) fp) ifs (ttOf X.K tt))
    (hi1 : ∀ (s : Shared) (H : Hp) (C : Addr) (cl : List (Str × Addr)) (fp : List Addr), PI (X.blk s H scope (compEnvC scope cl C X.env) fp) tg1 iter1 (tiOf X.K wi1))
    (hg1 : ∀ (s : Shared) (H : Hp) (C : Addr) (cl : List (Str × Addr)) (fp : List Addr), PG (X.blk s H scope (compEnvC scope cl C X.env) fp) tg1 (tgOf X.K vs1 g1))
    (ht1 : ∀ (s : Shared) (H : Hp) (C : Addr) (cl : List (Str × Addr)) (fp : List Addr), L2.PTs (X.blk s H scope (compEnvC scope cl C X.env) fp) ifs1 (ttOf X.K tt1))
    (he : ∀ (s : Shared) (H : Hp) (C : Addr) (cl : List (Str × Addr)) (fp : List Addr), PE (X.blk s H scope (compEnvC scope cl C X.env) fp) elt (teOf X.K te))
    (hsw : swapsWith (.ListComp elt [⟨tg, iter, ifs, 0⟩, ⟨tg1, iter1, ifs1, 0⟩] scope pos) (some (.Name y py)) spos.line X.env = pure true) (hy : X.N[i]? = some y := by rfl) (hyl : X.env.scope.names.lookup y = some .local := by rfl)
    (hs : ∀ x, foldedSetIterable iter X.env x = pure x := by intro _; rfl) (hs1 : ∀ env x, foldedSetIterable iter1 env x = pure x := by intro _ _; rfl) :
    PS X (.Assign [.Name y py] (.ListComp elt [⟨tg, iter, ifs, 0⟩, ⟨tg1, iter1, ifs1, 0⟩] scope pos) spos) (tsOf X.K (sAsg (wLc2 wi g tt wi1 g1 tt1 te (own.map (·.2)) vs1) (gN i))) :=
  psI (L2.ps_setLc2 hc hN hy hyl hsw hi ok hv hg ht hi1 hg1 ht1 he hs hs1) fun Dd σ H ⟨ρ, S, m, E, hE, hS, h, k, _⟩ => lc2_read X.K σ H _ ⟨ρ, S, m, _, hE, hS, h, fun v d H1 S1 m1 e1 s1 r1 q1 => k _ _ H1 S1 m1 e1 s1 ((hE.ext e1).set r1 i) q1⟩
end
end DL
set_option Elab.async false
set_option linter.all false
set_option maxRecDepth 100000
set_option maxHeartbeats 4000000
/-! DLE: a dict display of one pair -/
namespace L2
open PySem PySem.Spec
section
variable {X : Cx} {pins : List (Addr × Obj)} {σ : St} {H : Hp} {s : Shared} {a : Addr} {y v : V} {u r : Value} {E : Value → Shared → Prop}
theorem d_dictSetP {H' : Hp} {Q : Unit → Shared → Prop} (hu : X.A.units + 1 < cLine) (I : Inv X pins σ H s) (g : DPut H a y v H') (ry : RelV y u) (rv : RelV v r) (h : ∀ s', Inv X pins σ H' s' → Q () s') :
    wpAny (model X.prog X.w) X.A (dictSet a u r) Q E s := by
  rcases g with ⟨kvs, k, e, ey, l, eH⟩ | ⟨kvs, k, b, e, ey, eb, l, eH⟩
  · subst ey eH
    exact d_dictSet I e l ry rv h
  · subst ey eH
    cases (show u = Value.ref b from ry)
    obtain ⟨z, hd, xs, rel, dd⟩ := dt_of I.hok e
    have hz : xs.length ≤ sizeLine := by rw [← Paired.length rel]; exact z
    have hl : (putK kvs k v).length ≤ sizeLine := by have := length_putK kvs k v; omega
    refine wpAny_dictSet_heap (hsz := hz) (show (tupleKind (mixKind X.prog X.w)).room X.A from Nat.lt_of_succ_lt hu) (key_of I.hok eb) dd fun h' dd' hs => h _ ?_
    obtain ⟨q, es, ep, hq, h2, h3, h4, _, h5⟩ := dd'
    refine d_write I (by rw [e]; exact True.intro) hs ⟨q, hq⟩ ⟨hl, hd, _, (rel.put k eb rv).keeps fun c ys ec => ?_, q, es, ep, hq, h2, h3, h4, h5⟩
    rw [upd_ne (ne_of ec e (fun z => nomatch z))]
    exact ec
def tDisp1 (o0 : HO) (tk tv : TE) : TE := fun σ H Q => ∀ p, H p = none → tPairs [(tk, tv)] σ (upd H p o0) fun ps H2 => ∃ x y, ps = [(x, y)] ∧ ∃ H', DPut H2 p x y H' ∧ Q (.ref p) H'
theorem pe_disp1 {pos : Pos} {k v : Expr} {o0 : HO} {tk tv : TE} (h0 : o0 = .dK [] ∨ o0 = .dT []) (hu : X.A.units + 1 < cLine) (hk : PE X k tk) (hv : PE X v tv) : PE X (.Dict [some k] [v] pos) (tDisp1 o0 tk tv) := by
  refine ⟨fun pins s σ H Q I q => ?_⟩
  have hn := I.hok.fresh (Nat.le_refl s.heap.objs.size)
  have I1 : Inv X pins σ (upd H s.heap.objs.size o0) { s with heap := s.heap.push { cls := .type "dict", data := .dict #[] } } := by
    rcases h0 with rfl | rfl
    · exact I.laid (a := s.heap.objs.size) (o := .dK []) (h' := s.heap.push { cls := .type "dict", data := .dict #[] }) (t' := s.toks) (fun _ _ q => Heap.get?_push_of_some _ q) (Nat.le_refl _) (dk_empty s.heap I.big)
    · exact I.laid (a := s.heap.objs.size) (o := .dT []) (h' := s.heap.push { cls := .type "dict", data := .dict #[] }) (t' := s.toks) (fun _ _ q => Heap.get?_push_of_some _ q) (Nat.le_refl _) (dt_empty s.heap I.big)
  refine wpAny_Dict_any rfl rfl (by simp) (Nat.le_of_ble_eq_true rfl) (thn ((pps_cons (pos := pos) hk hv pps_nil).run pins _ σ _ _ I1 (q _ hn)) fun ws s2 ⟨ps, H2, I2, rel, x, y, ep, H', g, q2⟩ => ?_)
  · subst ep
    cases rel with
    | @cons a b as bs h t =>
      cases t
      obtain ⟨b1, b2⟩ := b
      unfold storeAll
      rw [List.forIn_cons]
      refine wpAny_bind (wpAny_bind (d_dictSetP hu I2 g h.1 h.2 fun s' I' => wpAny_pure ?_))
      exact wpAny_pure ⟨.ref s.heap.objs.size, H', I', rfl, q2⟩
end
end L2

namespace DL
open PySem PySem.Spec
open L2 (V Hp HO St TE TT TA TS TG TI TO PE PT PW PA PS PSs PG PI PO Cx Inv RelV Vals SqL SqT Rd upd upd_same upd_ne ne_of ne_of_none OpR UnR CallR MtR IxR SlR It thn DPut)
/-- {k: v} of a kind -/
@[reducible] def wDisp1 (o0 : O) (k v : WE) : WE := fun ρ S Q => k ρ (S ++ [o0]) fun x S1 => v ρ S1 fun y S2 => rDPut (.ref S.length) x y S2 fun S3 => Q (.ref S.length) S3
section
variable {X : Cx} {kk : Nat} {pos : Pos} {ek ev : Expr} {wk wv : WE}
theorem disp1_sound (hcst : cst = false) {o0 : O} {h0 : HO} (hz : ∀ (H : Hp) (m : List Addr) (p : Addr), H p = some h0 → RepO X.K H m o0 p) (hm : mutO h0 = true) (σ : St) (H : Hp) (Q : L2.VK) (h : teOf X.K (wDisp1 o0 wk wv) σ H Q) : L2.tDisp1 h0 (teOf X.K wk) (teOf X.K wv) σ H Q := by
  obtain ⟨ρ, S, m, R, hE, hS, h, k⟩ := h
  intro p hp
  have e0 : Ext m H (m ++ [p]) (upd H p h0) := Ext.pushed hp _
  refine ⟨ρ, S ++ [o0], m ++ [p], _, hE.ext e0, hS.pushO (o := o0) hp fun H' eH => hz _ _ _ (by rw [eH, upd_same]), h, fun x d H1 S1 m1 e1 s1 r1 q1 => ?_⟩
  refine ⟨ρ, S1, m1, _, (hE.ext e0).ext e1, s1, q1, fun y d2 H2 S2 m2 e2 s2 r2 q2 => ⟨x, y, rfl, ?_⟩⟩
  have hp0 : (m ++ [p])[S.length]? = some p := by rw [← hS.len]; simp
  have hpm := (e1.trans e2).pre _ _ hp0
  obtain ⟨a, H', eo, g, q⟩ := dput_core (o := .ref p) (x := .ref S.length) (Q := fun H' => Q (.ref p) H') (fun ys e => kyt_rep hcst e (Rep.ext e2 _ _ r1)) s2 ⟨p, hpm, rfl⟩ (Rep.ext e2 _ _ r1) r2 q2 fun H' S' m' e3 s3 q3 => k (.ref p) (.ref S.length) H' S' m' ((e0.trans (e1.trans e2)).trans e3) s3 ⟨p, e3.pre _ _ hpm, rfl⟩ q3
  cases eo
  exact ⟨H', g, q⟩
theorem d_disp1K (hr : L2.Room kk X.A) (hk : PE X ek (teOf X.K wk)) (hv : PE X ev (teOf X.K wv)) (hcst : cst = false := by rfl) : PE X (.Dict [some ek] [ev] pos) (teOf X.K (wDisp1 (.dK []) wk wv)) :=
  peI (L2.pe_disp1 (.inl rfl) (room1 hr) hk hv) fun σ H Q h => disp1_sound hcst (o0 := .dK []) (h0 := .dK []) (fun H m p e => ⟨[], e, rfl, rfl⟩) rfl σ H Q h
theorem d_disp1T (hr : L2.Room kk X.A) (hk : PE X ek (teOf X.K wk)) (hv : PE X ev (teOf X.K wv)) (hcst : cst = false := by rfl) : PE X (.Dict [some ek] [ev] pos) (teOf X.K (wDisp1 (.dT []) wk wv)) :=
  peI (L2.pe_disp1 (.inr rfl) (room1 hr) hk hv) fun σ H Q h => disp1_sound hcst (o0 := .dT []) (h0 := .dT []) (fun H m p e => ⟨[], e, rfl, rfl⟩) rfl σ H Q h
end
end DL
set_option Elab.async false
set_option linter.all false
set_option maxRecDepth 100000
set_option maxHeartbeats 4000000
/-! DLU: texts: walked, cut, joined, repeated -/
namespace DL
open PySem PySem.Spec
open L2 (V Hp HO St TE TT TA TS TG TI TO PE PT PW PA PS PSs PG PI PO Cx Inv RelV Vals SqL SqT Rd upd upd_same upd_ne ne_of ne_of_none OpR UnR CallR MtR IxR SlR It thn)
/-- the signs of a text -/
def chars (z : Str) : List D := z.cps.toList.map fun c => D.str ⟨#[c]⟩
@[reducible] def wItS (a : WE) : WI := fun ρ S R => a ρ S fun x S1 => match x with
  | .str z => R (chars z) (fun _ => True) S1
  | _ => False
def cutT (z : Str) (lo hi : Option Int) : Str := ⟨(cut z.cps.toList lo hi).toArray⟩
@[reducible] def rSlS : D → Option Int → Option Int → Sto → VK → Prop
  | .str z, lo, hi, S, Q => z.length ≤ szL ∧ Q (.str (cutT z lo hi)) S
  | _, _, _, _, _ => False
def isS : D → Prop
  | .str _ => True
  | _ => False
/-- a.join(..) -/
@[reducible] def rJoin : R2 := fun x y S Q => match x with
  | .str a => ∃ ys : List Str, itemsAt y S = some (ys.map D.str) ∧ (ys.map (·.length)).sum + ys.length * a.length ≤ 16777216 ∧ Q (.str (Txt.join a ys)) S
  | _ => False
@[reducible] def wJoin (o a : WE) : WE := fun ρ S Q => o ρ S fun x S1 => isS x ∧ a ρ S1 fun y S2 => rJoin x y S2 Q
def repT (z : Str) (n : Nat) : Str := ⟨(List.replicate n z.cps.toList).flatten.toArray⟩
@[reducible] def rMulS : R2
  | .str z, .int k, S, Q => (-(2 ^ 63) ≤ k ∧ k < 2 ^ 63) ∧ z.length * k.toNat ≤ szL ∧ Q (.str (repT z k.toNat)) S
  | _, _, _, _ => False
section
variable {X : Cx} {wa wb wo : WE} {tg e o : Expr}
theorem yields_str {K : PySem.W.Frag} {m : List Addr} {H : Hp} {z : Str} : Yields K (L2.Its z) (chars z) (fun _ => True) m H := by
  intro m1 H1 S1 ex s g
  refine ⟨fun i d hd => ?_, fun i hi => by unfold chars at hi; rw [List.length_map, Array.length_toList] at hi; exact hi⟩
  unfold chars at hd
  rw [List.getElem?_map] at hd
  obtain ⟨c, hc, rfl⟩ := Option.map_eq_some_iff.mp hd
  rw [Array.getElem?_toList] at hc
  refine ⟨(Array.getElem?_eq_some_iff.mp hc).1, fun x H' ⟨q1, c', q2, q3⟩ => ⟨m1, by rw [q1]; exact Ext.refl _ _, by rw [q1]; exact s, ?_⟩⟩
  rw [hc] at q2
  cases q2
  exact q3
theorem di_itS (he : PE X e (teOf X.K wa)) : PI X tg e (tiOf X.K (wItS wa)) :=
  piI (L2.pi_str he) fun σ H R ⟨ρ, S, m, Rd, hE, hS, h, k⟩ => ⟨ρ, S, m, _, hE, hS, h, fun v d H1 S1 m1 e1 s1 r1 q1 => by
    cases d with
    | str z => exact ⟨z, r1, k _ _ _ _ m1 _ e1 s1 yields_str q1⟩
    | _ => exact (show False from q1).elim⟩
theorem cutT_eq (z : Str) (lo hi : Option Int) : L2.cutS z lo hi = cutT z lo hi := by
  unfold L2.cutS cutT cut
  rw [sIx_eq, sIx_eq, Array.length_toList]
  rfl
theorem s_cutS : SlR X (rsOf X.K rSlS) := rsl (L2.sl_str (X := X)) fun x l u H Q ⟨m, S, d, R, s, rx, h, k⟩ => by
  cases d with
  | str z =>
    obtain ⟨h1, h2⟩ := h
    exact ⟨z, rx, by rw [← szL']; exact h1, by rw [cutT_eq]; exact k _ (.str (cutT z l u)) H S m (Ext.refl _ _) s rfl h2⟩
  | _ => exact (show False from h).elim
theorem Reps.strs {K : PySem.W.Frag} {H : Hp} {m : List Addr} : ∀ {ys : List Str} {vs : List V}, Reps K H m (ys.map D.str) vs → vs = ys.map V.str
  | [], _, h => h
  | n :: ns, _, ⟨v, r, h1, h2, h3⟩ => by rw [h1, show v = V.str n from h2, Reps.strs h3]; rfl
theorem d_join {apos pos : Pos} (ho : PE X o (teOf X.K wo)) (he : PE X e (teOf X.K wa)) (hs : starEach [e] X.env = [(false, eval e X.env)] := by rfl) (hbase : attributeBase o "join" X.env (eval o X.env) = eval o X.env := by rfl) (hline : (apos.endLine == pos.line) = true := by rfl) :
    PE X (.Call (.Attribute o "join" apos) [e] [] pos) (teOf X.K (wJoin wo wa)) :=
  peI (L2.pe_join ho he hs hbase hline) fun σ H Q ⟨ρ, S, m, R, hE, hS, h, k⟩ => ⟨ρ, S, m, _, hE, hS, h, fun v d H1 S1 m1 e1 s1 r1 ⟨z, q1⟩ => by
    cases d with
    | str a =>
      refine ⟨⟨a, r1⟩, ρ, S1, m1, _, hE.ext e1, s1, q1, fun w y H2 S2 m2 e2 s2 r2 q2 => ?_⟩
      obtain ⟨ys, hi, hz, q⟩ := (q2 : ∃ ys : List Str, itemsAt y S2 = some (ys.map D.str) ∧ (ys.map (·.length)).sum + ys.length * a.length ≤ 16777216 ∧ R (.str (Txt.join a ys)) S2)
      have fin := k _ (.str (Txt.join a ys)) H2 S2 m2 (e1.trans e2) s2 rfl q
      cases y with
      | tup xs =>
        obtain ⟨b, vs, rfl, hT, rs⟩ := r2
        cases (show some xs = some (ys.map D.str) from hi)
        exact ⟨a, b, ys, r1, rfl, .inr (by rw [← rs.strs]; exact hT.sqT), hz, fin⟩
      | ref n =>
        have hn : S2[n]? = some (.lst (ys.map D.str)) := by
          have hi : (match S2[n]? with
            | some (.lst xs) => some xs
            | _ => none) = some (ys.map D.str) := hi
          split at hi
          · rename_i xs hx; rw [hx]; cases hi; rfl
          · cases hi
        obtain ⟨c, vs, h1, h2, h3⟩ := s2.lst hn
        obtain ⟨b, g1, rfl⟩ := r2
        rw [h1] at g1
        cases g1
        exact ⟨a, c, ys, r1, rfl, .inl (by rw [← h3.strs]; exact SqL.of h2), hz, fin⟩
      | _ => cases (show none = some (ys.map D.str) from hi)
    | _ => exact (show False from z).elim⟩
end
end DL
namespace L2
open PySem PySem.Spec
section
variable {X : Cx}
theorem foldl_repS (its : List Nat) : ∀ (k : Nat) (acc : List Nat), List.foldl (fun x1 x2 => x1 ++ x2) acc.toArray (List.replicate k its.toArray) = (acc ++ (List.replicate k its).flatten).toArray
  | 0, acc => by simp
  | k + 1, acc => by
    rw [List.replicate_succ, List.foldl_cons, List.append_toArray, foldl_repS its k, List.replicate_succ, List.flatten_cons, List.append_assoc]
theorem op_mulS : OpR X (binaryOp .Mult) (fun x y H Q => ∃ z k, x = .str z ∧ y = .int k ∧ (-(2 ^ 63) ≤ k ∧ k < 2 ^ 63) ∧ z.length * k.toNat ≤ sizeLine ∧ Q (.str (DL.repT z k.toNat)) H) := by
  intro pins s σ H x y v u Q I rx ry h
  obtain ⟨z, k, rfl, rfl, ⟨h1, h2⟩, hz, q⟩ := h
  obtain ⟨t, rfl⟩ := rx
  obtain ⟨t', rfl⟩ := ry
  have hsz : (sizeLine : Nat) ≤ 16777216 := by rw [sizeLine_eq]; decide
  refine PySem.P.mul_str ?_ ?_ ?_ ?_
  · rw [decide_eq_false (by omega), decide_eq_false (by omega)]; rfl
  · intro hn hne hgt
    have hk : (0 : Int) < k := by omega
    have h3 : (z.length : Int) * k ≤ 2 ^ 63 - 1 := by
      have h4 : ((z.length * k.toNat : Nat) : Int) ≤ 16777216 := by omega
      rw [Int.natCast_mul, Int.toNat_of_nonneg (by omega)] at h4
      omega
    have := (Int.le_ediv_iff_mul_le hk).mpr h3
    omega
  · intro hn hne
    unfold Builtin.Str.tooLong
    exact decide_eq_false (by omega)
  · have hlen : (DL.repT z k.toNat).length = k.toNat * z.length := by
      show ((List.replicate k.toNat z.cps.toList).flatten.toArray).size = k.toNat * z.cps.size
      rw [List.size_toArray, List.length_flatten, List.map_replicate, List.sum_replicate_nat, Array.length_toList]
    have hfold : (⟨(List.replicate k.toNat z.cps).foldl (· ++ ·) #[]⟩ : Str) = DL.repT z k.toNat := by
      have := foldl_repS z.cps.toList k.toNat []
      rw [List.nil_append] at this
      unfold DL.repT
      rw [← this]
    by_cases c1 : k < 1
    · rw [if_pos c1]
      have e : Str.empty = DL.repT z k.toNat := by
        unfold DL.repT
        rw [show k.toNat = 0 by omega]
        rfl
      refine ⟨by decide, .str (DL.repT z k.toNat), H, I.tok _, ⟨_, by rw [e]⟩, q⟩
    · rw [if_neg c1]
      by_cases c2 : (k == 1 || z.length == 0) = true
      · rw [if_pos c2]
        have e : z = DL.repT z k.toNat := by
          obtain ⟨a⟩ := z
          unfold DL.repT
          rcases (Bool.or_eq_true _ _).mp c2 with c | c
          · rw [show k.toNat = 1 by have := eq_of_beq c; omega]
            simp
          · have : a = #[] := Array.eq_empty_of_size_eq_zero (eq_of_beq c)
            subst this
            simp
        exact ⟨.str (DL.repT z k.toNat), H, I, ⟨t, by rw [← e]⟩, q⟩
      · rw [if_neg c2, hfold]
        refine ⟨by rw [hlen, Nat.mul_comm]; exact hz, .str (DL.repT z k.toNat), H, I.tok _, ⟨_, rfl⟩, q⟩
end
end L2
namespace DL
open PySem PySem.Spec
open L2 (V Hp HO PE Cx OpR)
section
variable {X : Cx}
theorem o_mulS : OpR X (binaryOp .Mult) (r2Of X.K rMulS) := r2I (L2.op_mulS (X := X)) fun x y H Q ⟨m, S, d, e, R, s, rx, ry, h, k⟩ => by
  cases d with
  | str z => cases e with
    | int j =>
      obtain ⟨h1, hz, q⟩ := h
      exact ⟨z, j, rx, ry, h1, by rw [← szL']; exact hz, k _ (.str (repT z j.toNat)) H S m (Ext.refl _ _) s rfl q⟩
    | _ => exact (show False from h).elim
  | _ => exact (show False from h).elim
end
end DL

namespace DL
open PySem PySem.Spec
open L2 (V Hp HO PE Cx OpR Inv RelV SqL)
@[reducible] def rIxG : R2
  | .ref n, .int i, S, Q => isLst S n fun xs => ∃ d, atZ xs i = some d ∧ Q d S
  | _, _, _, _ => False
section
variable {X : Cx}
theorem g_ix : L2.PGet X (r2Of X.K rIxG) := fun pins s σ H x y v u Q I rx ry ⟨m, S, dx, dy, R, hs, qx, qy, h, k⟩ => by
  cases dx with
  | ref n => cases dy with
    | int i =>
      obtain ⟨xs, e1, d, hd, q⟩ := isLst_iff.mp h
      obtain ⟨a, vs, h1, h2, h3⟩ := hs.lst e1
      obtain ⟨b, q1, rfl⟩ := qx
      rw [h1] at q1
      cases q1
      obtain ⟨z, g1, g2⟩ := atZ_rep h3 hd
      cases rx
      have qy : y = .int i := qy
      subst qy
      obtain ⟨t, rfl⟩ := ry
      obtain ⟨its, r, pl, hz⟩ := I.list (SqL.of h2)
      obtain ⟨j, i1, i2, i3, i4, i5⟩ := L2.atI_get g1
      obtain ⟨w, ew, rw'⟩ := r.get i2
      have hl := r.length
      have hn := L2.line63
      have fin : L2.EP X pins σ Q w s := ⟨z, H, I, rw', k z d H S m (Ext.refl _ _) hs g2 q⟩
      by_cases h0 : 0 ≤ i
      · have hj : i.toNat = j := by
          rw [PySem.seqIndex_of h0 i5] at i1
          exact Option.some.inj i1
        exact wpAny_getItem_list pl.isList h0 (by omega) (by rw [hj]; simpa using ew) fin
      · have hj : (i + (its.toArray.size : Int)).toNat = j := by
          rw [PySem.seqIndex_neg (by omega) i4] at i1
          rw [List.size_toArray, ← hl]
          exact Option.some.inj i1
        exact wpAny_getItem_list_neg pl.isList (by omega) (by rw [List.size_toArray] <;> omega) (by omega) (by rw [hj]; simpa using ew) fin
    | _ => exact (show False from h).elim
  | _ => exact (show False from h).elim
end
end DL
set_option Elab.async false
set_option linter.all false
set_option maxRecDepth 100000
set_option maxHeartbeats 4000000
/-! DLV: dicts by displayed tuple keys, d[(a, b)], d.get((a, b), x), d[(a, b)] = x: also in laws with constants -/
namespace DL
open PySem PySem.Spec
open L2 (V Hp HO St TE TT TA TS TG TI TO PE PT PW PA PS PSs PG PI PO Cx Inv RelV Vals SqL SqT Rd upd upd_same upd_ne ne_of ne_of_none OpR UnR CallR MtR IxR SlR It thn Key kV valV putK DGet DPut)
section
variable {X : Cx} {kk : Nat} {o i e f : Expr} {es : List Expr} {x1 : Pos} {wo wi we wf wv : WE} {va : WA} {pos apos cpos : Pos}
theorem key_disp {K : PySem.W.Frag} {H : Hp} {m : List Addr} {p : Addr} {ds : List D} {vs : List V} (hp : H p = some (.tup vs)) (r : Reps K H m ds vs) : ∀ ys, kyt (.tup ds) = some ys → ∃ b, V.ref p = .ref b ∧ H b = some (.tup (ys.map kV)) :=
  fun ys e => ⟨p, rfl, by rw [hp, kys_rep e r]⟩
theorem d_dget2D {x1} (hr : L2.Room kk X.A) (ho : PE X o (teOf X.K wo)) (he : PA X es (taOf X.K va)) (hf : PE X f (teOf X.K wf)) (hm : L2.M2 X o "get" apos (.Tuple es x1 pos) f cpos := by exact ⟨by rfl, by rfl, by rfl, by rfl⟩) :
    PE X (.Call (.Attribute o "get" apos) [.Tuple es x1 pos, f] [] cpos) (teOf X.K (wDGet2 wo (wTup va) wf)) :=
  peI (L2.pe_dget2 (room1 hr) ho (L2.pe_tup he) hf hm) fun σ H Q ⟨ρ, S, m, R, hE, hS, h, k⟩ => ⟨ρ, S, m, _, hE, hS, h, fun v x H1 S1 m1 e1 s1 r1 ⟨z, q1⟩ => by
    obtain ⟨a, rfl, hd⟩ := isDc_rep s1 r1 z
    refine ⟨a, rfl, hd, ρ, S1, m1, _, hE.ext e1, s1, q1, fun vs ds H2 S2 m2 e2 s2 r2 ⟨z2, q2⟩ => ⟨by rw [r2.len]; exact z2, fun p hp => ⟨ρ, S2, m2, _, ((hE.ext e1).ext e2).ext (Ext.fresh hp _), s2.fresh hp _, q2, fun w t H3 S3 m3 e3 s3 r3 q3 => ?_⟩⟩⟩
    have hp3 := e3.lst p (.tup vs) upd_same rfl
    have rk : Reps X.K H3 m3 ds vs := Reps.ext e3 _ _ (Reps.ext (Ext.fresh hp (.tup vs)) _ _ r2)
    have ee := e2.trans ((Ext.fresh hp (.tup vs)).trans e3)
    obtain ⟨b, od, ov, eb, g, q, ro⟩ := dget_rep s3 (key_disp hp3 rk) (Rep.ext ee _ _ r1) (show Rep X.K H3 m3 (.tup ds) (.ref p) from ⟨p, vs, rfl, .inl hp3, rk⟩) q3
    cases eb
    exact ⟨ov, g, (k.ext (e1.trans ee)) _ (od.getD t) H3 S3 m3 (Ext.refl _ _) s3 (ro.getD r3) q⟩⟩
theorem d_dixD {x1} {p2 : Pos} (hr : L2.Room kk X.A) (ho : PE X o (teOf X.K wo)) (he : PA X es (taOf X.K va)) (hs : L2.NoSl (.Tuple es x1 p2) := by first | exact L2.noSl rfl | (intro _ _; rfl) | trivial) :
    PE X (.Subscript o (.Tuple es x1 p2) pos) (teOf X.K (wOp rDIx wo (wTup va))) :=
  peI (L2.pe_dget (room1 hr) ho (L2.pe_tup he) hs) fun σ H Q ⟨ρ, S, m, R, hE, hS, h, k⟩ => ⟨ρ, S, m, _, hE, hS, h, fun v x H1 S1 m1 e1 s1 r1 q1 => ⟨ρ, S1, m1, _, hE.ext e1, s1, q1, fun vs ds H2 S2 m2 e2 s2 r2 ⟨z2, q2⟩ => ⟨by rw [r2.len]; exact z2, fun p hp => by
    have ef := Ext.fresh (m := m2) hp (.tup vs)
    have rk := Reps.ext ef _ _ r2
    obtain ⟨a, od, ov, rfl, g, ⟨d, hd, q⟩, ro⟩ := dget_rep (s2.fresh hp _) (key_disp upd_same rk) (Rep.ext (e2.trans ef) _ _ r1) (show Rep X.K _ m2 (.tup ds) (.ref p) from ⟨p, vs, rfl, .inl upd_same, rk⟩) q2
    obtain ⟨w, rfl, rw⟩ := ro.some hd
    exact ⟨a, w, rfl, g, (k.ext (e1.trans (e2.trans ef))) _ d _ S2 m2 (Ext.refl _ _) (s2.fresh hp _) rw q⟩⟩⟩⟩
theorem ds_dputD {x1} {p2 spos : Pos} (hr : L2.Room kk X.A) (hv : PE X e (teOf X.K wv)) (ho : PE X o (teOf X.K wo)) (he : PA X es (taOf X.K va)) (hs : swapsWith e (some (.Subscript o (.Tuple es x1 p2) spos)) pos.line X.env = pure false := by rfl) :
    PS X (.Assign [.Subscript o (.Tuple es x1 p2) spos] e pos) (tsOf X.K (sSub rDPut wv wo (wTup va))) :=
  psI (L2.ps_dput (room1 hr) ho (L2.pe_tup he) hv hs) fun D σ H ⟨ρ, S, m, E, hE, hS, h, k, _⟩ => ⟨ρ, S, m, _, hE, hS, h, fun v d H1 S1 m1 e1 s1 r1 q1 => ⟨ρ, S1, m1, _, hE.ext e1, s1, q1, fun v2 x H2 S2 m2 e2 s2 r2 q2 =>
    ⟨ρ, S2, m2, _, hE.ext (e1.trans e2), s2, q2, fun vs ds H3 S3 m3 e3 s3 r3 ⟨z3, q3⟩ => ⟨by rw [r3.len]; exact z3, fun p hp => by
      have ef := Ext.fresh (m := m3) hp (.tup vs)
      have rk := Reps.ext ef _ _ r3
      obtain ⟨a, H', eo, g, q⟩ := dput_core (Q := fun H' => D.nx σ H') (key_disp upd_same rk) (s3.fresh hp _) (Rep.ext (e3.trans ef) _ _ r2) (show Rep X.K _ m3 (.tup ds) (.ref p) from ⟨p, vs, rfl, .inl upd_same, rk⟩) (Rep.ext (e2.trans (e3.trans ef)) _ _ r1) q3 fun H4 S4 m4 e4 s4 q4 =>
        k σ ρ H4 S4 m4 (e1.trans (e2.trans (e3.trans (ef.trans e4)))) s4 (hE.ext (e1.trans (e2.trans (e3.trans (ef.trans e4))))) q4
      exact ⟨a, H', eo, g, q⟩⟩⟩⟩⟩
end
end DL
set_option linter.all false
set_option maxRecDepth 100000
set_option maxHeartbeats 4000000
/-! DLP: helpers over DL0: the store, lists of plain data, loops, comprehensions, what every law's own helpers keep. -/
namespace DL
/-! ### the store -/
/-- all that was there is there -/
def Sub (S S' : Sto) : Prop := ∀ (n : Nat) (o : O), S[n]? = some o → S'[n]? = some o
theorem Sub.refl (S : Sto) : Sub S S := fun _ _ h => h
theorem Sub.trans {S S1 S2 : Sto} (a : Sub S S1) (b : Sub S1 S2) : Sub S S2 := fun n o h => b n o (a n o h)
theorem Sub.push (S : Sto) (l : Sto) : Sub S (S ++ l) := fun n o h => by
  rw [List.getElem?_append_left (List.getElem?_eq_some_iff.mp h).1]
  exact h
theorem at_push (S : Sto) (o : O) : (S ++ [o])[S.length]? = some o := by simp
theorem Sub.lt {S S' : Sto} (h : Sub S S') {n : Nat} {o : O} (e : S[n]? = some o) : n < S'.length := (List.getElem?_eq_some_iff.mp (h n o e)).1
theorem at_lt {S : Sto} {n : Nat} {o : O} (e : S[n]? = some o) : n < S.length := (List.getElem?_eq_some_iff.mp e).1
theorem at_set {S : Sto} {n : Nat} {o o' : O} (e : S[n]? = some o) : (S.set n o')[n]? = some o' := List.getElem?_set_self (at_lt e)
theorem at_set_ne {S : Sto} {n k : Nat} {o' : O} (h : k ≠ n) : (S.set n o')[k]? = S[k]? := List.getElem?_set_ne (Ne.symm h)
theorem isLst_at {S : Sto} {n : Nat} {xs : List D} {P : List D → Prop} (h : S[n]? = some (.lst xs)) : isLst S n P = P xs := by
  unfold isLst
  rw [h]
/-- the draws stand at n -/
def Dr (n : Nat) (S : Sto) : Prop := ∃ ns : List Int, S[n]? = some (.lst (intD ns))
/-- all but what stands at n is there -/
def Ch (n : Nat) (S S' : Sto) : Prop := ∀ (k : Nat) (o : O), k ≠ n → S[k]? = some o → S'[k]? = some o
theorem Ch.refl (n : Nat) (S : Sto) : Ch n S S := fun _ _ _ h => h
theorem Ch.trans {n : Nat} {S S1 S2 : Sto} (a : Ch n S S1) (b : Ch n S1 S2) : Ch n S S2 := fun k o hk h => b k o hk (a k o hk h)
theorem Sub.ch {n : Nat} {S S' : Sto} (h : Sub S S') : Ch n S S' := fun k o _ e => h k o e
theorem Dr.sub {n : Nat} {S S' : Sto} (d : Dr n S) (h : Sub S S') : Dr n S' := let ⟨ns, e⟩ := d; ⟨ns, h n _ e⟩
theorem Ch.set {n : Nat} (S : Sto) (o : O) : Ch n S (S.set n o) := fun k u hk e => by rw [at_set_ne hk]; exact e

theorem ite_i {c A B : Prop} {_ : Decidable c} (h1 : c → A) (h2 : ¬ c → B) : if c then A else B := by
  by_cases h : c
  · rw [if_pos h]; exact h1 h
  · rw [if_neg h]; exact h2 h
theorem Sub.put {S S' : Sto} {n : Nat} {o : O} (h : Sub S S') (hn : S.length ≤ n) : Sub S (S'.set n o) := fun k u e => by
  rw [at_set_ne (by have := at_lt e; omega)]
  exact h k u e
theorem Sub.app {S S' : Sto} (h : Sub S S') (l : Sto) : Sub S (S' ++ l) := h.trans (Sub.push S' l)
theorem push_at {S : Sto} {n : Nat} {o : O} (h : S[n]? = some o) (l : Sto) : (S ++ l)[n]? = some o := Sub.push S l n o h
/-! ### places of lists -/
theorem atZ_nat {α : Type} {xs : List α} {i : Nat} {x : α} (h : xs[i]? = some x) : atZ xs (i : Int) = some x := by
  have hl : i < xs.length := (List.getElem?_eq_some_iff.mp h).1
  unfold atZ ixZ
  rw [if_pos (by omega), if_pos (by omega)]
  simpa using h
theorem atZ_lt {α : Type} {xs : List α} {i : Int} (h0 : 0 ≤ i) (h1 : i < xs.length) : ∃ x, atZ xs i = some x ∧ xs[i.toNat]? = some x := by
  have hl : i.toNat < xs.length := by omega
  refine ⟨xs[i.toNat], ?_, List.getElem?_eq_getElem hl⟩
  have := atZ_nat (List.getElem?_eq_getElem hl)
  rw [show ((i.toNat : Nat) : Int) = i by omega] at this
  exact this
theorem intD_get {ns : List Int} {i : Nat} {d : D} (h : (intD ns)[i]? = some d) : ∃ n, ns[i]? = some n ∧ d = .int n := by
  rw [List.getElem?_map] at h
  cases e : ns[i]? with
  | none => rw [e] at h; cases h
  | some n => rw [e] at h; exact ⟨n, rfl, (Option.some.inj h).symm⟩
theorem intD_at {ns : List Int} {i : Nat} {n : Int} (h : ns[i]? = some n) : (intD ns)[i]? = some (.int n) := by
  rw [List.getElem?_map, h]
  rfl
theorem intD_atZ {ns : List Int} {i : Int} (h0 : 0 ≤ i) (h1 : i < ns.length) : ∃ n, ns[i.toNat]? = some n ∧ atZ (intD ns) i = some (.int n) := by
  have hl : i.toNat < ns.length := by omega
  refine ⟨ns[i.toNat], List.getElem?_eq_getElem hl, ?_⟩
  have := atZ_nat (intD_at (List.getElem?_eq_getElem hl))
  rw [show ((i.toNat : Nat) : Int) = i by omega] at this
  exact this
theorem sIx_nn (n d : Nat) {i : Int} (h : 0 ≤ i) : sIx n d (some i) = min i.toNat n := by
  show (if i < 0 then (i + n).toNat else min i.toNat n) = _
  rw [if_neg (by omega)]
theorem sIx_no (n d : Nat) : sIx n d none = d := rfl
theorem cut_take {α : Type} (xs : List α) {i : Int} (h : 0 ≤ i) : cut xs none (some i) = xs.take i.toNat := by
  unfold cut
  rw [sIx_no, sIx_nn _ _ h, List.drop_zero, Nat.sub_zero]
  by_cases hc : i.toNat ≤ xs.length
  · rw [Nat.min_eq_left hc]
  · rw [Nat.min_eq_right (by omega), List.take_length, List.take_of_length_le (by omega)]
theorem cut_drop {α : Type} (xs : List α) {i : Int} (h : 0 ≤ i) : cut xs (some i) none = xs.drop i.toNat := by
  unfold cut
  rw [sIx_no, sIx_nn _ _ h]
  by_cases hc : i.toNat ≤ xs.length
  · rw [Nat.min_eq_left hc, List.take_of_length_le (by simp)]
  · rw [Nat.min_eq_right (by omega), List.drop_length, List.drop_of_length_le (by omega)]
    simp
theorem rangeD_get {lo hi : Int} {i : Nat} {d : D} (h : (rangeD lo hi)[i]? = some d) : i < (hi - lo).toNat ∧ d = .int (lo + i) := by
  unfold rangeD at h
  rw [List.getElem?_map] at h
  by_cases hi : i < (hi - lo).toNat
  · rw [List.getElem?_range hi] at h
    exact ⟨hi, (Option.some.inj h).symm⟩
  · rw [List.getElem?_eq_none (by simpa using hi)] at h
    cases h
theorem rangeD_len (lo hi : Int) : (rangeD lo hi).length = (hi - lo).toNat := by simp [rangeD]
theorem rangeD_nat (n : Nat) : rangeD 0 (n : Int) = (List.range n).map fun (i : Nat) => D.int (i : Int) := by
  unfold rangeD
  rw [show ((n : Int) - 0).toNat = n by omega]
  apply List.map_congr_left
  intro i _
  rw [Int.zero_add]
theorem mem_rangeD {lo hi : Int} {d : D} (h : d ∈ rangeD lo hi) : ∃ i : Nat, i < (hi - lo).toNat ∧ d = .int (lo + i) := by
  obtain ⟨i, hi, e⟩ := List.mem_map.mp h
  exact ⟨i, List.mem_range.mp hi, e.symm⟩
theorem flats_int : ∀ ns : List Int, flats (intD ns) = true
  | [] => rfl
  | n :: ns => by
    show (true && flats (intD ns)) = true
    rw [flats_int ns]
    rfl
theorem flats0_int (ns : List Int) : (intD ns).all flat0 = true := by
  induction ns with
  | nil => rfl
  | cons n ns ih =>
    show (true && (intD ns).all flat0) = true
    rw [ih]
    rfl
theorem deeps_int : ∀ ns : List Int, deeps (intD ns) = 0
  | [] => rfl
  | n :: ns => by
    show max 0 (deeps (intD ns)) = 0
    rw [deeps_int ns]
    rfl
/-! no tuple is longer than a store can tell -/
mutual
def slim : D → Bool
  | .tup xs => decide (xs.length ≤ szL) && slims xs
  | _ => true
def slims : List D → Bool
  | [] => true
  | x :: xs => slim x && slims xs
end
theorem slims_int : ∀ ns : List Int, slims (intD ns) = true
  | [] => rfl
  | n :: ns => by
    show (true && slims (intD ns)) = true
    rw [slims_int ns]
    rfl
theorem flats_get {xs : List D} {i : Nat} {d : D} : flats xs = true → xs[i]? = some d → flat d = true := by
  induction xs generalizing i with
  | nil => intro _ h; cases h
  | cons x xs ih =>
    intro h e
    have h := Bool.and_eq_true_iff.mp (show (flat x && flats xs) = true from h)
    cases i with
    | zero => rw [← Option.some.inj e]; exact h.1
    | succ i => exact ih h.2 e
theorem slims_get {xs : List D} {i : Nat} {d : D} : slims xs = true → xs[i]? = some d → slim d = true := by
  induction xs generalizing i with
  | nil => intro _ h; cases h
  | cons x xs ih =>
    intro h e
    have h := Bool.and_eq_true_iff.mp (show (slim x && slims xs) = true from h)
    cases i with
    | zero => rw [← Option.some.inj e]; exact h.1
    | succ i => exact ih h.2 e
theorem deeps_get {xs : List D} {i : Nat} {d : D} : xs[i]? = some d → deep d ≤ deeps xs := by
  induction xs generalizing i with
  | nil => intro h; cases h
  | cons x xs ih =>
    intro e
    show deep d ≤ max (deep x) (deeps xs)
    cases i with
    | zero => rw [← Option.some.inj e]; omega
    | succ i => have := ih e; omega
mutual
theorem eqD_self : ∀ d : D, flat d = true → eqD d d = true
  | .non, _ => rfl
  | .bl b, _ => by cases b <;> rfl
  | .int i, _ => by show decide (i = i) = true; simp
  | .str x, _ => by show decide (x = x) = true; simp
  | .tup xs, h => eqDs_self xs h
  | .rol _, h => by cases (show false = true from h)
  | .ref _, h => by cases (show false = true from h)
  | .ty _, h => by cases (show false = true from h)
theorem eqDs_self : ∀ ds : List D, flats ds = true → eqDs ds ds = true
  | [], _ => rfl
  | d :: ds, h => by
    have h := Bool.and_eq_true_iff.mp (show (flat d && flats ds) = true from h)
    show (eqD d d && eqDs ds ds) = true
    rw [eqD_self d h.1, eqDs_self ds h.2]
    rfl
end

/-! ### sorting -/
theorem perm_map {α β : Type} (f : α → β) : ∀ {ys zs : List β}, ys.Perm zs → ∀ l : List α, zs = l.map f → ∃ l' : List α, l'.Perm l ∧ ys = l'.map f := by
  intro ys zs p
  induction p with
  | nil => intro l e; cases l with
    | nil => exact ⟨[], .refl _, rfl⟩
    | cons _ _ => cases e
  | cons x p ih =>
    intro l e
    cases l with
    | nil => cases e
    | cons a l =>
      rw [List.map_cons] at e
      injection e with e1 e2
      obtain ⟨l', h1, h2⟩ := ih l e2
      exact ⟨a :: l', h1.cons a, by rw [List.map_cons, ← h2, e1]⟩
  | swap x y l0 =>
    intro l e
    match l, e with
    | a :: b :: l, e =>
      rw [List.map_cons, List.map_cons] at e
      injection e with e1 e2
      injection e2 with e2 e3
      exact ⟨b :: a :: l, .swap .., by rw [List.map_cons, List.map_cons, e1, e2, e3]⟩
  | trans p1 p2 ih1 ih2 =>
    intro l e
    obtain ⟨l2, h1, h2⟩ := ih2 l e
    obtain ⟨l1, h3, h4⟩ := ih1 l2 h2
    exact ⟨l1, h3.trans h1, h4⟩
/-- two ascending lists of the same members -/
theorem asc_one : ∀ {a b : List Int}, a.Pairwise (· < ·) → b.Pairwise (· < ·) → (∀ x, x ∈ a ↔ x ∈ b) → a = b
  | [], [], _, _, _ => rfl
  | [], y :: b, _, _, h => by have := (h y).mpr List.mem_cons_self; cases this
  | x :: a, [], _, _, h => by have := (h x).mp List.mem_cons_self; cases this
  | x :: a, y :: b, pa, pb, h => by
    rw [List.pairwise_cons] at pa pb
    have e : x = y := by
      rcases List.mem_cons.mp ((h x).mp List.mem_cons_self) with e | m1
      · exact e
      · rcases List.mem_cons.mp ((h y).mpr List.mem_cons_self) with e | m2
        · exact e.symm
        · have := pb.1 x m1
          have := pa.1 y m2
          omega
    subst e
    rw [asc_one pa.2 pb.2 fun z => ⟨fun hz => ?_, fun hz => ?_⟩]
    · rcases List.mem_cons.mp ((h z).mp (List.mem_cons_of_mem _ hz)) with e | m
      · have := pa.1 z hz
        omega
      · exact m
    · rcases List.mem_cons.mp ((h z).mpr (List.mem_cons_of_mem _ hz)) with e | m
      · have := pb.1 z hz
        omega
      · exact m

/-! ### comprehensions that change nothing: f tells what each item gives -/
theorem Lc_fun {items : List D} {guard : Sto → Prop} {S1 : Sto} {step : D → Sto → (Option D → Sto → Prop) → Prop} {Q : VK} (f : D → Option D) (hz : items.length ≤ szL) (hg : ∀ S', Sub S1 S' → guard S')
    (hs : ∀ (i : Nat) (d : D) S' R, items[i]? = some d → Sub S1 S' → (∀ S2, Sub S' S2 → R (f d) S2) → step d S' R) (hd : ∀ S', Sub S1 S' → Q (.ref S'.length) (S' ++ [.lst (items.filterMap f)])) : Lc items guard S1 step Q := by
  refine ⟨hz, fun i acc S' => Sub S1 S' ∧ acc = (items.take i).filterMap f, ⟨.refl _, rfl⟩, fun i acc S' h => hg S' h.1, ?_, ?_⟩
  · rintro i d acc S' hi ⟨h1, rfl⟩
    refine hs i d S' _ hi h1 fun S2 h2 => ⟨h1.trans h2, ?_⟩
    rw [List.take_add_one, hi]
    cases e : f d with
    | none => simp [e]
    | some y => simp [e]
  · rintro acc S' ⟨h1, rfl⟩
    rw [List.take_length]
    exact hd S' h1

theorem ite_d {c A B : Prop} {_ : Decidable c} (h1 : c → A) (h2 : ¬ c → B) : if decide c = true then A else B := by
  by_cases h : c
  · rw [if_pos (decide_eq_true h)]; exact h1 h
  · rw [if_neg (by simpa using h)]; exact h2 h
theorem okII (i j : Int) : flat (.int i) = true ∧ flat (.int j) = true ∧ deep (.int i) ≤ 64 ∧ deep (.int j) ≤ 64 := ⟨rfl, rfl, Nat.zero_le _, Nat.zero_le _⟩
theorem goEq {i j : Int} {S : Sto} {Q : VK} (h : Q (.bl (decide (i = j))) S) : (flat (.int i) = true ∧ flat (.int j) = true ∧ deep (.int i) ≤ 64 ∧ deep (.int j) ≤ 64) ∧ Q (.bl (eqD (.int i) (.int j))) S := ⟨okII i j, h⟩
theorem goNe {i j : Int} {S : Sto} {Q : VK} (h : Q (.bl (!decide (i = j))) S) : (flat (.int i) = true ∧ flat (.int j) = true ∧ deep (.int i) ≤ 64 ∧ deep (.int j) ≤ 64) ∧ Q (.bl (!eqD (.int i) (.int j))) S := ⟨okII i j, h⟩
theorem Loop_mk {items : List D} {guard : Sto → Prop} {step : D → Env → Sto → (Env → Sto → Prop) → Prop} {done : Env → Sto → Prop} {ρ : Env} {S : Sto} (I : Nat → Env → Sto → Prop)
    (h0 : I 0 ρ S) (hg : ∀ i ρ' S', I i ρ' S' → guard S') (hs : ∀ i d ρ' S', items[i]? = some d → I i ρ' S' → step d ρ' S' (I (i + 1))) (hd : ∀ ρ' S', I items.length ρ' S' → done ρ' S') : Loop items guard step done ρ S := ⟨I, h0, hg, hs, hd⟩
theorem fmod_lt {a b : Int} (h : 0 < b) : 0 ≤ a.fmod b ∧ a.fmod b < b := ⟨Int.fmod_nonneg_of_pos a h, Int.fmod_lt_of_pos a h⟩
theorem atZ_intD {ns : List Int} {i : Int} (h0 : 0 ≤ i) (h1 : i < ns.length) : atZ (intD ns) i = some (.int (ns.getD i.toNat 0)) := by
  obtain ⟨n, h, e⟩ := intD_atZ h0 h1
  rw [e, List.getD_eq_getElem?_getD, h]
  rfl
theorem ixZ_ok {n : Nat} {i : Int} (h0 : 0 ≤ i) (h1 : i < n) : ixZ n i = some i.toNat := by
  unfold ixZ
  rw [if_pos h0, if_pos h1]
theorem intD_set (ns : List Int) (i : Nat) (x : Int) : (intD ns).set i (.int x) = intD (ns.set i x) := by show (ns.map D.int).set i (D.int x) = (ns.set i x).map D.int; rw [List.map_set]
theorem smallMul {i j : Int} (h : j.natAbs < 2 ^ 64) : MulOk i j := Or.inl (Or.inr h)
theorem smallMul' {i j : Int} (h : i.natAbs < 2 ^ 64) : MulOk i j := Or.inl (Or.inl h)
abbrev natD (ns : List Nat) : List D := intD (ns.map fun (k : Nat) => (k : Int))
theorem intD_len (ns : List Int) : (intD ns).length = ns.length := List.length_map ..
theorem natD_len (ns : List Nat) : (natD ns).length = ns.length := by rw [intD_len, List.length_map]
theorem natD_get {ns : List Nat} {i : Nat} {d : D} (h : (natD ns)[i]? = some d) : ∃ n : Nat, ns[i]? = some n ∧ d = .int n := by
  obtain ⟨x, h1, rfl⟩ := intD_get h
  rw [List.getElem?_map] at h1
  cases e : ns[i]? with
  | none => rw [e] at h1; cases h1
  | some n => rw [e] at h1; exact ⟨n, rfl, by rw [← Option.some.inj h1]⟩
/-- over a range -/
theorem Lc_rf {n : Nat} {guard : Sto → Prop} {S1 : Sto} {step : D → Sto → (Option D → Sto → Prop) → Prop} {Q : VK} (p : Nat → Bool) (f : Nat → D) (hz : n ≤ szL) (hg : ∀ S', Sub S1 S' → guard S')
    (hs : ∀ (i : Nat) S' R, i < n → Sub S1 S' → (∀ S2, Sub S' S2 → R (if p i = true then some (f i) else none) S2) → step (.int (i : Int)) S' R) (hd : ∀ S', Sub S1 S' → Q (.ref S'.length) (S' ++ [.lst (((List.range n).filter p).map f)])) : Lc (rangeD 0 (n : Int)) guard S1 step Q := by
  refine ⟨by rw [rangeD_len]; omega, fun i acc S' => Sub S1 S' ∧ acc = ((List.range i).filter p).map f, ⟨.refl _, rfl⟩, fun i acc S' h => hg S' h.1, ?_, ?_⟩
  · rintro i d acc S' hi ⟨h1, rfl⟩
    obtain ⟨hi1, rfl⟩ := rangeD_get hi
    rw [Int.zero_add]
    refine hs i S' _ (by omega) h1 fun S2 h2 => ⟨h1.trans h2, ?_⟩
    rw [List.range_succ, List.filter_append, List.map_append]
    cases e : p i <;> simp [e]
  · rintro acc S' ⟨h1, rfl⟩
    rw [rangeD_len, show ((n : Int) - 0).toNat = n by omega]
    exact hd S' h1
theorem Lc_rm {n : Nat} {guard : Sto → Prop} {S1 : Sto} {step : D → Sto → (Option D → Sto → Prop) → Prop} {Q : VK} (f : Nat → D) (hz : n ≤ szL) (hg : ∀ S', Sub S1 S' → guard S')
    (hs : ∀ (i : Nat) S' R, i < n → Sub S1 S' → (∀ S2, Sub S' S2 → R (some (f i)) S2) → step (.int (i : Int)) S' R) (hd : ∀ S', Sub S1 S' → Q (.ref S'.length) (S' ++ [.lst ((List.range n).map f)])) : Lc (rangeD 0 (n : Int)) guard S1 step Q := by
  refine Lc_rf (fun _ => true) f hz hg (fun i S' R h1 h2 h3 => hs i S' R h1 h2 fun S2 h4 => h3 S2 h4) fun S' h => ?_
  rw [List.filter_eq_self.mpr (fun _ _ => rfl)]
  exact hd S' h
/-- over any list that is known by a map -/
theorem Lc_lf {α : Type} {xs : List α} {e : α → D} {guard : Sto → Prop} {S1 : Sto} {step : D → Sto → (Option D → Sto → Prop) → Prop} {Q : VK} (p : α → Bool) (f : α → D) (hz : xs.length ≤ szL) (hg : ∀ S', Sub S1 S' → guard S')
    (hs : ∀ (x : α) S' R, x ∈ xs → Sub S1 S' → (∀ S2, Sub S' S2 → R (if p x = true then some (f x) else none) S2) → step (e x) S' R) (hd : ∀ S', Sub S1 S' → Q (.ref S'.length) (S' ++ [.lst ((xs.filter p).map f)])) : Lc (xs.map e) guard S1 step Q := by
  refine ⟨by rw [List.length_map]; exact hz, fun i acc S' => Sub S1 S' ∧ acc = ((xs.take i).filter p).map f, ⟨.refl _, rfl⟩, fun i acc S' h => hg S' h.1, ?_, ?_⟩
  · rintro i d acc S' hi ⟨h1, rfl⟩
    rw [List.getElem?_map] at hi
    cases ex : xs[i]? with
    | none => rw [ex] at hi; cases hi
    | some x =>
      rw [ex] at hi
      cases Option.some.inj hi
      refine hs x S' _ (List.mem_of_getElem? ex) h1 fun S2 h2 => ⟨h1.trans h2, ?_⟩
      rw [List.take_add_one, ex]
      cases e : p x <;> simp [e]
  · rintro acc S' ⟨h1, rfl⟩
    rw [List.length_map, List.take_length]
    exact hd S' h1
theorem Lc_lm {α : Type} {xs : List α} {e : α → D} {guard : Sto → Prop} {S1 : Sto} {step : D → Sto → (Option D → Sto → Prop) → Prop} {Q : VK} (f : α → D) (hz : xs.length ≤ szL) (hg : ∀ S', Sub S1 S' → guard S')
    (hs : ∀ (x : α) S' R, x ∈ xs → Sub S1 S' → (∀ S2, Sub S' S2 → R (some (f x)) S2) → step (e x) S' R) (hd : ∀ S', Sub S1 S' → Q (.ref S'.length) (S' ++ [.lst (xs.map f)])) : Lc (xs.map e) guard S1 step Q := by
  refine Lc_lf (fun _ => true) f hz hg (fun x S' R h1 h2 h3 => hs x S' R h1 h2 fun S2 h4 => h3 S2 h4) fun S' h => ?_
  rw [List.filter_eq_self.mpr (fun _ _ => rfl)]
  exact hd S' h
theorem atZ_intN {ns : List Int} {i : Nat} (h : i < ns.length) : atZ (intD ns) (i : Int) = some (.int (ns.getD i 0)) := by
  have := atZ_intD (ns := ns) (i := (i : Int)) (by omega) (by omega)
  rwa [Int.toNat_natCast] at this
theorem flats_map {α : Type} {f : α → D} : ∀ {l : List α}, (∀ x ∈ l, flat (f x) = true) → flats (l.map f) = true
  | [], _ => rfl
  | x :: l, h => by
    show (flat (f x) && flats (l.map f)) = true
    rw [h x List.mem_cons_self, flats_map fun y hy => h y (List.mem_cons_of_mem _ hy)]
    rfl
theorem slims_map {α : Type} {f : α → D} : ∀ {l : List α}, (∀ x ∈ l, slim (f x) = true) → slims (l.map f) = true
  | [], _ => rfl
  | x :: l, h => by
    show (slim (f x) && slims (l.map f)) = true
    rw [h x List.mem_cons_self, slims_map fun y hy => h y (List.mem_cons_of_mem _ hy)]
    rfl
theorem deeps_map {α : Type} {f : α → D} {N : Nat} : ∀ {l : List α}, (∀ x ∈ l, deep (f x) ≤ N) → deeps (l.map f) ≤ N
  | [], _ => Nat.zero_le _
  | x :: l, h => by
    show max (deep (f x)) (deeps (l.map f)) ≤ N
    have := h x List.mem_cons_self
    have := deeps_map (l := l) fun y hy => h y (List.mem_cons_of_mem _ hy)
    omega
/-- ints sort -/
theorem sortOk_int (ns : List Int) : sortOk (intD ns) := by
  refine ⟨flats_int ns, by rw [deeps_int]; omega, ?_, Or.inr ?_⟩
  · intro a ha b hb
    obtain ⟨x, _, rfl⟩ := List.mem_map.mp ha
    obtain ⟨y, _, rfl⟩ := List.mem_map.mp hb
    rfl
  · intro a ha
    obtain ⟨x, _, rfl⟩ := List.mem_map.mp ha
    exact ⟨by simp, by simp⟩
theorem sort_int {ns : List Int} {ys : List D} (hp : ys.Perm (intD ns)) (hw : ys.Pairwise (fun a b => ltD b a = false)) : ∃ ms : List Int, ys = intD ms ∧ ms.Perm ns ∧ ms.Pairwise (· ≤ ·) := by
  obtain ⟨ms, h1, rfl⟩ := perm_map _ hp _ rfl
  refine ⟨ms, rfl, h1, ?_⟩
  rw [List.pairwise_map] at hw
  refine hw.imp fun {a b} h => ?_
  have h : decide (b < a) = false := h
  simpa using h
theorem get_at {S : Sto} {n : Nat} {xs : List D} (h : S[n]? = some (.lst xs)) : S[n]? = some (.lst xs) := h
theorem natD_map (l : List Nat) : natD l = l.map fun (k : Nat) => D.int (k : Int) := by simp [natD, intD]
theorem any_int (ns : List Int) (x : Int) : (intD ns).any (fun y => eqD y (.int x)) = decide (x ∈ ns) := by
  induction ns with
  | nil => simp
  | cons n ns ih =>
    show (eqD (.int n) (.int x) || (intD ns).any fun y => eqD y (.int x)) = _
    rw [ih, show eqD (.int n) (.int x) = decide (n = x) from rfl]
    simp only [List.mem_cons, Bool.decide_or]
    congr 1
    simp [eq_comm]
theorem any_nat (ns : List Nat) (x : Nat) : (natD ns).any (fun y => eqD y (.int x)) = decide (x ∈ ns) := by
  rw [any_int]
  have : ((x : Int) ∈ ns.map fun (k : Nat) => (k : Int)) ↔ x ∈ ns := by
    rw [List.mem_map]
    exact ⟨fun ⟨a, h, e⟩ => by rwa [show x = a by omega], fun h => ⟨x, h, rfl⟩⟩
  simp only [this]
theorem Ch.put {S S' : Sto} {n m : Nat} {o : O} (h : Ch n S S') (hm : S.length ≤ m) : Ch n S (S'.set m o) := fun k u hk e => by
  rw [at_set_ne (by have := at_lt e; omega)]
  exact h k u hk e
theorem Ch.app {S S' : Sto} {n : Nat} (h : Ch n S S') (l : Sto) : Ch n S (S' ++ l) := h.trans (Sub.push S' l).ch
theorem Dr.app {n : Nat} {S : Sto} (d : Dr n S) (l : Sto) : Dr n (S ++ l) := d.sub (Sub.push S l)
theorem Dr.put {n m : Nat} {S : Sto} {o : O} (d : Dr n S) (h : n ≠ m) : Dr n (S.set m o) := let ⟨ns, e⟩ := d; ⟨ns, by rw [at_set_ne h]; exact e⟩
theorem Dr.lt {n : Nat} {S : Sto} (d : Dr n S) : n < S.length := let ⟨_, e⟩ := d; at_lt e
theorem Ch.len {n : Nat} {S S' : Sto} (h : Ch n S S') (hn : n < S'.length) : S.length ≤ S'.length := by
  false_or_by_contra
  rename_i hc
  have h1 : S.length - 1 < S.length := by omega
  by_cases e : S.length - 1 = n
  · omega
  · have := at_lt (h (S.length - 1) _ e (List.getElem?_eq_getElem h1))
    omega
theorem Sub.len {S S' : Sto} (h : Sub S S') : S.length ≤ S'.length := by
  false_or_by_contra
  rename_i hc
  have h1 : S.length - 1 < S.length := by omega
  have := at_lt (h (S.length - 1) _ (List.getElem?_eq_getElem h1))
  omega
theorem ifT {c : Bool} {A B : Prop} {_ : Decidable (c = true)} (h : c = true) (a : A) : if c = true then A else B := by rw [if_pos h]; exact a
theorem ifF {c : Bool} {A B : Prop} {_ : Decidable (c = true)} (h : c = false) (b : B) : if c = true then A else B := by rw [if_neg (by rw [h]; decide)]; exact b
theorem it_at {S : Sto} {n : Nat} {xs : List D} {A : List D → Prop} (h : S[n]? = some (.lst xs)) (a : A xs) : match S[n]? with
    | some (.lst ys) => A ys
    | _ => False := by
  rw [h]
  exact a
theorem eqD_ii (i j : Int) : eqD (.int i) (.int j) = decide (i = j) := rfl
end DL
set_option linter.all false
set_option maxRecDepth 100000
set_option maxHeartbeats 4000000
/-! DLQ: fractions in lowest terms as pairs: rationals. -/
namespace DL
@[reducible] def qD (q : Rat) : D := .tup [.int q.num, .int q.den]
/-- n divided by d in lowest terms, with a divisor that is the greatest common one, with d's sign -/
theorem ratio_eq {n d : Int} (hd : d ≠ 0) : n.fdiv (if d < 0 then -((Nat.gcd n.natAbs d.natAbs : Nat) : Int) else (Nat.gcd n.natAbs d.natAbs : Nat)) = (Rat.divInt n d).num ∧ d.fdiv (if d < 0 then -((Nat.gcd n.natAbs d.natAbs : Nat) : Int) else (Nat.gcd n.natAbs d.natAbs : Nat)) = (Rat.divInt n d).den := by
  rw [Rat.num_divInt, Rat.den_divInt, if_neg hd]
  have e : Int.gcd d n = Nat.gcd n.natAbs d.natAbs := Nat.gcd_comm _ _
  have hg : 0 < Nat.gcd n.natAbs d.natAbs := Nat.gcd_pos_of_pos_right _ (by omega)
  have h1 : ((Int.gcd d n : Nat) : Int) ∣ n := Int.gcd_dvd_right ..
  have h2 : ((Int.gcd d n : Nat) : Int) ∣ d := Int.gcd_dvd_left ..
  rw [e] at h1 h2 ⊢
  generalize Nat.gcd n.natAbs d.natAbs = g at *
  obtain ⟨k, rfl⟩ := h1
  obtain ⟨m, rfl⟩ := h2
  have hg0 : (g : Int) ≠ 0 := by omega
  have hm : m ≠ 0 := fun h => hd (by rw [h, Int.mul_zero])
  have hnat : ((g : Int) * m).natAbs / g = m.natAbs := by
    rw [Int.natAbs_mul, Int.natAbs_natCast, Nat.mul_div_cancel_left _ hg]
  rw [hnat]
  rcases Int.lt_or_gt_of_ne hm with h | h
  · have hs : (g : Int) * m < 0 := Int.mul_neg_of_pos_of_neg (by omega) h
    rw [if_pos hs, Int.sign_eq_neg_one_of_neg hs]
    have e1 : ∀ x : Int, ((g : Int) * x).fdiv (-(g : Int)) = -x := fun x => by
      rw [show (g : Int) * x = -(g : Int) * -x by rw [Int.neg_mul_neg]]
      exact Int.mul_fdiv_cancel_left _ (by omega)
    rw [e1, e1]
    refine ⟨?_, by omega⟩
    rw [show (-1 : Int) * ((g : Int) * k) = (g : Int) * -k by rw [Int.mul_neg]; omega, Int.mul_ediv_cancel_left _ hg0]
  · have hs : 0 < (g : Int) * m := Int.mul_pos (by omega) h
    rw [if_neg (by omega), Int.sign_eq_one_of_pos hs, Int.one_mul, Int.mul_fdiv_cancel_left _ hg0, Int.mul_fdiv_cancel_left _ hg0, Int.mul_ediv_cancel_left _ hg0]
    exact ⟨rfl, by omega⟩
theorem divInt_eq (n d : Int) : Rat.divInt n d = (n : Rat) / (d : Rat) := Rat.divInt_eq_div n d
theorem q_plus (a b : Rat) : Rat.divInt (a.num * b.den + b.num * a.den) (a.den * b.den) = a + b := by
  have ha := a.den_nz
  have hb := b.den_nz
  rw [← Rat.divInt_add_divInt _ _ (by omega) (by omega), Rat.num_divInt_den, Rat.num_divInt_den]
theorem q_times (a b : Rat) : Rat.divInt (a.num * b.num) (a.den * b.den) = a * b := by
  rw [← Rat.divInt_mul_divInt, Rat.num_divInt_den, Rat.num_divInt_den]
theorem q_minus (a b : Rat) : Rat.divInt (a.num * b.den - b.num * a.den) (a.den * b.den) = a - b := by
  have h := q_plus a (-b)
  rw [Rat.neg_num, Rat.neg_den, Int.neg_mul] at h
  rw [Rat.sub_eq_add_neg, ← h]
  rfl
theorem q_over (a b : Rat) : Rat.divInt (a.num * b.den) (a.den * b.num) = a / b := by
  rw [Rat.div_def, Rat.inv_def]
  conv => rhs; rw [← Rat.num_divInt_den a]
  rw [Rat.divInt_mul_divInt]
theorem q_lt (a b : Rat) : decide (a.num * (b.den : Int) < b.num * (a.den : Int)) = decide (a < b) := by
  rw [decide_eq_decide, Rat.lt_iff]
theorem qD_int (i : Int) : qD (i : Rat) = .tup [.int i, .int 1] := by
  unfold qD
  rw [Rat.num_intCast, Rat.den_intCast]
  rfl
theorem qD_eq {a b : Rat} : eqD (qD a) (qD b) = decide (a = b) := by
  show (decide (a.num = b.num) && (decide ((a.den : Int) = b.den) && true)) = decide (a = b)
  rw [Bool.and_true, ← Bool.decide_and, decide_eq_decide]
  exact ⟨fun ⟨h1, h2⟩ => Rat.ext h1 (by omega), fun h => by rw [h]; exact ⟨rfl, rfl⟩⟩
theorem qD_ok (a b : Rat) : flat (qD a) = true ∧ flat (qD b) = true ∧ deep (qD a) ≤ 64 ∧ deep (qD b) ≤ 64 := ⟨rfl, rfl, by show max 0 (max 0 0) + 1 ≤ 64; decide, by show max 0 (max 0 0) + 1 ≤ 64; decide⟩
/-! sizes -/
/-- a fraction that the machine reckons with -/
def sm (q : Rat) : Prop := q.den < 2 ^ 2000 ∧ q.num.natAbs < 2 ^ 4000
theorem sm_mul {i j : Int} (hi : i.natAbs < 2 ^ 100000) (hj : j.natAbs < 2 ^ 100000) : MulOk i j := Or.inr ⟨100000, 100000, hi, hj, by decide⟩
theorem pow_le2 {a b : Nat} (h : a ≤ b) : 2 ^ a ≤ 2 ^ b := Nat.pow_le_pow_right (by decide) h
/-- q times P is whole -/
def Ov (P : Nat) (q : Rat) : Prop := q.den ∣ P
theorem Ov.mono {P P' : Nat} {q : Rat} (h : Ov P q) (hd : P ∣ P') : Ov P' q := Nat.dvd_trans h hd
theorem q_den (q : Rat) : q * (q.den : Rat) = (q.num : Rat) := by
  have h := Rat.num_divInt_den q
  rw [Rat.divInt_eq_div] at h
  have hd : ((q.den : Nat) : Rat) ≠ 0 := by
    have := q.den_nz
    intro e
    exact this (by exact_mod_cast e)
  have e : ((q.den : Int) : Rat) = ((q.den : Nat) : Rat) := rfl
  rw [e] at h
  conv => lhs; lhs; rw [← h]
  rw [Rat.div_mul_cancel hd]
theorem Ov_iff {P : Nat} {q : Rat} : Ov P q ↔ ∃ z : Int, q * (P : Rat) = (z : Rat) := by
  constructor
  · rintro ⟨m, rfl⟩
    refine ⟨q.num * m, ?_⟩
    have := q_den q
    rw [Rat.natCast_mul, ← Rat.mul_assoc, this, Rat.intCast_mul]
    rfl
  · rintro ⟨z, h⟩
    have h2 := q_den q
    have h3 : ((q.num * P : Int) : Rat) = ((z * q.den : Int) : Rat) := by
      rw [Rat.intCast_mul, Rat.intCast_mul, ← h2, ← h]
      show q * (q.den : Rat) * (P : Rat) = q * (P : Rat) * (q.den : Rat)
      rw [Rat.mul_assoc, Rat.mul_comm (q.den : Rat), ← Rat.mul_assoc]
    have h4 : q.num * P = z * q.den := Rat.intCast_inj.mp h3
    have h5 : q.den ∣ q.num.natAbs * P := by
      have := congrArg Int.natAbs h4
      rw [Int.natAbs_mul, Int.natAbs_mul, Int.natAbs_natCast, Int.natAbs_natCast] at this
      rw [this]
      exact Nat.dvd_mul_left _ _
    exact (Nat.Coprime.symm q.reduced).dvd_of_dvd_mul_left h5
theorem Ov_self (q : Rat) : Ov q.den q := Nat.dvd_refl _
theorem Ov_int (P : Nat) (i : Int) : Ov P (i : Rat) := by unfold Ov; rw [Rat.den_intCast]; exact Nat.one_dvd _
theorem Ov.add {P : Nat} {a b : Rat} (ha : Ov P a) (hb : Ov P b) : Ov P (a + b) := by
  obtain ⟨x, hx⟩ := Ov_iff.mp ha
  obtain ⟨y, hy⟩ := Ov_iff.mp hb
  exact Ov_iff.mpr ⟨x + y, by rw [Rat.add_mul, hx, hy, Rat.intCast_add]⟩
theorem Ov.neg {P : Nat} {a : Rat} (ha : Ov P a) : Ov P (-a) := by
  unfold Ov
  rw [Rat.neg_den]
  exact ha
theorem Ov.sub {P : Nat} {a b : Rat} (ha : Ov P a) (hb : Ov P b) : Ov P (a - b) := by
  rw [Rat.sub_eq_add_neg]
  exact ha.add hb.neg
theorem Ov.mul {P R : Nat} {a b : Rat} (ha : Ov P a) (hb : Ov R b) : Ov (P * R) (a * b) := by
  obtain ⟨x, hx⟩ := Ov_iff.mp ha
  obtain ⟨y, hy⟩ := Ov_iff.mp hb
  refine Ov_iff.mpr ⟨x * y, ?_⟩
  rw [Rat.intCast_mul, ← hx, ← hy, Rat.natCast_mul]
  grind
theorem Ov.over {P : Nat} {a : Rat} (ha : Ov P a) {k : Nat} (hk : k ≠ 0) : Ov (P * k) (a / (k : Rat)) := by
  obtain ⟨x, hx⟩ := Ov_iff.mp ha
  refine Ov_iff.mpr ⟨x, ?_⟩
  have h0 : (k : Rat) ≠ 0 := fun e => hk (by exact_mod_cast e)
  rw [Rat.natCast_mul, ← hx]
  grind
/-- a bound for the number and for what it is told over -/
theorem sm_of {P M : Nat} {q : Rat} (h : Ov P q) (hP : 0 < P) (h1 : -(M : Rat) ≤ q) (h2 : q ≤ (M : Rat)) (hp : P < 2 ^ 2000) (hm : M * P < 2 ^ 4000) : sm q := by
  have hd : q.den ≤ P := Nat.le_of_dvd hP h
  refine ⟨by omega, ?_⟩
  have e := q_den q
  have hd0 : (0 : Rat) ≤ (q.den : Rat) := by exact_mod_cast Nat.zero_le _
  have u : (q.num : Rat) ≤ ((M * q.den : Nat) : Rat) := by
    rw [← e, Rat.natCast_mul]
    exact Rat.mul_le_mul_of_nonneg_right h2 hd0
  have l : ((-(M * q.den : Nat) : Int) : Rat) ≤ (q.num : Rat) := by
    rw [← e, Rat.intCast_neg]
    have := Rat.mul_le_mul_of_nonneg_right h1 hd0
    rw [Rat.neg_mul] at this
    rw [show ((((M * q.den : Nat) : Int)) : Rat) = ((M * q.den : Nat) : Rat) from rfl, Rat.natCast_mul]
    exact this
  have u2 : q.num ≤ ((M * q.den : Nat) : Int) := Rat.intCast_le_intCast.mp u
  have l2 : -((M * q.den : Nat) : Int) ≤ q.num := Rat.intCast_le_intCast.mp l
  have : M * q.den ≤ M * P := Nat.mul_le_mul_left _ hd
  omega
end DL
set_option linter.all false
/-! DLF: how long a search for the greatest common divisor may go on. -/
namespace DL
def fib : Nat → Nat
  | 0 => 0
  | 1 => 1
  | n + 2 => fib n + fib (n + 1)
theorem fib12 (n : Nat) : 233 * fib (n + 1) ≤ fib (n + 13) := by
  have h : ∀ k, fib (n + k + 2) = fib (n + k) + fib (n + k + 1) := fun _ => rfl
  have := h 0; have := h 1; have := h 2; have := h 3; have := h 4; have := h 5; have := h 6; have := h 7; have := h 8; have := h 9; have := h 10; have := h 11
  simp only [Nat.add_assoc, Nat.reduceAdd, Nat.add_zero] at *
  omega
theorem fibpow : ∀ k, 233 ^ k ≤ fib (12 * k + 1)
  | 0 => Nat.le_refl _
  | k + 1 => by
    have h1 := fibpow k
    have h2 := fib12 (12 * k)
    rw [Nat.pow_succ, show 12 * (k + 1) + 1 = 12 * k + 13 by omega]
    omega
theorem fib_mono1 (n : Nat) : fib n ≤ fib (n + 1) := by
  cases n with
  | zero => decide
  | succ n => show fib (n + 1) ≤ fib n + fib (n + 1); omega
theorem fib_mono {m n : Nat} (h : m ≤ n) : fib m ≤ fib n := by
  induction h with
  | refl => exact Nat.le_refl _
  | step _ ih => exact Nat.le_trans ih (fib_mono1 _)
theorem fib4000 : 2 ^ 2600 ≤ fib 4000 := by
  have h1 := fibpow 333
  have h2 := fib_mono (show 12 * 333 + 1 ≤ 4000 by decide)
  have h3 : 2 ^ 2600 ≤ 233 ^ 333 := by decide +kernel
  exact Nat.le_trans h3 (Nat.le_trans h1 h2)
/-- after i turns: d is at least so much -/
theorem fib_step {d a b i : Nat} (hb : 0 < b) (hab : b ≤ a) (h : fib (i + 1) * a + fib i * b ≤ d) : fib (i + 2) * b + fib (i + 1) * (a % b) ≤ d := by
  have h1 := Nat.div_add_mod a b
  have h2 : 1 ≤ a / b := (Nat.one_le_div_iff hb).mpr hab
  have h3 : b * 1 ≤ b * (a / b) := Nat.mul_le_mul_left b h2
  have h4 : b + a % b ≤ a := by omega
  have h5 := Nat.mul_le_mul_left (fib (i + 1)) h4
  rw [Nat.mul_add] at h5
  show (fib i + fib (i + 1)) * b + _ ≤ _
  rw [Nat.add_mul]
  omega
end DL
set_option linter.all false
set_option maxRecDepth 100000
set_option maxHeartbeats 4000000
/-! DLM: pure lemmas that laws share: dicts by lookups, sums of fractions over lists, ends of lists. -/
namespace DL
section
variable {κ : Type} [DecidableEq κ]
theorem valK_nil (k : κ) : valK ([] : List (κ × D)) k = none := rfl
theorem valK_put (kvs : List (κ × D)) (k k' : κ) (v : D) : valK (putD kvs k v) k' = if k' = k then some v else valK kvs k' := by
  unfold putD
  by_cases c : (kvs.any fun kv => decide (kv.1 = k)) = true
  · rw [if_pos c]
    induction kvs with
    | nil => cases c
    | cons kv l ih =>
      unfold valK at ih ⊢
      rw [List.map_cons, List.find?_cons, List.find?_cons]
      by_cases e : kv.1 = k
      · rw [if_pos e]
        by_cases e2 : k' = k
        · rw [if_pos e2]
          rw [decide_eq_true (show (kv.1, v).1 = k' from e.trans e2.symm)]
          rfl
        · rw [if_neg e2]
          have q : decide (kv.1 = k') = false := decide_eq_false fun z => e2 (z.symm.trans e)
          simp only [q]
          by_cases c2 : (l.any fun kv => decide (kv.1 = k)) = true
          · have := ih c2
            rw [if_neg e2] at this
            exact this
          · have : l.map (fun kv => if kv.1 = k then (kv.1, v) else kv) = l := by
              conv => rhs; rw [← List.map_id l]
              apply List.map_congr_left
              intro kv hkv
              rw [if_neg]
              · rfl
              · intro z
                exact c2 (List.any_eq_true.mpr ⟨kv, hkv, decide_eq_true z⟩)
            rw [this]
      · rw [if_neg e]
        rw [List.any_cons, decide_eq_false e, Bool.false_or] at c
        by_cases e3 : kv.1 = k'
        · rw [decide_eq_true e3, if_neg (fun z => e (e3.trans z))]
        · rw [decide_eq_false e3]
          exact ih c
  · rw [if_neg c]
    unfold valK
    rw [List.find?_append]
    by_cases e2 : k' = k
    · subst e2
      have : (kvs.find? fun kv => decide (kv.1 = k')) = none := by
        rw [List.find?_eq_none]
        intro kv hkv e
        exact c (List.any_eq_true.mpr ⟨kv, hkv, e⟩)
      rw [this, if_pos rfl]
      simp
    · rw [if_neg e2, List.find?_cons, decide_eq_false (show ¬ (k, v).1 = k' from fun z => e2 z.symm)]
      simp
theorem putD_len (kvs : List (κ × D)) (k : κ) (v : D) : (putD kvs k v).length ≤ kvs.length + 1 := by
  unfold putD
  split
  · rw [List.length_map]; omega
  · simp
theorem putD_nd {kvs : List (κ × D)} {k : κ} {v : D} (h : (kvs.map (·.1)).Nodup) : ((putD kvs k v).map (·.1)).Nodup := by
  unfold putD
  by_cases c : (kvs.any fun kv => decide (kv.1 = k)) = true
  · rw [if_pos c, List.map_map]
    have : (kvs.map ((fun kv : κ × D => kv.1) ∘ fun kv => if kv.1 = k then (kv.1, v) else kv)) = kvs.map (·.1) := by
      apply List.map_congr_left
      intro kv _
      show (if kv.1 = k then (kv.1, v) else kv).1 = kv.1
      split <;> rfl
    rw [this]
    exact h
  · rw [if_neg c, List.map_append, List.nodup_append]
    refine ⟨h, by simp, fun a ha b hb e => c ?_⟩
    obtain ⟨kv, hkv, rfl⟩ := List.mem_map.mp ha
    rw [List.any_eq_true]
    refine ⟨kv, hkv, decide_eq_true ?_⟩
    rw [e]
    simpa using hb
theorem putD_keys {kvs : List (κ × D)} {k x : κ} {v : D} (h : x ∈ (putD kvs k v).map (·.1)) : x = k ∨ x ∈ kvs.map (·.1) := by
  unfold putD at h
  split at h
  · right
    rw [List.map_map] at h
    obtain ⟨kv, hkv, rfl⟩ := List.mem_map.mp h
    refine List.mem_map.mpr ⟨kv, hkv, ?_⟩
    show kv.1 = (if kv.1 = k then (kv.1, v) else kv).1
    split <;> rfl
  · rw [List.map_append, List.mem_append] at h
    rcases h with h | h
    · exact .inr h
    · left; simpa using h
end
theorem kyt2 (x y : Int) : kyt (.tup [.int x, .int y]) = some [.inl x, .inl y] := rfl
theorem dict_T {n : Nat} {S : Sto} {kvs : List (List Ky × D)} {A A' : List (Ky × D) → Prop} {B B' : List (List Ky × D) → Prop} (h : S[n]? = some (.dT kvs)) (b : B kvs) : match S[n]? with
    | some (.dK kvs) => A kvs
    | some (.dT kvs) => B kvs
    | some (.fK kvs) => A' kvs
    | some (.fT kvs) => B' kvs
    | _ => False := by
  rw [h]
  exact b
theorem put_T {n : Nat} {S : Sto} {kvs : List (List Ky × D)} {A : List (Ky × D) → Prop} {B : List (List Ky × D) → Prop} (h : S[n]? = some (.dT kvs)) (b : B kvs) : match S[n]? with
    | some (.dK kvs) => A kvs
    | some (.dT kvs) => B kvs
    | _ => False := by
  rw [h]
  exact b
theorem dict_K {n : Nat} {S : Sto} {kvs : List (Ky × D)} {A A' : List (Ky × D) → Prop} {B B' : List (List Ky × D) → Prop} (h : S[n]? = some (.dK kvs)) (b : A kvs) : match S[n]? with
    | some (.dK kvs) => A kvs
    | some (.dT kvs) => B kvs
    | some (.fK kvs) => A' kvs
    | some (.fT kvs) => B' kvs
    | _ => False := by
  rw [h]
  exact b
theorem dict_f {n : Nat} {S : Sto} {kvs : List (Ky × D)} {A A' : List (Ky × D) → Prop} {B B' : List (List Ky × D) → Prop} (h : S[n]? = some (.fK kvs)) (b : A' kvs) : match S[n]? with
    | some (.dK kvs) => A kvs
    | some (.dT kvs) => B kvs
    | some (.fK kvs) => A' kvs
    | some (.fT kvs) => B' kvs
    | _ => False := by
  rw [h]
  exact b
theorem put_K {n : Nat} {S : Sto} {kvs : List (Ky × D)} {A : List (Ky × D) → Prop} {B : List (List Ky × D) → Prop} (h : S[n]? = some (.dK kvs)) (b : A kvs) : match S[n]? with
    | some (.dK kvs) => A kvs
    | some (.dT kvs) => B kvs
    | _ => False := by
  rw [h]
  exact b
/-! lists -/
theorem natD_app (l : List Nat) (x : Nat) : natD l ++ [D.int (x : Int)] = natD (l ++ [x]) := by rw [natD_map, natD_map, List.map_append]; rfl
theorem intD_app (l : List Int) (x : Int) : intD l ++ [D.int x] = intD (l ++ [x]) := by show l.map D.int ++ [D.int x] = (l ++ [x]).map D.int; rw [List.map_append]; rfl
theorem lastD {l : List D} {x : D} : atZ (l ++ [x]) (-1) = some x := by
  unfold atZ ixZ
  rw [if_neg (by omega), if_pos (by rw [List.length_append]; simp; omega)]
  show (l ++ [x])[(-1 + ((l ++ [x]).length : Int)).toNat]? = _
  rw [show (-1 + ((l ++ [x]).length : Int)).toNat = l.length by rw [List.length_append]; simp; omega]
  simp
theorem items_at {S : Sto} {n : Nat} {xs : List D} (h : S[n]? = some (.lst xs)) : itemsAt (.ref n) S = some xs := by
  show (match S[n]? with
    | some (.lst xs) => some xs
    | _ => none) = _
  rw [h]
  first | done | rfl
theorem itemsR {S : Sto} {p : Nat} {l : List Nat} (h : S[p]? = some (.lst (natD l))) : itemsAt (.ref p) S = some (intD (l.map fun (k : Nat) => (k : Int))) := items_at h
theorem sum_cast (l : List Nat) : (l.map fun (k : Nat) => (k : Int)).sum = ((l.sum : Nat) : Int) := by
  induction l with
  | nil => rfl
  | cons x l ih => rw [List.map_cons, List.sum_cons, List.sum_cons, ih]; omega
theorem natD_set (ns : List Nat) (i : Nat) (x : Nat) : (natD ns).set i (.int (x : Int)) = natD (ns.set i x) := by
  rw [natD_map, natD_map, ← List.map_set]
theorem natD_atZ {ns : List Nat} {i : Nat} (h : i < ns.length) : atZ (natD ns) (i : Int) = some (.int ((ns.getD i 0 : Nat) : Int)) := by
  refine atZ_nat ?_
  rw [natD_map, List.getElem?_map, List.getD_eq_getElem?_getD, List.getElem?_eq_getElem h]
  rfl
theorem flatten_rep {α : Type} (m : Nat) (x : α) : (List.replicate m [x]).flatten = List.replicate m x := by
  induction m with
  | zero => rfl
  | succ m ih => rw [List.replicate_succ, List.flatten_cons, ih, List.replicate_succ]; rfl
theorem natD_rep (m x : Nat) : (List.replicate m [D.int (x : Int)]).flatten = natD (List.replicate m x) := by rw [flatten_rep, natD_map, List.map_replicate]
/-! sums of fractions -/
section
variable {α β : Type}
def rs (l : List α) (f : α → Rat) : Rat := (l.map f).foldr (· + ·) 0
theorem rs_nil (f : α → Rat) : rs [] f = 0 := rfl
theorem rs_cons (x : α) (l : List α) (f : α → Rat) : rs (x :: l) f = f x + rs l f := rfl
theorem rs_app (l m : List α) (f : α → Rat) : rs (l ++ m) f = rs l f + rs m f := by
  induction l with
  | nil => rw [List.nil_append, rs_nil]; grind
  | cons x l ih => rw [List.cons_append, rs_cons, rs_cons, ih]; grind
theorem rs_one (x : α) (f : α → Rat) : rs [x] f = f x := by rw [rs_cons, rs_nil]; grind
theorem rs_congr {l : List α} {f g : α → Rat} (h : ∀ x ∈ l, f x = g x) : rs l f = rs l g := by
  induction l with
  | nil => rfl
  | cons x l ih => rw [rs_cons, rs_cons, h x List.mem_cons_self, ih fun y hy => h y (List.mem_cons_of_mem _ hy)]
theorem rs_add (l : List α) (f g : α → Rat) : rs l (fun x => f x + g x) = rs l f + rs l g := by
  induction l with
  | nil => rw [rs_nil, rs_nil, rs_nil]; grind
  | cons x l ih => rw [rs_cons, rs_cons, rs_cons, ih]; grind
theorem rs_sub (l : List α) (f g : α → Rat) : rs l (fun x => f x - g x) = rs l f - rs l g := by
  induction l with
  | nil => rw [rs_nil, rs_nil, rs_nil]; grind
  | cons x l ih => rw [rs_cons, rs_cons, rs_cons, ih]; grind
theorem rs_mul (l : List α) (f : α → Rat) (c : Rat) : rs l (fun x => f x * c) = rs l f * c := by
  induction l with
  | nil => rw [rs_nil, rs_nil]; grind
  | cons x l ih => rw [rs_cons, rs_cons, ih]; grind
theorem rs_mulL (l : List α) (f : α → Rat) (c : Rat) : rs l (fun x => c * f x) = c * rs l f := by
  rw [Rat.mul_comm, ← rs_mul]
  exact rs_congr fun x _ => Rat.mul_comm _ _
theorem rs_zero (l : List α) : rs l (fun _ => 0) = 0 := by
  induction l with
  | nil => rfl
  | cons x l ih => rw [rs_cons, ih]; grind
theorem rs_map (l : List β) (g : β → α) (f : α → Rat) : rs (l.map g) f = rs l (fun x => f (g x)) := by
  unfold rs
  rw [List.map_map]
  rfl
theorem rs_swap (l : List α) (m : List β) (f : α → β → Rat) : rs l (fun x => rs m (f x)) = rs m (fun y => rs l fun x => f x y) := by
  induction l with
  | nil => rw [rs_nil]; exact (rs_zero m).symm
  | cons x l ih =>
    rw [rs_cons, ih, ← rs_add]
    exact rs_congr fun y _ => (rs_cons x l fun x => f x y).symm
theorem rs_flatMap (l : List α) (g : α → List β) (f : β → Rat) : rs (l.flatMap g) f = rs l (fun x => rs (g x) f) := by
  induction l with
  | nil => rfl
  | cons x l ih => rw [List.flatMap_cons, rs_app, ih, rs_cons]
theorem rs_nn {l : List α} {f : α → Rat} (h : ∀ x ∈ l, 0 ≤ f x) : 0 ≤ rs l f := by
  induction l with
  | nil => rw [rs_nil]; decide
  | cons x l ih =>
    rw [rs_cons]
    have := h x List.mem_cons_self
    have := ih fun y hy => h y (List.mem_cons_of_mem _ hy)
    grind
theorem rs_mono {l : List α} {f g : α → Rat} (h : ∀ x ∈ l, f x ≤ g x) : rs l f ≤ rs l g := by
  induction l with
  | nil => rw [rs_nil, rs_nil]; decide
  | cons x l ih =>
    rw [rs_cons, rs_cons]
    have := h x List.mem_cons_self
    have := ih fun y hy => h y (List.mem_cons_of_mem _ hy)
    grind
theorem rs_ov {P : Nat} {l : List α} {f : α → Rat} (h : ∀ x ∈ l, Ov P (f x)) : Ov P (rs l f) := by
  induction l with
  | nil => exact Ov_int _ 0
  | cons x l ih => rw [rs_cons]; exact (h x List.mem_cons_self).add (ih fun y hy => h y (List.mem_cons_of_mem _ hy))
theorem rs_range_s (n : Nat) (f : Nat → Rat) : rs (List.range (n + 1)) f = rs (List.range n) f + f n := by rw [List.range_succ, rs_app, rs_one]
theorem rs_range_0 (n : Nat) (f : Nat → Rat) : rs (List.range (n + 1)) f = f 0 + rs (List.range n) (fun i => f (i + 1)) := by
  rw [List.range_succ_eq_map, rs_cons, rs_map]
theorem rs_delta (n j : Nat) (c : Rat) : rs (List.range n) (fun i => if j = i then c else 0) = if j < n then c else 0 := by
  induction n with
  | zero => rw [List.range_zero, rs_nil, if_neg (by omega)]
  | succ n ih =>
    rw [rs_range_s, ih]
    by_cases h : j < n
    · rw [if_pos h, if_neg (by omega), if_pos (by omega)]; grind
    · rw [if_neg h]
      by_cases h2 : j = n
      · rw [if_pos h2, if_pos (by omega)]; grind
      · rw [if_neg h2, if_neg (by omega)]; grind
theorem rs_nat (l : List α) (f : α → Nat) : rs l (fun x => ((f x : Nat) : Rat)) = (((l.map f).sum : Nat) : Rat) := by
  induction l with
  | nil => rfl
  | cons x l ih => rw [rs_cons, ih, List.map_cons, List.sum_cons, Rat.natCast_add]
end
end DL
set_option linter.all false
set_option maxRecDepth 100000
/-! the parts of the defs of oddsweighed_k94_whole_runs_of_tosses -/
namespace K94
open DL
@[reducible] def dONE : D := .tup [.int 1, .int 1]
@[reducible] def dNOTHING : D := .tup [.int 0, .int 1]
/-! divisor(one, other); slots: 0 one, 1 other -/
def w_divisor  : WS :=
  (sRet (wB rGcd (wCons (wVar 0) (wCons (wVar 1) wNil))))
/-! fraction(n, d); slots: 0 n, 1 d, 2 common -/
def w_fraction (sp_divisor : Spc) : WS :=
  (sSeq (sAsg (wCall 2 sp_divisor (wCons (wVar 0) (wCons (wVar 1) wNil))) (gN 2))
    (sSeq (sIf (wtVal (wOp rLt (wVar 1) (wC (.int 0)))) (sAsg (wUn rNeg (wVar 2)) (gN 2)) sNext)
    (sRet (wTup (wCons (wOp rDiv (wVar 0) (wVar 2)) (wCons (wOp rDiv (wVar 1) (wVar 2)) wNil))))))
/-! plus(one, other); slots: 0 one, 1 other -/
def w_plus (sp_fraction : Spc) : WS :=
  (sRet (wCall 2 sp_fraction (wCons (wOp rAdd (wOp rMul (wOp rIx (wVar 0) (wC (.int 0))) (wOp rIx (wVar 1) (wC (.int 1)))) (wOp rMul (wOp rIx (wVar 1) (wC (.int 0))) (wOp rIx (wVar 0) (wC (.int 1))))) (wCons (wOp rMul (wOp rIx (wVar 0) (wC (.int 1))) (wOp rIx (wVar 1) (wC (.int 1)))) wNil))))
/-! minus(one, other); slots: 0 one, 1 other -/
def w_minus (sp_fraction : Spc) : WS :=
  (sRet (wCall 2 sp_fraction (wCons (wOp rSub (wOp rMul (wOp rIx (wVar 0) (wC (.int 0))) (wOp rIx (wVar 1) (wC (.int 1)))) (wOp rMul (wOp rIx (wVar 1) (wC (.int 0))) (wOp rIx (wVar 0) (wC (.int 1))))) (wCons (wOp rMul (wOp rIx (wVar 0) (wC (.int 1))) (wOp rIx (wVar 1) (wC (.int 1)))) wNil))))
/-! times(one, other); slots: 0 one, 1 other -/
def w_times (sp_fraction : Spc) : WS :=
  (sRet (wCall 2 sp_fraction (wCons (wOp rMul (wOp rIx (wVar 0) (wC (.int 0))) (wOp rIx (wVar 1) (wC (.int 0)))) (wCons (wOp rMul (wOp rIx (wVar 0) (wC (.int 1))) (wOp rIx (wVar 1) (wC (.int 1)))) wNil))))
/-! divided(one, other); slots: 0 one, 1 other -/
def w_divided (sp_fraction : Spc) : WS :=
  (sRet (wCall 2 sp_fraction (wCons (wOp rMul (wOp rIx (wVar 0) (wC (.int 0))) (wOp rIx (wVar 1) (wC (.int 1)))) (wCons (wOp rMul (wOp rIx (wVar 0) (wC (.int 1))) (wOp rIx (wVar 1) (wC (.int 0)))) wNil))))
/-! runs_of(tosses); slots: 0 tosses, 1 found, 2 at -/
def w_runs_of  : WS :=
  (sSeq (sAsg (wLst wNil) (gN 1))
    (sSeq (sFor (wR1 (wB rLen (wCons (wVar 0) wNil))) (gN 2) (sIf (wtAnd (wtVal (wOp rGt (wVar 2) (wC (.int 0)))) (wtVal (wOp rEq (wOp rIx (wVar 0) (wVar 2)) (wOp rIx (wVar 0) (wOp rSub (wVar 2) (wC (.int 1))))))) (sAugSub rIxG rIAdd rPut (wVar 1) (wUn rNeg (wC (.int 1))) (wC (.int 1))) (sDrop (wM rAppend (wVar 1) (wCons (wC (.int 1)) wNil)))))
    (sRet (wB rTuple (wCons (wVar 1) wNil)))))
/-! longest(tosses, sign); slots: 0 tosses, 1 sign, 2 best, 3 now, 4 toss -/
def w_longest  : WS :=
  (sSeq (sAsg (wTup (wCons (wC (.int 0)) (wCons (wC (.int 0)) wNil))) (gT [2, 3]))
    (sSeq (sFor (wItS (wVar 0)) (gN 4) (sSeq (sAsg (wIf (wtVal (wOp rEq (wVar 4) (wVar 1))) (wOp rAdd (wVar 3) (wC (.int 1))) (wC (.int 0))) (gN 3))
    (sAsg (wB rMax2 (wCons (wVar 2) (wCons (wVar 3) wNil))) (gN 2))))
    (sRet (wVar 2))))
/-! count_without(n, k); slots: 0 n, 1 k, 2 counts, 3 size, 4 whole -/
def w_count_without  : WS :=
  (sSeq (sAsg (wLst wNil) (gN 2))
    (sSeq (sFor (wR1 (wOp rAdd (wVar 0) (wC (.int 1)))) (gN 3) (sSeq (sAsg (wB rSum (wCons (wSl rSl (wVar 2) (wPAt (wB rMax2 (wCons (wOp rSub (wVar 3) (wVar 1)) (wCons (wC (.int 0)) wNil)))) (wPAt (wVar 3))) wNil)) (gN 4))
    (sDrop (wM rAppend (wVar 2) (wCons (wOp rAdd (wVar 4) (wIf (wtVal (wOp rLt (wVar 3) (wVar 1))) (wC (.int 1)) (wC (.int 0)))) wNil)))))
    (sRet (wOp rIx (wVar 2) (wVar 0)))))
/-! chance_without(p, n, k); slots: 0 p, 1 n, 2 k, 3 chances, 4 lost, 5 step, 6 other, 7 chance, 8 heads, 9 found -/
def w_chance_without (sp_minus : Spc) (sp_times : Spc) (sp_plus : Spc) : WS :=
  (sSeq (sAsg (wOp rAdd (wLst (wCons (wC dONE) wNil)) (wOp rMul (wLst (wCons (wC dNOTHING) wNil)) (wOp rSub (wVar 2) (wC (.int 1))))) (gN 3))
    (sSeq (sAsg (wCall 2 sp_minus (wCons (wC dONE) (wCons (wVar 0) wNil))) (gN 4))
    (sSeq (sFor (wR1 (wVar 1)) (gN 5) (sSeq (sAsg (wC dNOTHING) (gN 6))
    (sSeq (sFor (wIt (wVar 3)) (gN 7) (sAsg (wCall 2 sp_plus (wCons (wVar 6) (wCons (wCall 2 sp_times (wCons (wVar 4) (wCons (wVar 7) wNil))) wNil))) (gN 6)))
    (sAsg (wOp rAdd (wLst (wCons (wVar 6) wNil)) (wLc (wR1 (wOp rSub (wVar 2) (wC (.int 1)))) (gN 8) wtYes (wCall 2 sp_times (wCons (wVar 0) (wCons (wOp rIx (wVar 3) (wVar 8)) wNil))) [8])) (gN 3)))))
    (sSeq (sAsg (wC dNOTHING) (gN 9))
    (sSeq (sFor (wIt (wVar 3)) (gN 7) (sAsg (wCall 2 sp_plus (wCons (wVar 9) (wCons (wVar 7) wNil))) (gN 9)))
    (sRet (wVar 9)))))))
/-! mean_runs(p, n); slots: 0 p, 1 n, 2 change -/
def w_mean_runs (sp_minus : Spc) (sp_times : Spc) (sp_plus : Spc) : WS :=
  (sSeq (sIf (wtVal (wOp rEq (wVar 1) (wC (.int 0)))) (sRet (wC dNOTHING)) sNext)
    (sSeq (sAsg (wCall 2 sp_times (wCons (wTup (wCons (wOp rMul (wC (.int 2)) (wOp rSub (wVar 1) (wC (.int 1)))) (wCons (wC (.int 1)) wNil))) (wCons (wCall 2 sp_times (wCons (wVar 0) (wCons (wCall 2 sp_minus (wCons (wC dONE) (wCons (wVar 0) wNil))) wNil))) wNil))) (gN 2))
    (sRet (wCall 2 sp_plus (wCons (wC dONE) (wCons (wVar 2) wNil))))))
/-! ways(n, k); slots: 0 n, 1 k, 2 found, 3 step -/
def w_ways  : WS :=
  (sSeq (sIf (wtNot (wtVal (wChain rLe rLe (wC (.int 0)) (wVar 1) (wVar 0)))) (sRet (wC (.int 0))) sNext)
    (sSeq (sAsg (wC (.int 1)) (gN 2))
    (sSeq (sFor (wR1 (wB rMin2 (wCons (wVar 1) (wCons (wOp rSub (wVar 0) (wVar 1)) wNil)))) (gN 3) (sAsg (wOp rDiv (wOp rMul (wVar 2) (wOp rSub (wVar 0) (wVar 3))) (wOp rAdd (wVar 3) (wC (.int 1)))) (gN 2)))
    (sRet (wVar 2)))))
/-! parted(many, runs); slots: 0 many, 1 runs -/
def w_parted (sp_ways : Spc) : WS :=
  (sSeq (sIf (wtVal (wOp rEq (wVar 1) (wC (.int 0)))) (sRet (wIf (wtVal (wOp rEq (wVar 0) (wC (.int 0)))) (wC (.int 1)) (wC (.int 0)))) sNext)
    (sRet (wIf (wtVal (wOp rGt (wVar 0) (wC (.int 0)))) (wCall 2 sp_ways (wCons (wOp rSub (wVar 0) (wC (.int 1))) (wCons (wOp rSub (wVar 1) (wC (.int 1))) wNil))) (wC (.int 0)))))
/-! count_by_runs(heads, tails, runs); slots: 0 heads, 1 tails, 2 runs, 3 more, 4 fewer -/
def w_count_by_runs (sp_parted : Spc) : WS :=
  (sSeq (sIf (wtOr (wtVal (wOp rEq (wOp rAdd (wVar 0) (wVar 1)) (wC (.int 0)))) (wtVal (wOp rLt (wVar 2) (wC (.int 1))))) (sRet (wIf (wtAnd (wtVal (wOp rEq (wOp rAdd (wVar 0) (wVar 1)) (wC (.int 0)))) (wtVal (wOp rEq (wVar 2) (wC (.int 0))))) (wC (.int 1)) (wC (.int 0)))) sNext)
    (sSeq (sPar 3 4 (wOp rDiv (wOp rAdd (wVar 2) (wC (.int 1))) (wC (.int 2))) (wOp rDiv (wVar 2) (wC (.int 2))))
    (sRet (wOp rAdd (wOp rMul (wCall 2 sp_parted (wCons (wVar 0) (wCons (wVar 3) wNil))) (wCall 2 sp_parted (wCons (wVar 1) (wCons (wVar 4) wNil)))) (wOp rMul (wCall 2 sp_parted (wCons (wVar 0) (wCons (wVar 4) wNil))) (wCall 2 sp_parted (wCons (wVar 1) (wCons (wVar 3) wNil))))))))
/-! mean_until(p, k); slots: 0 p, 1 k, 2 found, 3 step -/
def w_mean_until (sp_plus : Spc) (sp_divided : Spc) : WS :=
  (sSeq (sAsg (wC dNOTHING) (gN 2))
    (sSeq (sFor (wR1 (wVar 1)) (gN 3) (sAsg (wCall 2 sp_divided (wCons (wCall 2 sp_plus (wCons (wVar 2) (wCons (wC dONE) wNil))) (wCons (wVar 0) wNil))) (gN 2)))
    (sRet (wVar 2))))
/-! _law_draws(script, many); slots: 0 script, 1 many, 2 cells, 3 cell, 4 rest, 5 draws, 6 k, 7 at, 8 mingled -/
def w_law_draws  : WS :=
  (sSeq (sAsg (wLc (wIt (wVar 0)) (gN 3) wtYes (wB rInt (wCons (wVar 3) wNil)) [3]) (gN 2))
    (sSeq (sIf (wtVal (wOp rEq (wB rLen (wCons (wVar 2) wNil)) (wC (.int 0)))) (sDrop (wM rAppend (wVar 2) (wCons (wC (.int 0)) wNil))) sNext)
    (sSeq (sAsg (wB rList (wCons (wVar 2) wNil)) (gN 4))
    (sSeq (sAsg (wLst wNil) (gN 5))
    (sSeq (sFor (wR1 (wVar 1)) (gN 6) (sSeq (sAsg (wOp rMod (wVar 6) (wB rLen (wCons (wVar 2) wNil))) (gN 7))
    (sIf (wtAnd (wtVal (wOp rGe (wOp rIx (wVar 2) (wVar 7)) (wOp rPow (wC (.int 10)) (wC (.int 18))))) (wtVal (wOp rGt (wOp rIx (wVar 4) (wVar 7)) (wC (.int 0))))) (sSeq (sDrop (wM rAppend (wVar 5) (wCons (wOp rMod (wB rInt (wCons (wOp rIx (wVar 4) (wVar 7)) wNil)) (wC (.int 1000))) wNil)))
    (sSub rPut (wOp rDiv (wOp rIx (wVar 4) (wVar 7)) (wC (.int 1000))) (wVar 4) (wVar 7))) (sSeq (sAsg (wOp rMod (wB rInt (wCons (wOp rAdd (wOp rAdd (wOp rMul (wOp rIx (wVar 2) (wVar 7)) (wC (.int 48271))) (wOp rMul (wVar 6) (wC (.int 69621)))) (wC (.int 11))) wNil)) (wC (.int 2147483647))) (gN 8))
    (sDrop (wM rAppend (wVar 5) (wCons (wOp rMod (wB rInt (wCons (wOp rAdd (wOp rAdd (wOp rMul (wVar 8) (wVar 8)) (wOp rMul (wC (.int 3)) (wVar 8))) (wVar 6)) wNil)) (wC (.int 1000003))) wNil)))))))
    (sSeq (sDrop (wM0 rReverse (wVar 5)))
    (sRet (wVar 5))))))))
/-! _law_take(draws, many); slots: 0 draws, 1 many -/
def w_law_take  : WS :=
  (sSeq (sIf (wtVal (wOp rEq (wB rLen (wCons (wVar 0) wNil)) (wC (.int 0)))) (sRet (wC (.int 0))) sNext)
    (sRet (wOp rMod (wB rInt (wCons (wM0 rPop (wVar 0)) wNil)) (wVar 1))))
/-! _law_same(actual, due); slots: 0 actual, 1 due, 2 k -/
def w_law_same (sp_law_same : Spc) : WS :=
  (sSeq (sIf (wtVal (wB rIsi (wCons (wVar 1) (wCons (wC (.ty "bool")) wNil)))) (sRet (wAnd (wB rIsi (wCons (wVar 0) (wCons (wC (.ty "bool")) wNil))) (wOp rEq (wVar 0) (wVar 1)))) sNext)
    (sSeq (sIf (wtVal (wB rIsi (wCons (wVar 1) (wCons (wC (.ty "int")) wNil)))) (sRet (wAnd (wB rIsi (wCons (wVar 0) (wCons (wC (.ty "int")) wNil))) (wAnd (wNot (wB rIsi (wCons (wVar 0) (wCons (wC (.ty "bool")) wNil)))) (wOp rEq (wVar 0) (wVar 1))))) sNext)
    (sSeq (sIf (wtVal (wB rIsi (wCons (wVar 1) (wCons (wC (.ty "str")) wNil)))) (sRet (wAnd (wB rIsi (wCons (wVar 0) (wCons (wC (.ty "str")) wNil))) (wOp rEq (wVar 0) (wVar 1)))) sNext)
    (sSeq (sIf (wtVal (wOp rIs (wVar 1) (wC .non))) (sRet (wOp rIs (wVar 0) (wC .non))) sNext)
    (sSeq (sIf (wtOr (wtNot (wtVal (wB rIsi (wCons (wVar 0) (wCons (wC (.ty "tuple")) wNil))))) (wtVal (wOp rNe (wB rLen (wCons (wVar 0) wNil)) (wB rLen (wCons (wVar 1) wNil))))) (sRet (wC (.bl false))) sNext)
    (sSeq (sFor (wR1 (wB rLen (wCons (wVar 1) wNil))) (gN 2) (sIf (wtNot (wtVal (wCall 2 sp_law_same (wCons (wOp rIx (wVar 0) (wVar 2)) (wCons (wOp rIx (wVar 1) (wVar 2)) wNil))))) (sRet (wC (.bl false))) sNext))
    (sRet (wC (.bl true)))))))))
/-! _law_shared(one, other); slots: 0 one, 1 other, 2 first, 3 rest, 4 k, 5 later -/
def w_law_shared  : WS :=
  (sSeq (sAsg (wB rAbs (wCons (wVar 0) wNil)) (gN 2))
    (sSeq (sAsg (wB rAbs (wCons (wVar 1) wNil)) (gN 3))
    (sSeq (sFor (wR1 (wC (.int 4000))) (gN 4) (sSeq (sIf (wtVal (wOp rEq (wVar 3) (wC (.int 0)))) sBreak sNext)
    (sSeq (sAsg (wOp rMod (wB rInt (wCons (wVar 2) wNil)) (wVar 3)) (gN 5))
    (sSeq (sAsg (wVar 3) (gN 2))
    (sAsg (wVar 5) (gN 3))))))
    (sRet (wVar 2)))))
/-! _law_frac(n, d); slots: 0 n, 1 d, 2 size -/
def w_law_frac (sp_law_shared : Spc) : WS :=
  (sSeq (sAsg (wCall 2 sp_law_shared (wCons (wVar 0) (wCons (wVar 1) wNil))) (gN 2))
    (sSeq (sIf (wtVal (wOp rLt (wVar 1) (wC (.int 0)))) (sAsg (wUn rNeg (wVar 2)) (gN 2)) sNext)
    (sRet (wTup (wCons (wOp rDiv (wVar 0) (wVar 2)) (wCons (wOp rDiv (wVar 1) (wVar 2)) wNil))))))
/-! _law_plus(one, other); slots: 0 one, 1 other -/
def w_law_plus (sp_law_frac : Spc) : WS :=
  (sRet (wCall 2 sp_law_frac (wCons (wOp rAdd (wOp rMul (wOp rIx (wVar 0) (wC (.int 0))) (wOp rIx (wVar 1) (wC (.int 1)))) (wOp rMul (wOp rIx (wVar 1) (wC (.int 0))) (wOp rIx (wVar 0) (wC (.int 1))))) (wCons (wOp rMul (wOp rIx (wVar 0) (wC (.int 1))) (wOp rIx (wVar 1) (wC (.int 1)))) wNil))))
/-! _law_minus(one, other); slots: 0 one, 1 other -/
def w_law_minus (sp_law_frac : Spc) : WS :=
  (sRet (wCall 2 sp_law_frac (wCons (wOp rSub (wOp rMul (wOp rIx (wVar 0) (wC (.int 0))) (wOp rIx (wVar 1) (wC (.int 1)))) (wOp rMul (wOp rIx (wVar 1) (wC (.int 0))) (wOp rIx (wVar 0) (wC (.int 1))))) (wCons (wOp rMul (wOp rIx (wVar 0) (wC (.int 1))) (wOp rIx (wVar 1) (wC (.int 1)))) wNil))))
/-! _law_mul(one, other); slots: 0 one, 1 other -/
def w_law_mul (sp_law_frac : Spc) : WS :=
  (sRet (wCall 2 sp_law_frac (wCons (wOp rMul (wOp rIx (wVar 0) (wC (.int 0))) (wOp rIx (wVar 1) (wC (.int 0)))) (wCons (wOp rMul (wOp rIx (wVar 0) (wC (.int 1))) (wOp rIx (wVar 1) (wC (.int 1)))) wNil))))
/-! _law_ways(n, k); slots: 0 n, 1 k, 2 found, 3 j -/
def w_law_ways  : WS :=
  (sSeq (sIf (wtOr (wtVal (wOp rLt (wVar 1) (wC (.int 0)))) (wtVal (wOp rGt (wVar 1) (wVar 0)))) (sRet (wC (.int 0))) sNext)
    (sSeq (sAsg (wC (.int 1)) (gN 2))
    (sSeq (sFor (wR1 (wVar 1)) (gN 3) (sAsg (wOp rDiv (wOp rMul (wVar 2) (wOp rSub (wVar 0) (wVar 3))) (wOp rAdd (wVar 3) (wC (.int 1)))) (gN 2)))
    (sRet (wVar 2)))))
/-! _law_chance(draws); slots: 0 draws, 1 style, 2 d -/
def w_law_chance (sp_law_take : Spc) (sp_law_frac : Spc) : WS :=
  (sSeq (sAsg (wCall 2 sp_law_take (wCons (wVar 0) (wCons (wC (.int 5)) wNil))) (gN 1))
    (sSeq (sIf (wtVal (wOp rLt (wVar 1) (wC (.int 2)))) (sRet (wTup (wCons (wC (.int 1)) (wCons (wC (.int 2)) wNil)))) sNext)
    (sSeq (sAsg (wOp rAdd (wC (.int 1)) (wCall 2 sp_law_take (wCons (wVar 0) (wCons (wOp rIx (wLst (wCons (wC (.int 4)) (wCons (wC (.int 31)) (wCons (wC (.int 1)) wNil)))) (wOp rSub (wVar 1) (wC (.int 2)))) wNil)))) (gN 2))
    (sRet (wCall 2 sp_law_frac (wCons (wCall 2 sp_law_take (wCons (wVar 0) (wCons (wOp rAdd (wVar 2) (wC (.int 1))) wNil))) (wCons (wVar 2) wNil)))))))
/-! _law_row(draws, many); slots: 0 draws, 1 many, 2 style, 3 found, 4 k, 5 sign -/
def w_law_row (sp_law_take : Spc) : WS :=
  (sSeq (sAsg (wCall 2 sp_law_take (wCons (wVar 0) (wCons (wC (.int 4)) wNil))) (gN 2))
    (sSeq (sAsg (wJoin (wC (.str (PySem.Str.ofString ""))) (wLc (wR1 (wVar 1)) (gN 4) wtYes (wOp rIx (wC (.str (PySem.Str.ofString "HT"))) (wCall 2 sp_law_take (wCons (wVar 0) (wCons (wC (.int 2)) wNil)))) [4])) (gN 3))
    (sSeq (sIf (wtVal (wOp rEq (wVar 2) (wC (.int 0)))) (sAsg (wOp rMulS (wSl rSlS (wVar 3) wPNo (wPAt (wC (.int 1)))) (wVar 1)) (gN 3)) sNext)
    (sSeq (sIf (wtVal (wOp rEq (wVar 2) (wC (.int 1)))) (sAsg (wSl rSlS (wOp rMulS (wC (.str (PySem.Str.ofString "HT"))) (wVar 1)) wPNo (wPAt (wVar 1))) (gN 3)) sNext)
    (sSeq (sIf (wtVal (wOp rEq (wVar 2) (wC (.int 2)))) (sAsg (wJoin (wC (.str (PySem.Str.ofString ""))) (wLc (wItS (wSl rSlS (wVar 3) wPNo (wPAt (wC (.int 9))))) (gN 5) wtYes (wOp rMulS (wVar 5) (wOp rAdd (wC (.int 1)) (wCall 2 sp_law_take (wCons (wVar 0) (wCons (wC (.int 6)) wNil))))) [5])) (gN 3)) sNext)
    (sRet (wVar 3)))))))
/-! _law_runs(row); slots: 0 row, 1 lengths, 2 signs, 3 sign -/
def w_law_runs  : WS :=
  (sSeq (sAsg (wLst wNil) (gN 1))
    (sSeq (sAsg (wLst wNil) (gN 2))
    (sSeq (sFor (wItS (wVar 0)) (gN 3) (sIf (wtAnd (wtVal (wOp rGt (wB rLen (wCons (wVar 2) wNil)) (wC (.int 0)))) (wtVal (wOp rEq (wOp rIx (wVar 2) (wUn rNeg (wC (.int 1)))) (wVar 3)))) (sSub rPut (wOp rAdd (wOp rIx (wVar 1) (wUn rNeg (wC (.int 1)))) (wC (.int 1))) (wVar 1) (wUn rNeg (wC (.int 1)))) (sSeq (sDrop (wM rAppend (wVar 1) (wCons (wC (.int 1)) wNil)))
    (sDrop (wM rAppend (wVar 2) (wCons (wVar 3) wNil))))))
    (sRet (wTup (wCons (wVar 1) (wCons (wVar 2) wNil)))))))
/-! _law_longest(row, sign); slots: 0 row, 1 sign, 2 lengths, 3 signs, 4 k -/
def w_law_longest (sp_law_runs : Spc) : WS :=
  (sSeq (sAsg (wCall 1 sp_law_runs (wCons (wVar 0) wNil)) (gT [2, 3]))
    (sRet (wB rMax (wCons (wOp rAdd (wLst (wCons (wC (.int 0)) wNil)) (wLc (wR1 (wB rLen (wCons (wVar 3) wNil))) (gN 4) (wtVal (wOp rEq (wOp rIx (wVar 3) (wVar 4)) (wVar 1))) (wOp rIx (wVar 2) (wVar 4)) [4])) wNil))))
/-! _law_all(n); slots: 0 n, 1 found, 2 k, 3 more_of, 4 some -/
def w_law_all  : WS :=
  (sSeq (sAsg (wLst (wCons (wC (.str (PySem.Str.ofString ""))) wNil)) (gN 1))
    (sSeq (sFor (wR1 (wVar 0)) (gN 2) (sSeq (sAsg (wLst wNil) (gN 3))
    (sSeq (sFor (wIt (wVar 1)) (gN 4) (sAsg (wOp rAdd (wVar 3) (wLst (wCons (wOp rAdd (wVar 4) (wC (.str (PySem.Str.ofString "H")))) (wCons (wOp rAdd (wVar 4) (wC (.str (PySem.Str.ofString "T")))) wNil)))) (gN 3)))
    (sAsg (wVar 3) (gN 1)))))
    (sRet (wVar 1))))
/-! _law_power(p, many); slots: 0 p, 1 many, 2 found, 3 k -/
def w_law_power (sp_law_mul : Spc) : WS :=
  (sSeq (sAsg (wTup (wCons (wC (.int 1)) (wCons (wC (.int 1)) wNil))) (gN 2))
    (sSeq (sFor (wR1 (wVar 1)) (gN 3) (sAsg (wCall 2 sp_law_mul (wCons (wVar 2) (wCons (wVar 0) wNil))) (gN 2)))
    (sRet (wVar 2))))
/-! _law_few(p, n, k); slots: 0 p, 1 n, 2 k, 3 lost, 4 parts, 5 heads, 6 without_runs, 7 mean, 8 by_runs, 9 sums_of, 10 row, 11 sign, 12 runs_told, 13 chance, 14 many -/
def w_law_few (sp_law_minus : Spc) (sp_law_power : Spc) (sp_law_mul : Spc) (sp_law_all : Spc) (sp_law_longest : Spc) (sp_law_runs : Spc) (sp_law_plus : Spc) (sp_count_by_runs : Spc) (sp_law_same : Spc) (sp_count_without : Spc) (sp_chance_without : Spc) (sp_mean_runs : Spc) : WS :=
  (sSeq (sAsg (wCall 2 sp_law_minus (wCons (wTup (wCons (wC (.int 1)) (wCons (wC (.int 1)) wNil))) (wCons (wVar 0) wNil))) (gN 3))
    (sSeq (sAsg (wLc (wR1 (wOp rAdd (wVar 1) (wC (.int 1)))) (gN 5) wtYes (wCall 2 sp_law_mul (wCons (wCall 2 sp_law_power (wCons (wVar 0) (wCons (wVar 5) wNil))) (wCons (wCall 2 sp_law_power (wCons (wVar 3) (wCons (wOp rSub (wVar 1) (wVar 5)) wNil))) wNil))) [5]) (gN 4))
    (sSeq (sAsg (wOp rMul (wLst (wCons (wC (.int 0)) wNil)) (wOp rAdd (wVar 1) (wC (.int 1)))) (gN 6))
    (sSeq (sAsg (wTup (wCons (wC (.int 0)) (wCons (wC (.int 1)) wNil))) (gN 7))
    (sSeq (sAsg wDNewT (gN 8))
    (sSeq (sAsg (wOp rMul (wLst (wCons (wC (.int 0)) wNil)) (wOp rAdd (wVar 1) (wC (.int 1)))) (gN 9))
    (sSeq (sFor (wIt (wCall 1 sp_law_all (wCons (wVar 1) wNil))) (gN 10) (sSeq (sAsg (wB rLen (wCons (wLc (wItS (wVar 10)) (gN 11) (wtVal (wOp rEq (wVar 11) (wC (.str (PySem.Str.ofString "H"))))) (wVar 11) [11]) wNil)) (gN 5))
    (sSeq (sIf (wtVal (wOp rLt (wCall 2 sp_law_longest (wCons (wVar 10) (wCons (wC (.str (PySem.Str.ofString "H"))) wNil))) (wVar 2))) (sSub rPut (wOp rAdd (wOp rIx (wVar 6) (wVar 5)) (wC (.int 1))) (wVar 6) (wVar 5)) sNext)
    (sSeq (sAsg (wB rLen (wCons (wOp rIx (wCall 1 sp_law_runs (wCons (wVar 10) wNil)) (wC (.int 0))) wNil)) (gN 12))
    (sSeq (sSub rPut (wOp rAdd (wOp rIx (wVar 9) (wVar 5)) (wVar 12)) (wVar 9) (wVar 5))
    (sSub rDPut (wOp rAdd (wDGet2 (wVar 8) (wTup (wCons (wVar 5) (wCons (wVar 12) wNil))) (wC (.int 0))) (wC (.int 1))) (wVar 8) (wTup (wCons (wVar 5) (wCons (wVar 12) wNil)))))))))
    (sSeq (sAsg (wTup (wCons (wC (.int 0)) (wCons (wC (.int 1)) wNil))) (gN 13))
    (sSeq (sFor (wR1 (wOp rAdd (wVar 1) (wC (.int 1)))) (gN 5) (sSeq (sAsg (wCall 2 sp_law_plus (wCons (wVar 13) (wCons (wCall 2 sp_law_mul (wCons (wOp rIx (wVar 4) (wVar 5)) (wCons (wTup (wCons (wOp rIx (wVar 6) (wVar 5)) (wCons (wC (.int 1)) wNil))) wNil))) wNil))) (gN 13))
    (sSeq (sAsg (wCall 2 sp_law_plus (wCons (wVar 7) (wCons (wCall 2 sp_law_mul (wCons (wOp rIx (wVar 4) (wVar 5)) (wCons (wTup (wCons (wOp rIx (wVar 9) (wVar 5)) (wCons (wC (.int 1)) wNil))) wNil))) wNil))) (gN 7))
    (sFor (wR1 (wOp rAdd (wVar 1) (wC (.int 2)))) (gN 14) (sIf (wtNot (wtVal (wCall 2 sp_law_same (wCons (wCall 3 sp_count_by_runs (wCons (wVar 5) (wCons (wOp rSub (wVar 1) (wVar 5)) (wCons (wVar 14) wNil)))) (wCons (wDGet2 (wVar 8) (wTup (wCons (wVar 5) (wCons (wVar 14) wNil))) (wC (.int 0))) wNil))))) (sRet (wC (.bl false))) sNext)))))
    (sSeq (sIf (wtOr (wtNot (wtVal (wCall 2 sp_law_same (wCons (wCall 2 sp_count_without (wCons (wVar 1) (wCons (wVar 2) wNil))) (wCons (wB rSum (wCons (wVar 6) wNil)) wNil))))) (wtNot (wtVal (wCall 2 sp_law_same (wCons (wCall 3 sp_chance_without (wCons (wVar 0) (wCons (wVar 1) (wCons (wVar 2) wNil)))) (wCons (wVar 13) wNil)))))) (sRet (wC (.bl false))) sNext)
    (sRet (wCall 2 sp_law_same (wCons (wCall 2 sp_mean_runs (wCons (wVar 0) (wCons (wVar 1) wNil))) (wCons (wVar 7) wNil))))))))))))))
/-! _law_count(n, k); slots: 0 n, 1 k, 2 now, 3 j -/
def w_law_count  : WS :=
  (sSeq (sAsg (wOp rAdd (wLst (wCons (wC (.int 1)) wNil)) (wOp rMul (wLst (wCons (wC (.int 0)) wNil)) (wOp rSub (wVar 1) (wC (.int 1))))) (gN 2))
    (sSeq (sFor (wR1 (wVar 0)) (gN 3) (sAsg (wOp rAdd (wLst (wCons (wB rSum (wCons (wVar 2) wNil)) wNil)) (wSl rSl (wVar 2) wPNo (wPAt (wUn rNeg (wC (.int 1)))))) (gN 2)))
    (sRet (wB rSum (wCons (wVar 2) wNil)))))
/-! _law_without(p, n, k); slots: 0 p, 1 n, 2 k, 3 lost, 4 now, 5 j, 6 all_of, 7 chance, 8 found -/
def w_law_without (sp_law_minus : Spc) (sp_law_plus : Spc) (sp_law_mul : Spc) : WS :=
  (sSeq (sAsg (wCall 2 sp_law_minus (wCons (wTup (wCons (wC (.int 1)) (wCons (wC (.int 1)) wNil))) (wCons (wVar 0) wNil))) (gN 3))
    (sSeq (sAsg (wOp rAdd (wLst (wCons (wTup (wCons (wC (.int 1)) (wCons (wC (.int 1)) wNil))) wNil)) (wOp rMul (wLst (wCons (wTup (wCons (wC (.int 0)) (wCons (wC (.int 1)) wNil))) wNil)) (wOp rSub (wVar 2) (wC (.int 1))))) (gN 4))
    (sSeq (sFor (wR1 (wVar 1)) (gN 5) (sSeq (sAsg (wTup (wCons (wC (.int 0)) (wCons (wC (.int 1)) wNil))) (gN 6))
    (sSeq (sFor (wIt (wVar 4)) (gN 7) (sAsg (wCall 2 sp_law_plus (wCons (wVar 6) (wCons (wVar 7) wNil))) (gN 6)))
    (sAsg (wOp rAdd (wLst (wCons (wCall 2 sp_law_mul (wCons (wVar 6) (wCons (wVar 3) wNil))) wNil)) (wLc (wIt (wSl rSl (wVar 4) wPNo (wPAt (wUn rNeg (wC (.int 1)))))) (gN 7) wtYes (wCall 2 sp_law_mul (wCons (wVar 7) (wCons (wVar 0) wNil))) [7])) (gN 4)))))
    (sSeq (sAsg (wTup (wCons (wC (.int 0)) (wCons (wC (.int 1)) wNil))) (gN 8))
    (sSeq (sFor (wIt (wVar 4)) (gN 7) (sAsg (wCall 2 sp_law_plus (wCons (wVar 8) (wCons (wVar 7) wNil))) (gN 8)))
    (sRet (wVar 8)))))))
/-! _law_parted(many, runs); slots: 0 many, 1 runs -/
def w_law_parted (sp_law_ways : Spc) : WS :=
  (sSeq (sIf (wtVal (wOp rEq (wVar 1) (wC (.int 0)))) (sRet (wB rInt (wCons (wOp rEq (wVar 0) (wC (.int 0))) wNil))) sNext)
    (sRet (wOp rMul (wCall 2 sp_law_ways (wCons (wOp rSub (wVar 0) (wC (.int 1))) (wCons (wOp rSub (wVar 1) (wC (.int 1))) wNil))) (wB rInt (wCons (wOp rGt (wVar 0) (wC (.int 0))) wNil)))))
@[reducible] def w_law_t24 (sp_law_draws : Spc) (sp_law_chance : Spc) (sp_law_take : Spc) (sp_law_row : Spc) (sp_law_runs : Spc) (sp_runs_of : Spc) (sp_law_same : Spc) (sp_law_longest : Spc) (sp_longest : Spc) (sp_law_few : Spc) (sp_law_count : Spc) (sp_count_without : Spc) (sp_law_without : Spc) (sp_chance_without : Spc) (sp_law_power : Spc) (sp_law_frac : Spc) (sp_law_parted : Spc) (sp_law_ways : Spc) (sp_count_by_runs : Spc) (sp_law_plus : Spc) (sp_mean_until : Spc) (sp_law_minus : Spc) (sp_law_mul : Spc) (sp_mean_runs : Spc) : WS :=
  (sRet (wAnd (wCall 2 sp_law_same (wCons (wCall 1 sp_runs_of (wCons (wC (.str (PySem.Str.ofString "HHTH"))) wNil)) (wCons (wTup (wCons (wC (.int 2)) (wCons (wC (.int 1)) (wCons (wC (.int 1)) wNil)))) wNil))) (wAnd (wCall 2 sp_law_same (wCons (wCall 2 sp_longest (wCons (wC (.str (PySem.Str.ofString ""))) (wCons (wC (.str (PySem.Str.ofString "H"))) wNil))) (wCons (wC (.int 0)) wNil))) (wCall 2 sp_law_same (wCons (wCall 3 sp_chance_without (wCons (wVar 2) (wCons (wVar 6) (wCons (wVar 5) wNil)))) (wCons (wVar 8) wNil))))))
@[reducible] def w_law_t23 (sp_law_draws : Spc) (sp_law_chance : Spc) (sp_law_take : Spc) (sp_law_row : Spc) (sp_law_runs : Spc) (sp_runs_of : Spc) (sp_law_same : Spc) (sp_law_longest : Spc) (sp_longest : Spc) (sp_law_few : Spc) (sp_law_count : Spc) (sp_count_without : Spc) (sp_law_without : Spc) (sp_chance_without : Spc) (sp_law_power : Spc) (sp_law_frac : Spc) (sp_law_parted : Spc) (sp_law_ways : Spc) (sp_count_by_runs : Spc) (sp_law_plus : Spc) (sp_mean_until : Spc) (sp_law_minus : Spc) (sp_law_mul : Spc) (sp_mean_runs : Spc) : WS :=
  (sSeq (sIf (wtOr (wtNot (wtVal (wCall 2 sp_law_same (wCons (wCall 2 sp_count_without (wCons (wC (.int 4)) (wCons (wC (.int 2)) wNil))) (wCons (wC (.int 8)) wNil))))) (wtOr (wtNot (wtVal (wCall 2 sp_law_same (wCons (wCall 2 sp_mean_until (wCons (wTup (wCons (wC (.int 1)) (wCons (wC (.int 2)) wNil))) (wCons (wC (.int 3)) wNil))) (wCons (wTup (wCons (wC (.int 14)) (wCons (wC (.int 1)) wNil))) wNil))))) (wtNot (wtVal (wCall 2 sp_law_same (wCons (wCall 3 sp_count_by_runs (wCons (wC (.int 2)) (wCons (wC (.int 1)) (wCons (wC (.int 2)) wNil)))) (wCons (wC (.int 2)) wNil))))))) (sRet (wC (.bl false))) sNext)
    (w_law_t24 sp_law_draws sp_law_chance sp_law_take sp_law_row sp_law_runs sp_runs_of sp_law_same sp_law_longest sp_longest sp_law_few sp_law_count sp_count_without sp_law_without sp_chance_without sp_law_power sp_law_frac sp_law_parted sp_law_ways sp_count_by_runs sp_law_plus sp_mean_until sp_law_minus sp_law_mul sp_mean_runs))
@[reducible] def w_law_t22 (sp_law_draws : Spc) (sp_law_chance : Spc) (sp_law_take : Spc) (sp_law_row : Spc) (sp_law_runs : Spc) (sp_runs_of : Spc) (sp_law_same : Spc) (sp_law_longest : Spc) (sp_longest : Spc) (sp_law_few : Spc) (sp_law_count : Spc) (sp_count_without : Spc) (sp_law_without : Spc) (sp_chance_without : Spc) (sp_law_power : Spc) (sp_law_frac : Spc) (sp_law_parted : Spc) (sp_law_ways : Spc) (sp_count_by_runs : Spc) (sp_law_plus : Spc) (sp_mean_until : Spc) (sp_law_minus : Spc) (sp_law_mul : Spc) (sp_mean_runs : Spc) : WS :=
  (sSeq (sIf (wtOr (wtNot (wtVal (wCall 2 sp_law_same (wCons (wCall 2 sp_mean_runs (wCons (wVar 2) (wCons (wVar 12) wNil))) (wCons (wCall 2 sp_law_plus (wCons (wTup (wCons (wC (.int 1)) (wCons (wC (.int 1)) wNil))) (wCons (wVar 17) wNil))) wNil))))) (wtNot (wtVal (wCall 2 sp_law_same (wCons (wCall 2 sp_mean_runs (wCons (wVar 2) (wCons (wC (.int 0)) wNil))) (wCons (wTup (wCons (wC (.int 0)) (wCons (wC (.int 1)) wNil))) wNil)))))) (sRet (wC (.bl false))) sNext)
    (w_law_t23 sp_law_draws sp_law_chance sp_law_take sp_law_row sp_law_runs sp_runs_of sp_law_same sp_law_longest sp_longest sp_law_few sp_law_count sp_count_without sp_law_without sp_chance_without sp_law_power sp_law_frac sp_law_parted sp_law_ways sp_count_by_runs sp_law_plus sp_mean_until sp_law_minus sp_law_mul sp_mean_runs))
@[reducible] def w_law_t21 (sp_law_draws : Spc) (sp_law_chance : Spc) (sp_law_take : Spc) (sp_law_row : Spc) (sp_law_runs : Spc) (sp_runs_of : Spc) (sp_law_same : Spc) (sp_law_longest : Spc) (sp_longest : Spc) (sp_law_few : Spc) (sp_law_count : Spc) (sp_count_without : Spc) (sp_law_without : Spc) (sp_chance_without : Spc) (sp_law_power : Spc) (sp_law_frac : Spc) (sp_law_parted : Spc) (sp_law_ways : Spc) (sp_count_by_runs : Spc) (sp_law_plus : Spc) (sp_mean_until : Spc) (sp_law_minus : Spc) (sp_law_mul : Spc) (sp_mean_runs : Spc) : WS :=
  (sSeq (sAsg (wCall 2 sp_law_mul (wCons (wCall 2 sp_law_mul (wCons (wVar 2) (wCons (wCall 2 sp_law_minus (wCons (wTup (wCons (wC (.int 1)) (wCons (wC (.int 1)) wNil))) (wCons (wVar 2) wNil))) wNil))) (wCons (wTup (wCons (wOp rMul (wC (.int 2)) (wOp rSub (wVar 12) (wC (.int 1)))) (wCons (wC (.int 1)) wNil))) wNil))) (gN 17))
    (w_law_t22 sp_law_draws sp_law_chance sp_law_take sp_law_row sp_law_runs sp_runs_of sp_law_same sp_law_longest sp_longest sp_law_few sp_law_count sp_count_without sp_law_without sp_chance_without sp_law_power sp_law_frac sp_law_parted sp_law_ways sp_count_by_runs sp_law_plus sp_mean_until sp_law_minus sp_law_mul sp_mean_runs))
@[reducible] def w_law_t20 (sp_law_draws : Spc) (sp_law_chance : Spc) (sp_law_take : Spc) (sp_law_row : Spc) (sp_law_runs : Spc) (sp_runs_of : Spc) (sp_law_same : Spc) (sp_law_longest : Spc) (sp_longest : Spc) (sp_law_few : Spc) (sp_law_count : Spc) (sp_count_without : Spc) (sp_law_without : Spc) (sp_chance_without : Spc) (sp_law_power : Spc) (sp_law_frac : Spc) (sp_law_parted : Spc) (sp_law_ways : Spc) (sp_count_by_runs : Spc) (sp_law_plus : Spc) (sp_mean_until : Spc) (sp_law_minus : Spc) (sp_law_mul : Spc) (sp_mean_runs : Spc) : WS :=
  (sSeq (sAsg (wOp rAdd (wC (.int 1)) (wCall 2 sp_law_take (wCons (wVar 1) (wCons (wC (.int 1000)) wNil)))) (gN 12))
    (w_law_t21 sp_law_draws sp_law_chance sp_law_take sp_law_row sp_law_runs sp_runs_of sp_law_same sp_law_longest sp_longest sp_law_few sp_law_count sp_count_without sp_law_without sp_chance_without sp_law_power sp_law_frac sp_law_parted sp_law_ways sp_count_by_runs sp_law_plus sp_mean_until sp_law_minus sp_law_mul sp_mean_runs))
@[reducible] def w_law_t19 (sp_law_draws : Spc) (sp_law_chance : Spc) (sp_law_take : Spc) (sp_law_row : Spc) (sp_law_runs : Spc) (sp_runs_of : Spc) (sp_law_same : Spc) (sp_law_longest : Spc) (sp_longest : Spc) (sp_law_few : Spc) (sp_law_count : Spc) (sp_count_without : Spc) (sp_law_without : Spc) (sp_chance_without : Spc) (sp_law_power : Spc) (sp_law_frac : Spc) (sp_law_parted : Spc) (sp_law_ways : Spc) (sp_count_by_runs : Spc) (sp_law_plus : Spc) (sp_mean_until : Spc) (sp_law_minus : Spc) (sp_law_mul : Spc) (sp_mean_runs : Spc) : WS :=
  (sSeq (sIf (wtVal (wOp rGt (wOp rIx (wVar 2) (wC (.int 0))) (wC (.int 0)))) (sSeq (sAsg (wCall 2 sp_law_take (wCons (wVar 1) (wCons (wC (.int 9)) wNil))) (gN 7))
    (sSeq (sAsg (wTup (wCons (wC (.int 0)) (wCons (wC (.int 1)) wNil))) (gN 15))
    (sSeq (sFor (wR1 (wVar 7)) (gN 16) (sSeq (sAsg (wCall 2 sp_law_plus (wCons (wVar 15) (wCons (wTup (wCons (wC (.int 1)) (wCons (wC (.int 1)) wNil))) wNil))) (gN 15))
    (sAsg (wCall 2 sp_law_frac (wCons (wOp rMul (wOp rIx (wVar 15) (wC (.int 0))) (wOp rIx (wVar 2) (wC (.int 1)))) (wCons (wOp rMul (wOp rIx (wVar 15) (wC (.int 1))) (wOp rIx (wVar 2) (wC (.int 0)))) wNil))) (gN 15))))
    (sIf (wtNot (wtVal (wCall 2 sp_law_same (wCons (wCall 2 sp_mean_until (wCons (wVar 2) (wCons (wVar 7) wNil))) (wCons (wVar 15) wNil))))) (sRet (wC (.bl false))) sNext)))) sNext)
    (w_law_t20 sp_law_draws sp_law_chance sp_law_take sp_law_row sp_law_runs sp_runs_of sp_law_same sp_law_longest sp_longest sp_law_few sp_law_count sp_count_without sp_law_without sp_chance_without sp_law_power sp_law_frac sp_law_parted sp_law_ways sp_count_by_runs sp_law_plus sp_mean_until sp_law_minus sp_law_mul sp_mean_runs))
@[reducible] def w_law_t18 (sp_law_draws : Spc) (sp_law_chance : Spc) (sp_law_take : Spc) (sp_law_row : Spc) (sp_law_runs : Spc) (sp_runs_of : Spc) (sp_law_same : Spc) (sp_law_longest : Spc) (sp_longest : Spc) (sp_law_few : Spc) (sp_law_count : Spc) (sp_count_without : Spc) (sp_law_without : Spc) (sp_chance_without : Spc) (sp_law_power : Spc) (sp_law_frac : Spc) (sp_law_parted : Spc) (sp_law_ways : Spc) (sp_count_by_runs : Spc) (sp_law_plus : Spc) (sp_mean_until : Spc) (sp_law_minus : Spc) (sp_law_mul : Spc) (sp_mean_runs : Spc) : WS :=
  (sSeq (sFor (wIt (wLst (wCons (wC (.int 0)) (wCons (wC (.int 1)) (wCons (wC (.int 2)) (wCons (wOp rAdd (wVar 9) (wVar 10)) (wCons (wCall 2 sp_law_take (wCons (wVar 1) (wCons (wOp rAdd (wOp rAdd (wVar 9) (wVar 10)) (wC (.int 1))) wNil))) (wCons (wCall 2 sp_law_take (wCons (wVar 1) (wCons (wC (.int 20)) wNil))) (wCons (wOp rAdd (wOp rAdd (wVar 9) (wVar 10)) (wC (.int 1))) wNil))))))))) (gN 12) (sIf (wtNot (wtVal (wCall 2 sp_law_same (wCons (wCall 3 sp_count_by_runs (wCons (wVar 9) (wCons (wVar 10) (wCons (wVar 12) wNil)))) (wCons (wOp rIx (wOp rAdd (wVar 11) (wOp rMul (wLst (wCons (wC (.int 0)) wNil)) (wC (.int 25)))) (wVar 12)) wNil))))) (sRet (wC (.bl false))) sNext))
    (w_law_t19 sp_law_draws sp_law_chance sp_law_take sp_law_row sp_law_runs sp_runs_of sp_law_same sp_law_longest sp_longest sp_law_few sp_law_count sp_count_without sp_law_without sp_chance_without sp_law_power sp_law_frac sp_law_parted sp_law_ways sp_count_by_runs sp_law_plus sp_mean_until sp_law_minus sp_law_mul sp_mean_runs))
@[reducible] def w_law_t17 (sp_law_draws : Spc) (sp_law_chance : Spc) (sp_law_take : Spc) (sp_law_row : Spc) (sp_law_runs : Spc) (sp_runs_of : Spc) (sp_law_same : Spc) (sp_law_longest : Spc) (sp_longest : Spc) (sp_law_few : Spc) (sp_law_count : Spc) (sp_count_without : Spc) (sp_law_without : Spc) (sp_chance_without : Spc) (sp_law_power : Spc) (sp_law_frac : Spc) (sp_law_parted : Spc) (sp_law_ways : Spc) (sp_count_by_runs : Spc) (sp_law_plus : Spc) (sp_mean_until : Spc) (sp_law_minus : Spc) (sp_law_mul : Spc) (sp_mean_runs : Spc) : WS :=
  (sSeq (sIf (wtVal (wOp rNe (wB rSum (wCons (wVar 11) wNil)) (wCall 2 sp_law_ways (wCons (wOp rAdd (wVar 9) (wVar 10)) (wCons (wVar 9) wNil))))) (sRet (wC (.bl false))) sNext)
    (w_law_t18 sp_law_draws sp_law_chance sp_law_take sp_law_row sp_law_runs sp_runs_of sp_law_same sp_law_longest sp_longest sp_law_few sp_law_count sp_count_without sp_law_without sp_chance_without sp_law_power sp_law_frac sp_law_parted sp_law_ways sp_count_by_runs sp_law_plus sp_mean_until sp_law_minus sp_law_mul sp_mean_runs))
@[reducible] def w_law_t16 (sp_law_draws : Spc) (sp_law_chance : Spc) (sp_law_take : Spc) (sp_law_row : Spc) (sp_law_runs : Spc) (sp_runs_of : Spc) (sp_law_same : Spc) (sp_law_longest : Spc) (sp_longest : Spc) (sp_law_few : Spc) (sp_law_count : Spc) (sp_count_without : Spc) (sp_law_without : Spc) (sp_chance_without : Spc) (sp_law_power : Spc) (sp_law_frac : Spc) (sp_law_parted : Spc) (sp_law_ways : Spc) (sp_count_by_runs : Spc) (sp_law_plus : Spc) (sp_mean_until : Spc) (sp_law_minus : Spc) (sp_law_mul : Spc) (sp_mean_runs : Spc) : WS :=
  (sSeq (sIf (wtVal (wOp rEq (wOp rAdd (wVar 9) (wVar 10)) (wC (.int 0)))) (sAsg (wLst (wCons (wC (.int 1)) wNil)) (gN 11)) sNext)
    (w_law_t17 sp_law_draws sp_law_chance sp_law_take sp_law_row sp_law_runs sp_runs_of sp_law_same sp_law_longest sp_longest sp_law_few sp_law_count sp_count_without sp_law_without sp_chance_without sp_law_power sp_law_frac sp_law_parted sp_law_ways sp_count_by_runs sp_law_plus sp_mean_until sp_law_minus sp_law_mul sp_mean_runs))
@[reducible] def w_law_t15 (sp_law_draws : Spc) (sp_law_chance : Spc) (sp_law_take : Spc) (sp_law_row : Spc) (sp_law_runs : Spc) (sp_runs_of : Spc) (sp_law_same : Spc) (sp_law_longest : Spc) (sp_longest : Spc) (sp_law_few : Spc) (sp_law_count : Spc) (sp_count_without : Spc) (sp_law_without : Spc) (sp_chance_without : Spc) (sp_law_power : Spc) (sp_law_frac : Spc) (sp_law_parted : Spc) (sp_law_ways : Spc) (sp_count_by_runs : Spc) (sp_law_plus : Spc) (sp_mean_until : Spc) (sp_law_minus : Spc) (sp_law_mul : Spc) (sp_mean_runs : Spc) : WS :=
  (sSeq (sFor (wR1 (wOp rAdd (wOp rAdd (wVar 9) (wVar 10)) (wC (.int 1)))) (gN 12) (sSeq (sAsg (wOp rMul (wCall 2 sp_law_parted (wCons (wVar 9) (wCons (wOp rDiv (wOp rAdd (wVar 12) (wC (.int 1))) (wC (.int 2))) wNil))) (wCall 2 sp_law_parted (wCons (wVar 10) (wCons (wOp rDiv (wVar 12) (wC (.int 2))) wNil)))) (gN 13))
    (sSeq (sAsg (wOp rMul (wCall 2 sp_law_parted (wCons (wVar 10) (wCons (wOp rDiv (wOp rAdd (wVar 12) (wC (.int 1))) (wC (.int 2))) wNil))) (wCall 2 sp_law_parted (wCons (wVar 9) (wCons (wOp rDiv (wVar 12) (wC (.int 2))) wNil)))) (gN 14))
    (sDrop (wM rAppend (wVar 11) (wCons (wOp rAdd (wVar 13) (wVar 14)) wNil))))))
    (w_law_t16 sp_law_draws sp_law_chance sp_law_take sp_law_row sp_law_runs sp_runs_of sp_law_same sp_law_longest sp_longest sp_law_few sp_law_count sp_count_without sp_law_without sp_chance_without sp_law_power sp_law_frac sp_law_parted sp_law_ways sp_count_by_runs sp_law_plus sp_mean_until sp_law_minus sp_law_mul sp_mean_runs))
@[reducible] def w_law_t14 (sp_law_draws : Spc) (sp_law_chance : Spc) (sp_law_take : Spc) (sp_law_row : Spc) (sp_law_runs : Spc) (sp_runs_of : Spc) (sp_law_same : Spc) (sp_law_longest : Spc) (sp_longest : Spc) (sp_law_few : Spc) (sp_law_count : Spc) (sp_count_without : Spc) (sp_law_without : Spc) (sp_chance_without : Spc) (sp_law_power : Spc) (sp_law_frac : Spc) (sp_law_parted : Spc) (sp_law_ways : Spc) (sp_count_by_runs : Spc) (sp_law_plus : Spc) (sp_mean_until : Spc) (sp_law_minus : Spc) (sp_law_mul : Spc) (sp_mean_runs : Spc) : WS :=
  (sSeq (sAsg (wLst wNil) (gN 11))
    (w_law_t15 sp_law_draws sp_law_chance sp_law_take sp_law_row sp_law_runs sp_runs_of sp_law_same sp_law_longest sp_longest sp_law_few sp_law_count sp_count_without sp_law_without sp_chance_without sp_law_power sp_law_frac sp_law_parted sp_law_ways sp_count_by_runs sp_law_plus sp_mean_until sp_law_minus sp_law_mul sp_mean_runs))
@[reducible] def w_law_t13 (sp_law_draws : Spc) (sp_law_chance : Spc) (sp_law_take : Spc) (sp_law_row : Spc) (sp_law_runs : Spc) (sp_runs_of : Spc) (sp_law_same : Spc) (sp_law_longest : Spc) (sp_longest : Spc) (sp_law_few : Spc) (sp_law_count : Spc) (sp_count_without : Spc) (sp_law_without : Spc) (sp_chance_without : Spc) (sp_law_power : Spc) (sp_law_frac : Spc) (sp_law_parted : Spc) (sp_law_ways : Spc) (sp_count_by_runs : Spc) (sp_law_plus : Spc) (sp_mean_until : Spc) (sp_law_minus : Spc) (sp_law_mul : Spc) (sp_mean_runs : Spc) : WS :=
  (sSeq (sAsg (wCall 2 sp_law_take (wCons (wVar 1) (wCons (wC (.int 41)) wNil))) (gN 10))
    (w_law_t14 sp_law_draws sp_law_chance sp_law_take sp_law_row sp_law_runs sp_runs_of sp_law_same sp_law_longest sp_longest sp_law_few sp_law_count sp_count_without sp_law_without sp_chance_without sp_law_power sp_law_frac sp_law_parted sp_law_ways sp_count_by_runs sp_law_plus sp_mean_until sp_law_minus sp_law_mul sp_mean_runs))
@[reducible] def w_law_t12 (sp_law_draws : Spc) (sp_law_chance : Spc) (sp_law_take : Spc) (sp_law_row : Spc) (sp_law_runs : Spc) (sp_runs_of : Spc) (sp_law_same : Spc) (sp_law_longest : Spc) (sp_longest : Spc) (sp_law_few : Spc) (sp_law_count : Spc) (sp_count_without : Spc) (sp_law_without : Spc) (sp_chance_without : Spc) (sp_law_power : Spc) (sp_law_frac : Spc) (sp_law_parted : Spc) (sp_law_ways : Spc) (sp_count_by_runs : Spc) (sp_law_plus : Spc) (sp_mean_until : Spc) (sp_law_minus : Spc) (sp_law_mul : Spc) (sp_mean_runs : Spc) : WS :=
  (sSeq (sAsg (wCall 2 sp_law_take (wCons (wVar 1) (wCons (wC (.int 41)) wNil))) (gN 9))
    (w_law_t13 sp_law_draws sp_law_chance sp_law_take sp_law_row sp_law_runs sp_runs_of sp_law_same sp_law_longest sp_longest sp_law_few sp_law_count sp_count_without sp_law_without sp_chance_without sp_law_power sp_law_frac sp_law_parted sp_law_ways sp_count_by_runs sp_law_plus sp_mean_until sp_law_minus sp_law_mul sp_mean_runs))
@[reducible] def w_law_t11 (sp_law_draws : Spc) (sp_law_chance : Spc) (sp_law_take : Spc) (sp_law_row : Spc) (sp_law_runs : Spc) (sp_runs_of : Spc) (sp_law_same : Spc) (sp_law_longest : Spc) (sp_longest : Spc) (sp_law_few : Spc) (sp_law_count : Spc) (sp_count_without : Spc) (sp_law_without : Spc) (sp_chance_without : Spc) (sp_law_power : Spc) (sp_law_frac : Spc) (sp_law_parted : Spc) (sp_law_ways : Spc) (sp_count_by_runs : Spc) (sp_law_plus : Spc) (sp_mean_until : Spc) (sp_law_minus : Spc) (sp_law_mul : Spc) (sp_mean_runs : Spc) : WS :=
  (sSeq (sIf (wtAnd (wtVal (wOp rEq (wVar 2) (wTup (wCons (wC (.int 1)) (wCons (wC (.int 2)) wNil))))) (wtVal (wOp rNe (wVar 8) (wCall 2 sp_law_frac (wCons (wCall 2 sp_law_count (wCons (wVar 6) (wCons (wVar 5) wNil))) (wCons (wOp rIx (wCall 2 sp_law_power (wCons (wTup (wCons (wC (.int 2)) (wCons (wC (.int 1)) wNil))) (wCons (wVar 6) wNil))) (wC (.int 0))) wNil)))))) (sRet (wC (.bl false))) sNext)
    (w_law_t12 sp_law_draws sp_law_chance sp_law_take sp_law_row sp_law_runs sp_runs_of sp_law_same sp_law_longest sp_longest sp_law_few sp_law_count sp_count_without sp_law_without sp_chance_without sp_law_power sp_law_frac sp_law_parted sp_law_ways sp_count_by_runs sp_law_plus sp_mean_until sp_law_minus sp_law_mul sp_mean_runs))
@[reducible] def w_law_t10 (sp_law_draws : Spc) (sp_law_chance : Spc) (sp_law_take : Spc) (sp_law_row : Spc) (sp_law_runs : Spc) (sp_runs_of : Spc) (sp_law_same : Spc) (sp_law_longest : Spc) (sp_longest : Spc) (sp_law_few : Spc) (sp_law_count : Spc) (sp_count_without : Spc) (sp_law_without : Spc) (sp_chance_without : Spc) (sp_law_power : Spc) (sp_law_frac : Spc) (sp_law_parted : Spc) (sp_law_ways : Spc) (sp_count_by_runs : Spc) (sp_law_plus : Spc) (sp_mean_until : Spc) (sp_law_minus : Spc) (sp_law_mul : Spc) (sp_mean_runs : Spc) : WS :=
  (sSeq (sIf (wtNot (wtVal (wCall 2 sp_law_same (wCons (wCall 3 sp_chance_without (wCons (wVar 2) (wCons (wVar 6) (wCons (wVar 5) wNil)))) (wCons (wVar 8) wNil))))) (sRet (wC (.bl false))) sNext)
    (w_law_t11 sp_law_draws sp_law_chance sp_law_take sp_law_row sp_law_runs sp_runs_of sp_law_same sp_law_longest sp_longest sp_law_few sp_law_count sp_count_without sp_law_without sp_chance_without sp_law_power sp_law_frac sp_law_parted sp_law_ways sp_count_by_runs sp_law_plus sp_mean_until sp_law_minus sp_law_mul sp_mean_runs))
@[reducible] def w_law_t9 (sp_law_draws : Spc) (sp_law_chance : Spc) (sp_law_take : Spc) (sp_law_row : Spc) (sp_law_runs : Spc) (sp_runs_of : Spc) (sp_law_same : Spc) (sp_law_longest : Spc) (sp_longest : Spc) (sp_law_few : Spc) (sp_law_count : Spc) (sp_count_without : Spc) (sp_law_without : Spc) (sp_chance_without : Spc) (sp_law_power : Spc) (sp_law_frac : Spc) (sp_law_parted : Spc) (sp_law_ways : Spc) (sp_count_by_runs : Spc) (sp_law_plus : Spc) (sp_mean_until : Spc) (sp_law_minus : Spc) (sp_law_mul : Spc) (sp_mean_runs : Spc) : WS :=
  (sSeq (sAsg (wCall 3 sp_law_without (wCons (wVar 2) (wCons (wVar 6) (wCons (wVar 5) wNil)))) (gN 8))
    (w_law_t10 sp_law_draws sp_law_chance sp_law_take sp_law_row sp_law_runs sp_runs_of sp_law_same sp_law_longest sp_longest sp_law_few sp_law_count sp_count_without sp_law_without sp_chance_without sp_law_power sp_law_frac sp_law_parted sp_law_ways sp_count_by_runs sp_law_plus sp_mean_until sp_law_minus sp_law_mul sp_mean_runs))
@[reducible] def w_law_t8 (sp_law_draws : Spc) (sp_law_chance : Spc) (sp_law_take : Spc) (sp_law_row : Spc) (sp_law_runs : Spc) (sp_runs_of : Spc) (sp_law_same : Spc) (sp_law_longest : Spc) (sp_longest : Spc) (sp_law_few : Spc) (sp_law_count : Spc) (sp_count_without : Spc) (sp_law_without : Spc) (sp_chance_without : Spc) (sp_law_power : Spc) (sp_law_frac : Spc) (sp_law_parted : Spc) (sp_law_ways : Spc) (sp_count_by_runs : Spc) (sp_law_plus : Spc) (sp_mean_until : Spc) (sp_law_minus : Spc) (sp_law_mul : Spc) (sp_mean_runs : Spc) : WS :=
  (sSeq (sIf (wtVal (wOp rGt (wOp rIx (wVar 2) (wC (.int 1))) (wC (.int 4)))) (sAsg (wB rMin2 (wCons (wVar 6) (wCons (wC (.int 40)) wNil))) (gN 6)) sNext)
    (w_law_t9 sp_law_draws sp_law_chance sp_law_take sp_law_row sp_law_runs sp_runs_of sp_law_same sp_law_longest sp_longest sp_law_few sp_law_count sp_count_without sp_law_without sp_chance_without sp_law_power sp_law_frac sp_law_parted sp_law_ways sp_count_by_runs sp_law_plus sp_mean_until sp_law_minus sp_law_mul sp_mean_runs))
@[reducible] def w_law_t7 (sp_law_draws : Spc) (sp_law_chance : Spc) (sp_law_take : Spc) (sp_law_row : Spc) (sp_law_runs : Spc) (sp_runs_of : Spc) (sp_law_same : Spc) (sp_law_longest : Spc) (sp_longest : Spc) (sp_law_few : Spc) (sp_law_count : Spc) (sp_count_without : Spc) (sp_law_without : Spc) (sp_chance_without : Spc) (sp_law_power : Spc) (sp_law_frac : Spc) (sp_law_parted : Spc) (sp_law_ways : Spc) (sp_count_by_runs : Spc) (sp_law_plus : Spc) (sp_mean_until : Spc) (sp_law_minus : Spc) (sp_law_mul : Spc) (sp_mean_runs : Spc) : WS :=
  (sSeq (sAsg (wCall 2 sp_law_take (wCons (wVar 1) (wCons (wOp rIx (wLst (wCons (wC (.int 16)) (wCons (wC (.int 101)) wNil))) (wB rInt (wCons (wOp rEq (wCall 2 sp_law_take (wCons (wVar 1) (wCons (wC (.int 12)) wNil))) (wC (.int 0))) wNil))) wNil))) (gN 6))
    (w_law_t8 sp_law_draws sp_law_chance sp_law_take sp_law_row sp_law_runs sp_runs_of sp_law_same sp_law_longest sp_longest sp_law_few sp_law_count sp_count_without sp_law_without sp_chance_without sp_law_power sp_law_frac sp_law_parted sp_law_ways sp_count_by_runs sp_law_plus sp_mean_until sp_law_minus sp_law_mul sp_mean_runs))
@[reducible] def w_law_t6 (sp_law_draws : Spc) (sp_law_chance : Spc) (sp_law_take : Spc) (sp_law_row : Spc) (sp_law_runs : Spc) (sp_runs_of : Spc) (sp_law_same : Spc) (sp_law_longest : Spc) (sp_longest : Spc) (sp_law_few : Spc) (sp_law_count : Spc) (sp_count_without : Spc) (sp_law_without : Spc) (sp_chance_without : Spc) (sp_law_power : Spc) (sp_law_frac : Spc) (sp_law_parted : Spc) (sp_law_ways : Spc) (sp_count_by_runs : Spc) (sp_law_plus : Spc) (sp_mean_until : Spc) (sp_law_minus : Spc) (sp_law_mul : Spc) (sp_mean_runs : Spc) : WS :=
  (sSeq (sFor (wIt (wLst (wCons (wVar 5) (wCons (wB rMax2 (wCons (wVar 6) (wCons (wC (.int 1)) wNil))) (wCons (wOp rAdd (wVar 6) (wC (.int 3))) wNil))))) (gN 7) (sIf (wtNot (wtVal (wCall 2 sp_law_same (wCons (wCall 2 sp_count_without (wCons (wVar 6) (wCons (wVar 7) wNil))) (wCons (wCall 2 sp_law_count (wCons (wVar 6) (wCons (wVar 7) wNil))) wNil))))) (sRet (wC (.bl false))) sNext))
    (w_law_t7 sp_law_draws sp_law_chance sp_law_take sp_law_row sp_law_runs sp_runs_of sp_law_same sp_law_longest sp_longest sp_law_few sp_law_count sp_count_without sp_law_without sp_chance_without sp_law_power sp_law_frac sp_law_parted sp_law_ways sp_count_by_runs sp_law_plus sp_mean_until sp_law_minus sp_law_mul sp_mean_runs))
@[reducible] def w_law_t5 (sp_law_draws : Spc) (sp_law_chance : Spc) (sp_law_take : Spc) (sp_law_row : Spc) (sp_law_runs : Spc) (sp_runs_of : Spc) (sp_law_same : Spc) (sp_law_longest : Spc) (sp_longest : Spc) (sp_law_few : Spc) (sp_law_count : Spc) (sp_count_without : Spc) (sp_law_without : Spc) (sp_chance_without : Spc) (sp_law_power : Spc) (sp_law_frac : Spc) (sp_law_parted : Spc) (sp_law_ways : Spc) (sp_count_by_runs : Spc) (sp_law_plus : Spc) (sp_mean_until : Spc) (sp_law_minus : Spc) (sp_law_mul : Spc) (sp_mean_runs : Spc) : WS :=
  (sSeq (sAsg (wCall 2 sp_law_take (wCons (wVar 1) (wCons (wOp rIx (wLst (wCons (wC (.int 40)) (wCons (wC (.int 401)) wNil))) (wB rInt (wCons (wOp rEq (wCall 2 sp_law_take (wCons (wVar 1) (wCons (wC (.int 4)) wNil))) (wC (.int 0))) wNil))) wNil))) (gN 6))
    (w_law_t6 sp_law_draws sp_law_chance sp_law_take sp_law_row sp_law_runs sp_runs_of sp_law_same sp_law_longest sp_longest sp_law_few sp_law_count sp_count_without sp_law_without sp_chance_without sp_law_power sp_law_frac sp_law_parted sp_law_ways sp_count_by_runs sp_law_plus sp_mean_until sp_law_minus sp_law_mul sp_mean_runs))
@[reducible] def w_law_t4 (sp_law_draws : Spc) (sp_law_chance : Spc) (sp_law_take : Spc) (sp_law_row : Spc) (sp_law_runs : Spc) (sp_runs_of : Spc) (sp_law_same : Spc) (sp_law_longest : Spc) (sp_longest : Spc) (sp_law_few : Spc) (sp_law_count : Spc) (sp_count_without : Spc) (sp_law_without : Spc) (sp_chance_without : Spc) (sp_law_power : Spc) (sp_law_frac : Spc) (sp_law_parted : Spc) (sp_law_ways : Spc) (sp_count_by_runs : Spc) (sp_law_plus : Spc) (sp_mean_until : Spc) (sp_law_minus : Spc) (sp_law_mul : Spc) (sp_mean_runs : Spc) : WS :=
  (sSeq (sAsg (wOp rAdd (wC (.int 1)) (wCall 2 sp_law_take (wCons (wVar 1) (wCons (wC (.int 12)) wNil)))) (gN 5))
    (w_law_t5 sp_law_draws sp_law_chance sp_law_take sp_law_row sp_law_runs sp_runs_of sp_law_same sp_law_longest sp_longest sp_law_few sp_law_count sp_count_without sp_law_without sp_chance_without sp_law_power sp_law_frac sp_law_parted sp_law_ways sp_count_by_runs sp_law_plus sp_mean_until sp_law_minus sp_law_mul sp_mean_runs))
@[reducible] def w_law_t3 (sp_law_draws : Spc) (sp_law_chance : Spc) (sp_law_take : Spc) (sp_law_row : Spc) (sp_law_runs : Spc) (sp_runs_of : Spc) (sp_law_same : Spc) (sp_law_longest : Spc) (sp_longest : Spc) (sp_law_few : Spc) (sp_law_count : Spc) (sp_count_without : Spc) (sp_law_without : Spc) (sp_chance_without : Spc) (sp_law_power : Spc) (sp_law_frac : Spc) (sp_law_parted : Spc) (sp_law_ways : Spc) (sp_count_by_runs : Spc) (sp_law_plus : Spc) (sp_mean_until : Spc) (sp_law_minus : Spc) (sp_law_mul : Spc) (sp_mean_runs : Spc) : WS :=
  (sSeq (sIf (wtNot (wtVal (wCall 3 sp_law_few (wCons (wVar 2) (wCons (wCall 2 sp_law_take (wCons (wVar 1) (wCons (wOp rAdd (wC (.int 7)) (wOp rMul (wC (.int 3)) (wB rInt (wCons (wOp rEq (wCall 2 sp_law_take (wCons (wVar 1) (wCons (wC (.int 6)) wNil))) (wC (.int 0))) wNil)))) wNil))) (wCons (wOp rAdd (wC (.int 1)) (wCall 2 sp_law_take (wCons (wVar 1) (wCons (wC (.int 5)) wNil)))) wNil)))))) (sRet (wC (.bl false))) sNext)
    (w_law_t4 sp_law_draws sp_law_chance sp_law_take sp_law_row sp_law_runs sp_runs_of sp_law_same sp_law_longest sp_longest sp_law_few sp_law_count sp_count_without sp_law_without sp_chance_without sp_law_power sp_law_frac sp_law_parted sp_law_ways sp_count_by_runs sp_law_plus sp_mean_until sp_law_minus sp_law_mul sp_mean_runs))
@[reducible] def w_law_t2 (sp_law_draws : Spc) (sp_law_chance : Spc) (sp_law_take : Spc) (sp_law_row : Spc) (sp_law_runs : Spc) (sp_runs_of : Spc) (sp_law_same : Spc) (sp_law_longest : Spc) (sp_longest : Spc) (sp_law_few : Spc) (sp_law_count : Spc) (sp_count_without : Spc) (sp_law_without : Spc) (sp_chance_without : Spc) (sp_law_power : Spc) (sp_law_frac : Spc) (sp_law_parted : Spc) (sp_law_ways : Spc) (sp_count_by_runs : Spc) (sp_law_plus : Spc) (sp_mean_until : Spc) (sp_law_minus : Spc) (sp_law_mul : Spc) (sp_mean_runs : Spc) : WS :=
  (sSeq (sFor (wIt (wLst (wCons (wCall 2 sp_law_row (wCons (wVar 1) (wCons (wCall 2 sp_law_take (wCons (wVar 1) (wCons (wC (.int 41)) wNil))) wNil))) (wCons (wCall 2 sp_law_row (wCons (wVar 1) (wCons (wCall 2 sp_law_take (wCons (wVar 1) (wCons (wC (.int 6)) wNil))) wNil))) wNil)))) (gN 3) (sSeq (sIf (wtNot (wtVal (wCall 2 sp_law_same (wCons (wCall 1 sp_runs_of (wCons (wVar 3) wNil)) (wCons (wB rTuple (wCons (wOp rIx (wCall 1 sp_law_runs (wCons (wVar 3) wNil)) (wC (.int 0))) wNil)) wNil))))) (sRet (wC (.bl false))) sNext)
    (sFor (wItS (wC (.str (PySem.Str.ofString "HT")))) (gN 4) (sIf (wtNot (wtVal (wCall 2 sp_law_same (wCons (wCall 2 sp_longest (wCons (wVar 3) (wCons (wVar 4) wNil))) (wCons (wCall 2 sp_law_longest (wCons (wVar 3) (wCons (wVar 4) wNil))) wNil))))) (sRet (wC (.bl false))) sNext))))
    (w_law_t3 sp_law_draws sp_law_chance sp_law_take sp_law_row sp_law_runs sp_runs_of sp_law_same sp_law_longest sp_longest sp_law_few sp_law_count sp_count_without sp_law_without sp_chance_without sp_law_power sp_law_frac sp_law_parted sp_law_ways sp_count_by_runs sp_law_plus sp_mean_until sp_law_minus sp_law_mul sp_mean_runs))
@[reducible] def w_law_t1 (sp_law_draws : Spc) (sp_law_chance : Spc) (sp_law_take : Spc) (sp_law_row : Spc) (sp_law_runs : Spc) (sp_runs_of : Spc) (sp_law_same : Spc) (sp_law_longest : Spc) (sp_longest : Spc) (sp_law_few : Spc) (sp_law_count : Spc) (sp_count_without : Spc) (sp_law_without : Spc) (sp_chance_without : Spc) (sp_law_power : Spc) (sp_law_frac : Spc) (sp_law_parted : Spc) (sp_law_ways : Spc) (sp_count_by_runs : Spc) (sp_law_plus : Spc) (sp_mean_until : Spc) (sp_law_minus : Spc) (sp_law_mul : Spc) (sp_mean_runs : Spc) : WS :=
  (sSeq (sAsg (wCall 1 sp_law_chance (wCons (wVar 1) wNil)) (gN 2))
    (w_law_t2 sp_law_draws sp_law_chance sp_law_take sp_law_row sp_law_runs sp_runs_of sp_law_same sp_law_longest sp_longest sp_law_few sp_law_count sp_count_without sp_law_without sp_chance_without sp_law_power sp_law_frac sp_law_parted sp_law_ways sp_count_by_runs sp_law_plus sp_mean_until sp_law_minus sp_law_mul sp_mean_runs))
/-! law(script); slots: 0 script, 1 draws, 2 p, 3 row, 4 sign, 5 k, 6 n, 7 size, 8 due, 9 heads, 10 tails, 11 told, 12 many, 13 first, 14 second, 15 wait, 16 j, 17 change -/
def w_law (sp_law_draws : Spc) (sp_law_chance : Spc) (sp_law_take : Spc) (sp_law_row : Spc) (sp_law_runs : Spc) (sp_runs_of : Spc) (sp_law_same : Spc) (sp_law_longest : Spc) (sp_longest : Spc) (sp_law_few : Spc) (sp_law_count : Spc) (sp_count_without : Spc) (sp_law_without : Spc) (sp_chance_without : Spc) (sp_law_power : Spc) (sp_law_frac : Spc) (sp_law_parted : Spc) (sp_law_ways : Spc) (sp_count_by_runs : Spc) (sp_law_plus : Spc) (sp_mean_until : Spc) (sp_law_minus : Spc) (sp_law_mul : Spc) (sp_mean_runs : Spc) : WS :=
  (sSeq (sAsg (wCall 2 sp_law_draws (wCons (wVar 0) (wCons (wC (.int 220)) wNil))) (gN 1))
    (w_law_t1 sp_law_draws sp_law_chance sp_law_take sp_law_row sp_law_runs sp_runs_of sp_law_same sp_law_longest sp_longest sp_law_few sp_law_count sp_count_without sp_law_without sp_chance_without sp_law_power sp_law_frac sp_law_parted sp_law_ways sp_count_by_runs sp_law_plus sp_mean_until sp_law_minus sp_law_mul sp_mean_runs))
end K94
set_option Elab.async false
set_option linter.all false
set_option maxRecDepth 100000
set_option maxHeartbeats 8000000
/-! the defs of oddsweighed_k94_whole_runs_of_tosses keep their parts -/
namespace K94
open PySem PySem.Spec DL
open L2 (V Hp HO St PE PT PW PA PS PSs PG PI PO Cx Inv RelV Vals)
def topS (i : Nat) : Stmt := PySem.Challenge.pw_oddsweighed_k94_whole_runs_of_tosses.main.body.getD i (.Pass ⟨0, 0, 0, 0⟩)
section
variable {P : Program} {w : World} {K : PySem.W.Frag} {mg : Str → Option Value} {base : Heap}
abbrev s_divisor : Stmt := topS 4
theorem sc_divisor : L2.FnScope ["one", "other"] ["one", "other"] (L2.defScope s_divisor) := ⟨rfl, rfl, rfl, by decide +kernel, rfl, by decide +kernel, by decide +kernel⟩
theorem ok_divisor {f : Addr} {fd : FuncData} {k : Nat} {sp : Spc} (F : L2.Fun K "divisor" "divisor" s_divisor f fd) (hm : mg "divisor" = some (.ref f)) (m_gcd : mg "gcd" = some (.builtin "math.gcd")) (body : Body 2 2 (w_divisor ) sp) : Callee P w K mg base "divisor" (k + 1) 2 sp :=
  callee_of F hm (F.binds (ps := ["one", "other"]) fun _ _ _ _ _ _ us hl => match us, hl with | [_, _], _ => rfl) sc_divisor rfl rfl (fun cdv A outer s H E hr => by
    unfold w_divisor
    exact (dss_one (ds_ret (d_callF b_gcd (by rfl) m_gcd (da_cons (d_var 0) (da_cons (d_var 1) da_nil)))))) body
abbrev s_fraction : Stmt := topS 5
theorem sc_fraction : L2.FnScope ["n", "d", "common"] ["n", "d"] (L2.defScope s_fraction) := ⟨rfl, rfl, rfl, by decide +kernel, rfl, by decide +kernel, by decide +kernel⟩
theorem ok_fraction {f : Addr} {fd : FuncData} {k : Nat} {sp : Spc} (F : L2.Fun K "fraction" "fraction" s_fraction f fd) (hm : mg "fraction" = some (.ref f)) {sp_divisor : Spc} {k_divisor : Nat} (C_divisor : Callee P w K mg base "divisor" k_divisor 2 sp_divisor) (h_divisor : k_divisor ≤ k) (body : Body 3 2 (w_fraction sp_divisor) sp) : Callee P w K mg base "fraction" (k + 1) 2 sp :=
  callee_of F hm (F.binds (ps := ["n", "d"]) fun _ _ _ _ _ _ us hl => match us, hl with | [_, _], _ => rfl) sc_fraction rfl rfl (fun cdv A outer s H E hr => by
    unfold w_fraction
    exact (dss_cons (ds_set 2 sc_fraction.nd (d_calle C_divisor hr h_divisor (by rfl) (da_cons (d_var 0) (da_cons (d_var 1) da_nil))))
      (dss_cons (ds_if (dt_cmp c_lt (d_var 1) d_int) (dss_one (ds_set 2 sc_fraction.nd (d_un u_neg (d_var 2)))) dss_nil)
      (dss_one (ds_ret (d_tup (da_cons (d_op o_div (d_var 0) (d_var 2)) (da_cons (d_op o_div (d_var 1) (d_var 2)) da_nil)))))))) body
abbrev s_plus : Stmt := topS 6
theorem sc_plus : L2.FnScope ["one", "other"] ["one", "other"] (L2.defScope s_plus) := ⟨rfl, rfl, rfl, by decide +kernel, rfl, by decide +kernel, by decide +kernel⟩
theorem ok_plus {f : Addr} {fd : FuncData} {k : Nat} {sp : Spc} (F : L2.Fun K "plus" "plus" s_plus f fd) (hm : mg "plus" = some (.ref f)) {sp_fraction : Spc} {k_fraction : Nat} (C_fraction : Callee P w K mg base "fraction" k_fraction 2 sp_fraction) (h_fraction : k_fraction ≤ k) (body : Body 2 2 (w_plus sp_fraction) sp) : Callee P w K mg base "plus" (k + 1) 2 sp :=
  callee_of F hm (F.binds (ps := ["one", "other"]) fun _ _ _ _ _ _ us hl => match us, hl with | [_, _], _ => rfl) sc_plus rfl rfl (fun cdv A outer s H E hr => by
    unfold w_plus
    exact (dss_one (ds_ret (d_calle C_fraction hr h_fraction (by rfl) (da_cons (d_op o_add (d_op o_mul (d_ix i_ix (d_var 0) d_int) (d_ix i_ix (d_var 1) d_int)) (d_op o_mul (d_ix i_ix (d_var 1) d_int) (d_ix i_ix (d_var 0) d_int))) (da_cons (d_op o_mul (d_ix i_ix (d_var 0) d_int) (d_ix i_ix (d_var 1) d_int)) da_nil)))))) body
abbrev s_minus : Stmt := topS 7
theorem sc_minus : L2.FnScope ["one", "other"] ["one", "other"] (L2.defScope s_minus) := ⟨rfl, rfl, rfl, by decide +kernel, rfl, by decide +kernel, by decide +kernel⟩
theorem ok_minus {f : Addr} {fd : FuncData} {k : Nat} {sp : Spc} (F : L2.Fun K "minus" "minus" s_minus f fd) (hm : mg "minus" = some (.ref f)) {sp_fraction : Spc} {k_fraction : Nat} (C_fraction : Callee P w K mg base "fraction" k_fraction 2 sp_fraction) (h_fraction : k_fraction ≤ k) (body : Body 2 2 (w_minus sp_fraction) sp) : Callee P w K mg base "minus" (k + 1) 2 sp :=
  callee_of F hm (F.binds (ps := ["one", "other"]) fun _ _ _ _ _ _ us hl => match us, hl with | [_, _], _ => rfl) sc_minus rfl rfl (fun cdv A outer s H E hr => by
    unfold w_minus
    exact (dss_one (ds_ret (d_calle C_fraction hr h_fraction (by rfl) (da_cons (d_op o_sub (d_op o_mul (d_ix i_ix (d_var 0) d_int) (d_ix i_ix (d_var 1) d_int)) (d_op o_mul (d_ix i_ix (d_var 1) d_int) (d_ix i_ix (d_var 0) d_int))) (da_cons (d_op o_mul (d_ix i_ix (d_var 0) d_int) (d_ix i_ix (d_var 1) d_int)) da_nil)))))) body
abbrev s_times : Stmt := topS 8
theorem sc_times : L2.FnScope ["one", "other"] ["one", "other"] (L2.defScope s_times) := ⟨rfl, rfl, rfl, by decide +kernel, rfl, by decide +kernel, by decide +kernel⟩
theorem ok_times {f : Addr} {fd : FuncData} {k : Nat} {sp : Spc} (F : L2.Fun K "times" "times" s_times f fd) (hm : mg "times" = some (.ref f)) {sp_fraction : Spc} {k_fraction : Nat} (C_fraction : Callee P w K mg base "fraction" k_fraction 2 sp_fraction) (h_fraction : k_fraction ≤ k) (body : Body 2 2 (w_times sp_fraction) sp) : Callee P w K mg base "times" (k + 1) 2 sp :=
  callee_of F hm (F.binds (ps := ["one", "other"]) fun _ _ _ _ _ _ us hl => match us, hl with | [_, _], _ => rfl) sc_times rfl rfl (fun cdv A outer s H E hr => by
    unfold w_times
    exact (dss_one (ds_ret (d_calle C_fraction hr h_fraction (by rfl) (da_cons (d_op o_mul (d_ix i_ix (d_var 0) d_int) (d_ix i_ix (d_var 1) d_int)) (da_cons (d_op o_mul (d_ix i_ix (d_var 0) d_int) (d_ix i_ix (d_var 1) d_int)) da_nil)))))) body
abbrev s_divided : Stmt := topS 9
theorem sc_divided : L2.FnScope ["one", "other"] ["one", "other"] (L2.defScope s_divided) := ⟨rfl, rfl, rfl, by decide +kernel, rfl, by decide +kernel, by decide +kernel⟩
theorem ok_divided {f : Addr} {fd : FuncData} {k : Nat} {sp : Spc} (F : L2.Fun K "divided" "divided" s_divided f fd) (hm : mg "divided" = some (.ref f)) {sp_fraction : Spc} {k_fraction : Nat} (C_fraction : Callee P w K mg base "fraction" k_fraction 2 sp_fraction) (h_fraction : k_fraction ≤ k) (body : Body 2 2 (w_divided sp_fraction) sp) : Callee P w K mg base "divided" (k + 1) 2 sp :=
  callee_of F hm (F.binds (ps := ["one", "other"]) fun _ _ _ _ _ _ us hl => match us, hl with | [_, _], _ => rfl) sc_divided rfl rfl (fun cdv A outer s H E hr => by
    unfold w_divided
    exact (dss_one (ds_ret (d_calle C_fraction hr h_fraction (by rfl) (da_cons (d_op o_mul (d_ix i_ix (d_var 0) d_int) (d_ix i_ix (d_var 1) d_int)) (da_cons (d_op o_mul (d_ix i_ix (d_var 0) d_int) (d_ix i_ix (d_var 1) d_int)) da_nil)))))) body
abbrev s_runs_of : Stmt := topS 11
theorem sc_runs_of : L2.FnScope ["tosses", "found", "at"] ["tosses"] (L2.defScope s_runs_of) := ⟨rfl, rfl, rfl, by decide +kernel, rfl, by decide +kernel, by decide +kernel⟩
theorem ok_runs_of {f : Addr} {fd : FuncData} {k : Nat} {sp : Spc} (F : L2.Fun K "runs_of" "runs_of" s_runs_of f fd) (hm : mg "runs_of" = some (.ref f)) (m_len : mg "len" = none) (m_range : mg "range" = none) (m_tuple : mg "tuple" = none) (body : Body 3 1 (w_runs_of ) sp) : Callee P w K mg base "runs_of" (k + 1) 1 sp :=
  callee_of F hm (F.binds (ps := ["tosses"]) fun _ _ _ _ _ _ us hl => match us, hl with | [_], _ => rfl) sc_runs_of rfl rfl (fun cdv A outer s H E hr => by
    unfold w_runs_of
    exact (dss_cons (ds_set 1 sc_runs_of.nd (d_lst da_nil))
      (dss_cons (ds_for rfl PassesOwn.never (di_r1 (by rfl) m_range (d_callB b_len (by rfl) m_len (by decide +kernel) (da_cons (d_var 0) da_nil))) (dg_name 2 sc_runs_of.nd) (dss_one (ds_if (PW.pt (dw_and (dt_cmp c_gt (d_var 2) d_int) (dw_and1 (dt_cmp (c_eq hr) (d_ix i_ix (d_var 0) (d_var 2)) (d_ix i_ix (d_var 0) (d_op o_sub (d_var 2) d_int)))))) (dss_one (ds_augSub g_ix i_add p_put (d_var 1) (d_un u_neg d_int) d_int)) (dss_one (ds_expr (d_m PySem.F.slot_list_append PySem.F.type_list_append m_append (d_var 1) (da_cons d_int da_nil)))))))
      (dss_one (ds_ret (d_callT b_tuple (by rfl) m_tuple (by decide +kernel) (da_cons (d_var 1) da_nil))))))) body
abbrev s_longest : Stmt := topS 12
theorem sc_longest : L2.FnScope ["tosses", "sign", "best", "now", "toss"] ["tosses", "sign"] (L2.defScope s_longest) := ⟨rfl, rfl, rfl, by decide +kernel, rfl, by decide +kernel, by decide +kernel⟩
theorem ok_longest {f : Addr} {fd : FuncData} {k : Nat} {sp : Spc} (F : L2.Fun K "longest" "longest" s_longest f fd) (hm : mg "longest" = some (.ref f)) (m_max : mg "max" = none) (body : Body 5 2 (w_longest ) sp) : Callee P w K mg base "longest" (k + 1) 2 sp :=
  callee_of F hm (F.binds (ps := ["tosses", "sign"]) fun _ _ _ _ _ _ us hl => match us, hl with | [_, _], _ => rfl) sc_longest rfl rfl (fun cdv A outer s H E hr => by
    unfold w_longest
    exact (dss_cons (ds_asg (d_tup (da_cons d_int (da_cons d_int da_nil))) (dg_tup rfl (dgs_one 2 sc_longest.nd (dgs_one 3 sc_longest.nd .nil))))
      (dss_cons (ds_for rfl PassesOwn.never (di_itS (d_var 0)) (dg_name 4 sc_longest.nd) (dss_cons (ds_set 3 sc_longest.nd (d_if (dt_cmp (c_eq hr) (d_var 4) (d_var 1)) (d_op o_add (d_var 3) d_int) d_int))
      (dss_one (ds_set 2 sc_longest.nd (d_callB (b_max2 rfl) (by rfl) m_max (by decide +kernel) (da_cons (d_var 2) (da_cons (d_var 3) da_nil)))))))
      (dss_one (ds_ret (d_var 2)))))) body
abbrev s_count_without : Stmt := topS 13
theorem sc_count_without : L2.FnScope ["n", "k", "counts", "size", "whole"] ["n", "k"] (L2.defScope s_count_without) := ⟨rfl, rfl, rfl, by decide +kernel, rfl, by decide +kernel, by decide +kernel⟩
theorem ok_count_without {f : Addr} {fd : FuncData} {k : Nat} {sp : Spc} (F : L2.Fun K "count_without" "count_without" s_count_without f fd) (hm : mg "count_without" = some (.ref f)) (m_range : mg "range" = none) (m_max : mg "max" = none) (m_sum : mg "sum" = none) (body : Body 5 2 (w_count_without ) sp) : Callee P w K mg base "count_without" (k + 1) 2 sp :=
  callee_of F hm (F.binds (ps := ["n", "k"]) fun _ _ _ _ _ _ us hl => match us, hl with | [_, _], _ => rfl) sc_count_without rfl rfl (fun cdv A outer s H E hr => by
    unfold w_count_without
    exact (dss_cons (ds_set 2 sc_count_without.nd (d_lst da_nil))
      (dss_cons (ds_for rfl PassesOwn.never (di_r1 (by rfl) m_range (d_op o_add (d_var 0) d_int)) (dg_name 3 sc_count_without.nd) (dss_cons (ds_set 4 sc_count_without.nd (d_callB (b_sum rfl) (by rfl) m_sum (by decide +kernel) (da_cons (d_sl s_cut (d_var 2) (dp_at (d_callB (b_max2 rfl) (by rfl) m_max (by decide +kernel) (da_cons (d_op o_sub (d_var 3) (d_var 1)) (da_cons d_int da_nil)))) (dp_at (d_var 3))) da_nil)))
      (dss_one (ds_expr (d_m PySem.F.slot_list_append PySem.F.type_list_append m_append (d_var 2) (da_cons (d_op o_add (d_var 4) (d_if (dt_cmp c_lt (d_var 3) (d_var 1)) d_int d_int)) da_nil))))))
      (dss_one (ds_ret (d_ix i_ix (d_var 2) (d_var 0))))))) body
abbrev s_chance_without : Stmt := topS 14
theorem sc_chance_without : L2.FnScope ["p", "n", "k", "chances", "lost", "step", "other", "chance", "heads", "found"] ["p", "n", "k"] (L2.defScope s_chance_without) := ⟨rfl, rfl, rfl, by decide +kernel, rfl, by decide +kernel, by decide +kernel⟩
theorem ok_chance_without {f : Addr} {fd : FuncData} {k : Nat} {sp : Spc} (F : L2.Fun K "chance_without" "chance_without" s_chance_without f fd) (hm : mg "chance_without" = some (.ref f)) (m_range : mg "range" = none) {v_ONE : V} {u_ONE : Value} (g_ONE : mg "ONE" = some u_ONE) (r_ONE : RelV v_ONE u_ONE) (h_ONE : ∀ H m, Rep K H m dONE v_ONE) {v_NOTHING : V} {u_NOTHING : Value} (g_NOTHING : mg "NOTHING" = some u_NOTHING) (r_NOTHING : RelV v_NOTHING u_NOTHING) (h_NOTHING : ∀ H m, Rep K H m dNOTHING v_NOTHING) {sp_minus : Spc} {k_minus : Nat} (C_minus : Callee P w K mg base "minus" k_minus 2 sp_minus) (h_minus : k_minus ≤ k) {sp_times : Spc} {k_times : Nat} (C_times : Callee P w K mg base "times" k_times 2 sp_times) (h_times : k_times ≤ k) {sp_plus : Spc} {k_plus : Nat} (C_plus : Callee P w K mg base "plus" k_plus 2 sp_plus) (h_plus : k_plus ≤ k) (body : Body 10 3 (w_chance_without sp_minus sp_times sp_plus) sp) : Callee P w K mg base "chance_without" (k + 1) 3 sp :=
  callee_of F hm (F.binds (ps := ["p", "n", "k"]) fun _ _ _ _ _ _ us hl => match us, hl with | [_, _, _], _ => rfl) sc_chance_without rfl rfl (fun cdv A outer s H E hr => by
    unfold w_chance_without
    exact (dss_cons (ds_set 3 sc_chance_without.nd (d_op o_add (d_lst (da_cons (d_glob (by rfl) g_ONE r_ONE h_ONE) da_nil)) (d_op o_mul (d_lst (da_cons (d_glob (by rfl) g_NOTHING r_NOTHING h_NOTHING) da_nil)) (d_op o_sub (d_var 2) d_int))))
      (dss_cons (ds_set 4 sc_chance_without.nd (d_calle C_minus hr h_minus (by rfl) (da_cons (d_glob (by rfl) g_ONE r_ONE h_ONE) (da_cons (d_var 0) da_nil))))
      (dss_cons (ds_for rfl PassesOwn.never (di_r1 (by rfl) m_range (d_var 1)) (dg_name 5 sc_chance_without.nd) (dss_cons (ds_set 6 sc_chance_without.nd (d_glob (by rfl) g_NOTHING r_NOTHING h_NOTHING))
      (dss_cons (ds_for rfl PassesOwn.never (di_it (d_var 3)) (dg_name 7 sc_chance_without.nd) (dss_one (ds_set 6 sc_chance_without.nd (d_calle C_plus hr h_plus (by rfl) (da_cons (d_var 6) (da_cons (d_calle C_times hr h_times (by rfl) (da_cons (d_var 4) (da_cons (d_var 7) da_nil))) da_nil))))))
      (dss_one (ds_set 3 sc_chance_without.nd (d_op o_add (d_lst (da_cons (d_var 6) da_nil)) (d_lc (own := [("heads", 8)]) rfl sc_chance_without.nd (di_r1 (by rfl) m_range (d_op o_sub (d_var 2) d_int)) (L2.blkOk_by (by rfl)) (fun _ _ _ _ _ => (dg_name 8 sc_chance_without.nd)) (fun _ _ _ _ _ => dts_nil) (fun _ _ _ _ _ => (d_calle C_times hr h_times (by rfl) (da_cons (d_var 0) (da_cons (d_ix i_ix (d_var 3) (d_var 8)) da_nil)))))))))))
      (dss_cons (ds_set 9 sc_chance_without.nd (d_glob (by rfl) g_NOTHING r_NOTHING h_NOTHING))
      (dss_cons (ds_for rfl PassesOwn.never (di_it (d_var 3)) (dg_name 7 sc_chance_without.nd) (dss_one (ds_set 9 sc_chance_without.nd (d_calle C_plus hr h_plus (by rfl) (da_cons (d_var 9) (da_cons (d_var 7) da_nil))))))
      (dss_one (ds_ret (d_var 9))))))))) body
abbrev s_mean_runs : Stmt := topS 15
theorem sc_mean_runs : L2.FnScope ["p", "n", "change"] ["p", "n"] (L2.defScope s_mean_runs) := ⟨rfl, rfl, rfl, by decide +kernel, rfl, by decide +kernel, by decide +kernel⟩
theorem ok_mean_runs {f : Addr} {fd : FuncData} {k : Nat} {sp : Spc} (F : L2.Fun K "mean_runs" "mean_runs" s_mean_runs f fd) (hm : mg "mean_runs" = some (.ref f)) {v_NOTHING : V} {u_NOTHING : Value} (g_NOTHING : mg "NOTHING" = some u_NOTHING) (r_NOTHING : RelV v_NOTHING u_NOTHING) (h_NOTHING : ∀ H m, Rep K H m dNOTHING v_NOTHING) {v_ONE : V} {u_ONE : Value} (g_ONE : mg "ONE" = some u_ONE) (r_ONE : RelV v_ONE u_ONE) (h_ONE : ∀ H m, Rep K H m dONE v_ONE) {sp_minus : Spc} {k_minus : Nat} (C_minus : Callee P w K mg base "minus" k_minus 2 sp_minus) (h_minus : k_minus ≤ k) {sp_times : Spc} {k_times : Nat} (C_times : Callee P w K mg base "times" k_times 2 sp_times) (h_times : k_times ≤ k) {sp_plus : Spc} {k_plus : Nat} (C_plus : Callee P w K mg base "plus" k_plus 2 sp_plus) (h_plus : k_plus ≤ k) (body : Body 3 2 (w_mean_runs sp_minus sp_times sp_plus) sp) : Callee P w K mg base "mean_runs" (k + 1) 2 sp :=
  callee_of F hm (F.binds (ps := ["p", "n"]) fun _ _ _ _ _ _ us hl => match us, hl with | [_, _], _ => rfl) sc_mean_runs rfl rfl (fun cdv A outer s H E hr => by
    unfold w_mean_runs
    exact (dss_cons (ds_if (dt_cmp (c_eq hr) (d_var 1) d_int) (dss_one (ds_ret (d_glob (by rfl) g_NOTHING r_NOTHING h_NOTHING))) dss_nil)
      (dss_cons (ds_set 2 sc_mean_runs.nd (d_calle C_times hr h_times (by rfl) (da_cons (d_tup (da_cons (d_op o_mul d_int (d_op o_sub (d_var 1) d_int)) (da_cons d_int da_nil))) (da_cons (d_calle C_times hr h_times (by rfl) (da_cons (d_var 0) (da_cons (d_calle C_minus hr h_minus (by rfl) (da_cons (d_glob (by rfl) g_ONE r_ONE h_ONE) (da_cons (d_var 0) da_nil))) da_nil))) da_nil))))
      (dss_one (ds_ret (d_calle C_plus hr h_plus (by rfl) (da_cons (d_glob (by rfl) g_ONE r_ONE h_ONE) (da_cons (d_var 2) da_nil)))))))) body
abbrev s_ways : Stmt := topS 16
theorem sc_ways : L2.FnScope ["n", "k", "found", "step"] ["n", "k"] (L2.defScope s_ways) := ⟨rfl, rfl, rfl, by decide +kernel, rfl, by decide +kernel, by decide +kernel⟩
theorem ok_ways {f : Addr} {fd : FuncData} {k : Nat} {sp : Spc} (F : L2.Fun K "ways" "ways" s_ways f fd) (hm : mg "ways" = some (.ref f)) (m_min : mg "min" = none) (m_range : mg "range" = none) (body : Body 4 2 (w_ways ) sp) : Callee P w K mg base "ways" (k + 1) 2 sp :=
  callee_of F hm (F.binds (ps := ["n", "k"]) fun _ _ _ _ _ _ us hl => match us, hl with | [_, _], _ => rfl) sc_ways rfl rfl (fun cdv A outer s H E hr => by
    unfold w_ways
    exact (dss_cons (ds_if (dt_not (dt_chain c_le c_le d_int (d_var 1) (d_var 0))) (dss_one (ds_ret d_int)) dss_nil)
      (dss_cons (ds_set 2 sc_ways.nd d_int)
      (dss_cons (ds_for rfl PassesOwn.never (di_r1 (by rfl) m_range (d_callB (b_min2 rfl) (by rfl) m_min (by decide +kernel) (da_cons (d_var 1) (da_cons (d_op o_sub (d_var 0) (d_var 1)) da_nil)))) (dg_name 3 sc_ways.nd) (dss_one (ds_set 2 sc_ways.nd (d_op o_div (d_op o_mul (d_var 2) (d_op o_sub (d_var 0) (d_var 3))) (d_op o_add (d_var 3) d_int)))))
      (dss_one (ds_ret (d_var 2))))))) body
abbrev s_parted : Stmt := topS 17
theorem sc_parted : L2.FnScope ["many", "runs"] ["many", "runs"] (L2.defScope s_parted) := ⟨rfl, rfl, rfl, by decide +kernel, rfl, by decide +kernel, by decide +kernel⟩
theorem ok_parted {f : Addr} {fd : FuncData} {k : Nat} {sp : Spc} (F : L2.Fun K "parted" "parted" s_parted f fd) (hm : mg "parted" = some (.ref f)) {sp_ways : Spc} {k_ways : Nat} (C_ways : Callee P w K mg base "ways" k_ways 2 sp_ways) (h_ways : k_ways ≤ k) (body : Body 2 2 (w_parted sp_ways) sp) : Callee P w K mg base "parted" (k + 1) 2 sp :=
  callee_of F hm (F.binds (ps := ["many", "runs"]) fun _ _ _ _ _ _ us hl => match us, hl with | [_, _], _ => rfl) sc_parted rfl rfl (fun cdv A outer s H E hr => by
    unfold w_parted
    exact (dss_cons (ds_if (dt_cmp (c_eq hr) (d_var 1) d_int) (dss_one (ds_ret (d_if (dt_cmp (c_eq hr) (d_var 0) d_int) d_int d_int))) dss_nil)
      (dss_one (ds_ret (d_if (dt_cmp c_gt (d_var 0) d_int) (d_calle C_ways hr h_ways (by rfl) (da_cons (d_op o_sub (d_var 0) d_int) (da_cons (d_op o_sub (d_var 1) d_int) da_nil))) d_int))))) body
abbrev s_count_by_runs : Stmt := topS 18
theorem sc_count_by_runs : L2.FnScope ["heads", "tails", "runs", "more", "fewer"] ["heads", "tails", "runs"] (L2.defScope s_count_by_runs) := ⟨rfl, rfl, rfl, by decide +kernel, rfl, by decide +kernel, by decide +kernel⟩
theorem ok_count_by_runs {f : Addr} {fd : FuncData} {k : Nat} {sp : Spc} (F : L2.Fun K "count_by_runs" "count_by_runs" s_count_by_runs f fd) (hm : mg "count_by_runs" = some (.ref f)) {sp_parted : Spc} {k_parted : Nat} (C_parted : Callee P w K mg base "parted" k_parted 2 sp_parted) (h_parted : k_parted ≤ k) (body : Body 5 3 (w_count_by_runs sp_parted) sp) : Callee P w K mg base "count_by_runs" (k + 1) 3 sp :=
  callee_of F hm (F.binds (ps := ["heads", "tails", "runs"]) fun _ _ _ _ _ _ us hl => match us, hl with | [_, _, _], _ => rfl) sc_count_by_runs rfl rfl (fun cdv A outer s H E hr => by
    unfold w_count_by_runs
    exact (dss_cons (ds_if (PW.pt (dw_or (dt_cmp (c_eq hr) (d_op o_add (d_var 0) (d_var 1)) d_int) (dw_or1 (dt_cmp c_lt (d_var 2) d_int)))) (dss_one (ds_ret (d_if (PW.pt (dw_and (dt_cmp (c_eq hr) (d_op o_add (d_var 0) (d_var 1)) d_int) (dw_and1 (dt_cmp (c_eq hr) (d_var 2) d_int)))) d_int d_int))) dss_nil)
      (dss_cons (ds_par 3 4 rfl sc_count_by_runs.nd (d_op o_div (d_op o_add (d_var 2) d_int) d_int) (d_op o_div (d_var 2) d_int))
      (dss_one (ds_ret (d_op o_add (d_op o_mul (d_calle C_parted hr h_parted (by rfl) (da_cons (d_var 0) (da_cons (d_var 3) da_nil))) (d_calle C_parted hr h_parted (by rfl) (da_cons (d_var 1) (da_cons (d_var 4) da_nil)))) (d_op o_mul (d_calle C_parted hr h_parted (by rfl) (da_cons (d_var 0) (da_cons (d_var 4) da_nil))) (d_calle C_parted hr h_parted (by rfl) (da_cons (d_var 1) (da_cons (d_var 3) da_nil)))))))))) body
abbrev s_mean_until : Stmt := topS 19
theorem sc_mean_until : L2.FnScope ["p", "k", "found", "step"] ["p", "k"] (L2.defScope s_mean_until) := ⟨rfl, rfl, rfl, by decide +kernel, rfl, by decide +kernel, by decide +kernel⟩
theorem ok_mean_until {f : Addr} {fd : FuncData} {k : Nat} {sp : Spc} (F : L2.Fun K "mean_until" "mean_until" s_mean_until f fd) (hm : mg "mean_until" = some (.ref f)) (m_range : mg "range" = none) {v_NOTHING : V} {u_NOTHING : Value} (g_NOTHING : mg "NOTHING" = some u_NOTHING) (r_NOTHING : RelV v_NOTHING u_NOTHING) (h_NOTHING : ∀ H m, Rep K H m dNOTHING v_NOTHING) {v_ONE : V} {u_ONE : Value} (g_ONE : mg "ONE" = some u_ONE) (r_ONE : RelV v_ONE u_ONE) (h_ONE : ∀ H m, Rep K H m dONE v_ONE) {sp_plus : Spc} {k_plus : Nat} (C_plus : Callee P w K mg base "plus" k_plus 2 sp_plus) (h_plus : k_plus ≤ k) {sp_divided : Spc} {k_divided : Nat} (C_divided : Callee P w K mg base "divided" k_divided 2 sp_divided) (h_divided : k_divided ≤ k) (body : Body 4 2 (w_mean_until sp_plus sp_divided) sp) : Callee P w K mg base "mean_until" (k + 1) 2 sp :=
  callee_of F hm (F.binds (ps := ["p", "k"]) fun _ _ _ _ _ _ us hl => match us, hl with | [_, _], _ => rfl) sc_mean_until rfl rfl (fun cdv A outer s H E hr => by
    unfold w_mean_until
    exact (dss_cons (ds_set 2 sc_mean_until.nd (d_glob (by rfl) g_NOTHING r_NOTHING h_NOTHING))
      (dss_cons (ds_for rfl PassesOwn.never (di_r1 (by rfl) m_range (d_var 1)) (dg_name 3 sc_mean_until.nd) (dss_one (ds_set 2 sc_mean_until.nd (d_calle C_divided hr h_divided (by rfl) (da_cons (d_calle C_plus hr h_plus (by rfl) (da_cons (d_var 2) (da_cons (d_glob (by rfl) g_ONE r_ONE h_ONE) da_nil))) (da_cons (d_var 0) da_nil))))))
      (dss_one (ds_ret (d_var 2)))))) body
abbrev s_law_draws : Stmt := topS 21
theorem sc_law_draws : L2.FnScope ["script", "many", "cells", "cell", "rest", "draws", "k", "at", "mingled"] ["script", "many"] (L2.defScope s_law_draws) := ⟨rfl, rfl, rfl, by decide +kernel, rfl, by decide +kernel, by decide +kernel⟩
theorem ok_law_draws {f : Addr} {fd : FuncData} {k : Nat} {sp : Spc} (F : L2.Fun K "_law_draws" "_law_draws" s_law_draws f fd) (hm : mg "_law_draws" = some (.ref f)) (m_int : mg "int" = none) (m_len : mg "len" = none) (m_list : mg "list" = none) (m_range : mg "range" = none) (body : Body 9 2 (w_law_draws ) sp) : Callee P w K mg base "_law_draws" (k + 1) 2 sp :=
  callee_of F hm (F.binds (ps := ["script", "many"]) fun _ _ _ _ _ _ us hl => match us, hl with | [_, _], _ => rfl) sc_law_draws rfl rfl (fun cdv A outer s H E hr => by
    unfold w_law_draws
    exact (dss_cons (by first | exact (ds_set 2 sc_law_draws.nd (d_lc (own := [("cell", 3)]) rfl sc_law_draws.nd (di_it (d_var 0)) (L2.blkOk_by (by rfl)) (fun _ _ _ _ _ => (dg_name 3 sc_law_draws.nd)) (fun _ _ _ _ _ => dts_nil) (fun _ _ _ _ _ => (d_callT b_int (by rfl) m_int (by decide +kernel) (da_cons (d_var 3) da_nil))))) | exact (ds_setLc 2 (own := [("cell", 3)]) rfl sc_law_draws.nd (di_it (d_var 0)) (L2.blkOk_by (by rfl)) (fun _ _ _ _ _ => (dg_name 3 sc_law_draws.nd)) (fun _ _ _ _ _ => dts_nil) (fun _ _ _ _ _ => (d_callT b_int (by rfl) m_int (by decide +kernel) (da_cons (d_var 3) da_nil))) (L2.sw_true rfl rfl rfl (by decide +kernel))))
      (dss_cons (ds_if (dt_cmp (c_eq hr) (d_callB b_len (by rfl) m_len (by decide +kernel) (da_cons (d_var 2) da_nil)) d_int) (dss_one (ds_expr (d_m PySem.F.slot_list_append PySem.F.type_list_append m_append (d_var 2) (da_cons d_int da_nil)))) dss_nil)
      (dss_cons (ds_set 4 sc_law_draws.nd (d_callT b_list (by rfl) m_list (by decide +kernel) (da_cons (d_var 2) da_nil)))
      (dss_cons (ds_set 5 sc_law_draws.nd (d_lst da_nil))
      (dss_cons (ds_for rfl PassesOwn.never (di_r1 (by rfl) m_range (d_var 1)) (dg_name 6 sc_law_draws.nd) (dss_cons (ds_set 7 sc_law_draws.nd (d_op o_mod (d_var 6) (d_callB b_len (by rfl) m_len (by decide +kernel) (da_cons (d_var 2) da_nil))))
      (dss_one (ds_if (PW.pt (dw_and (dt_cmp c_ge (d_ix i_ix (d_var 2) (d_var 7)) (d_op o_pow d_int d_int)) (dw_and1 (dt_cmp c_gt (d_ix i_ix (d_var 4) (d_var 7)) d_int)))) (dss_cons (ds_expr (d_m PySem.F.slot_list_append PySem.F.type_list_append m_append (d_var 5) (da_cons (d_op o_mod (d_callT b_int (by rfl) m_int (by decide +kernel) (da_cons (d_ix i_ix (d_var 4) (d_var 7)) da_nil)) d_int) da_nil)))
      (dss_one (ds_sub p_put (d_op o_div (d_ix i_ix (d_var 4) (d_var 7)) d_int) (d_var 4) (d_var 7)))) (dss_cons (ds_set 8 sc_law_draws.nd (d_op o_mod (d_callT b_int (by rfl) m_int (by decide +kernel) (da_cons (d_op o_add (d_op o_add (d_op o_mul (d_ix i_ix (d_var 2) (d_var 7)) d_int) (d_op o_mul (d_var 6) d_int)) d_int) da_nil)) d_int))
      (dss_one (ds_expr (d_m PySem.F.slot_list_append PySem.F.type_list_append m_append (d_var 5) (da_cons (d_op o_mod (d_callT b_int (by rfl) m_int (by decide +kernel) (da_cons (d_op o_add (d_op o_add (d_op o_mul (d_var 8) (d_var 8)) (d_op o_mul d_int (d_var 8))) (d_var 6)) da_nil)) d_int) da_nil)))))))))
      (dss_cons (ds_expr (d_m0 PySem.F.slot_list_reverse PySem.F.type_list_reverse m_reverse (d_var 5)))
      (dss_one (ds_ret (d_var 5)))))))))) body
abbrev s_law_take : Stmt := topS 22
theorem sc_law_take : L2.FnScope ["draws", "many"] ["draws", "many"] (L2.defScope s_law_take) := ⟨rfl, rfl, rfl, by decide +kernel, rfl, by decide +kernel, by decide +kernel⟩
theorem ok_law_take {f : Addr} {fd : FuncData} {k : Nat} {sp : Spc} (F : L2.Fun K "_law_take" "_law_take" s_law_take f fd) (hm : mg "_law_take" = some (.ref f)) (m_len : mg "len" = none) (m_int : mg "int" = none) (body : Body 2 2 (w_law_take ) sp) : Callee P w K mg base "_law_take" (k + 1) 2 sp :=
  callee_of F hm (F.binds (ps := ["draws", "many"]) fun _ _ _ _ _ _ us hl => match us, hl with | [_, _], _ => rfl) sc_law_take rfl rfl (fun cdv A outer s H E hr => by
    unfold w_law_take
    exact (dss_cons (ds_if (dt_cmp (c_eq hr) (d_callB b_len (by rfl) m_len (by decide +kernel) (da_cons (d_var 0) da_nil)) d_int) (dss_one (ds_ret d_int)) dss_nil)
      (dss_one (ds_ret (d_op o_mod (d_callT b_int (by rfl) m_int (by decide +kernel) (da_cons (d_m0 PySem.F.slot_list_pop PySem.F.type_list_pop m_pop (d_var 0)) da_nil)) (d_var 1)))))) body
abbrev s_law_same : Stmt := topS 23
theorem sc_law_same : L2.FnScope ["actual", "due", "k"] ["actual", "due"] (L2.defScope s_law_same) := ⟨rfl, rfl, rfl, by decide +kernel, rfl, by decide +kernel, by decide +kernel⟩
theorem ok_law_same {f : Addr} {fd : FuncData} {k : Nat} {sp : Spc} (F : L2.Fun K "_law_same" "_law_same" s_law_same f fd) (hm : mg "_law_same" = some (.ref f)) (m_bool : mg "bool" = none) (m_isinstance : mg "isinstance" = none) (m_int : mg "int" = none) (m_str : mg "str" = none) (m_tuple : mg "tuple" = none) (m_len : mg "len" = none) (m_range : mg "range" = none) {sp_law_same : Spc} {k_law_same : Nat} (C_law_same : Callee P w K mg base "_law_same" k_law_same 2 sp_law_same) (h_law_same : k_law_same ≤ k) (body : Body 3 2 (w_law_same sp_law_same) sp) : Callee P w K mg base "_law_same" (k + 1) 2 sp :=
  callee_of F hm (F.binds (ps := ["actual", "due"]) fun _ _ _ _ _ _ us hl => match us, hl with | [_, _], _ => rfl) sc_law_same rfl rfl (fun cdv A outer s H E hr => by
    unfold w_law_same
    exact (dss_cons (ds_if (dt_val (d_callB b_isi (by rfl) m_isinstance (by decide +kernel) (da_cons (d_var 1) (da_cons (d_ty (by rfl) m_bool (by decide +kernel)) da_nil)))) (dss_one (ds_ret (d_and (d_callB b_isi (by rfl) m_isinstance (by decide +kernel) (da_cons (d_var 0) (da_cons (d_ty (by rfl) m_bool (by decide +kernel)) da_nil))) (d_one (d_cmp (c_eq hr) (d_var 0) (d_var 1)))))) dss_nil)
      (dss_cons (ds_if (dt_val (d_callB b_isi (by rfl) m_isinstance (by decide +kernel) (da_cons (d_var 1) (da_cons (d_ty (by rfl) m_int (by decide +kernel)) da_nil)))) (dss_one (ds_ret (d_and (d_callB b_isi (by rfl) m_isinstance (by decide +kernel) (da_cons (d_var 0) (da_cons (d_ty (by rfl) m_int (by decide +kernel)) da_nil))) (d_and (d_not (d_callB b_isi (by rfl) m_isinstance (by decide +kernel) (da_cons (d_var 0) (da_cons (d_ty (by rfl) m_bool (by decide +kernel)) da_nil)))) (d_one (d_cmp (c_eq hr) (d_var 0) (d_var 1))))))) dss_nil)
      (dss_cons (ds_if (dt_val (d_callB b_isi (by rfl) m_isinstance (by decide +kernel) (da_cons (d_var 1) (da_cons (d_ty (by rfl) m_str (by decide +kernel)) da_nil)))) (dss_one (ds_ret (d_and (d_callB b_isi (by rfl) m_isinstance (by decide +kernel) (da_cons (d_var 0) (da_cons (d_ty (by rfl) m_str (by decide +kernel)) da_nil))) (d_one (d_cmp (c_eq hr) (d_var 0) (d_var 1)))))) dss_nil)
      (dss_cons (ds_if (dt_cmp c_is (d_var 1) d_non) (dss_one (ds_ret (d_cmp c_is (d_var 0) d_non))) dss_nil)
      (dss_cons (ds_if (PW.pt (dw_or (dt_not (dt_val (d_callB b_isi (by rfl) m_isinstance (by decide +kernel) (da_cons (d_var 0) (da_cons (d_ty (by rfl) m_tuple (by decide +kernel)) da_nil))))) (dw_or1 (dt_cmp (c_ne hr) (d_callB b_len (by rfl) m_len (by decide +kernel) (da_cons (d_var 0) da_nil)) (d_callB b_len (by rfl) m_len (by decide +kernel) (da_cons (d_var 1) da_nil)))))) (dss_one (ds_ret d_bl)) dss_nil)
      (dss_cons (ds_for rfl PassesOwn.never (di_r1 (by rfl) m_range (d_callB b_len (by rfl) m_len (by decide +kernel) (da_cons (d_var 1) da_nil))) (dg_name 2 sc_law_same.nd) (dss_one (ds_if (dt_not (dt_val (d_calle C_law_same hr h_law_same (by rfl) (da_cons (d_ix i_ix (d_var 0) (d_var 2)) (da_cons (d_ix i_ix (d_var 1) (d_var 2)) da_nil))))) (dss_one (ds_ret d_bl)) dss_nil)))
      (dss_one (ds_ret d_bl))))))))) body
abbrev s_law_shared : Stmt := topS 24
theorem sc_law_shared : L2.FnScope ["one", "other", "first", "rest", "k", "later"] ["one", "other"] (L2.defScope s_law_shared) := ⟨rfl, rfl, rfl, by decide +kernel, rfl, by decide +kernel, by decide +kernel⟩
theorem ok_law_shared {f : Addr} {fd : FuncData} {k : Nat} {sp : Spc} (F : L2.Fun K "_law_shared" "_law_shared" s_law_shared f fd) (hm : mg "_law_shared" = some (.ref f)) (m_abs : mg "abs" = none) (m_range : mg "range" = none) (m_int : mg "int" = none) (body : Body 6 2 (w_law_shared ) sp) : Callee P w K mg base "_law_shared" (k + 1) 2 sp :=
  callee_of F hm (F.binds (ps := ["one", "other"]) fun _ _ _ _ _ _ us hl => match us, hl with | [_, _], _ => rfl) sc_law_shared rfl rfl (fun cdv A outer s H E hr => by
    unfold w_law_shared
    exact (dss_cons (ds_set 2 sc_law_shared.nd (d_callB b_abs (by rfl) m_abs (by decide +kernel) (da_cons (d_var 0) da_nil)))
      (dss_cons (ds_set 3 sc_law_shared.nd (d_callB b_abs (by rfl) m_abs (by decide +kernel) (da_cons (d_var 1) da_nil)))
      (dss_cons (ds_for rfl PassesOwn.never (di_r1 (by rfl) m_range d_int) (dg_name 4 sc_law_shared.nd) (dss_cons (ds_if (dt_cmp (c_eq hr) (d_var 3) d_int) (dss_one ds_break) dss_nil)
      (dss_cons (ds_set 5 sc_law_shared.nd (d_op o_mod (d_callT b_int (by rfl) m_int (by decide +kernel) (da_cons (d_var 2) da_nil)) (d_var 3)))
      (dss_cons (ds_set 2 sc_law_shared.nd (d_var 3))
      (dss_one (ds_set 3 sc_law_shared.nd (d_var 5)))))))
      (dss_one (ds_ret (d_var 2))))))) body
abbrev s_law_frac : Stmt := topS 25
theorem sc_law_frac : L2.FnScope ["n", "d", "size"] ["n", "d"] (L2.defScope s_law_frac) := ⟨rfl, rfl, rfl, by decide +kernel, rfl, by decide +kernel, by decide +kernel⟩
theorem ok_law_frac {f : Addr} {fd : FuncData} {k : Nat} {sp : Spc} (F : L2.Fun K "_law_frac" "_law_frac" s_law_frac f fd) (hm : mg "_law_frac" = some (.ref f)) {sp_law_shared : Spc} {k_law_shared : Nat} (C_law_shared : Callee P w K mg base "_law_shared" k_law_shared 2 sp_law_shared) (h_law_shared : k_law_shared ≤ k) (body : Body 3 2 (w_law_frac sp_law_shared) sp) : Callee P w K mg base "_law_frac" (k + 1) 2 sp :=
  callee_of F hm (F.binds (ps := ["n", "d"]) fun _ _ _ _ _ _ us hl => match us, hl with | [_, _], _ => rfl) sc_law_frac rfl rfl (fun cdv A outer s H E hr => by
    unfold w_law_frac
    exact (dss_cons (ds_set 2 sc_law_frac.nd (d_calle C_law_shared hr h_law_shared (by rfl) (da_cons (d_var 0) (da_cons (d_var 1) da_nil))))
      (dss_cons (ds_if (dt_cmp c_lt (d_var 1) d_int) (dss_one (ds_set 2 sc_law_frac.nd (d_un u_neg (d_var 2)))) dss_nil)
      (dss_one (ds_ret (d_tup (da_cons (d_op o_div (d_var 0) (d_var 2)) (da_cons (d_op o_div (d_var 1) (d_var 2)) da_nil)))))))) body
abbrev s_law_plus : Stmt := topS 26
theorem sc_law_plus : L2.FnScope ["one", "other"] ["one", "other"] (L2.defScope s_law_plus) := ⟨rfl, rfl, rfl, by decide +kernel, rfl, by decide +kernel, by decide +kernel⟩
theorem ok_law_plus {f : Addr} {fd : FuncData} {k : Nat} {sp : Spc} (F : L2.Fun K "_law_plus" "_law_plus" s_law_plus f fd) (hm : mg "_law_plus" = some (.ref f)) {sp_law_frac : Spc} {k_law_frac : Nat} (C_law_frac : Callee P w K mg base "_law_frac" k_law_frac 2 sp_law_frac) (h_law_frac : k_law_frac ≤ k) (body : Body 2 2 (w_law_plus sp_law_frac) sp) : Callee P w K mg base "_law_plus" (k + 1) 2 sp :=
  callee_of F hm (F.binds (ps := ["one", "other"]) fun _ _ _ _ _ _ us hl => match us, hl with | [_, _], _ => rfl) sc_law_plus rfl rfl (fun cdv A outer s H E hr => by
    unfold w_law_plus
    exact (dss_one (ds_ret (d_calle C_law_frac hr h_law_frac (by rfl) (da_cons (d_op o_add (d_op o_mul (d_ix i_ix (d_var 0) d_int) (d_ix i_ix (d_var 1) d_int)) (d_op o_mul (d_ix i_ix (d_var 1) d_int) (d_ix i_ix (d_var 0) d_int))) (da_cons (d_op o_mul (d_ix i_ix (d_var 0) d_int) (d_ix i_ix (d_var 1) d_int)) da_nil)))))) body
abbrev s_law_minus : Stmt := topS 27
theorem sc_law_minus : L2.FnScope ["one", "other"] ["one", "other"] (L2.defScope s_law_minus) := ⟨rfl, rfl, rfl, by decide +kernel, rfl, by decide +kernel, by decide +kernel⟩
theorem ok_law_minus {f : Addr} {fd : FuncData} {k : Nat} {sp : Spc} (F : L2.Fun K "_law_minus" "_law_minus" s_law_minus f fd) (hm : mg "_law_minus" = some (.ref f)) {sp_law_frac : Spc} {k_law_frac : Nat} (C_law_frac : Callee P w K mg base "_law_frac" k_law_frac 2 sp_law_frac) (h_law_frac : k_law_frac ≤ k) (body : Body 2 2 (w_law_minus sp_law_frac) sp) : Callee P w K mg base "_law_minus" (k + 1) 2 sp :=
  callee_of F hm (F.binds (ps := ["one", "other"]) fun _ _ _ _ _ _ us hl => match us, hl with | [_, _], _ => rfl) sc_law_minus rfl rfl (fun cdv A outer s H E hr => by
    unfold w_law_minus
    exact (dss_one (ds_ret (d_calle C_law_frac hr h_law_frac (by rfl) (da_cons (d_op o_sub (d_op o_mul (d_ix i_ix (d_var 0) d_int) (d_ix i_ix (d_var 1) d_int)) (d_op o_mul (d_ix i_ix (d_var 1) d_int) (d_ix i_ix (d_var 0) d_int))) (da_cons (d_op o_mul (d_ix i_ix (d_var 0) d_int) (d_ix i_ix (d_var 1) d_int)) da_nil)))))) body
abbrev s_law_mul : Stmt := topS 28
theorem sc_law_mul : L2.FnScope ["one", "other"] ["one", "other"] (L2.defScope s_law_mul) := ⟨rfl, rfl, rfl, by decide +kernel, rfl, by decide +kernel, by decide +kernel⟩
theorem ok_law_mul {f : Addr} {fd : FuncData} {k : Nat} {sp : Spc} (F : L2.Fun K "_law_mul" "_law_mul" s_law_mul f fd) (hm : mg "_law_mul" = some (.ref f)) {sp_law_frac : Spc} {k_law_frac : Nat} (C_law_frac : Callee P w K mg base "_law_frac" k_law_frac 2 sp_law_frac) (h_law_frac : k_law_frac ≤ k) (body : Body 2 2 (w_law_mul sp_law_frac) sp) : Callee P w K mg base "_law_mul" (k + 1) 2 sp :=
  callee_of F hm (F.binds (ps := ["one", "other"]) fun _ _ _ _ _ _ us hl => match us, hl with | [_, _], _ => rfl) sc_law_mul rfl rfl (fun cdv A outer s H E hr => by
    unfold w_law_mul
    exact (dss_one (ds_ret (d_calle C_law_frac hr h_law_frac (by rfl) (da_cons (d_op o_mul (d_ix i_ix (d_var 0) d_int) (d_ix i_ix (d_var 1) d_int)) (da_cons (d_op o_mul (d_ix i_ix (d_var 0) d_int) (d_ix i_ix (d_var 1) d_int)) da_nil)))))) body
abbrev s_law_ways : Stmt := topS 29
theorem sc_law_ways : L2.FnScope ["n", "k", "found", "j"] ["n", "k"] (L2.defScope s_law_ways) := ⟨rfl, rfl, rfl, by decide +kernel, rfl, by decide +kernel, by decide +kernel⟩
theorem ok_law_ways {f : Addr} {fd : FuncData} {k : Nat} {sp : Spc} (F : L2.Fun K "_law_ways" "_law_ways" s_law_ways f fd) (hm : mg "_law_ways" = some (.ref f)) (m_range : mg "range" = none) (body : Body 4 2 (w_law_ways ) sp) : Callee P w K mg base "_law_ways" (k + 1) 2 sp :=
  callee_of F hm (F.binds (ps := ["n", "k"]) fun _ _ _ _ _ _ us hl => match us, hl with | [_, _], _ => rfl) sc_law_ways rfl rfl (fun cdv A outer s H E hr => by
    unfold w_law_ways
    exact (dss_cons (ds_if (PW.pt (dw_or (dt_cmp c_lt (d_var 1) d_int) (dw_or1 (dt_cmp c_gt (d_var 1) (d_var 0))))) (dss_one (ds_ret d_int)) dss_nil)
      (dss_cons (ds_set 2 sc_law_ways.nd d_int)
      (dss_cons (ds_for rfl PassesOwn.never (di_r1 (by rfl) m_range (d_var 1)) (dg_name 3 sc_law_ways.nd) (dss_one (ds_set 2 sc_law_ways.nd (d_op o_div (d_op o_mul (d_var 2) (d_op o_sub (d_var 0) (d_var 3))) (d_op o_add (d_var 3) d_int)))))
      (dss_one (ds_ret (d_var 2))))))) body
abbrev s_law_chance : Stmt := topS 30
theorem sc_law_chance : L2.FnScope ["draws", "style", "d"] ["draws"] (L2.defScope s_law_chance) := ⟨rfl, rfl, rfl, by decide +kernel, rfl, by decide +kernel, by decide +kernel⟩
theorem ok_law_chance {f : Addr} {fd : FuncData} {k : Nat} {sp : Spc} (F : L2.Fun K "_law_chance" "_law_chance" s_law_chance f fd) (hm : mg "_law_chance" = some (.ref f)) {sp_law_take : Spc} {k_law_take : Nat} (C_law_take : Callee P w K mg base "_law_take" k_law_take 2 sp_law_take) (h_law_take : k_law_take ≤ k) {sp_law_frac : Spc} {k_law_frac : Nat} (C_law_frac : Callee P w K mg base "_law_frac" k_law_frac 2 sp_law_frac) (h_law_frac : k_law_frac ≤ k) (body : Body 3 1 (w_law_chance sp_law_take sp_law_frac) sp) : Callee P w K mg base "_law_chance" (k + 1) 1 sp :=
  callee_of F hm (F.binds (ps := ["draws"]) fun _ _ _ _ _ _ us hl => match us, hl with | [_], _ => rfl) sc_law_chance rfl rfl (fun cdv A outer s H E hr => by
    unfold w_law_chance
    exact (dss_cons (ds_set 1 sc_law_chance.nd (d_calle C_law_take hr h_law_take (by rfl) (da_cons (d_var 0) (da_cons d_int da_nil))))
      (dss_cons (ds_if (dt_cmp c_lt (d_var 1) d_int) (dss_one (ds_ret (d_tup (da_cons d_int (da_cons d_int da_nil))))) dss_nil)
      (dss_cons (ds_set 2 sc_law_chance.nd (d_op o_add d_int (d_calle C_law_take hr h_law_take (by rfl) (da_cons (d_var 0) (da_cons (d_ix i_ix (d_lst (da_cons d_int (da_cons d_int (da_cons d_int da_nil)))) (d_op o_sub (d_var 1) d_int)) da_nil)))))
      (dss_one (ds_ret (d_calle C_law_frac hr h_law_frac (by rfl) (da_cons (d_calle C_law_take hr h_law_take (by rfl) (da_cons (d_var 0) (da_cons (d_op o_add (d_var 2) d_int) da_nil))) (da_cons (d_var 2) da_nil))))))))) body
abbrev s_law_row : Stmt := topS 31
theorem sc_law_row : L2.FnScope ["draws", "many", "style", "found", "k", "sign"] ["draws", "many"] (L2.defScope s_law_row) := ⟨rfl, rfl, rfl, by decide +kernel, rfl, by decide +kernel, by decide +kernel⟩
theorem ok_law_row {f : Addr} {fd : FuncData} {k : Nat} {sp : Spc} (F : L2.Fun K "_law_row" "_law_row" s_law_row f fd) (hm : mg "_law_row" = some (.ref f)) (m_range : mg "range" = none) {sp_law_take : Spc} {k_law_take : Nat} (C_law_take : Callee P w K mg base "_law_take" k_law_take 2 sp_law_take) (h_law_take : k_law_take ≤ k) (body : Body 6 2 (w_law_row sp_law_take) sp) : Callee P w K mg base "_law_row" (k + 1) 2 sp :=
  callee_of F hm (F.binds (ps := ["draws", "many"]) fun _ _ _ _ _ _ us hl => match us, hl with | [_, _], _ => rfl) sc_law_row rfl rfl (fun cdv A outer s H E hr => by
    unfold w_law_row
    exact (dss_cons (ds_set 2 sc_law_row.nd (d_calle C_law_take hr h_law_take (by rfl) (da_cons (d_var 0) (da_cons d_int da_nil))))
      (dss_cons (ds_set 3 sc_law_row.nd (d_join d_str (d_lc (own := [("k", 4)]) rfl sc_law_row.nd (di_r1 (by rfl) m_range (d_var 1)) (L2.blkOk_by (by rfl)) (fun _ _ _ _ _ => (dg_name 4 sc_law_row.nd)) (fun _ _ _ _ _ => dts_nil) (fun _ _ _ _ _ => (d_ix i_ix d_str (d_calle C_law_take hr h_law_take (by rfl) (da_cons (d_var 0) (da_cons d_int da_nil))))))))
      (dss_cons (ds_if (dt_cmp (c_eq hr) (d_var 2) d_int) (dss_one (ds_set 3 sc_law_row.nd (d_op o_mulS (d_sl s_cutS (d_var 3) dp_no (dp_at d_int)) (d_var 1)))) dss_nil)
      (dss_cons (ds_if (dt_cmp (c_eq hr) (d_var 2) d_int) (dss_one (ds_set 3 sc_law_row.nd (d_sl s_cutS (d_op o_mulS d_str (d_var 1)) dp_no (dp_at (d_var 1))))) dss_nil)
      (dss_cons (ds_if (dt_cmp (c_eq hr) (d_var 2) d_int) (dss_one (ds_set 3 sc_law_row.nd (d_join d_str (d_lc (own := [("sign", 5)]) rfl sc_law_row.nd (di_itS (d_sl s_cutS (d_var 3) dp_no (dp_at d_int))) (L2.blkOk_by (by rfl)) (fun _ _ _ _ _ => (dg_name 5 sc_law_row.nd)) (fun _ _ _ _ _ => dts_nil) (fun _ _ _ _ _ => (d_op o_mulS (d_var 5) (d_op o_add d_int (d_calle C_law_take hr h_law_take (by rfl) (da_cons (d_var 0) (da_cons d_int da_nil)))))))))) dss_nil)
      (dss_one (ds_ret (d_var 3))))))))) body
abbrev s_law_runs : Stmt := topS 32
theorem sc_law_runs : L2.FnScope ["row", "lengths", "signs", "sign"] ["row"] (L2.defScope s_law_runs) := ⟨rfl, rfl, rfl, by decide +kernel, rfl, by decide +kernel, by decide +kernel⟩
theorem ok_law_runs {f : Addr} {fd : FuncData} {k : Nat} {sp : Spc} (F : L2.Fun K "_law_runs" "_law_runs" s_law_runs f fd) (hm : mg "_law_runs" = some (.ref f)) (m_len : mg "len" = none) (body : Body 4 1 (w_law_runs ) sp) : Callee P w K mg base "_law_runs" (k + 1) 1 sp :=
  callee_of F hm (F.binds (ps := ["row"]) fun _ _ _ _ _ _ us hl => match us, hl with | [_], _ => rfl) sc_law_runs rfl rfl (fun cdv A outer s H E hr => by
    unfold w_law_runs
    exact (dss_cons (ds_set 1 sc_law_runs.nd (d_lst da_nil))
      (dss_cons (ds_set 2 sc_law_runs.nd (d_lst da_nil))
      (dss_cons (ds_for rfl PassesOwn.never (di_itS (d_var 0)) (dg_name 3 sc_law_runs.nd) (dss_one (ds_if (PW.pt (dw_and (dt_cmp c_gt (d_callB b_len (by rfl) m_len (by decide +kernel) (da_cons (d_var 2) da_nil)) d_int) (dw_and1 (dt_cmp (c_eq hr) (d_ix i_ix (d_var 2) (d_un u_neg d_int)) (d_var 3))))) (dss_one (ds_sub p_put (d_op o_add (d_ix i_ix (d_var 1) (d_un u_neg d_int)) d_int) (d_var 1) (d_un u_neg d_int))) (dss_cons (ds_expr (d_m PySem.F.slot_list_append PySem.F.type_list_append m_append (d_var 1) (da_cons d_int da_nil)))
      (dss_one (ds_expr (d_m PySem.F.slot_list_append PySem.F.type_list_append m_append (d_var 2) (da_cons (d_var 3) da_nil))))))))
      (dss_one (ds_ret (d_tup (da_cons (d_var 1) (da_cons (d_var 2) da_nil))))))))) body
abbrev s_law_longest : Stmt := topS 33
theorem sc_law_longest : L2.FnScope ["row", "sign", "lengths", "signs", "k"] ["row", "sign"] (L2.defScope s_law_longest) := ⟨rfl, rfl, rfl, by decide +kernel, rfl, by decide +kernel, by decide +kernel⟩
theorem ok_law_longest {f : Addr} {fd : FuncData} {k : Nat} {sp : Spc} (F : L2.Fun K "_law_longest" "_law_longest" s_law_longest f fd) (hm : mg "_law_longest" = some (.ref f)) (m_len : mg "len" = none) (m_range : mg "range" = none) (m_max : mg "max" = none) {sp_law_runs : Spc} {k_law_runs : Nat} (C_law_runs : Callee P w K mg base "_law_runs" k_law_runs 1 sp_law_runs) (h_law_runs : k_law_runs ≤ k) (body : Body 5 2 (w_law_longest sp_law_runs) sp) : Callee P w K mg base "_law_longest" (k + 1) 2 sp :=
  callee_of F hm (F.binds (ps := ["row", "sign"]) fun _ _ _ _ _ _ us hl => match us, hl with | [_, _], _ => rfl) sc_law_longest rfl rfl (fun cdv A outer s H E hr => by
    unfold w_law_longest
    exact (dss_cons (ds_asg (d_calle C_law_runs hr h_law_runs (by rfl) (da_cons (d_var 0) da_nil)) (dg_tup rfl (dgs_one 2 sc_law_longest.nd (dgs_one 3 sc_law_longest.nd .nil))))
      (dss_one (ds_ret (d_callB (b_max rfl hr) (by rfl) m_max (by decide +kernel) (da_cons (d_op o_add (d_lst (da_cons d_int da_nil)) (d_lc (own := [("k", 4)]) rfl sc_law_longest.nd (di_r1 (by rfl) m_range (d_callB b_len (by rfl) m_len (by decide +kernel) (da_cons (d_var 3) da_nil))) (L2.blkOk_by (by rfl)) (fun _ _ _ _ _ => (dg_name 4 sc_law_longest.nd)) (fun _ _ _ _ _ => (dts_one (dt_cmp (c_eq hr) (d_ix i_ix (d_var 3) (d_var 4)) (d_var 1)))) (fun _ _ _ _ _ => (d_ix i_ix (d_var 2) (d_var 4))))) da_nil)))))) body
abbrev s_law_all : Stmt := topS 34
theorem sc_law_all : L2.FnScope ["n", "found", "k", "more_of", "some"] ["n"] (L2.defScope s_law_all) := ⟨rfl, rfl, rfl, by decide +kernel, rfl, by decide +kernel, by decide +kernel⟩
theorem ok_law_all {f : Addr} {fd : FuncData} {k : Nat} {sp : Spc} (F : L2.Fun K "_law_all" "_law_all" s_law_all f fd) (hm : mg "_law_all" = some (.ref f)) (m_range : mg "range" = none) (body : Body 5 1 (w_law_all ) sp) : Callee P w K mg base "_law_all" (k + 1) 1 sp :=
  callee_of F hm (F.binds (ps := ["n"]) fun _ _ _ _ _ _ us hl => match us, hl with | [_], _ => rfl) sc_law_all rfl rfl (fun cdv A outer s H E hr => by
    unfold w_law_all
    exact (dss_cons (ds_set 1 sc_law_all.nd (d_lst (da_cons d_str da_nil)))
      (dss_cons (ds_for rfl PassesOwn.never (di_r1 (by rfl) m_range (d_var 0)) (dg_name 2 sc_law_all.nd) (dss_cons (ds_set 3 sc_law_all.nd (d_lst da_nil))
      (dss_cons (ds_for rfl PassesOwn.never (di_it (d_var 1)) (dg_name 4 sc_law_all.nd) (dss_one (ds_set 3 sc_law_all.nd (d_op o_add (d_var 3) (d_lst (da_cons (d_op o_add (d_var 4) d_str) (da_cons (d_op o_add (d_var 4) d_str) da_nil)))))))
      (dss_one (ds_set 1 sc_law_all.nd (d_var 3))))))
      (dss_one (ds_ret (d_var 1)))))) body
abbrev s_law_power : Stmt := topS 35
theorem sc_law_power : L2.FnScope ["p", "many", "found", "k"] ["p", "many"] (L2.defScope s_law_power) := ⟨rfl, rfl, rfl, by decide +kernel, rfl, by decide +kernel, by decide +kernel⟩
theorem ok_law_power {f : Addr} {fd : FuncData} {k : Nat} {sp : Spc} (F : L2.Fun K "_law_power" "_law_power" s_law_power f fd) (hm : mg "_law_power" = some (.ref f)) (m_range : mg "range" = none) {sp_law_mul : Spc} {k_law_mul : Nat} (C_law_mul : Callee P w K mg base "_law_mul" k_law_mul 2 sp_law_mul) (h_law_mul : k_law_mul ≤ k) (body : Body 4 2 (w_law_power sp_law_mul) sp) : Callee P w K mg base "_law_power" (k + 1) 2 sp :=
  callee_of F hm (F.binds (ps := ["p", "many"]) fun _ _ _ _ _ _ us hl => match us, hl with | [_, _], _ => rfl) sc_law_power rfl rfl (fun cdv A outer s H E hr => by
    unfold w_law_power
    exact (dss_cons (ds_set 2 sc_law_power.nd (d_tup (da_cons d_int (da_cons d_int da_nil))))
      (dss_cons (ds_for rfl PassesOwn.never (di_r1 (by rfl) m_range (d_var 1)) (dg_name 3 sc_law_power.nd) (dss_one (ds_set 2 sc_law_power.nd (d_calle C_law_mul hr h_law_mul (by rfl) (da_cons (d_var 2) (da_cons (d_var 0) da_nil))))))
      (dss_one (ds_ret (d_var 2)))))) body
abbrev s_law_few : Stmt := topS 36
theorem sc_law_few : L2.FnScope ["p", "n", "k", "lost", "parts", "heads", "without_runs", "mean", "by_runs", "sums_of", "row", "sign", "runs_told", "chance", "many"] ["p", "n", "k"] (L2.defScope s_law_few) := ⟨rfl, rfl, rfl, by decide +kernel, rfl, by decide +kernel, by decide +kernel⟩
theorem ok_law_few {f : Addr} {fd : FuncData} {k : Nat} {sp : Spc} (F : L2.Fun K "_law_few" "_law_few" s_law_few f fd) (hm : mg "_law_few" = some (.ref f)) (m_range : mg "range" = none) (m_len : mg "len" = none) (m_sum : mg "sum" = none) {sp_law_minus : Spc} {k_law_minus : Nat} (C_law_minus : Callee P w K mg base "_law_minus" k_law_minus 2 sp_law_minus) (h_law_minus : k_law_minus ≤ k) {sp_law_power : Spc} {k_law_power : Nat} (C_law_power : Callee P w K mg base "_law_power" k_law_power 2 sp_law_power) (h_law_power : k_law_power ≤ k) {sp_law_mul : Spc} {k_law_mul : Nat} (C_law_mul : Callee P w K mg base "_law_mul" k_law_mul 2 sp_law_mul) (h_law_mul : k_law_mul ≤ k) {sp_law_all : Spc} {k_law_all : Nat} (C_law_all : Callee P w K mg base "_law_all" k_law_all 1 sp_law_all) (h_law_all : k_law_all ≤ k) {sp_law_longest : Spc} {k_law_longest : Nat} (C_law_longest : Callee P w K mg base "_law_longest" k_law_longest 2 sp_law_longest) (h_law_longest : k_law_longest ≤ k) {sp_law_runs : Spc} {k_law_runs : Nat} (C_law_runs : Callee P w K mg base "_law_runs" k_law_runs 1 sp_law_runs) (h_law_runs : k_law_runs ≤ k) {sp_law_plus : Spc} {k_law_plus : Nat} (C_law_plus : Callee P w K mg base "_law_plus" k_law_plus 2 sp_law_plus) (h_law_plus : k_law_plus ≤ k) {sp_count_by_runs : Spc} {k_count_by_runs : Nat} (C_count_by_runs : Callee P w K mg base "count_by_runs" k_count_by_runs 3 sp_count_by_runs) (h_count_by_runs : k_count_by_runs ≤ k) {sp_law_same : Spc} {k_law_same : Nat} (C_law_same : Callee P w K mg base "_law_same" k_law_same 2 sp_law_same) (h_law_same : k_law_same ≤ k) {sp_count_without : Spc} {k_count_without : Nat} (C_count_without : Callee P w K mg base "count_without" k_count_without 2 sp_count_without) (h_count_without : k_count_without ≤ k) {sp_chance_without : Spc} {k_chance_without : Nat} (C_chance_without : Callee P w K mg base "chance_without" k_chance_without 3 sp_chance_without) (h_chance_without : k_chance_without ≤ k) {sp_mean_runs : Spc} {k_mean_runs : Nat} (C_mean_runs : Callee P w K mg base "mean_runs" k_mean_runs 2 sp_mean_runs) (h_mean_runs : k_mean_runs ≤ k) (body : Body 15 3 (w_law_few sp_law_minus sp_law_power sp_law_mul sp_law_all sp_law_longest sp_law_runs sp_law_plus sp_count_by_runs sp_law_same sp_count_without sp_chance_without sp_mean_runs) sp) : Callee P w K mg base "_law_few" (k + 1) 3 sp :=
  callee_of F hm (F.binds (ps := ["p", "n", "k"]) fun _ _ _ _ _ _ us hl => match us, hl with | [_, _, _], _ => rfl) sc_law_few rfl rfl (fun cdv A outer s H E hr => by
    unfold w_law_few
    exact (dss_cons (ds_set 3 sc_law_few.nd (d_calle C_law_minus hr h_law_minus (by rfl) (da_cons (d_tup (da_cons d_int (da_cons d_int da_nil))) (da_cons (d_var 0) da_nil))))
      (dss_cons (by first | exact (ds_set 4 sc_law_few.nd (d_lc (own := [("heads", 5)]) rfl sc_law_few.nd (di_r1 (by rfl) m_range (d_op o_add (d_var 1) d_int)) (L2.blkOk_by (by rfl)) (fun _ _ _ _ _ => (dg_name 5 sc_law_few.nd)) (fun _ _ _ _ _ => dts_nil) (fun _ _ _ _ _ => (d_calle C_law_mul hr h_law_mul (by rfl) (da_cons (d_calle C_law_power hr h_law_power (by rfl) (da_cons (d_var 0) (da_cons (d_var 5) da_nil))) (da_cons (d_calle C_law_power hr h_law_power (by rfl) (da_cons (d_var 3) (da_cons (d_op o_sub (d_var 1) (d_var 5)) da_nil))) da_nil)))))) | exact (ds_setLc 4 (own := [("heads", 5)]) rfl sc_law_few.nd (di_r1 (by rfl) m_range (d_op o_add (d_var 1) d_int)) (L2.blkOk_by (by rfl)) (fun _ _ _ _ _ => (dg_name 5 sc_law_few.nd)) (fun _ _ _ _ _ => dts_nil) (fun _ _ _ _ _ => (d_calle C_law_mul hr h_law_mul (by rfl) (da_cons (d_calle C_law_power hr h_law_power (by rfl) (da_cons (d_var 0) (da_cons (d_var 5) da_nil))) (da_cons (d_calle C_law_power hr h_law_power (by rfl) (da_cons (d_var 3) (da_cons (d_op o_sub (d_var 1) (d_var 5)) da_nil))) da_nil)))) (L2.sw_true rfl rfl rfl (by decide +kernel))))
      (dss_cons (ds_set 6 sc_law_few.nd (d_op o_mul (d_lst (da_cons d_int da_nil)) (d_op o_add (d_var 1) d_int)))
      (dss_cons (ds_set 7 sc_law_few.nd (d_tup (da_cons d_int (da_cons d_int da_nil))))
      (dss_cons (ds_set 8 sc_law_few.nd d_dnewT)
      (dss_cons (ds_set 9 sc_law_few.nd (d_op o_mul (d_lst (da_cons d_int da_nil)) (d_op o_add (d_var 1) d_int)))
      (dss_cons (ds_for rfl PassesOwn.never (di_it (d_calle C_law_all hr h_law_all (by rfl) (da_cons (d_var 1) da_nil))) (dg_name 10 sc_law_few.nd) (dss_cons (ds_set 5 sc_law_few.nd (d_callB b_len (by rfl) m_len (by decide +kernel) (da_cons (d_lc (own := [("sign", 11)]) rfl sc_law_few.nd (di_itS (d_var 10)) (L2.blkOk_by (by rfl)) (fun _ _ _ _ _ => (dg_name 11 sc_law_few.nd)) (fun _ _ _ _ _ => (dts_one (dt_cmp (c_eq hr) (d_var 11) d_str))) (fun _ _ _ _ _ => (d_var 11))) da_nil)))
      (dss_cons (ds_if (dt_cmp c_lt (d_calle C_law_longest hr h_law_longest (by rfl) (da_cons (d_var 10) (da_cons d_str da_nil))) (d_var 2)) (dss_one (ds_sub p_put (d_op o_add (d_ix i_ix (d_var 6) (d_var 5)) d_int) (d_var 6) (d_var 5))) dss_nil)
      (dss_cons (ds_set 12 sc_law_few.nd (d_callB b_len (by rfl) m_len (by decide +kernel) (da_cons (d_ix i_ix (d_calle C_law_runs hr h_law_runs (by rfl) (da_cons (d_var 10) da_nil)) d_int) da_nil)))
      (dss_cons (ds_sub p_put (d_op o_add (d_ix i_ix (d_var 9) (d_var 5)) (d_var 12)) (d_var 9) (d_var 5))
      (dss_one (ds_dputD hr (d_op o_add (d_dget2D hr (d_var 8) (da_cons (d_var 5) (da_cons (d_var 12) da_nil)) d_int) d_int) (d_var 8) (da_cons (d_var 5) (da_cons (d_var 12) da_nil)))))))))
      (dss_cons (ds_set 13 sc_law_few.nd (d_tup (da_cons d_int (da_cons d_int da_nil))))
      (dss_cons (ds_for rfl PassesOwn.never (di_r1 (by rfl) m_range (d_op o_add (d_var 1) d_int)) (dg_name 5 sc_law_few.nd) (dss_cons (ds_set 13 sc_law_few.nd (d_calle C_law_plus hr h_law_plus (by rfl) (da_cons (d_var 13) (da_cons (d_calle C_law_mul hr h_law_mul (by rfl) (da_cons (d_ix i_ix (d_var 4) (d_var 5)) (da_cons (d_tup (da_cons (d_ix i_ix (d_var 6) (d_var 5)) (da_cons d_int da_nil))) da_nil))) da_nil))))
      (dss_cons (ds_set 7 sc_law_few.nd (d_calle C_law_plus hr h_law_plus (by rfl) (da_cons (d_var 7) (da_cons (d_calle C_law_mul hr h_law_mul (by rfl) (da_cons (d_ix i_ix (d_var 4) (d_var 5)) (da_cons (d_tup (da_cons (d_ix i_ix (d_var 9) (d_var 5)) (da_cons d_int da_nil))) da_nil))) da_nil))))
      (dss_one (ds_for rfl PassesOwn.never (di_r1 (by rfl) m_range (d_op o_add (d_var 1) d_int)) (dg_name 14 sc_law_few.nd) (dss_one (ds_if (dt_not (dt_val (d_calle C_law_same hr h_law_same (by rfl) (da_cons (d_calle C_count_by_runs hr h_count_by_runs (by rfl) (da_cons (d_var 5) (da_cons (d_op o_sub (d_var 1) (d_var 5)) (da_cons (d_var 14) da_nil)))) (da_cons (d_dget2D hr (d_var 8) (da_cons (d_var 5) (da_cons (d_var 14) da_nil)) d_int) da_nil))))) (dss_one (ds_ret d_bl)) dss_nil)))))))
      (dss_cons (ds_if (PW.pt (dw_or (dt_not (dt_val (d_calle C_law_same hr h_law_same (by rfl) (da_cons (d_calle C_count_without hr h_count_without (by rfl) (da_cons (d_var 1) (da_cons (d_var 2) da_nil))) (da_cons (d_callB (b_sum rfl) (by rfl) m_sum (by decide +kernel) (da_cons (d_var 6) da_nil)) da_nil))))) (dw_or1 (dt_not (dt_val (d_calle C_law_same hr h_law_same (by rfl) (da_cons (d_calle C_chance_without hr h_chance_without (by rfl) (da_cons (d_var 0) (da_cons (d_var 1) (da_cons (d_var 2) da_nil)))) (da_cons (d_var 13) da_nil)))))))) (dss_one (ds_ret d_bl)) dss_nil)
      (dss_one (ds_ret (d_calle C_law_same hr h_law_same (by rfl) (da_cons (d_calle C_mean_runs hr h_mean_runs (by rfl) (da_cons (d_var 0) (da_cons (d_var 1) da_nil))) (da_cons (d_var 7) da_nil)))))))))))))))) body
abbrev s_law_count : Stmt := topS 37
theorem sc_law_count : L2.FnScope ["n", "k", "now", "j"] ["n", "k"] (L2.defScope s_law_count) := ⟨rfl, rfl, rfl, by decide +kernel, rfl, by decide +kernel, by decide +kernel⟩
theorem ok_law_count {f : Addr} {fd : FuncData} {k : Nat} {sp : Spc} (F : L2.Fun K "_law_count" "_law_count" s_law_count f fd) (hm : mg "_law_count" = some (.ref f)) (m_range : mg "range" = none) (m_sum : mg "sum" = none) (body : Body 4 2 (w_law_count ) sp) : Callee P w K mg base "_law_count" (k + 1) 2 sp :=
  callee_of F hm (F.binds (ps := ["n", "k"]) fun _ _ _ _ _ _ us hl => match us, hl with | [_, _], _ => rfl) sc_law_count rfl rfl (fun cdv A outer s H E hr => by
    unfold w_law_count
    exact (dss_cons (ds_set 2 sc_law_count.nd (d_op o_add (d_lst (da_cons d_int da_nil)) (d_op o_mul (d_lst (da_cons d_int da_nil)) (d_op o_sub (d_var 1) d_int))))
      (dss_cons (ds_for rfl PassesOwn.never (di_r1 (by rfl) m_range (d_var 0)) (dg_name 3 sc_law_count.nd) (dss_one (ds_set 2 sc_law_count.nd (d_op o_add (d_lst (da_cons (d_callB (b_sum rfl) (by rfl) m_sum (by decide +kernel) (da_cons (d_var 2) da_nil)) da_nil)) (d_sl s_cut (d_var 2) dp_no (dp_at (d_un u_neg d_int)))))))
      (dss_one (ds_ret (d_callB (b_sum rfl) (by rfl) m_sum (by decide +kernel) (da_cons (d_var 2) da_nil))))))) body
abbrev s_law_without : Stmt := topS 38
theorem sc_law_without : L2.FnScope ["p", "n", "k", "lost", "now", "j", "all_of", "chance", "found"] ["p", "n", "k"] (L2.defScope s_law_without) := ⟨rfl, rfl, rfl, by decide +kernel, rfl, by decide +kernel, by decide +kernel⟩
theorem ok_law_without {f : Addr} {fd : FuncData} {k : Nat} {sp : Spc} (F : L2.Fun K "_law_without" "_law_without" s_law_without f fd) (hm : mg "_law_without" = some (.ref f)) (m_range : mg "range" = none) {sp_law_minus : Spc} {k_law_minus : Nat} (C_law_minus : Callee P w K mg base "_law_minus" k_law_minus 2 sp_law_minus) (h_law_minus : k_law_minus ≤ k) {sp_law_plus : Spc} {k_law_plus : Nat} (C_law_plus : Callee P w K mg base "_law_plus" k_law_plus 2 sp_law_plus) (h_law_plus : k_law_plus ≤ k) {sp_law_mul : Spc} {k_law_mul : Nat} (C_law_mul : Callee P w K mg base "_law_mul" k_law_mul 2 sp_law_mul) (h_law_mul : k_law_mul ≤ k) (body : Body 9 3 (w_law_without sp_law_minus sp_law_plus sp_law_mul) sp) : Callee P w K mg base "_law_without" (k + 1) 3 sp :=
  callee_of F hm (F.binds (ps := ["p", "n", "k"]) fun _ _ _ _ _ _ us hl => match us, hl with | [_, _, _], _ => rfl) sc_law_without rfl rfl (fun cdv A outer s H E hr => by
    unfold w_law_without
    exact (dss_cons (ds_set 3 sc_law_without.nd (d_calle C_law_minus hr h_law_minus (by rfl) (da_cons (d_tup (da_cons d_int (da_cons d_int da_nil))) (da_cons (d_var 0) da_nil))))
      (dss_cons (ds_set 4 sc_law_without.nd (d_op o_add (d_lst (da_cons (d_tup (da_cons d_int (da_cons d_int da_nil))) da_nil)) (d_op o_mul (d_lst (da_cons (d_tup (da_cons d_int (da_cons d_int da_nil))) da_nil)) (d_op o_sub (d_var 2) d_int))))
      (dss_cons (ds_for rfl PassesOwn.never (di_r1 (by rfl) m_range (d_var 1)) (dg_name 5 sc_law_without.nd) (dss_cons (ds_set 6 sc_law_without.nd (d_tup (da_cons d_int (da_cons d_int da_nil))))
      (dss_cons (ds_for rfl PassesOwn.never (di_it (d_var 4)) (dg_name 7 sc_law_without.nd) (dss_one (ds_set 6 sc_law_without.nd (d_calle C_law_plus hr h_law_plus (by rfl) (da_cons (d_var 6) (da_cons (d_var 7) da_nil))))))
      (dss_one (ds_set 4 sc_law_without.nd (d_op o_add (d_lst (da_cons (d_calle C_law_mul hr h_law_mul (by rfl) (da_cons (d_var 6) (da_cons (d_var 3) da_nil))) da_nil)) (d_lc (own := [("chance", 7)]) rfl sc_law_without.nd (di_it (d_sl s_cut (d_var 4) dp_no (dp_at (d_un u_neg d_int)))) (L2.blkOk_by (by rfl)) (fun _ _ _ _ _ => (dg_name 7 sc_law_without.nd)) (fun _ _ _ _ _ => dts_nil) (fun _ _ _ _ _ => (d_calle C_law_mul hr h_law_mul (by rfl) (da_cons (d_var 7) (da_cons (d_var 0) da_nil)))))))))))
      (dss_cons (ds_set 8 sc_law_without.nd (d_tup (da_cons d_int (da_cons d_int da_nil))))
      (dss_cons (ds_for rfl PassesOwn.never (di_it (d_var 4)) (dg_name 7 sc_law_without.nd) (dss_one (ds_set 8 sc_law_without.nd (d_calle C_law_plus hr h_law_plus (by rfl) (da_cons (d_var 8) (da_cons (d_var 7) da_nil))))))
      (dss_one (ds_ret (d_var 8))))))))) body
abbrev s_law_parted : Stmt := topS 39
theorem sc_law_parted : L2.FnScope ["many", "runs"] ["many", "runs"] (L2.defScope s_law_parted) := ⟨rfl, rfl, rfl, by decide +kernel, rfl, by decide +kernel, by decide +kernel⟩
theorem ok_law_parted {f : Addr} {fd : FuncData} {k : Nat} {sp : Spc} (F : L2.Fun K "_law_parted" "_law_parted" s_law_parted f fd) (hm : mg "_law_parted" = some (.ref f)) (m_int : mg "int" = none) {sp_law_ways : Spc} {k_law_ways : Nat} (C_law_ways : Callee P w K mg base "_law_ways" k_law_ways 2 sp_law_ways) (h_law_ways : k_law_ways ≤ k) (body : Body 2 2 (w_law_parted sp_law_ways) sp) : Callee P w K mg base "_law_parted" (k + 1) 2 sp :=
  callee_of F hm (F.binds (ps := ["many", "runs"]) fun _ _ _ _ _ _ us hl => match us, hl with | [_, _], _ => rfl) sc_law_parted rfl rfl (fun cdv A outer s H E hr => by
    unfold w_law_parted
    exact (dss_cons (ds_if (dt_cmp (c_eq hr) (d_var 1) d_int) (dss_one (ds_ret (d_callT b_int (by rfl) m_int (by decide +kernel) (da_cons (d_cmp (c_eq hr) (d_var 0) d_int) da_nil)))) dss_nil)
      (dss_one (ds_ret (d_op o_mul (d_calle C_law_ways hr h_law_ways (by rfl) (da_cons (d_op o_sub (d_var 0) d_int) (da_cons (d_op o_sub (d_var 1) d_int) da_nil))) (d_callT b_int (by rfl) m_int (by decide +kernel) (da_cons (d_cmp c_gt (d_var 0) d_int) da_nil))))))) body
abbrev s_law : Stmt := topS 40
theorem sc_law : L2.FnScope ["script", "draws", "p", "row", "sign", "k", "n", "size", "due", "heads", "tails", "told", "many", "first", "second", "wait", "j", "change"] ["script"] (L2.defScope s_law) := ⟨rfl, rfl, rfl, by decide +kernel, rfl, by decide +kernel, by decide +kernel⟩
theorem ok_law {f : Addr} {fd : FuncData} {k : Nat} {sp : Spc} (F : L2.Fun K "law" "law" s_law f fd) (hm : mg "law" = some (.ref f)) (m_tuple : mg "tuple" = none) (m_int : mg "int" = none) (m_max : mg "max" = none) (m_min : mg "min" = none) (m_range : mg "range" = none) (m_sum : mg "sum" = none) {sp_law_draws : Spc} {k_law_draws : Nat} (C_law_draws : Callee P w K mg base "_law_draws" k_law_draws 2 sp_law_draws) (h_law_draws : k_law_draws ≤ k) {sp_law_chance : Spc} {k_law_chance : Nat} (C_law_chance : Callee P w K mg base "_law_chance" k_law_chance 1 sp_law_chance) (h_law_chance : k_law_chance ≤ k) {sp_law_take : Spc} {k_law_take : Nat} (C_law_take : Callee P w K mg base "_law_take" k_law_take 2 sp_law_take) (h_law_take : k_law_take ≤ k) {sp_law_row : Spc} {k_law_row : Nat} (C_law_row : Callee P w K mg base "_law_row" k_law_row 2 sp_law_row) (h_law_row : k_law_row ≤ k) {sp_law_runs : Spc} {k_law_runs : Nat} (C_law_runs : Callee P w K mg base "_law_runs" k_law_runs 1 sp_law_runs) (h_law_runs : k_law_runs ≤ k) {sp_runs_of : Spc} {k_runs_of : Nat} (C_runs_of : Callee P w K mg base "runs_of" k_runs_of 1 sp_runs_of) (h_runs_of : k_runs_of ≤ k) {sp_law_same : Spc} {k_law_same : Nat} (C_law_same : Callee P w K mg base "_law_same" k_law_same 2 sp_law_same) (h_law_same : k_law_same ≤ k) {sp_law_longest : Spc} {k_law_longest : Nat} (C_law_longest : Callee P w K mg base "_law_longest" k_law_longest 2 sp_law_longest) (h_law_longest : k_law_longest ≤ k) {sp_longest : Spc} {k_longest : Nat} (C_longest : Callee P w K mg base "longest" k_longest 2 sp_longest) (h_longest : k_longest ≤ k) {sp_law_few : Spc} {k_law_few : Nat} (C_law_few : Callee P w K mg base "_law_few" k_law_few 3 sp_law_few) (h_law_few : k_law_few ≤ k) {sp_law_count : Spc} {k_law_count : Nat} (C_law_count : Callee P w K mg base "_law_count" k_law_count 2 sp_law_count) (h_law_count : k_law_count ≤ k) {sp_count_without : Spc} {k_count_without : Nat} (C_count_without : Callee P w K mg base "count_without" k_count_without 2 sp_count_without) (h_count_without : k_count_without ≤ k) {sp_law_without : Spc} {k_law_without : Nat} (C_law_without : Callee P w K mg base "_law_without" k_law_without 3 sp_law_without) (h_law_without : k_law_without ≤ k) {sp_chance_without : Spc} {k_chance_without : Nat} (C_chance_without : Callee P w K mg base "chance_without" k_chance_without 3 sp_chance_without) (h_chance_without : k_chance_without ≤ k) {sp_law_power : Spc} {k_law_power : Nat} (C_law_power : Callee P w K mg base "_law_power" k_law_power 2 sp_law_power) (h_law_power : k_law_power ≤ k) {sp_law_frac : Spc} {k_law_frac : Nat} (C_law_frac : Callee P w K mg base "_law_frac" k_law_frac 2 sp_law_frac) (h_law_frac : k_law_frac ≤ k) {sp_law_parted : Spc} {k_law_parted : Nat} (C_law_parted : Callee P w K mg base "_law_parted" k_law_parted 2 sp_law_parted) (h_law_parted : k_law_parted ≤ k) {sp_law_ways : Spc} {k_law_ways : Nat} (C_law_ways : Callee P w K mg base "_law_ways" k_law_ways 2 sp_law_ways) (h_law_ways : k_law_ways ≤ k) {sp_count_by_runs : Spc} {k_count_by_runs : Nat} (C_count_by_runs : Callee P w K mg base "count_by_runs" k_count_by_runs 3 sp_count_by_runs) (h_count_by_runs : k_count_by_runs ≤ k) {sp_law_plus : Spc} {k_law_plus : Nat} (C_law_plus : Callee P w K mg base "_law_plus" k_law_plus 2 sp_law_plus) (h_law_plus : k_law_plus ≤ k) {sp_mean_until : Spc} {k_mean_until : Nat} (C_mean_until : Callee P w K mg base "mean_until" k_mean_until 2 sp_mean_until) (h_mean_until : k_mean_until ≤ k) {sp_law_minus : Spc} {k_law_minus : Nat} (C_law_minus : Callee P w K mg base "_law_minus" k_law_minus 2 sp_law_minus) (h_law_minus : k_law_minus ≤ k) {sp_law_mul : Spc} {k_law_mul : Nat} (C_law_mul : Callee P w K mg base "_law_mul" k_law_mul 2 sp_law_mul) (h_law_mul : k_law_mul ≤ k) {sp_mean_runs : Spc} {k_mean_runs : Nat} (C_mean_runs : Callee P w K mg base "mean_runs" k_mean_runs 2 sp_mean_runs) (h_mean_runs : k_mean_runs ≤ k) (body : Body 18 1 (w_law sp_law_draws sp_law_chance sp_law_take sp_law_row sp_law_runs sp_runs_of sp_law_same sp_law_longest sp_longest sp_law_few sp_law_count sp_count_without sp_law_without sp_chance_without sp_law_power sp_law_frac sp_law_parted sp_law_ways sp_count_by_runs sp_law_plus sp_mean_until sp_law_minus sp_law_mul sp_mean_runs) sp) : L2.FnOk P w K mg base L2.CX0 (k + 1) f fd ["script"] (spOf K 1 sp) :=
  fn_body F sc_law rfl rfl (fun cdv A outer s H E hr => by
    unfold w_law
    exact (dss_cons (ds_set 1 sc_law.nd (d_calle C_law_draws hr h_law_draws (by rfl) (da_cons (d_var 0) (da_cons d_int da_nil))))
      (dss_cons (ds_set 2 sc_law.nd (d_calle C_law_chance hr h_law_chance (by rfl) (da_cons (d_var 1) da_nil)))
      (dss_cons (ds_for rfl PassesOwn.never (di_it (d_lst (da_cons (d_calle C_law_row hr h_law_row (by rfl) (da_cons (d_var 1) (da_cons (d_calle C_law_take hr h_law_take (by rfl) (da_cons (d_var 1) (da_cons d_int da_nil))) da_nil))) (da_cons (d_calle C_law_row hr h_law_row (by rfl) (da_cons (d_var 1) (da_cons (d_calle C_law_take hr h_law_take (by rfl) (da_cons (d_var 1) (da_cons d_int da_nil))) da_nil))) da_nil)))) (dg_name 3 sc_law.nd) (dss_cons (ds_if (dt_not (dt_val (d_calle C_law_same hr h_law_same (by rfl) (da_cons (d_calle C_runs_of hr h_runs_of (by rfl) (da_cons (d_var 3) da_nil)) (da_cons (d_callT b_tuple (by rfl) m_tuple (by decide +kernel) (da_cons (d_ix i_ix (d_calle C_law_runs hr h_law_runs (by rfl) (da_cons (d_var 3) da_nil)) d_int) da_nil)) da_nil))))) (dss_one (ds_ret d_bl)) dss_nil)
      (dss_one (ds_for rfl PassesOwn.never (di_itS d_str) (dg_name 4 sc_law.nd) (dss_one (ds_if (dt_not (dt_val (d_calle C_law_same hr h_law_same (by rfl) (da_cons (d_calle C_longest hr h_longest (by rfl) (da_cons (d_var 3) (da_cons (d_var 4) da_nil))) (da_cons (d_calle C_law_longest hr h_law_longest (by rfl) (da_cons (d_var 3) (da_cons (d_var 4) da_nil))) da_nil))))) (dss_one (ds_ret d_bl)) dss_nil))))))
      (dss_cons (ds_if (dt_not (dt_val (d_calle C_law_few hr h_law_few (by rfl) (da_cons (d_var 2) (da_cons (d_calle C_law_take hr h_law_take (by rfl) (da_cons (d_var 1) (da_cons (d_op o_add d_int (d_op o_mul d_int (d_callT b_int (by rfl) m_int (by decide +kernel) (da_cons (d_cmp (c_eq hr) (d_calle C_law_take hr h_law_take (by rfl) (da_cons (d_var 1) (da_cons d_int da_nil))) d_int) da_nil)))) da_nil))) (da_cons (d_op o_add d_int (d_calle C_law_take hr h_law_take (by rfl) (da_cons (d_var 1) (da_cons d_int da_nil)))) da_nil)))))) (dss_one (ds_ret d_bl)) dss_nil)
      (dss_cons (ds_set 5 sc_law.nd (d_op o_add d_int (d_calle C_law_take hr h_law_take (by rfl) (da_cons (d_var 1) (da_cons d_int da_nil)))))
      (dss_cons (ds_set 6 sc_law.nd (d_calle C_law_take hr h_law_take (by rfl) (da_cons (d_var 1) (da_cons (d_ix i_ix (d_lst (da_cons d_int (da_cons d_int da_nil))) (d_callT b_int (by rfl) m_int (by decide +kernel) (da_cons (d_cmp (c_eq hr) (d_calle C_law_take hr h_law_take (by rfl) (da_cons (d_var 1) (da_cons d_int da_nil))) d_int) da_nil))) da_nil))))
      (dss_cons (ds_for rfl PassesOwn.never (di_it (d_lst (da_cons (d_var 5) (da_cons (d_callB (b_max2 rfl) (by rfl) m_max (by decide +kernel) (da_cons (d_var 6) (da_cons d_int da_nil))) (da_cons (d_op o_add (d_var 6) d_int) da_nil))))) (dg_name 7 sc_law.nd) (dss_one (ds_if (dt_not (dt_val (d_calle C_law_same hr h_law_same (by rfl) (da_cons (d_calle C_count_without hr h_count_without (by rfl) (da_cons (d_var 6) (da_cons (d_var 7) da_nil))) (da_cons (d_calle C_law_count hr h_law_count (by rfl) (da_cons (d_var 6) (da_cons (d_var 7) da_nil))) da_nil))))) (dss_one (ds_ret d_bl)) dss_nil)))
      (dss_cons (ds_set 6 sc_law.nd (d_calle C_law_take hr h_law_take (by rfl) (da_cons (d_var 1) (da_cons (d_ix i_ix (d_lst (da_cons d_int (da_cons d_int da_nil))) (d_callT b_int (by rfl) m_int (by decide +kernel) (da_cons (d_cmp (c_eq hr) (d_calle C_law_take hr h_law_take (by rfl) (da_cons (d_var 1) (da_cons d_int da_nil))) d_int) da_nil))) da_nil))))
      (dss_cons (ds_if (dt_cmp c_gt (d_ix i_ix (d_var 2) d_int) d_int) (dss_one (ds_set 6 sc_law.nd (d_callB (b_min2 rfl) (by rfl) m_min (by decide +kernel) (da_cons (d_var 6) (da_cons d_int da_nil))))) dss_nil)
      (dss_cons (ds_set 8 sc_law.nd (d_calle C_law_without hr h_law_without (by rfl) (da_cons (d_var 2) (da_cons (d_var 6) (da_cons (d_var 5) da_nil)))))
      (dss_cons (ds_if (dt_not (dt_val (d_calle C_law_same hr h_law_same (by rfl) (da_cons (d_calle C_chance_without hr h_chance_without (by rfl) (da_cons (d_var 2) (da_cons (d_var 6) (da_cons (d_var 5) da_nil)))) (da_cons (d_var 8) da_nil))))) (dss_one (ds_ret d_bl)) dss_nil)
      (dss_cons (ds_if (PW.pt (dw_and (dt_cmp (c_eq hr) (d_var 2) (d_tup (da_cons d_int (da_cons d_int da_nil)))) (dw_and1 (dt_cmp (c_ne hr) (d_var 8) (d_calle C_law_frac hr h_law_frac (by rfl) (da_cons (d_calle C_law_count hr h_law_count (by rfl) (da_cons (d_var 6) (da_cons (d_var 5) da_nil))) (da_cons (d_ix i_ix (d_calle C_law_power hr h_law_power (by rfl) (da_cons (d_tup (da_cons d_int (da_cons d_int da_nil))) (da_cons (d_var 6) da_nil))) d_int) da_nil))))))) (dss_one (ds_ret d_bl)) dss_nil)
      (dss_cons (ds_set 9 sc_law.nd (d_calle C_law_take hr h_law_take (by rfl) (da_cons (d_var 1) (da_cons d_int da_nil))))
      (dss_cons (ds_set 10 sc_law.nd (d_calle C_law_take hr h_law_take (by rfl) (da_cons (d_var 1) (da_cons d_int da_nil))))
      (dss_cons (ds_set 11 sc_law.nd (d_lst da_nil))
      (dss_cons (ds_for rfl PassesOwn.never (di_r1 (by rfl) m_range (d_op o_add (d_op o_add (d_var 9) (d_var 10)) d_int)) (dg_name 12 sc_law.nd) (dss_cons (ds_set 13 sc_law.nd (d_op o_mul (d_calle C_law_parted hr h_law_parted (by rfl) (da_cons (d_var 9) (da_cons (d_op o_div (d_op o_add (d_var 12) d_int) d_int) da_nil))) (d_calle C_law_parted hr h_law_parted (by rfl) (da_cons (d_var 10) (da_cons (d_op o_div (d_var 12) d_int) da_nil)))))
      (dss_cons (ds_set 14 sc_law.nd (d_op o_mul (d_calle C_law_parted hr h_law_parted (by rfl) (da_cons (d_var 10) (da_cons (d_op o_div (d_op o_add (d_var 12) d_int) d_int) da_nil))) (d_calle C_law_parted hr h_law_parted (by rfl) (da_cons (d_var 9) (da_cons (d_op o_div (d_var 12) d_int) da_nil)))))
      (dss_one (ds_expr (d_m PySem.F.slot_list_append PySem.F.type_list_append m_append (d_var 11) (da_cons (d_op o_add (d_var 13) (d_var 14)) da_nil)))))))
      (dss_cons (ds_if (dt_cmp (c_eq hr) (d_op o_add (d_var 9) (d_var 10)) d_int) (dss_one (ds_set 11 sc_law.nd (d_lst (da_cons d_int da_nil)))) dss_nil)
      (dss_cons (ds_if (dt_cmp (c_ne hr) (d_callB (b_sum rfl) (by rfl) m_sum (by decide +kernel) (da_cons (d_var 11) da_nil)) (d_calle C_law_ways hr h_law_ways (by rfl) (da_cons (d_op o_add (d_var 9) (d_var 10)) (da_cons (d_var 9) da_nil)))) (dss_one (ds_ret d_bl)) dss_nil)
      (dss_cons (ds_for rfl PassesOwn.never (di_it (d_lst (da_cons d_int (da_cons d_int (da_cons d_int (da_cons (d_op o_add (d_var 9) (d_var 10)) (da_cons (d_calle C_law_take hr h_law_take (by rfl) (da_cons (d_var 1) (da_cons (d_op o_add (d_op o_add (d_var 9) (d_var 10)) d_int) da_nil))) (da_cons (d_calle C_law_take hr h_law_take (by rfl) (da_cons (d_var 1) (da_cons d_int da_nil))) (da_cons (d_op o_add (d_op o_add (d_var 9) (d_var 10)) d_int) da_nil))))))))) (dg_name 12 sc_law.nd) (dss_one (ds_if (dt_not (dt_val (d_calle C_law_same hr h_law_same (by rfl) (da_cons (d_calle C_count_by_runs hr h_count_by_runs (by rfl) (da_cons (d_var 9) (da_cons (d_var 10) (da_cons (d_var 12) da_nil)))) (da_cons (d_ix i_ix (d_op o_add (d_var 11) (d_op o_mul (d_lst (da_cons d_int da_nil)) d_int)) (d_var 12)) da_nil))))) (dss_one (ds_ret d_bl)) dss_nil)))
      (dss_cons (ds_if (dt_cmp c_gt (d_ix i_ix (d_var 2) d_int) d_int) (dss_cons (ds_set 7 sc_law.nd (d_calle C_law_take hr h_law_take (by rfl) (da_cons (d_var 1) (da_cons d_int da_nil))))
      (dss_cons (ds_set 15 sc_law.nd (d_tup (da_cons d_int (da_cons d_int da_nil))))
      (dss_cons (ds_for rfl PassesOwn.never (di_r1 (by rfl) m_range (d_var 7)) (dg_name 16 sc_law.nd) (dss_cons (ds_set 15 sc_law.nd (d_calle C_law_plus hr h_law_plus (by rfl) (da_cons (d_var 15) (da_cons (d_tup (da_cons d_int (da_cons d_int da_nil))) da_nil))))
      (dss_one (ds_set 15 sc_law.nd (d_calle C_law_frac hr h_law_frac (by rfl) (da_cons (d_op o_mul (d_ix i_ix (d_var 15) d_int) (d_ix i_ix (d_var 2) d_int)) (da_cons (d_op o_mul (d_ix i_ix (d_var 15) d_int) (d_ix i_ix (d_var 2) d_int)) da_nil)))))))
      (dss_one (ds_if (dt_not (dt_val (d_calle C_law_same hr h_law_same (by rfl) (da_cons (d_calle C_mean_until hr h_mean_until (by rfl) (da_cons (d_var 2) (da_cons (d_var 7) da_nil))) (da_cons (d_var 15) da_nil))))) (dss_one (ds_ret d_bl)) dss_nil))))) dss_nil)
      (dss_cons (ds_set 12 sc_law.nd (d_op o_add d_int (d_calle C_law_take hr h_law_take (by rfl) (da_cons (d_var 1) (da_cons d_int da_nil)))))
      (dss_cons (ds_set 17 sc_law.nd (d_calle C_law_mul hr h_law_mul (by rfl) (da_cons (d_calle C_law_mul hr h_law_mul (by rfl) (da_cons (d_var 2) (da_cons (d_calle C_law_minus hr h_law_minus (by rfl) (da_cons (d_tup (da_cons d_int (da_cons d_int da_nil))) (da_cons (d_var 2) da_nil))) da_nil))) (da_cons (d_tup (da_cons (d_op o_mul d_int (d_op o_sub (d_var 12) d_int)) (da_cons d_int da_nil))) da_nil))))
      (dss_cons (ds_if (PW.pt (dw_or (dt_not (dt_val (d_calle C_law_same hr h_law_same (by rfl) (da_cons (d_calle C_mean_runs hr h_mean_runs (by rfl) (da_cons (d_var 2) (da_cons (d_var 12) da_nil))) (da_cons (d_calle C_law_plus hr h_law_plus (by rfl) (da_cons (d_tup (da_cons d_int (da_cons d_int da_nil))) (da_cons (d_var 17) da_nil))) da_nil))))) (dw_or1 (dt_not (dt_val (d_calle C_law_same hr h_law_same (by rfl) (da_cons (d_calle C_mean_runs hr h_mean_runs (by rfl) (da_cons (d_var 2) (da_cons d_int da_nil))) (da_cons (d_tup (da_cons d_int (da_cons d_int da_nil))) da_nil)))))))) (dss_one (ds_ret d_bl)) dss_nil)
      (dss_cons (ds_if (PW.pt (dw_or (dt_not (dt_val (d_calle C_law_same hr h_law_same (by rfl) (da_cons (d_calle C_count_without hr h_count_without (by rfl) (da_cons d_int (da_cons d_int da_nil))) (da_cons d_int da_nil))))) (dw_or (dt_not (dt_val (d_calle C_law_same hr h_law_same (by rfl) (da_cons (d_calle C_mean_until hr h_mean_until (by rfl) (da_cons (d_tup (da_cons d_int (da_cons d_int da_nil))) (da_cons d_int da_nil))) (da_cons (d_tup (da_cons d_int (da_cons d_int da_nil))) da_nil))))) (dw_or1 (dt_not (dt_val (d_calle C_law_same hr h_law_same (by rfl) (da_cons (d_calle C_count_by_runs hr h_count_by_runs (by rfl) (da_cons d_int (da_cons d_int (da_cons d_int da_nil)))) (da_cons d_int da_nil))))))))) (dss_one (ds_ret d_bl)) dss_nil)
      (dss_one (ds_ret (d_and (d_calle C_law_same hr h_law_same (by rfl) (da_cons (d_calle C_runs_of hr h_runs_of (by rfl) (da_cons d_str da_nil)) (da_cons (d_tup (da_cons d_int (da_cons d_int (da_cons d_int da_nil)))) da_nil))) (d_and (d_calle C_law_same hr h_law_same (by rfl) (da_cons (d_calle C_longest hr h_longest (by rfl) (da_cons d_str (da_cons d_str da_nil))) (da_cons d_int da_nil))) (d_one (d_calle C_law_same hr h_law_same (by rfl) (da_cons (d_calle C_chance_without hr h_chance_without (by rfl) (da_cons (d_var 2) (da_cons (d_var 6) (da_cons (d_var 5) da_nil)))) (da_cons (d_var 8) da_nil))))))))))))))))))))))))))))))))) body
end
end K94
set_option linter.all false
set_option maxRecDepth 100000
set_option maxHeartbeats 4000000
namespace K94
open DL
@[reducible] def sp_take : Spc := fun ds S Q => ∃ n many, ds = [.ref n, .int many] ∧ 0 < many ∧ Dr n S ∧ ∀ r S', 0 ≤ r → r < many → Dr n S' → Ch n S S' → Q (.int r) S'
theorem body_law_take : Body 2 2 w_law_take sp_take := by
  rintro ds S Q _ ⟨n, many, rfl, hm, ⟨ns, hS⟩, k⟩
  unfold w_law_take
  (simp only [start, List.map_cons, List.map_nil, List.length_cons, List.length_nil, Nat.reduceAdd, Nat.reduceSub, List.replicate_succ, List.replicate_zero, List.cons_append, List.nil_append, Nat.sub_self, Nat.zero_add])
  ((with_reducible conv => whnf); repeat (first | (refine And.intro (okII _ _) ?_; rw [eqD_ii]; with_reducible conv => whnf) | (refine And.intro (by first | assumption | exact Exists.intro _ (by assumption) | exact ⟨rfl, rfl, by decide, by decide⟩ | exact Nat.le_of_ble_eq_true rfl | exact rfl) ?_; with_reducible conv => whnf) | (rw [isLst_at (by assumption)]; with_reducible conv => whnf) | (refine ifT rfl ?_; with_reducible conv => whnf) | (refine ifF rfl ?_; with_reducible conv => whnf) | (refine it_at (by assumption) ?_; with_reducible conv => whnf)))
  refine ite_d (fun hc => k 0 S (Int.le_refl _) hm ⟨ns, hS⟩ (Ch.refl _ _)) fun hc => ?_
  ((with_reducible conv => whnf); repeat (first | (refine And.intro (okII _ _) ?_; rw [eqD_ii]; with_reducible conv => whnf) | (refine And.intro (by first | assumption | exact Exists.intro _ (by assumption) | exact ⟨rfl, rfl, by decide, by decide⟩ | exact Nat.le_of_ble_eq_true rfl | exact rfl) ?_; with_reducible conv => whnf) | (rw [isLst_at (by assumption)]; with_reducible conv => whnf) | (refine ifT rfl ?_; with_reducible conv => whnf) | (refine ifF rfl ?_; with_reducible conv => whnf) | (refine it_at (by assumption) ?_; with_reducible conv => whnf)))
  have hl : 0 < ns.length := by
    rw [List.length_map] at hc
    omega
  refine ⟨.int ns[ns.length - 1], ?_, ?_⟩
  · rw [List.length_map]
    exact intD_at (List.getElem?_eq_getElem (by omega))
  · ((with_reducible conv => whnf); repeat (first | (refine And.intro (okII _ _) ?_; rw [eqD_ii]; with_reducible conv => whnf) | (refine And.intro (by first | assumption | exact Exists.intro _ (by assumption) | exact ⟨rfl, rfl, by decide, by decide⟩ | exact Nat.le_of_ble_eq_true rfl | exact rfl) ?_; with_reducible conv => whnf) | (rw [isLst_at (by assumption)]; with_reducible conv => whnf) | (refine ifT rfl ?_; with_reducible conv => whnf) | (refine ifF rfl ?_; with_reducible conv => whnf) | (refine it_at (by assumption) ?_; with_reducible conv => whnf)))
    obtain ⟨h0, h1⟩ := fmod_lt (a := ns[ns.length - 1]) hm
    refine ⟨by omega, k _ _ h0 h1 ⟨ns.dropLast, ?_⟩ (Ch.set _ _)⟩
    rw [at_set hS, ← List.map_dropLast]
@[reducible] def sp_draws : Spc := fun ds S Q => ∃ ns many, ds = [.rol (intD ns), .int many] ∧ ns.length ≤ 63 ∧ 0 ≤ many ∧ many ≤ 1000 ∧ ∀ n S', Dr n S' → Sub S S' → S.length ≤ n → Q (.ref n) S'
theorem body_law_draws : Body 9 2 w_law_draws sp_draws := by
  rintro ds S Q _ ⟨ns, many, rfl, hl, hm, hm2, k⟩
  unfold w_law_draws
  (simp only [start, List.map_cons, List.map_nil, List.length_cons, List.length_nil, Nat.reduceAdd, Nat.reduceSub, List.replicate_succ, List.replicate_zero, List.cons_append, List.nil_append, Nat.sub_self, Nat.zero_add])
  ((with_reducible conv => whnf); repeat (first | (refine And.intro (okII _ _) ?_; rw [eqD_ii]; with_reducible conv => whnf) | (refine And.intro (by first | assumption | exact Exists.intro _ (by assumption) | exact ⟨rfl, rfl, by decide, by decide⟩ | exact Nat.le_of_ble_eq_true rfl | exact rfl) ?_; with_reducible conv => whnf) | (rw [isLst_at (by assumption)]; with_reducible conv => whnf) | (refine ifT rfl ?_; with_reducible conv => whnf) | (refine ifF rfl ?_; with_reducible conv => whnf) | (refine it_at (by assumption) ?_; with_reducible conv => whnf)))
  refine Lc_fun (fun d => some d) ?_ (fun _ _ => trivial) (fun i d S' R hi hs hR => ?_) fun S1 hs1 => ?_
  · rw [List.length_map]; unfold szL; omega
  · obtain ⟨x, _, rfl⟩ := intD_get hi
    ((with_reducible conv => whnf); repeat (first | (refine And.intro (okII _ _) ?_; rw [eqD_ii]; with_reducible conv => whnf) | (refine And.intro (by first | assumption | exact Exists.intro _ (by assumption) | exact ⟨rfl, rfl, by decide, by decide⟩ | exact Nat.le_of_ble_eq_true rfl | exact rfl) ?_; with_reducible conv => whnf) | (rw [isLst_at (by assumption)]; with_reducible conv => whnf) | (refine ifT rfl ?_; with_reducible conv => whnf) | (refine ifF rfl ?_; with_reducible conv => whnf) | (refine it_at (by assumption) ?_; with_reducible conv => whnf)))
    exact hR _ (Sub.refl _)
  rw [List.filterMap_some]
  have h2 := at_push S1 (.lst (intD ns))
  have hS1 := hs1.app [.lst (intD ns)]
  have hln : S.length ≤ S1.length := by
    false_or_by_contra
    rename_i hc
    cases S with
    | nil => simp at hc
    | cons o r =>
      have := at_lt (hs1 ((o :: r).length - 1) _ (List.getElem?_eq_getElem (by simp)))
      simp at this hc
      omega
  generalize hm0 : S1.length = m0 at *
  generalize S1 ++ [.lst (intD ns)] = S2 at *
  -- from here: cells cs at m0
  have main : ∀ (cs : List Int) S3, 0 < cs.length → cs.length ≤ 63 → S3[m0]? = some (.lst (intD cs)) → Sub S S3 → sSeq (sAsg (wB rList (wCons (wVar 2) wNil)) (gN 4))
    (sSeq (sAsg (wLst wNil) (gN 5))
    (sSeq (sFor (wR1 (wVar 1)) (gN 6) (sSeq (sAsg (wOp rMod (wVar 6) (wB rLen (wCons (wVar 2) wNil))) (gN 7))
    (sIf (wtAnd (wtVal (wOp rGe (wOp rIx (wVar 2) (wVar 7)) (wOp rPow (wC (.int 10)) (wC (.int 18))))) (wtVal (wOp rGt (wOp rIx (wVar 4) (wVar 7)) (wC (.int 0))))) (sSeq (sDrop (wM rAppend (wVar 5) (wCons (wOp rMod (wB rInt (wCons (wOp rIx (wVar 4) (wVar 7)) wNil)) (wC (.int 1000))) wNil)))
    (sSub rPut (wOp rDiv (wOp rIx (wVar 4) (wVar 7)) (wC (.int 1000))) (wVar 4) (wVar 7))) (sSeq (sAsg (wOp rMod (wB rInt (wCons (wOp rAdd (wOp rAdd (wOp rMul (wOp rIx (wVar 2) (wVar 7)) (wC (.int 48271))) (wOp rMul (wVar 6) (wC (.int 69621)))) (wC (.int 11))) wNil)) (wC (.int 2147483647))) (gN 8))
    (sDrop (wM rAppend (wVar 5) (wCons (wOp rMod (wB rInt (wCons (wOp rAdd (wOp rAdd (wOp rMul (wVar 8) (wVar 8)) (wOp rMul (wC (.int 3)) (wVar 8))) (wVar 6)) wNil)) (wC (.int 1000003))) wNil)))))))
    (sSeq (sDrop (wM0 rReverse (wVar 5)))
    (sRet (wVar 5))))) { nx := fun x S' => Q D.non S', rt := Q, bk := fun x x_1 => False, ct := fun x x_1 => False } [some (.rol (intD ns)), some (.int many), some (.ref m0), none, none, none, none, none, none] S3 := by
    intro cs S3 hc0 hc1 e3 s3
    ((with_reducible conv => whnf); repeat (first | (refine And.intro (okII _ _) ?_; rw [eqD_ii]; with_reducible conv => whnf) | (refine And.intro (by first | assumption | exact Exists.intro _ (by assumption) | exact ⟨rfl, rfl, by decide, by decide⟩ | exact Nat.le_of_ble_eq_true rfl | exact rfl) ?_; with_reducible conv => whnf) | (rw [isLst_at (by assumption)]; with_reducible conv => whnf) | (refine ifT rfl ?_; with_reducible conv => whnf) | (refine ifF rfl ?_; with_reducible conv => whnf) | (refine it_at (by assumption) ?_; with_reducible conv => whnf)))
    refine ⟨⟨by omega, by omega⟩, ?_⟩
    have e4 := push_at e3 [.lst (intD cs)]
    have e5 := at_push S3 (.lst (intD cs))
    have s4 := s3.app [.lst (intD cs)]
    have l3 := at_lt e3
    generalize hm4 : S3.length = m4 at *
    have hm5 : (S3 ++ [O.lst (intD cs)]).length = m4 + 1 := by simp [hm4]
    generalize S3 ++ [.lst (intD cs)] = S4 at *
    have e6 := push_at e4 [.lst []]
    have e7 := push_at e5 [.lst []]
    have e8 := at_push S4 (.lst [])
    have s5 := s4.app [.lst []]
    rw [hm5] at e8 ⊢
    generalize S4 ++ [.lst []] = S5 at *
    refine Loop_mk (fun i ρ S' => ∃ o6 o7 o8 rs ws, ρ = [some (.rol (intD ns)), some (.int many), some (.ref m0), none, some (.ref m4), some (.ref (m4 + 1)), o6, o7, o8] ∧ S'[m0]? = some (.lst (intD cs)) ∧ S'[m4]? = some (.lst (intD rs)) ∧ rs.length = cs.length ∧ S'[m4 + 1]? = some (.lst (intD ws)) ∧ ws.length = i ∧ Sub S S') ?_ ?_ ?_ ?_
    · exact ⟨none, none, none, cs, [], rfl, e6, e7, rfl, e8, rfl, s5⟩
    · intros; trivial
    · rintro i d ρ' S' hi ⟨o6, o7, o8, rs, ws, rfl, f0, f1, f2, f3, f4, f5⟩
      obtain ⟨hi1, rfl⟩ := rangeD_get hi
      ((with_reducible conv => whnf); repeat (first | (refine And.intro (okII _ _) ?_; rw [eqD_ii]; with_reducible conv => whnf) | (refine And.intro (by first | assumption | exact Exists.intro _ (by assumption) | exact ⟨rfl, rfl, by decide, by decide⟩ | exact Nat.le_of_ble_eq_true rfl | exact rfl) ?_; with_reducible conv => whnf) | (rw [isLst_at (by assumption)]; with_reducible conv => whnf) | (refine ifT rfl ?_; with_reducible conv => whnf) | (refine ifF rfl ?_; with_reducible conv => whnf) | (refine it_at (by assumption) ?_; with_reducible conv => whnf)))
      have hz : ((intD cs).length : Int) ≠ 0 := by rw [List.length_map]; omega
      have hz0 : (0 : Int) < ((intD cs).length : Int) := by rw [List.length_map]; omega
      obtain ⟨g0, g1⟩ := fmod_lt (a := 0 + (i : Int)) hz0
      refine ⟨hz, ?_⟩
      generalize hat : (0 + (i : Int)).fmod ((intD cs).length : Int) = at' at *
      rw [List.length_map] at g1
      ((with_reducible conv => whnf); repeat (first | (refine And.intro (okII _ _) ?_; rw [eqD_ii]; with_reducible conv => whnf) | (refine And.intro (by first | assumption | exact Exists.intro _ (by assumption) | exact ⟨rfl, rfl, by decide, by decide⟩ | exact Nat.le_of_ble_eq_true rfl | exact rfl) ?_; with_reducible conv => whnf) | (rw [isLst_at (by assumption)]; with_reducible conv => whnf) | (refine ifT rfl ?_; with_reducible conv => whnf) | (refine ifF rfl ?_; with_reducible conv => whnf) | (refine it_at (by assumption) ?_; with_reducible conv => whnf)))
      refine ⟨_, atZ_intD g0 g1, ?_⟩
      ((with_reducible conv => whnf); repeat (first | (refine And.intro (okII _ _) ?_; rw [eqD_ii]; with_reducible conv => whnf) | (refine And.intro (by first | assumption | exact Exists.intro _ (by assumption) | exact ⟨rfl, rfl, by decide, by decide⟩ | exact Nat.le_of_ble_eq_true rfl | exact rfl) ?_; with_reducible conv => whnf) | (rw [isLst_at (by assumption)]; with_reducible conv => whnf) | (refine ifT rfl ?_; with_reducible conv => whnf) | (refine ifF rfl ?_; with_reducible conv => whnf) | (refine it_at (by assumption) ?_; with_reducible conv => whnf)))
      refine ⟨⟨by omega, by omega, by decide⟩, ?_⟩
      ((with_reducible conv => whnf); repeat (first | (refine And.intro (okII _ _) ?_; rw [eqD_ii]; with_reducible conv => whnf) | (refine And.intro (by first | assumption | exact Exists.intro _ (by assumption) | exact ⟨rfl, rfl, by decide, by decide⟩ | exact Nat.le_of_ble_eq_true rfl | exact rfl) ?_; with_reducible conv => whnf) | (rw [isLst_at (by assumption)]; with_reducible conv => whnf) | (refine ifT rfl ?_; with_reducible conv => whnf) | (refine ifF rfl ?_; with_reducible conv => whnf) | (refine it_at (by assumption) ?_; with_reducible conv => whnf)))
      have push : ∀ (c : Int) o7 o8 rs, S'[m4]? = some (.lst (intD rs)) → rs.length = cs.length → ∀ S6, S6 = S'.set (m4 + 1) (.lst (intD (ws ++ [c]))) → ∃ o6' o7' o8' rs' ws', [some (D.rol (intD ns)), some (D.int many), some (D.ref m0), none, some (D.ref m4), some (D.ref (m4 + 1)), some (.int (0 + i)), o7, o8] =
          [some (D.rol (intD ns)), some (D.int many), some (D.ref m0), none, some (D.ref m4), some (D.ref (m4 + 1)), o6', o7', o8'] ∧ S6[m0]? = some (.lst (intD cs)) ∧ S6[m4]? = some (.lst (intD rs')) ∧ rs'.length = cs.length ∧ S6[m4 + 1]? = some (.lst (intD ws')) ∧ ws'.length = i + 1 ∧ Sub S S6 := by
        rintro c o7 o8 rs q1 q2 S6 rfl
        refine ⟨_, _, _, rs, ws ++ [c], rfl, ?_, ?_, q2, ?_, by simp [f4], f5.put (by omega)⟩
        · rw [at_set_ne (by omega), f0]
        · rw [at_set_ne (by omega), q1]
        · rw [at_set f3]
      have hw : (intD ws).length < szL := by rw [List.length_map]; unfold szL; omega
      have hw2 : ∀ c : Int, intD ws ++ [D.int c] = intD (ws ++ [c]) := fun c => by simp [intD]
      refine ite_i (fun hc => ?_) fun hc => ?_
      · ((with_reducible conv => whnf); repeat (first | (refine And.intro (okII _ _) ?_; rw [eqD_ii]; with_reducible conv => whnf) | (refine And.intro (by first | assumption | exact Exists.intro _ (by assumption) | exact ⟨rfl, rfl, by decide, by decide⟩ | exact Nat.le_of_ble_eq_true rfl | exact rfl) ?_; with_reducible conv => whnf) | (rw [isLst_at (by assumption)]; with_reducible conv => whnf) | (refine ifT rfl ?_; with_reducible conv => whnf) | (refine ifF rfl ?_; with_reducible conv => whnf) | (refine it_at (by assumption) ?_; with_reducible conv => whnf)))
        refine ⟨_, atZ_intD g0 (by rw [f2]; exact g1), ?_⟩
        ((with_reducible conv => whnf); repeat (first | (refine And.intro (okII _ _) ?_; rw [eqD_ii]; with_reducible conv => whnf) | (refine And.intro (by first | assumption | exact Exists.intro _ (by assumption) | exact ⟨rfl, rfl, by decide, by decide⟩ | exact Nat.le_of_ble_eq_true rfl | exact rfl) ?_; with_reducible conv => whnf) | (rw [isLst_at (by assumption)]; with_reducible conv => whnf) | (refine ifT rfl ?_; with_reducible conv => whnf) | (refine ifF rfl ?_; with_reducible conv => whnf) | (refine it_at (by assumption) ?_; with_reducible conv => whnf)))
        refine ite_d (fun hc2 => ?_) fun hc2 => ?_
        · ((with_reducible conv => whnf); repeat (first | (refine And.intro (okII _ _) ?_; rw [eqD_ii]; with_reducible conv => whnf) | (refine And.intro (by first | assumption | exact Exists.intro _ (by assumption) | exact ⟨rfl, rfl, by decide, by decide⟩ | exact Nat.le_of_ble_eq_true rfl | exact rfl) ?_; with_reducible conv => whnf) | (rw [isLst_at (by assumption)]; with_reducible conv => whnf) | (refine ifT rfl ?_; with_reducible conv => whnf) | (refine ifF rfl ?_; with_reducible conv => whnf) | (refine it_at (by assumption) ?_; with_reducible conv => whnf)))
          refine ⟨_, atZ_intD g0 (by rw [f2]; exact g1), ?_⟩
          ((with_reducible conv => whnf); repeat (first | (refine And.intro (okII _ _) ?_; rw [eqD_ii]; with_reducible conv => whnf) | (refine And.intro (by first | assumption | exact Exists.intro _ (by assumption) | exact ⟨rfl, rfl, by decide, by decide⟩ | exact Nat.le_of_ble_eq_true rfl | exact rfl) ?_; with_reducible conv => whnf) | (rw [isLst_at (by assumption)]; with_reducible conv => whnf) | (refine ifT rfl ?_; with_reducible conv => whnf) | (refine ifF rfl ?_; with_reducible conv => whnf) | (refine it_at (by assumption) ?_; with_reducible conv => whnf)))
          refine ⟨by decide, ?_⟩
          ((with_reducible conv => whnf); repeat (first | (refine And.intro (okII _ _) ?_; rw [eqD_ii]; with_reducible conv => whnf) | (refine And.intro (by first | assumption | exact Exists.intro _ (by assumption) | exact ⟨rfl, rfl, by decide, by decide⟩ | exact Nat.le_of_ble_eq_true rfl | exact rfl) ?_; with_reducible conv => whnf) | (rw [isLst_at (by assumption)]; with_reducible conv => whnf) | (refine ifT rfl ?_; with_reducible conv => whnf) | (refine ifF rfl ?_; with_reducible conv => whnf) | (refine it_at (by assumption) ?_; with_reducible conv => whnf)))
          rw [hw2]
          have q4 : (S'.set (m4 + 1) (.lst (intD (ws ++ [(rs.getD at'.toNat 0).fmod 1000]))))[m4]? = some (.lst (intD rs)) := by rw [at_set_ne (by omega), f1]
          ((with_reducible conv => whnf); repeat (first | (refine And.intro (okII _ _) ?_; rw [eqD_ii]; with_reducible conv => whnf) | (refine And.intro (by first | assumption | exact Exists.intro _ (by assumption) | exact ⟨rfl, rfl, by decide, by decide⟩ | exact Nat.le_of_ble_eq_true rfl | exact rfl) ?_; with_reducible conv => whnf) | (rw [isLst_at (by assumption)]; with_reducible conv => whnf) | (refine ifT rfl ?_; with_reducible conv => whnf) | (refine ifF rfl ?_; with_reducible conv => whnf) | (refine it_at (by assumption) ?_; with_reducible conv => whnf)))
          refine ⟨_, atZ_intD g0 (by rw [f2]; exact g1), ?_⟩
          ((with_reducible conv => whnf); repeat (first | (refine And.intro (okII _ _) ?_; rw [eqD_ii]; with_reducible conv => whnf) | (refine And.intro (by first | assumption | exact Exists.intro _ (by assumption) | exact ⟨rfl, rfl, by decide, by decide⟩ | exact Nat.le_of_ble_eq_true rfl | exact rfl) ?_; with_reducible conv => whnf) | (rw [isLst_at (by assumption)]; with_reducible conv => whnf) | (refine ifT rfl ?_; with_reducible conv => whnf) | (refine ifF rfl ?_; with_reducible conv => whnf) | (refine it_at (by assumption) ?_; with_reducible conv => whnf)))
          refine ⟨⟨by decide, by decide⟩, ?_⟩
          ((with_reducible conv => whnf); repeat (first | (refine And.intro (okII _ _) ?_; rw [eqD_ii]; with_reducible conv => whnf) | (refine And.intro (by first | assumption | exact Exists.intro _ (by assumption) | exact ⟨rfl, rfl, by decide, by decide⟩ | exact Nat.le_of_ble_eq_true rfl | exact rfl) ?_; with_reducible conv => whnf) | (rw [isLst_at (by assumption)]; with_reducible conv => whnf) | (refine ifT rfl ?_; with_reducible conv => whnf) | (refine ifF rfl ?_; with_reducible conv => whnf) | (refine it_at (by assumption) ?_; with_reducible conv => whnf)))
          refine ⟨_, ixZ_ok g0 (by rw [List.length_map, f2]; exact g1), ?_⟩
          ((with_reducible conv => whnf); repeat (first | (refine And.intro (okII _ _) ?_; rw [eqD_ii]; with_reducible conv => whnf) | (refine And.intro (by first | assumption | exact Exists.intro _ (by assumption) | exact ⟨rfl, rfl, by decide, by decide⟩ | exact Nat.le_of_ble_eq_true rfl | exact rfl) ?_; with_reducible conv => whnf) | (rw [isLst_at (by assumption)]; with_reducible conv => whnf) | (refine ifT rfl ?_; with_reducible conv => whnf) | (refine ifF rfl ?_; with_reducible conv => whnf) | (refine it_at (by assumption) ?_; with_reducible conv => whnf)))
          rw [intD_set]
          obtain ⟨a1, a2, a3, a4, a5, a6, a7, a8, a9, a10, a11, a12⟩ := push ((rs.getD at'.toNat 0).fmod 1000) (some (.int at')) o8 rs f1 f2 _ rfl
          refine ⟨_, _, _, rs.set at'.toNat _, a5, rfl, ?_, at_set a8, by rw [List.length_set, f2], ?_, a11, a12.put (by omega)⟩
          · rw [at_set_ne (by omega), a7]
          · rw [at_set_ne (by omega), a10]
        · ((with_reducible conv => whnf); repeat (first | (refine And.intro (okII _ _) ?_; rw [eqD_ii]; with_reducible conv => whnf) | (refine And.intro (by first | assumption | exact Exists.intro _ (by assumption) | exact ⟨rfl, rfl, by decide, by decide⟩ | exact Nat.le_of_ble_eq_true rfl | exact rfl) ?_; with_reducible conv => whnf) | (rw [isLst_at (by assumption)]; with_reducible conv => whnf) | (refine ifT rfl ?_; with_reducible conv => whnf) | (refine ifF rfl ?_; with_reducible conv => whnf) | (refine it_at (by assumption) ?_; with_reducible conv => whnf)))
          refine ⟨_, atZ_intD g0 g1, ?_⟩
          ((with_reducible conv => whnf); repeat (first | (refine And.intro (okII _ _) ?_; rw [eqD_ii]; with_reducible conv => whnf) | (refine And.intro (by first | assumption | exact Exists.intro _ (by assumption) | exact ⟨rfl, rfl, by decide, by decide⟩ | exact Nat.le_of_ble_eq_true rfl | exact rfl) ?_; with_reducible conv => whnf) | (rw [isLst_at (by assumption)]; with_reducible conv => whnf) | (refine ifT rfl ?_; with_reducible conv => whnf) | (refine ifF rfl ?_; with_reducible conv => whnf) | (refine it_at (by assumption) ?_; with_reducible conv => whnf)))
          refine ⟨smallMul (by decide), ?_⟩
          ((with_reducible conv => whnf); repeat (first | (refine And.intro (okII _ _) ?_; rw [eqD_ii]; with_reducible conv => whnf) | (refine And.intro (by first | assumption | exact Exists.intro _ (by assumption) | exact ⟨rfl, rfl, by decide, by decide⟩ | exact Nat.le_of_ble_eq_true rfl | exact rfl) ?_; with_reducible conv => whnf) | (rw [isLst_at (by assumption)]; with_reducible conv => whnf) | (refine ifT rfl ?_; with_reducible conv => whnf) | (refine ifF rfl ?_; with_reducible conv => whnf) | (refine it_at (by assumption) ?_; with_reducible conv => whnf)))
          refine ⟨smallMul (by decide), ?_⟩
          ((with_reducible conv => whnf); repeat (first | (refine And.intro (okII _ _) ?_; rw [eqD_ii]; with_reducible conv => whnf) | (refine And.intro (by first | assumption | exact Exists.intro _ (by assumption) | exact ⟨rfl, rfl, by decide, by decide⟩ | exact Nat.le_of_ble_eq_true rfl | exact rfl) ?_; with_reducible conv => whnf) | (rw [isLst_at (by assumption)]; with_reducible conv => whnf) | (refine ifT rfl ?_; with_reducible conv => whnf) | (refine ifF rfl ?_; with_reducible conv => whnf) | (refine it_at (by assumption) ?_; with_reducible conv => whnf)))
          refine ⟨by decide, ?_⟩
          ((with_reducible conv => whnf); repeat (first | (refine And.intro (okII _ _) ?_; rw [eqD_ii]; with_reducible conv => whnf) | (refine And.intro (by first | assumption | exact Exists.intro _ (by assumption) | exact ⟨rfl, rfl, by decide, by decide⟩ | exact Nat.le_of_ble_eq_true rfl | exact rfl) ?_; with_reducible conv => whnf) | (rw [isLst_at (by assumption)]; with_reducible conv => whnf) | (refine ifT rfl ?_; with_reducible conv => whnf) | (refine ifF rfl ?_; with_reducible conv => whnf) | (refine it_at (by assumption) ?_; with_reducible conv => whnf)))
          obtain ⟨h0, h1⟩ := fmod_lt (a := (cs.getD at'.toNat 0) * 48271 + (0 + (i : Int)) * 69621 + 11) (b := 2147483647) (by decide)
          refine ⟨smallMul (by omega), ?_⟩
          ((with_reducible conv => whnf); repeat (first | (refine And.intro (okII _ _) ?_; rw [eqD_ii]; with_reducible conv => whnf) | (refine And.intro (by first | assumption | exact Exists.intro _ (by assumption) | exact ⟨rfl, rfl, by decide, by decide⟩ | exact Nat.le_of_ble_eq_true rfl | exact rfl) ?_; with_reducible conv => whnf) | (rw [isLst_at (by assumption)]; with_reducible conv => whnf) | (refine ifT rfl ?_; with_reducible conv => whnf) | (refine ifF rfl ?_; with_reducible conv => whnf) | (refine it_at (by assumption) ?_; with_reducible conv => whnf)))
          refine ⟨smallMul' (by decide), ?_⟩
          ((with_reducible conv => whnf); repeat (first | (refine And.intro (okII _ _) ?_; rw [eqD_ii]; with_reducible conv => whnf) | (refine And.intro (by first | assumption | exact Exists.intro _ (by assumption) | exact ⟨rfl, rfl, by decide, by decide⟩ | exact Nat.le_of_ble_eq_true rfl | exact rfl) ?_; with_reducible conv => whnf) | (rw [isLst_at (by assumption)]; with_reducible conv => whnf) | (refine ifT rfl ?_; with_reducible conv => whnf) | (refine ifF rfl ?_; with_reducible conv => whnf) | (refine it_at (by assumption) ?_; with_reducible conv => whnf)))
          refine ⟨by decide, ?_⟩
          ((with_reducible conv => whnf); repeat (first | (refine And.intro (okII _ _) ?_; rw [eqD_ii]; with_reducible conv => whnf) | (refine And.intro (by first | assumption | exact Exists.intro _ (by assumption) | exact ⟨rfl, rfl, by decide, by decide⟩ | exact Nat.le_of_ble_eq_true rfl | exact rfl) ?_; with_reducible conv => whnf) | (rw [isLst_at (by assumption)]; with_reducible conv => whnf) | (refine ifT rfl ?_; with_reducible conv => whnf) | (refine ifF rfl ?_; with_reducible conv => whnf) | (refine it_at (by assumption) ?_; with_reducible conv => whnf)))
          rw [hw2]
          exact push _ _ _ rs f1 f2 _ rfl
      · ((with_reducible conv => whnf); repeat (first | (refine And.intro (okII _ _) ?_; rw [eqD_ii]; with_reducible conv => whnf) | (refine And.intro (by first | assumption | exact Exists.intro _ (by assumption) | exact ⟨rfl, rfl, by decide, by decide⟩ | exact Nat.le_of_ble_eq_true rfl | exact rfl) ?_; with_reducible conv => whnf) | (rw [isLst_at (by assumption)]; with_reducible conv => whnf) | (refine ifT rfl ?_; with_reducible conv => whnf) | (refine ifF rfl ?_; with_reducible conv => whnf) | (refine it_at (by assumption) ?_; with_reducible conv => whnf)))
        refine ⟨_, atZ_intD g0 g1, ?_⟩
        ((with_reducible conv => whnf); repeat (first | (refine And.intro (okII _ _) ?_; rw [eqD_ii]; with_reducible conv => whnf) | (refine And.intro (by first | assumption | exact Exists.intro _ (by assumption) | exact ⟨rfl, rfl, by decide, by decide⟩ | exact Nat.le_of_ble_eq_true rfl | exact rfl) ?_; with_reducible conv => whnf) | (rw [isLst_at (by assumption)]; with_reducible conv => whnf) | (refine ifT rfl ?_; with_reducible conv => whnf) | (refine ifF rfl ?_; with_reducible conv => whnf) | (refine it_at (by assumption) ?_; with_reducible conv => whnf)))
        refine ⟨smallMul (by decide), ?_⟩
        ((with_reducible conv => whnf); repeat (first | (refine And.intro (okII _ _) ?_; rw [eqD_ii]; with_reducible conv => whnf) | (refine And.intro (by first | assumption | exact Exists.intro _ (by assumption) | exact ⟨rfl, rfl, by decide, by decide⟩ | exact Nat.le_of_ble_eq_true rfl | exact rfl) ?_; with_reducible conv => whnf) | (rw [isLst_at (by assumption)]; with_reducible conv => whnf) | (refine ifT rfl ?_; with_reducible conv => whnf) | (refine ifF rfl ?_; with_reducible conv => whnf) | (refine it_at (by assumption) ?_; with_reducible conv => whnf)))
        refine ⟨smallMul (by decide), ?_⟩
        ((with_reducible conv => whnf); repeat (first | (refine And.intro (okII _ _) ?_; rw [eqD_ii]; with_reducible conv => whnf) | (refine And.intro (by first | assumption | exact Exists.intro _ (by assumption) | exact ⟨rfl, rfl, by decide, by decide⟩ | exact Nat.le_of_ble_eq_true rfl | exact rfl) ?_; with_reducible conv => whnf) | (rw [isLst_at (by assumption)]; with_reducible conv => whnf) | (refine ifT rfl ?_; with_reducible conv => whnf) | (refine ifF rfl ?_; with_reducible conv => whnf) | (refine it_at (by assumption) ?_; with_reducible conv => whnf)))
        refine ⟨by decide, ?_⟩
        ((with_reducible conv => whnf); repeat (first | (refine And.intro (okII _ _) ?_; rw [eqD_ii]; with_reducible conv => whnf) | (refine And.intro (by first | assumption | exact Exists.intro _ (by assumption) | exact ⟨rfl, rfl, by decide, by decide⟩ | exact Nat.le_of_ble_eq_true rfl | exact rfl) ?_; with_reducible conv => whnf) | (rw [isLst_at (by assumption)]; with_reducible conv => whnf) | (refine ifT rfl ?_; with_reducible conv => whnf) | (refine ifF rfl ?_; with_reducible conv => whnf) | (refine it_at (by assumption) ?_; with_reducible conv => whnf)))
        obtain ⟨h0, h1⟩ := fmod_lt (a := (cs.getD at'.toNat 0) * 48271 + (0 + (i : Int)) * 69621 + 11) (b := 2147483647) (by decide)
        refine ⟨smallMul (by omega), ?_⟩
        ((with_reducible conv => whnf); repeat (first | (refine And.intro (okII _ _) ?_; rw [eqD_ii]; with_reducible conv => whnf) | (refine And.intro (by first | assumption | exact Exists.intro _ (by assumption) | exact ⟨rfl, rfl, by decide, by decide⟩ | exact Nat.le_of_ble_eq_true rfl | exact rfl) ?_; with_reducible conv => whnf) | (rw [isLst_at (by assumption)]; with_reducible conv => whnf) | (refine ifT rfl ?_; with_reducible conv => whnf) | (refine ifF rfl ?_; with_reducible conv => whnf) | (refine it_at (by assumption) ?_; with_reducible conv => whnf)))
        refine ⟨smallMul' (by decide), ?_⟩
        ((with_reducible conv => whnf); repeat (first | (refine And.intro (okII _ _) ?_; rw [eqD_ii]; with_reducible conv => whnf) | (refine And.intro (by first | assumption | exact Exists.intro _ (by assumption) | exact ⟨rfl, rfl, by decide, by decide⟩ | exact Nat.le_of_ble_eq_true rfl | exact rfl) ?_; with_reducible conv => whnf) | (rw [isLst_at (by assumption)]; with_reducible conv => whnf) | (refine ifT rfl ?_; with_reducible conv => whnf) | (refine ifF rfl ?_; with_reducible conv => whnf) | (refine it_at (by assumption) ?_; with_reducible conv => whnf)))
        refine ⟨by decide, ?_⟩
        ((with_reducible conv => whnf); repeat (first | (refine And.intro (okII _ _) ?_; rw [eqD_ii]; with_reducible conv => whnf) | (refine And.intro (by first | assumption | exact Exists.intro _ (by assumption) | exact ⟨rfl, rfl, by decide, by decide⟩ | exact Nat.le_of_ble_eq_true rfl | exact rfl) ?_; with_reducible conv => whnf) | (rw [isLst_at (by assumption)]; with_reducible conv => whnf) | (refine ifT rfl ?_; with_reducible conv => whnf) | (refine ifF rfl ?_; with_reducible conv => whnf) | (refine it_at (by assumption) ?_; with_reducible conv => whnf)))
        rw [hw2]
        exact push _ _ _ rs f1 f2 _ rfl
    · rintro ρ' S' ⟨o6, o7, o8, rs, ws, rfl, f0, f1, f2, f3, f4, f5⟩
      ((with_reducible conv => whnf); repeat (first | (refine And.intro (okII _ _) ?_; rw [eqD_ii]; with_reducible conv => whnf) | (refine And.intro (by first | assumption | exact Exists.intro _ (by assumption) | exact ⟨rfl, rfl, by decide, by decide⟩ | exact Nat.le_of_ble_eq_true rfl | exact rfl) ?_; with_reducible conv => whnf) | (rw [isLst_at (by assumption)]; with_reducible conv => whnf) | (refine ifT rfl ?_; with_reducible conv => whnf) | (refine ifF rfl ?_; with_reducible conv => whnf) | (refine it_at (by assumption) ?_; with_reducible conv => whnf)))
      refine k _ _ ⟨ws.reverse, ?_⟩ (f5.put (by omega)) (by omega)
      rw [at_set f3, ← List.map_reverse]
  ((with_reducible conv => whnf); repeat (first | (refine And.intro (okII _ _) ?_; rw [eqD_ii]; with_reducible conv => whnf) | (refine And.intro (by first | assumption | exact Exists.intro _ (by assumption) | exact ⟨rfl, rfl, by decide, by decide⟩ | exact Nat.le_of_ble_eq_true rfl | exact rfl) ?_; with_reducible conv => whnf) | (rw [isLst_at (by assumption)]; with_reducible conv => whnf) | (refine ifT rfl ?_; with_reducible conv => whnf) | (refine ifF rfl ?_; with_reducible conv => whnf) | (refine it_at (by assumption) ?_; with_reducible conv => whnf)))
  refine ite_d (fun hc => ?_) fun hc => ?_
  · ((with_reducible conv => whnf); repeat (first | (refine And.intro (okII _ _) ?_; rw [eqD_ii]; with_reducible conv => whnf) | (refine And.intro (by first | assumption | exact Exists.intro _ (by assumption) | exact ⟨rfl, rfl, by decide, by decide⟩ | exact Nat.le_of_ble_eq_true rfl | exact rfl) ?_; with_reducible conv => whnf) | (rw [isLst_at (by assumption)]; with_reducible conv => whnf) | (refine ifT rfl ?_; with_reducible conv => whnf) | (refine ifF rfl ?_; with_reducible conv => whnf) | (refine it_at (by assumption) ?_; with_reducible conv => whnf)))
    have hn : ns = [] := by
      rw [List.length_map] at hc
      exact List.length_eq_zero_iff.mp (by omega)
    subst hn
    refine ⟨by decide, ?_⟩
    exact main [0] _ (by decide) (by decide) (at_set h2) (hS1.put hln)
  · rw [List.length_map] at hc
    exact main ns S2 (by omega) hl h2 hS1

@[reducible] def sp_same (N : Nat) : Spc := fun ds S Q => ∃ d, ds = [d, d] ∧ flat d = true ∧ slim d = true ∧ deep d ≤ N ∧ ∀ S', Sub S S' → Q (.bl true) S'
@[reducible] def spNo : Spc := fun _ _ _ => False
theorem body_law_same (sp : Spc) (N : Nat) (hN : N ≤ 60) (hsp : N = 0 ∨ ∃ M, N = M + 1 ∧ sp = sp_same M) : Body 3 2 (w_law_same sp) (sp_same N) := by
  rintro ds S Q _ ⟨d, rfl, hf, hsl, hd, k⟩
  unfold w_law_same
  have hself := eqD_self d hf
  have k0 := k S (Sub.refl _)
  (simp only [start, List.map_cons, List.map_nil, List.length_cons, List.length_nil, Nat.reduceAdd, Nat.reduceSub, List.replicate_succ, List.replicate_zero, List.cons_append, List.nil_append, Nat.sub_self, Nat.zero_add])
  cases d with
  | rol xs => cases hf
  | ref xs => cases hf
  | ty xs => cases hf
  | non =>
    ((with_reducible conv => whnf); repeat (first | (refine And.intro (okII _ _) ?_; rw [eqD_ii]; with_reducible conv => whnf) | (refine And.intro (by first | assumption | exact Exists.intro _ (by assumption) | exact ⟨rfl, rfl, by decide, by decide⟩ | exact Nat.le_of_ble_eq_true rfl | exact rfl) ?_; with_reducible conv => whnf) | (rw [isLst_at (by assumption)]; with_reducible conv => whnf) | (refine ifT rfl ?_; with_reducible conv => whnf) | (refine ifF rfl ?_; with_reducible conv => whnf) | (refine it_at (by assumption) ?_; with_reducible conv => whnf)))
    refine ⟨false, rfl, ?_⟩
    ((with_reducible conv => whnf); repeat (first | (refine And.intro (okII _ _) ?_; rw [eqD_ii]; with_reducible conv => whnf) | (refine And.intro (by first | assumption | exact Exists.intro _ (by assumption) | exact ⟨rfl, rfl, by decide, by decide⟩ | exact Nat.le_of_ble_eq_true rfl | exact rfl) ?_; with_reducible conv => whnf) | (rw [isLst_at (by assumption)]; with_reducible conv => whnf) | (refine ifT rfl ?_; with_reducible conv => whnf) | (refine ifF rfl ?_; with_reducible conv => whnf) | (refine it_at (by assumption) ?_; with_reducible conv => whnf)))
    refine ⟨false, rfl, ?_⟩
    ((with_reducible conv => whnf); repeat (first | (refine And.intro (okII _ _) ?_; rw [eqD_ii]; with_reducible conv => whnf) | (refine And.intro (by first | assumption | exact Exists.intro _ (by assumption) | exact ⟨rfl, rfl, by decide, by decide⟩ | exact Nat.le_of_ble_eq_true rfl | exact rfl) ?_; with_reducible conv => whnf) | (rw [isLst_at (by assumption)]; with_reducible conv => whnf) | (refine ifT rfl ?_; with_reducible conv => whnf) | (refine ifF rfl ?_; with_reducible conv => whnf) | (refine it_at (by assumption) ?_; with_reducible conv => whnf)))
    refine ⟨false, rfl, ?_⟩
    ((with_reducible conv => whnf); repeat (first | (refine And.intro (okII _ _) ?_; rw [eqD_ii]; with_reducible conv => whnf) | (refine And.intro (by first | assumption | exact Exists.intro _ (by assumption) | exact ⟨rfl, rfl, by decide, by decide⟩ | exact Nat.le_of_ble_eq_true rfl | exact rfl) ?_; with_reducible conv => whnf) | (rw [isLst_at (by assumption)]; with_reducible conv => whnf) | (refine ifT rfl ?_; with_reducible conv => whnf) | (refine ifF rfl ?_; with_reducible conv => whnf) | (refine it_at (by assumption) ?_; with_reducible conv => whnf)))
    exact k0
  | bl b =>
    ((with_reducible conv => whnf); repeat (first | (refine And.intro (okII _ _) ?_; rw [eqD_ii]; with_reducible conv => whnf) | (refine And.intro (by first | assumption | exact Exists.intro _ (by assumption) | exact ⟨rfl, rfl, by decide, by decide⟩ | exact Nat.le_of_ble_eq_true rfl | exact rfl) ?_; with_reducible conv => whnf) | (rw [isLst_at (by assumption)]; with_reducible conv => whnf) | (refine ifT rfl ?_; with_reducible conv => whnf) | (refine ifF rfl ?_; with_reducible conv => whnf) | (refine it_at (by assumption) ?_; with_reducible conv => whnf)))
    refine ⟨true, rfl, ?_⟩
    ((with_reducible conv => whnf); repeat (first | (refine And.intro (okII _ _) ?_; rw [eqD_ii]; with_reducible conv => whnf) | (refine And.intro (by first | assumption | exact Exists.intro _ (by assumption) | exact ⟨rfl, rfl, by decide, by decide⟩ | exact Nat.le_of_ble_eq_true rfl | exact rfl) ?_; with_reducible conv => whnf) | (rw [isLst_at (by assumption)]; with_reducible conv => whnf) | (refine ifT rfl ?_; with_reducible conv => whnf) | (refine ifF rfl ?_; with_reducible conv => whnf) | (refine it_at (by assumption) ?_; with_reducible conv => whnf)))
    refine ⟨true, rfl, ?_⟩
    ((with_reducible conv => whnf); repeat (first | (refine And.intro (okII _ _) ?_; rw [eqD_ii]; with_reducible conv => whnf) | (refine And.intro (by first | assumption | exact Exists.intro _ (by assumption) | exact ⟨rfl, rfl, by decide, by decide⟩ | exact Nat.le_of_ble_eq_true rfl | exact rfl) ?_; with_reducible conv => whnf) | (rw [isLst_at (by assumption)]; with_reducible conv => whnf) | (refine ifT rfl ?_; with_reducible conv => whnf) | (refine ifF rfl ?_; with_reducible conv => whnf) | (refine it_at (by assumption) ?_; with_reducible conv => whnf)))
    refine ⟨⟨hf, hf, Nat.zero_le _, Nat.zero_le _⟩, ?_⟩
    rw [hself]
    exact k0
  | int i =>
    ((with_reducible conv => whnf); repeat (first | (refine And.intro (okII _ _) ?_; rw [eqD_ii]; with_reducible conv => whnf) | (refine And.intro (by first | assumption | exact Exists.intro _ (by assumption) | exact ⟨rfl, rfl, by decide, by decide⟩ | exact Nat.le_of_ble_eq_true rfl | exact rfl) ?_; with_reducible conv => whnf) | (rw [isLst_at (by assumption)]; with_reducible conv => whnf) | (refine ifT rfl ?_; with_reducible conv => whnf) | (refine ifF rfl ?_; with_reducible conv => whnf) | (refine it_at (by assumption) ?_; with_reducible conv => whnf)))
    refine ⟨false, rfl, ?_⟩
    ((with_reducible conv => whnf); repeat (first | (refine And.intro (okII _ _) ?_; rw [eqD_ii]; with_reducible conv => whnf) | (refine And.intro (by first | assumption | exact Exists.intro _ (by assumption) | exact ⟨rfl, rfl, by decide, by decide⟩ | exact Nat.le_of_ble_eq_true rfl | exact rfl) ?_; with_reducible conv => whnf) | (rw [isLst_at (by assumption)]; with_reducible conv => whnf) | (refine ifT rfl ?_; with_reducible conv => whnf) | (refine ifF rfl ?_; with_reducible conv => whnf) | (refine it_at (by assumption) ?_; with_reducible conv => whnf)))
    refine ⟨true, rfl, ?_⟩
    ((with_reducible conv => whnf); repeat (first | (refine And.intro (okII _ _) ?_; rw [eqD_ii]; with_reducible conv => whnf) | (refine And.intro (by first | assumption | exact Exists.intro _ (by assumption) | exact ⟨rfl, rfl, by decide, by decide⟩ | exact Nat.le_of_ble_eq_true rfl | exact rfl) ?_; with_reducible conv => whnf) | (rw [isLst_at (by assumption)]; with_reducible conv => whnf) | (refine ifT rfl ?_; with_reducible conv => whnf) | (refine ifF rfl ?_; with_reducible conv => whnf) | (refine it_at (by assumption) ?_; with_reducible conv => whnf)))
    refine ⟨true, rfl, ?_⟩
    ((with_reducible conv => whnf); repeat (first | (refine And.intro (okII _ _) ?_; rw [eqD_ii]; with_reducible conv => whnf) | (refine And.intro (by first | assumption | exact Exists.intro _ (by assumption) | exact ⟨rfl, rfl, by decide, by decide⟩ | exact Nat.le_of_ble_eq_true rfl | exact rfl) ?_; with_reducible conv => whnf) | (rw [isLst_at (by assumption)]; with_reducible conv => whnf) | (refine ifT rfl ?_; with_reducible conv => whnf) | (refine ifF rfl ?_; with_reducible conv => whnf) | (refine it_at (by assumption) ?_; with_reducible conv => whnf)))
    refine ⟨false, rfl, ?_⟩
    ((with_reducible conv => whnf); repeat (first | (refine And.intro (okII _ _) ?_; rw [eqD_ii]; with_reducible conv => whnf) | (refine And.intro (by first | assumption | exact Exists.intro _ (by assumption) | exact ⟨rfl, rfl, by decide, by decide⟩ | exact Nat.le_of_ble_eq_true rfl | exact rfl) ?_; with_reducible conv => whnf) | (rw [isLst_at (by assumption)]; with_reducible conv => whnf) | (refine ifT rfl ?_; with_reducible conv => whnf) | (refine ifF rfl ?_; with_reducible conv => whnf) | (refine it_at (by assumption) ?_; with_reducible conv => whnf)))
    rw [decide_eq_true rfl]
    exact k0
  | str x =>
    ((with_reducible conv => whnf); repeat (first | (refine And.intro (okII _ _) ?_; rw [eqD_ii]; with_reducible conv => whnf) | (refine And.intro (by first | assumption | exact Exists.intro _ (by assumption) | exact ⟨rfl, rfl, by decide, by decide⟩ | exact Nat.le_of_ble_eq_true rfl | exact rfl) ?_; with_reducible conv => whnf) | (rw [isLst_at (by assumption)]; with_reducible conv => whnf) | (refine ifT rfl ?_; with_reducible conv => whnf) | (refine ifF rfl ?_; with_reducible conv => whnf) | (refine it_at (by assumption) ?_; with_reducible conv => whnf)))
    refine ⟨false, rfl, ?_⟩
    ((with_reducible conv => whnf); repeat (first | (refine And.intro (okII _ _) ?_; rw [eqD_ii]; with_reducible conv => whnf) | (refine And.intro (by first | assumption | exact Exists.intro _ (by assumption) | exact ⟨rfl, rfl, by decide, by decide⟩ | exact Nat.le_of_ble_eq_true rfl | exact rfl) ?_; with_reducible conv => whnf) | (rw [isLst_at (by assumption)]; with_reducible conv => whnf) | (refine ifT rfl ?_; with_reducible conv => whnf) | (refine ifF rfl ?_; with_reducible conv => whnf) | (refine it_at (by assumption) ?_; with_reducible conv => whnf)))
    refine ⟨false, rfl, ?_⟩
    ((with_reducible conv => whnf); repeat (first | (refine And.intro (okII _ _) ?_; rw [eqD_ii]; with_reducible conv => whnf) | (refine And.intro (by first | assumption | exact Exists.intro _ (by assumption) | exact ⟨rfl, rfl, by decide, by decide⟩ | exact Nat.le_of_ble_eq_true rfl | exact rfl) ?_; with_reducible conv => whnf) | (rw [isLst_at (by assumption)]; with_reducible conv => whnf) | (refine ifT rfl ?_; with_reducible conv => whnf) | (refine ifF rfl ?_; with_reducible conv => whnf) | (refine it_at (by assumption) ?_; with_reducible conv => whnf)))
    refine ⟨true, rfl, ?_⟩
    ((with_reducible conv => whnf); repeat (first | (refine And.intro (okII _ _) ?_; rw [eqD_ii]; with_reducible conv => whnf) | (refine And.intro (by first | assumption | exact Exists.intro _ (by assumption) | exact ⟨rfl, rfl, by decide, by decide⟩ | exact Nat.le_of_ble_eq_true rfl | exact rfl) ?_; with_reducible conv => whnf) | (rw [isLst_at (by assumption)]; with_reducible conv => whnf) | (refine ifT rfl ?_; with_reducible conv => whnf) | (refine ifF rfl ?_; with_reducible conv => whnf) | (refine it_at (by assumption) ?_; with_reducible conv => whnf)))
    refine ⟨true, rfl, ?_⟩
    ((with_reducible conv => whnf); repeat (first | (refine And.intro (okII _ _) ?_; rw [eqD_ii]; with_reducible conv => whnf) | (refine And.intro (by first | assumption | exact Exists.intro _ (by assumption) | exact ⟨rfl, rfl, by decide, by decide⟩ | exact Nat.le_of_ble_eq_true rfl | exact rfl) ?_; with_reducible conv => whnf) | (rw [isLst_at (by assumption)]; with_reducible conv => whnf) | (refine ifT rfl ?_; with_reducible conv => whnf) | (refine ifF rfl ?_; with_reducible conv => whnf) | (refine it_at (by assumption) ?_; with_reducible conv => whnf)))
    refine ⟨⟨hf, hf, Nat.zero_le _, Nat.zero_le _⟩, ?_⟩
    rw [hself]
    exact k0
  | tup xs =>
    ((with_reducible conv => whnf); repeat (first | (refine And.intro (okII _ _) ?_; rw [eqD_ii]; with_reducible conv => whnf) | (refine And.intro (by first | assumption | exact Exists.intro _ (by assumption) | exact ⟨rfl, rfl, by decide, by decide⟩ | exact Nat.le_of_ble_eq_true rfl | exact rfl) ?_; with_reducible conv => whnf) | (rw [isLst_at (by assumption)]; with_reducible conv => whnf) | (refine ifT rfl ?_; with_reducible conv => whnf) | (refine ifF rfl ?_; with_reducible conv => whnf) | (refine it_at (by assumption) ?_; with_reducible conv => whnf)))
    refine ⟨false, rfl, ?_⟩
    ((with_reducible conv => whnf); repeat (first | (refine And.intro (okII _ _) ?_; rw [eqD_ii]; with_reducible conv => whnf) | (refine And.intro (by first | assumption | exact Exists.intro _ (by assumption) | exact ⟨rfl, rfl, by decide, by decide⟩ | exact Nat.le_of_ble_eq_true rfl | exact rfl) ?_; with_reducible conv => whnf) | (rw [isLst_at (by assumption)]; with_reducible conv => whnf) | (refine ifT rfl ?_; with_reducible conv => whnf) | (refine ifF rfl ?_; with_reducible conv => whnf) | (refine it_at (by assumption) ?_; with_reducible conv => whnf)))
    refine ⟨false, rfl, ?_⟩
    ((with_reducible conv => whnf); repeat (first | (refine And.intro (okII _ _) ?_; rw [eqD_ii]; with_reducible conv => whnf) | (refine And.intro (by first | assumption | exact Exists.intro _ (by assumption) | exact ⟨rfl, rfl, by decide, by decide⟩ | exact Nat.le_of_ble_eq_true rfl | exact rfl) ?_; with_reducible conv => whnf) | (rw [isLst_at (by assumption)]; with_reducible conv => whnf) | (refine ifT rfl ?_; with_reducible conv => whnf) | (refine ifF rfl ?_; with_reducible conv => whnf) | (refine it_at (by assumption) ?_; with_reducible conv => whnf)))
    refine ⟨false, rfl, ?_⟩
    ((with_reducible conv => whnf); repeat (first | (refine And.intro (okII _ _) ?_; rw [eqD_ii]; with_reducible conv => whnf) | (refine And.intro (by first | assumption | exact Exists.intro _ (by assumption) | exact ⟨rfl, rfl, by decide, by decide⟩ | exact Nat.le_of_ble_eq_true rfl | exact rfl) ?_; with_reducible conv => whnf) | (rw [isLst_at (by assumption)]; with_reducible conv => whnf) | (refine ifT rfl ?_; with_reducible conv => whnf) | (refine ifF rfl ?_; with_reducible conv => whnf) | (refine it_at (by assumption) ?_; with_reducible conv => whnf)))
    refine ⟨true, rfl, ?_⟩
    ((with_reducible conv => whnf); repeat (first | (refine And.intro (okII _ _) ?_; rw [eqD_ii]; with_reducible conv => whnf) | (refine And.intro (by first | assumption | exact Exists.intro _ (by assumption) | exact ⟨rfl, rfl, by decide, by decide⟩ | exact Nat.le_of_ble_eq_true rfl | exact rfl) ?_; with_reducible conv => whnf) | (rw [isLst_at (by assumption)]; with_reducible conv => whnf) | (refine ifT rfl ?_; with_reducible conv => whnf) | (refine ifF rfl ?_; with_reducible conv => whnf) | (refine it_at (by assumption) ?_; with_reducible conv => whnf)))
    rw [if_neg (by simp)]
    have hsl := Bool.and_eq_true_iff.mp (show (decide (xs.length ≤ szL) && slims xs) = true from hsl)
    have hz := of_decide_eq_true hsl.1
    unfold szL at hz
    ((with_reducible conv => whnf); repeat (first | (refine And.intro (okII _ _) ?_; rw [eqD_ii]; with_reducible conv => whnf) | (refine And.intro (by first | assumption | exact Exists.intro _ (by assumption) | exact ⟨rfl, rfl, by decide, by decide⟩ | exact Nat.le_of_ble_eq_true rfl | exact rfl) ?_; with_reducible conv => whnf) | (rw [isLst_at (by assumption)]; with_reducible conv => whnf) | (refine ifT rfl ?_; with_reducible conv => whnf) | (refine ifF rfl ?_; with_reducible conv => whnf) | (refine it_at (by assumption) ?_; with_reducible conv => whnf)))
    refine ⟨⟨by omega, by omega⟩, ?_⟩
    refine Loop_mk (fun _ ρ S' => ∃ o, ρ = [some (.tup xs), some (.tup xs), o] ∧ Sub S S') ⟨_, rfl, Sub.refl _⟩ (by intros; trivial) ?_ ?_
    · rintro i d ρ' S' hi ⟨o, rfl, hs⟩
      obtain ⟨hi1, rfl⟩ := rangeD_get hi
      have hl : i < xs.length := by omega
      have e := List.getElem?_eq_getElem hl
      have ez := atZ_nat e
      rw [show ((i : Nat) : Int) = 0 + i by omega] at ez
      ((with_reducible conv => whnf); repeat (first | (refine And.intro (okII _ _) ?_; rw [eqD_ii]; with_reducible conv => whnf) | (refine And.intro (by first | assumption | exact Exists.intro _ (by assumption) | exact ⟨rfl, rfl, by decide, by decide⟩ | exact Nat.le_of_ble_eq_true rfl | exact rfl) ?_; with_reducible conv => whnf) | (rw [isLst_at (by assumption)]; with_reducible conv => whnf) | (refine ifT rfl ?_; with_reducible conv => whnf) | (refine ifF rfl ?_; with_reducible conv => whnf) | (refine it_at (by assumption) ?_; with_reducible conv => whnf)))
      refine ⟨_, ez, ?_⟩
      ((with_reducible conv => whnf); repeat (first | (refine And.intro (okII _ _) ?_; rw [eqD_ii]; with_reducible conv => whnf) | (refine And.intro (by first | assumption | exact Exists.intro _ (by assumption) | exact ⟨rfl, rfl, by decide, by decide⟩ | exact Nat.le_of_ble_eq_true rfl | exact rfl) ?_; with_reducible conv => whnf) | (rw [isLst_at (by assumption)]; with_reducible conv => whnf) | (refine ifT rfl ?_; with_reducible conv => whnf) | (refine ifF rfl ?_; with_reducible conv => whnf) | (refine it_at (by assumption) ?_; with_reducible conv => whnf)))
      refine ⟨_, ez, ?_⟩
      ((with_reducible conv => whnf); repeat (first | (refine And.intro (okII _ _) ?_; rw [eqD_ii]; with_reducible conv => whnf) | (refine And.intro (by first | assumption | exact Exists.intro _ (by assumption) | exact ⟨rfl, rfl, by decide, by decide⟩ | exact Nat.le_of_ble_eq_true rfl | exact rfl) ?_; with_reducible conv => whnf) | (rw [isLst_at (by assumption)]; with_reducible conv => whnf) | (refine ifT rfl ?_; with_reducible conv => whnf) | (refine ifF rfl ?_; with_reducible conv => whnf) | (refine it_at (by assumption) ?_; with_reducible conv => whnf)))
      have hdd : deep (.tup xs) = deeps xs + 1 := rfl
      rcases hsp with h0 | ⟨M, hM, rfl⟩
      · omega
      ((with_reducible conv => whnf); repeat (first | (refine And.intro (okII _ _) ?_; rw [eqD_ii]; with_reducible conv => whnf) | (refine And.intro (by first | assumption | exact Exists.intro _ (by assumption) | exact ⟨rfl, rfl, by decide, by decide⟩ | exact Nat.le_of_ble_eq_true rfl | exact rfl) ?_; with_reducible conv => whnf) | (rw [isLst_at (by assumption)]; with_reducible conv => whnf) | (refine ifT rfl ?_; with_reducible conv => whnf) | (refine ifF rfl ?_; with_reducible conv => whnf) | (refine it_at (by assumption) ?_; with_reducible conv => whnf)))
      have := deeps_get e
      refine ⟨_, rfl, flats_get hf e, slims_get hsl.2 e, by omega, fun S2 hs2 => ?_⟩
      ((with_reducible conv => whnf); repeat (first | (refine And.intro (okII _ _) ?_; rw [eqD_ii]; with_reducible conv => whnf) | (refine And.intro (by first | assumption | exact Exists.intro _ (by assumption) | exact ⟨rfl, rfl, by decide, by decide⟩ | exact Nat.le_of_ble_eq_true rfl | exact rfl) ?_; with_reducible conv => whnf) | (rw [isLst_at (by assumption)]; with_reducible conv => whnf) | (refine ifT rfl ?_; with_reducible conv => whnf) | (refine ifF rfl ?_; with_reducible conv => whnf) | (refine it_at (by assumption) ?_; with_reducible conv => whnf)))
      exact ⟨_, rfl, hs.trans hs2⟩
    · rintro ρ' S' ⟨o, rfl, hs⟩
      ((with_reducible conv => whnf); repeat (first | (refine And.intro (okII _ _) ?_; rw [eqD_ii]; with_reducible conv => whnf) | (refine And.intro (by first | assumption | exact Exists.intro _ (by assumption) | exact ⟨rfl, rfl, by decide, by decide⟩ | exact Nat.le_of_ble_eq_true rfl | exact rfl) ?_; with_reducible conv => whnf) | (rw [isLst_at (by assumption)]; with_reducible conv => whnf) | (refine ifT rfl ?_; with_reducible conv => whnf) | (refine ifF rfl ?_; with_reducible conv => whnf) | (refine it_at (by assumption) ?_; with_reducible conv => whnf)))
      exact k _ hs
@[reducible] def sp_gcd : Spc := fun ds S Q => ∃ n d, ds = [.int n, .int d] ∧ ∀ S', Sub S S' → Q (.int (Nat.gcd n.natAbs d.natAbs : Nat)) S'
theorem body_divisor : Body 2 2 w_divisor sp_gcd := by
  rintro ds S Q _ ⟨n, d, rfl, k⟩
  unfold w_divisor
  (simp only [start, List.map_cons, List.map_nil, List.length_cons, List.length_nil, Nat.reduceAdd, Nat.reduceSub, List.replicate_succ, List.replicate_zero, List.cons_append, List.nil_append, Nat.sub_self, Nat.zero_add])
  ((with_reducible conv => whnf); repeat (first | (rw [natD_len]; with_reducible conv => whnf) | (rw [intD_len]; with_reducible conv => whnf) | (refine Exists.intro _ (And.intro (rfl : _ = some _) ?_); with_reducible conv => whnf) | (refine And.intro (okII _ _) ?_; rw [eqD_ii]; with_reducible conv => whnf) | (refine And.intro (by first | assumption | exact Exists.intro _ (by assumption) | exact ⟨rfl, rfl, by decide, by decide⟩ | exact Nat.le_of_ble_eq_true rfl | exact rfl) ?_; with_reducible conv => whnf) | (rw [isLst_at (by assumption)]; with_reducible conv => whnf) | (refine ifT rfl ?_; with_reducible conv => whnf) | (refine ifF rfl ?_; with_reducible conv => whnf) | (refine it_at (by assumption) ?_; with_reducible conv => whnf)))
  exact k _ (Sub.refl _)
@[reducible] def sp_ratio : Spc := fun ds S Q => ∃ n d, ds = [.int n, .int d] ∧ d ≠ 0 ∧ d.natAbs < 2 ^ 9000 ∧ ∀ S', Sub S S' → Q (qD (Rat.divInt n d)) S'
theorem body_fraction : Body 3 2 (w_fraction sp_gcd) sp_ratio := by
  rintro ds S Q _ ⟨n, d, rfl, h0, hb, k⟩
  unfold w_fraction
  (simp only [start, List.map_cons, List.map_nil, List.length_cons, List.length_nil, Nat.reduceAdd, Nat.reduceSub, List.replicate_succ, List.replicate_zero, List.cons_append, List.nil_append, Nat.sub_self, Nat.zero_add])
  ((with_reducible conv => whnf); repeat (first | (rw [natD_len]; with_reducible conv => whnf) | (rw [intD_len]; with_reducible conv => whnf) | (refine Exists.intro _ (And.intro (rfl : _ = some _) ?_); with_reducible conv => whnf) | (refine And.intro (okII _ _) ?_; rw [eqD_ii]; with_reducible conv => whnf) | (refine And.intro (by first | assumption | exact Exists.intro _ (by assumption) | exact ⟨rfl, rfl, by decide, by decide⟩ | exact Nat.le_of_ble_eq_true rfl | exact rfl) ?_; with_reducible conv => whnf) | (rw [isLst_at (by assumption)]; with_reducible conv => whnf) | (refine ifT rfl ?_; with_reducible conv => whnf) | (refine ifF rfl ?_; with_reducible conv => whnf) | (refine it_at (by assumption) ?_; with_reducible conv => whnf)))
  refine ⟨_, _, rfl, fun S1 h1 => ?_⟩
  have hg : 0 < Nat.gcd n.natAbs d.natAbs := Nat.gcd_pos_of_pos_right _ (by omega)
  have hle : Nat.gcd n.natAbs d.natAbs ≤ d.natAbs := Nat.gcd_le_right _ (by omega)
  have e := ratio_eq (n := n) h0
  have k := k S1 h1
  unfold qD at k
  rw [← e.1, ← e.2] at k
  ((with_reducible conv => whnf); repeat (first | (rw [natD_len]; with_reducible conv => whnf) | (rw [intD_len]; with_reducible conv => whnf) | (refine Exists.intro _ (And.intro (rfl : _ = some _) ?_); with_reducible conv => whnf) | (refine And.intro (okII _ _) ?_; rw [eqD_ii]; with_reducible conv => whnf) | (refine And.intro (by first | assumption | exact Exists.intro _ (by assumption) | exact ⟨rfl, rfl, by decide, by decide⟩ | exact Nat.le_of_ble_eq_true rfl | exact rfl) ?_; with_reducible conv => whnf) | (rw [isLst_at (by assumption)]; with_reducible conv => whnf) | (refine ifT rfl ?_; with_reducible conv => whnf) | (refine ifF rfl ?_; with_reducible conv => whnf) | (refine it_at (by assumption) ?_; with_reducible conv => whnf)))
  refine ite_d (fun hc => ?_) fun hc => ?_
  · rw [if_pos hc] at k
    ((with_reducible conv => whnf); repeat (first | (rw [natD_len]; with_reducible conv => whnf) | (rw [intD_len]; with_reducible conv => whnf) | (refine Exists.intro _ (And.intro (rfl : _ = some _) ?_); with_reducible conv => whnf) | (refine And.intro (okII _ _) ?_; rw [eqD_ii]; with_reducible conv => whnf) | (refine And.intro (by first | assumption | exact Exists.intro _ (by assumption) | exact ⟨rfl, rfl, by decide, by decide⟩ | exact Nat.le_of_ble_eq_true rfl | exact rfl) ?_; with_reducible conv => whnf) | (rw [isLst_at (by assumption)]; with_reducible conv => whnf) | (refine ifT rfl ?_; with_reducible conv => whnf) | (refine ifF rfl ?_; with_reducible conv => whnf) | (refine it_at (by assumption) ?_; with_reducible conv => whnf)))
    refine ⟨⟨by omega, by omega⟩, ?_⟩
    ((with_reducible conv => whnf); repeat (first | (rw [natD_len]; with_reducible conv => whnf) | (rw [intD_len]; with_reducible conv => whnf) | (refine Exists.intro _ (And.intro (rfl : _ = some _) ?_); with_reducible conv => whnf) | (refine And.intro (okII _ _) ?_; rw [eqD_ii]; with_reducible conv => whnf) | (refine And.intro (by first | assumption | exact Exists.intro _ (by assumption) | exact ⟨rfl, rfl, by decide, by decide⟩ | exact Nat.le_of_ble_eq_true rfl | exact rfl) ?_; with_reducible conv => whnf) | (rw [isLst_at (by assumption)]; with_reducible conv => whnf) | (refine ifT rfl ?_; with_reducible conv => whnf) | (refine ifF rfl ?_; with_reducible conv => whnf) | (refine it_at (by assumption) ?_; with_reducible conv => whnf)))
    refine ⟨⟨by omega, by omega⟩, ?_⟩
    ((with_reducible conv => whnf); repeat (first | (rw [natD_len]; with_reducible conv => whnf) | (rw [intD_len]; with_reducible conv => whnf) | (refine Exists.intro _ (And.intro (rfl : _ = some _) ?_); with_reducible conv => whnf) | (refine And.intro (okII _ _) ?_; rw [eqD_ii]; with_reducible conv => whnf) | (refine And.intro (by first | assumption | exact Exists.intro _ (by assumption) | exact ⟨rfl, rfl, by decide, by decide⟩ | exact Nat.le_of_ble_eq_true rfl | exact rfl) ?_; with_reducible conv => whnf) | (rw [isLst_at (by assumption)]; with_reducible conv => whnf) | (refine ifT rfl ?_; with_reducible conv => whnf) | (refine ifF rfl ?_; with_reducible conv => whnf) | (refine it_at (by assumption) ?_; with_reducible conv => whnf)))
    exact k
  · rw [if_neg hc] at k
    ((with_reducible conv => whnf); repeat (first | (rw [natD_len]; with_reducible conv => whnf) | (rw [intD_len]; with_reducible conv => whnf) | (refine Exists.intro _ (And.intro (rfl : _ = some _) ?_); with_reducible conv => whnf) | (refine And.intro (okII _ _) ?_; rw [eqD_ii]; with_reducible conv => whnf) | (refine And.intro (by first | assumption | exact Exists.intro _ (by assumption) | exact ⟨rfl, rfl, by decide, by decide⟩ | exact Nat.le_of_ble_eq_true rfl | exact rfl) ?_; with_reducible conv => whnf) | (rw [isLst_at (by assumption)]; with_reducible conv => whnf) | (refine ifT rfl ?_; with_reducible conv => whnf) | (refine ifF rfl ?_; with_reducible conv => whnf) | (refine it_at (by assumption) ?_; with_reducible conv => whnf)))
    refine ⟨⟨by omega, by omega⟩, ?_⟩
    ((with_reducible conv => whnf); repeat (first | (rw [natD_len]; with_reducible conv => whnf) | (rw [intD_len]; with_reducible conv => whnf) | (refine Exists.intro _ (And.intro (rfl : _ = some _) ?_); with_reducible conv => whnf) | (refine And.intro (okII _ _) ?_; rw [eqD_ii]; with_reducible conv => whnf) | (refine And.intro (by first | assumption | exact Exists.intro _ (by assumption) | exact ⟨rfl, rfl, by decide, by decide⟩ | exact Nat.le_of_ble_eq_true rfl | exact rfl) ?_; with_reducible conv => whnf) | (rw [isLst_at (by assumption)]; with_reducible conv => whnf) | (refine ifT rfl ?_; with_reducible conv => whnf) | (refine ifF rfl ?_; with_reducible conv => whnf) | (refine it_at (by assumption) ?_; with_reducible conv => whnf)))
    refine ⟨⟨by omega, by omega⟩, ?_⟩
    ((with_reducible conv => whnf); repeat (first | (rw [natD_len]; with_reducible conv => whnf) | (rw [intD_len]; with_reducible conv => whnf) | (refine Exists.intro _ (And.intro (rfl : _ = some _) ?_); with_reducible conv => whnf) | (refine And.intro (okII _ _) ?_; rw [eqD_ii]; with_reducible conv => whnf) | (refine And.intro (by first | assumption | exact Exists.intro _ (by assumption) | exact ⟨rfl, rfl, by decide, by decide⟩ | exact Nat.le_of_ble_eq_true rfl | exact rfl) ?_; with_reducible conv => whnf) | (rw [isLst_at (by assumption)]; with_reducible conv => whnf) | (refine ifT rfl ?_; with_reducible conv => whnf) | (refine ifF rfl ?_; with_reducible conv => whnf) | (refine it_at (by assumption) ?_; with_reducible conv => whnf)))
    exact k
@[reducible] def sp_shared : Spc := fun ds S Q => ∃ n d, ds = [.int n, .int d] ∧ d.natAbs < 2 ^ 2600 ∧ ∀ S', Sub S S' → Q (.int (Nat.gcd n.natAbs d.natAbs : Nat)) S'
theorem body_law_shared : Body 6 2 w_law_shared sp_shared := by
  rintro ds S Q _ ⟨n, d, rfl, hd, k⟩
  unfold w_law_shared
  (simp only [start, List.map_cons, List.map_nil, List.length_cons, List.length_nil, Nat.reduceAdd, Nat.reduceSub, List.replicate_succ, List.replicate_zero, List.cons_append, List.nil_append, Nat.sub_self, Nat.zero_add])
  ((with_reducible conv => whnf); repeat (first | (rw [natD_len]; with_reducible conv => whnf) | (rw [intD_len]; with_reducible conv => whnf) | (refine Exists.intro _ (And.intro (rfl : _ = some _) ?_); with_reducible conv => whnf) | (refine And.intro (okII _ _) ?_; rw [eqD_ii]; with_reducible conv => whnf) | (refine And.intro (by first | assumption | exact Exists.intro _ (by assumption) | exact ⟨rfl, rfl, by decide, by decide⟩ | exact Nat.le_of_ble_eq_true rfl | exact rfl) ?_; with_reducible conv => whnf) | (rw [isLst_at (by assumption)]; with_reducible conv => whnf) | (refine ifT rfl ?_; with_reducible conv => whnf) | (refine ifF rfl ?_; with_reducible conv => whnf) | (refine it_at (by assumption) ?_; with_reducible conv => whnf)))
  refine ⟨⟨by decide, by decide⟩, ?_⟩
  refine Loop_mk (fun i ρ S' => ∃ (a b : Nat) (o4 o5 : Option D), ρ = [some (.int n), some (.int d), some (.int a), some (.int b), o4, o5] ∧ Nat.gcd a b = Nat.gcd n.natAbs d.natAbs ∧ (i = 0 → b = d.natAbs) ∧ (0 < i → b < a ∧ fib i * a + fib (i - 1) * b ≤ d.natAbs) ∧ S' = S) ⟨_, _, none, none, rfl, rfl, fun _ => rfl, by omega, rfl⟩ (by intros; trivial) ?_ ?_
  · rintro i dd ρ' S' hi ⟨a, b, o4, o5, rfl, hg, h0, h1, rfl⟩
    obtain ⟨_, rfl⟩ := rangeD_get hi
    ((with_reducible conv => whnf); repeat (first | (rw [natD_len]; with_reducible conv => whnf) | (rw [intD_len]; with_reducible conv => whnf) | (refine Exists.intro _ (And.intro (rfl : _ = some _) ?_); with_reducible conv => whnf) | (refine And.intro (okII _ _) ?_; rw [eqD_ii]; with_reducible conv => whnf) | (refine And.intro (by first | assumption | exact Exists.intro _ (by assumption) | exact ⟨rfl, rfl, by decide, by decide⟩ | exact Nat.le_of_ble_eq_true rfl | exact rfl) ?_; with_reducible conv => whnf) | (rw [isLst_at (by assumption)]; with_reducible conv => whnf) | (refine ifT rfl ?_; with_reducible conv => whnf) | (refine ifF rfl ?_; with_reducible conv => whnf) | (refine it_at (by assumption) ?_; with_reducible conv => whnf)))
    by_cases hb : b = 0
    · subst hb
      refine ifT (by simp) ?_
      ((with_reducible conv => whnf); repeat (first | (rw [natD_len]; with_reducible conv => whnf) | (rw [intD_len]; with_reducible conv => whnf) | (refine Exists.intro _ (And.intro (rfl : _ = some _) ?_); with_reducible conv => whnf) | (refine And.intro (okII _ _) ?_; rw [eqD_ii]; with_reducible conv => whnf) | (refine And.intro (by first | assumption | exact Exists.intro _ (by assumption) | exact ⟨rfl, rfl, by decide, by decide⟩ | exact Nat.le_of_ble_eq_true rfl | exact rfl) ?_; with_reducible conv => whnf) | (rw [isLst_at (by assumption)]; with_reducible conv => whnf) | (refine ifT rfl ?_; with_reducible conv => whnf) | (refine ifF rfl ?_; with_reducible conv => whnf) | (refine it_at (by assumption) ?_; with_reducible conv => whnf)))
      have := k S' (Sub.refl _)
      rw [← hg, Nat.gcd_zero_right] at this
      exact this
    · refine ifF (by simp; omega) ?_
      ((with_reducible conv => whnf); repeat (first | (rw [natD_len]; with_reducible conv => whnf) | (rw [intD_len]; with_reducible conv => whnf) | (refine Exists.intro _ (And.intro (rfl : _ = some _) ?_); with_reducible conv => whnf) | (refine And.intro (okII _ _) ?_; rw [eqD_ii]; with_reducible conv => whnf) | (refine And.intro (by first | assumption | exact Exists.intro _ (by assumption) | exact ⟨rfl, rfl, by decide, by decide⟩ | exact Nat.le_of_ble_eq_true rfl | exact rfl) ?_; with_reducible conv => whnf) | (rw [isLst_at (by assumption)]; with_reducible conv => whnf) | (refine ifT rfl ?_; with_reducible conv => whnf) | (refine ifF rfl ?_; with_reducible conv => whnf) | (refine it_at (by assumption) ?_; with_reducible conv => whnf)))
      refine ⟨by omega, ?_⟩
      have e : (a : Int).fmod (b : Int) = ((a % b : Nat) : Int) := by
        rw [Int.fmod_eq_emod_of_nonneg _ (by omega), Int.natCast_emod]
      rw [e]
      ((with_reducible conv => whnf); repeat (first | (rw [natD_len]; with_reducible conv => whnf) | (rw [intD_len]; with_reducible conv => whnf) | (refine Exists.intro _ (And.intro (rfl : _ = some _) ?_); with_reducible conv => whnf) | (refine And.intro (okII _ _) ?_; rw [eqD_ii]; with_reducible conv => whnf) | (refine And.intro (by first | assumption | exact Exists.intro _ (by assumption) | exact ⟨rfl, rfl, by decide, by decide⟩ | exact Nat.le_of_ble_eq_true rfl | exact rfl) ?_; with_reducible conv => whnf) | (rw [isLst_at (by assumption)]; with_reducible conv => whnf) | (refine ifT rfl ?_; with_reducible conv => whnf) | (refine ifF rfl ?_; with_reducible conv => whnf) | (refine it_at (by assumption) ?_; with_reducible conv => whnf)))
      have hb0 : 0 < b := by omega
      refine ⟨b, a % b, _, _, rfl, ?_, by omega, fun _ => ⟨Nat.mod_lt _ hb0, ?_⟩, rfl⟩
      · rw [← hg, Nat.gcd_comm a b, Nat.gcd_rec b a, Nat.gcd_comm]
      · rcases Nat.eq_zero_or_pos i with c | c
        · subst c
          rw [h0 rfl]
          show 1 * _ + 0 * _ ≤ _
          omega
        · obtain ⟨i, rfl⟩ : ∃ j, i = j + 1 := ⟨i - 1, by omega⟩
          obtain ⟨h2, h3⟩ := h1 c
          exact fib_step hb0 (Nat.le_of_lt h2) h3
  · rintro ρ' S' ⟨a, b, o4, o5, rfl, hg, h0, h1, rfl⟩
    rw [rangeD_len] at h1
    obtain ⟨h2, h3⟩ := h1 (by decide)
    have hb : b = 0 := by
      false_or_by_contra
      rename_i hc
      rw [show ((4000 : Int) - 0).toNat = 4000 from rfl] at h3
      have h4 := Nat.mul_le_mul_left (fib 4000) (show 1 ≤ a by omega)
      have h5 := fib4000
      omega
    subst hb
    ((with_reducible conv => whnf); repeat (first | (rw [natD_len]; with_reducible conv => whnf) | (rw [intD_len]; with_reducible conv => whnf) | (refine Exists.intro _ (And.intro (rfl : _ = some _) ?_); with_reducible conv => whnf) | (refine And.intro (okII _ _) ?_; rw [eqD_ii]; with_reducible conv => whnf) | (refine And.intro (by first | assumption | exact Exists.intro _ (by assumption) | exact ⟨rfl, rfl, by decide, by decide⟩ | exact Nat.le_of_ble_eq_true rfl | exact rfl) ?_; with_reducible conv => whnf) | (rw [isLst_at (by assumption)]; with_reducible conv => whnf) | (refine ifT rfl ?_; with_reducible conv => whnf) | (refine ifF rfl ?_; with_reducible conv => whnf) | (refine it_at (by assumption) ?_; with_reducible conv => whnf)))
    have := k S' (Sub.refl _)
    rw [← hg, Nat.gcd_zero_right] at this
    exact this
@[reducible] def sp_frac : Spc := fun ds S Q => ∃ n d, ds = [.int n, .int d] ∧ d ≠ 0 ∧ d.natAbs < 2 ^ 2600 ∧ ∀ S', Sub S S' → Q (qD (Rat.divInt n d)) S'
theorem body_law_frac : Body 3 2 (w_law_frac sp_shared) sp_frac := by
  rintro ds S Q _ ⟨n, d, rfl, h0, hb, k⟩
  unfold w_law_frac
  (simp only [start, List.map_cons, List.map_nil, List.length_cons, List.length_nil, Nat.reduceAdd, Nat.reduceSub, List.replicate_succ, List.replicate_zero, List.cons_append, List.nil_append, Nat.sub_self, Nat.zero_add])
  ((with_reducible conv => whnf); repeat (first | (rw [natD_len]; with_reducible conv => whnf) | (rw [intD_len]; with_reducible conv => whnf) | (refine Exists.intro _ (And.intro (rfl : _ = some _) ?_); with_reducible conv => whnf) | (refine And.intro (okII _ _) ?_; rw [eqD_ii]; with_reducible conv => whnf) | (refine And.intro (by first | assumption | exact Exists.intro _ (by assumption) | exact ⟨rfl, rfl, by decide, by decide⟩ | exact Nat.le_of_ble_eq_true rfl | exact rfl) ?_; with_reducible conv => whnf) | (rw [isLst_at (by assumption)]; with_reducible conv => whnf) | (refine ifT rfl ?_; with_reducible conv => whnf) | (refine ifF rfl ?_; with_reducible conv => whnf) | (refine it_at (by assumption) ?_; with_reducible conv => whnf)))
  refine ⟨_, _, rfl, hb, fun S1 h1 => ?_⟩
  have hg : 0 < Nat.gcd n.natAbs d.natAbs := Nat.gcd_pos_of_pos_right _ (by omega)
  have hle : Nat.gcd n.natAbs d.natAbs ≤ d.natAbs := Nat.gcd_le_right _ (by omega)
  have hlt : Nat.gcd n.natAbs d.natAbs < 2 ^ 9000 := Nat.lt_of_le_of_lt hle (Nat.lt_of_lt_of_le hb (Nat.pow_le_pow_right (by decide) (by decide)))
  have e := ratio_eq (n := n) h0
  have k := k S1 h1
  unfold qD at k
  rw [← e.1, ← e.2] at k
  ((with_reducible conv => whnf); repeat (first | (rw [natD_len]; with_reducible conv => whnf) | (rw [intD_len]; with_reducible conv => whnf) | (refine Exists.intro _ (And.intro (rfl : _ = some _) ?_); with_reducible conv => whnf) | (refine And.intro (okII _ _) ?_; rw [eqD_ii]; with_reducible conv => whnf) | (refine And.intro (by first | assumption | exact Exists.intro _ (by assumption) | exact ⟨rfl, rfl, by decide, by decide⟩ | exact Nat.le_of_ble_eq_true rfl | exact rfl) ?_; with_reducible conv => whnf) | (rw [isLst_at (by assumption)]; with_reducible conv => whnf) | (refine ifT rfl ?_; with_reducible conv => whnf) | (refine ifF rfl ?_; with_reducible conv => whnf) | (refine it_at (by assumption) ?_; with_reducible conv => whnf)))
  refine ite_d (fun hc => ?_) fun hc => ?_
  · rw [if_pos hc] at k
    ((with_reducible conv => whnf); repeat (first | (rw [natD_len]; with_reducible conv => whnf) | (rw [intD_len]; with_reducible conv => whnf) | (refine Exists.intro _ (And.intro (rfl : _ = some _) ?_); with_reducible conv => whnf) | (refine And.intro (okII _ _) ?_; rw [eqD_ii]; with_reducible conv => whnf) | (refine And.intro (by first | assumption | exact Exists.intro _ (by assumption) | exact ⟨rfl, rfl, by decide, by decide⟩ | exact Nat.le_of_ble_eq_true rfl | exact rfl) ?_; with_reducible conv => whnf) | (rw [isLst_at (by assumption)]; with_reducible conv => whnf) | (refine ifT rfl ?_; with_reducible conv => whnf) | (refine ifF rfl ?_; with_reducible conv => whnf) | (refine it_at (by assumption) ?_; with_reducible conv => whnf)))
    refine ⟨⟨by omega, by omega⟩, ?_⟩
    ((with_reducible conv => whnf); repeat (first | (rw [natD_len]; with_reducible conv => whnf) | (rw [intD_len]; with_reducible conv => whnf) | (refine Exists.intro _ (And.intro (rfl : _ = some _) ?_); with_reducible conv => whnf) | (refine And.intro (okII _ _) ?_; rw [eqD_ii]; with_reducible conv => whnf) | (refine And.intro (by first | assumption | exact Exists.intro _ (by assumption) | exact ⟨rfl, rfl, by decide, by decide⟩ | exact Nat.le_of_ble_eq_true rfl | exact rfl) ?_; with_reducible conv => whnf) | (rw [isLst_at (by assumption)]; with_reducible conv => whnf) | (refine ifT rfl ?_; with_reducible conv => whnf) | (refine ifF rfl ?_; with_reducible conv => whnf) | (refine it_at (by assumption) ?_; with_reducible conv => whnf)))
    refine ⟨⟨by omega, by omega⟩, ?_⟩
    ((with_reducible conv => whnf); repeat (first | (rw [natD_len]; with_reducible conv => whnf) | (rw [intD_len]; with_reducible conv => whnf) | (refine Exists.intro _ (And.intro (rfl : _ = some _) ?_); with_reducible conv => whnf) | (refine And.intro (okII _ _) ?_; rw [eqD_ii]; with_reducible conv => whnf) | (refine And.intro (by first | assumption | exact Exists.intro _ (by assumption) | exact ⟨rfl, rfl, by decide, by decide⟩ | exact Nat.le_of_ble_eq_true rfl | exact rfl) ?_; with_reducible conv => whnf) | (rw [isLst_at (by assumption)]; with_reducible conv => whnf) | (refine ifT rfl ?_; with_reducible conv => whnf) | (refine ifF rfl ?_; with_reducible conv => whnf) | (refine it_at (by assumption) ?_; with_reducible conv => whnf)))
    exact k
  · rw [if_neg hc] at k
    ((with_reducible conv => whnf); repeat (first | (rw [natD_len]; with_reducible conv => whnf) | (rw [intD_len]; with_reducible conv => whnf) | (refine Exists.intro _ (And.intro (rfl : _ = some _) ?_); with_reducible conv => whnf) | (refine And.intro (okII _ _) ?_; rw [eqD_ii]; with_reducible conv => whnf) | (refine And.intro (by first | assumption | exact Exists.intro _ (by assumption) | exact ⟨rfl, rfl, by decide, by decide⟩ | exact Nat.le_of_ble_eq_true rfl | exact rfl) ?_; with_reducible conv => whnf) | (rw [isLst_at (by assumption)]; with_reducible conv => whnf) | (refine ifT rfl ?_; with_reducible conv => whnf) | (refine ifF rfl ?_; with_reducible conv => whnf) | (refine it_at (by assumption) ?_; with_reducible conv => whnf)))
    refine ⟨⟨by omega, by omega⟩, ?_⟩
    ((with_reducible conv => whnf); repeat (first | (rw [natD_len]; with_reducible conv => whnf) | (rw [intD_len]; with_reducible conv => whnf) | (refine Exists.intro _ (And.intro (rfl : _ = some _) ?_); with_reducible conv => whnf) | (refine And.intro (okII _ _) ?_; rw [eqD_ii]; with_reducible conv => whnf) | (refine And.intro (by first | assumption | exact Exists.intro _ (by assumption) | exact ⟨rfl, rfl, by decide, by decide⟩ | exact Nat.le_of_ble_eq_true rfl | exact rfl) ?_; with_reducible conv => whnf) | (rw [isLst_at (by assumption)]; with_reducible conv => whnf) | (refine ifT rfl ?_; with_reducible conv => whnf) | (refine ifF rfl ?_; with_reducible conv => whnf) | (refine it_at (by assumption) ?_; with_reducible conv => whnf)))
    refine ⟨⟨by omega, by omega⟩, ?_⟩
    ((with_reducible conv => whnf); repeat (first | (rw [natD_len]; with_reducible conv => whnf) | (rw [intD_len]; with_reducible conv => whnf) | (refine Exists.intro _ (And.intro (rfl : _ = some _) ?_); with_reducible conv => whnf) | (refine And.intro (okII _ _) ?_; rw [eqD_ii]; with_reducible conv => whnf) | (refine And.intro (by first | assumption | exact Exists.intro _ (by assumption) | exact ⟨rfl, rfl, by decide, by decide⟩ | exact Nat.le_of_ble_eq_true rfl | exact rfl) ?_; with_reducible conv => whnf) | (rw [isLst_at (by assumption)]; with_reducible conv => whnf) | (refine ifT rfl ?_; with_reducible conv => whnf) | (refine ifF rfl ?_; with_reducible conv => whnf) | (refine it_at (by assumption) ?_; with_reducible conv => whnf)))
    exact k
end K94
set_option linter.all false
set_option maxRecDepth 100000
set_option maxHeartbeats 4000000
namespace K94
open DL
def fct : Nat → Nat
  | 0 => 1
  | n + 1 => fct n * (n + 1)
theorem fct_pos : ∀ n, 0 < fct n
  | 0 => Nat.one_pos
  | n + 1 => Nat.mul_pos (fct_pos n) (Nat.succ_pos n)
def chs : Nat → Nat → Nat
  | _, 0 => 1
  | 0, _ + 1 => 0
  | n + 1, k + 1 => chs n k + chs n (k + 1)
theorem chs_0 (n : Nat) : chs n 0 = 1 := by cases n <;> rfl
theorem chs_a : ∀ n k, (k + 1) * chs (n + 1) (k + 1) = (n + 1) * chs n k
  | 0, 0 => rfl
  | 0, k + 1 => by show (k + 1 + 1) * (chs 0 (k + 1) + chs 0 (k + 2)) = 1 * chs 0 (k + 1); show (k + 1 + 1) * (0 + 0) = 1 * 0; omega
  | n + 1, 0 => by
    have ih := chs_a n 0
    show (0 + 1) * (chs (n + 1) 0 + chs (n + 1) 1) = (n + 1 + 1) * chs (n + 1) 0
    rw [chs_0] at ih ⊢
    rw [show chs (n + 1) (0 + 1) = chs (n + 1) 1 from rfl] at ih
    grind
  | n + 1, k + 1 => by
    have h1 := chs_a n k
    have h2 := chs_a n (k + 1)
    show (k + 1 + 1) * (chs (n + 1) (k + 1) + chs (n + 1) (k + 1 + 1)) = (n + 1 + 1) * (chs n k + chs n (k + 1))
    have e : chs (n + 1) (k + 1) = chs n k + chs n (k + 1) := rfl
    rw [e] at h1
    rw [e]
    generalize chs (n + 1) (k + 1 + 1) = c at *
    generalize chs n k = a at *
    generalize chs n (k + 1) = b at *
    grind
theorem chs_b {n k : Nat} (h : k ≤ n) : chs n (k + 1) * (k + 1) = chs n k * (n - k) := by
  have h1 := chs_a n k
  have e : chs (n + 1) (k + 1) = chs n k + chs n (k + 1) := rfl
  rw [e, Nat.mul_add] at h1
  obtain ⟨j, rfl⟩ : ∃ j, n = k + j := ⟨n - k, by omega⟩
  rw [Nat.add_sub_cancel_left, Nat.mul_comm _ (k + 1), Nat.mul_comm (chs (k + j) k) j]
  have e2 : (k + j + 1) * chs (k + j) k = (k + 1) * chs (k + j) k + j * chs (k + j) k := by rw [← Nat.add_mul]; congr 1; omega
  omega
theorem chs_c : ∀ (k n : Nat), k ≤ n → chs n k * (fct k * fct (n - k)) = fct n
  | 0, n, _ => by rw [chs_0, Nat.one_mul, Nat.sub_zero]; show 1 * fct n = fct n; omega
  | k + 1, n, h => by
    have ih := chs_c k n (by omega)
    obtain ⟨j, rfl⟩ : ∃ j, n = k + 1 + j := ⟨n - (k + 1), by omega⟩
    have hb := chs_b (n := k + 1 + j) (k := k) (by omega)
    rw [show k + 1 + j - k = j + 1 by omega] at ih hb
    rw [show k + 1 + j - (k + 1) = j by omega, ← ih]
    show chs (k + 1 + j) (k + 1) * (fct k * (k + 1) * fct j) = chs (k + 1 + j) k * (fct k * (fct j * (j + 1)))
    grind
theorem chs_sym {n k : Nat} (h : k ≤ n) : chs n k = chs n (n - k) := by
  have h1 := chs_c k n h
  have h2 := chs_c (n - k) n (by omega)
  rw [show n - (n - k) = k by omega, Nat.mul_comm (fct (n - k))] at h2
  exact Nat.eq_of_mul_eq_mul_right (Nat.mul_pos (fct_pos k) (fct_pos (n - k))) (h1.trans h2.symm)
theorem chs_div {n k : Nat} (h : k ≤ n) : chs n k * (n - k) / (k + 1) = chs n (k + 1) := by
  rw [← chs_b h]
  exact Nat.mul_div_cancel _ (Nat.succ_pos k)
theorem chs_big : ∀ {n k : Nat}, n < k → chs n k = 0
  | 0, k + 1, _ => rfl
  | n + 1, k + 1, h => by
    show chs n k + chs n (k + 1) = 0
    rw [chs_big (show n < k by omega), chs_big (show n < k + 1 by omega)]
def waysZ (n k : Int) : Int := if 0 ≤ k ∧ k ≤ n then (chs n.toNat k.toNat : Nat) else 0
theorem waysZ_no {n k : Int} (h : ¬ (0 ≤ k ∧ k ≤ n)) : waysZ n k = 0 := if_neg h
theorem waysZ_nat (n k : Nat) : waysZ n k = (chs n k : Nat) := by
  unfold waysZ
  by_cases h : k ≤ n
  · rw [if_pos (by omega), Int.toNat_natCast, Int.toNat_natCast]
  · rw [if_neg (by omega), chs_big (by omega)]; rfl
theorem waysZ_neg {n k : Int} (h : k < 0) : waysZ n k = 0 := waysZ_no (by omega)
def smS (q : Rat) : Prop := q.den < 2 ^ 900 ∧ q.num.natAbs < 2 ^ 4000
theorem smS.sm {q : Rat} (h : smS q) : DL.sm q := ⟨Nat.lt_of_lt_of_le h.1 (pow_le2 (by decide)), h.2⟩
theorem smS_of {P M : Nat} {q : Rat} (h : Ov P q) (hP : 0 < P) (h1 : -(M : Rat) ≤ q) (h2 : q ≤ (M : Rat)) (hp : P < 2 ^ 900) (hm : M < 2 ^ 3000) : smS q := by
  refine ⟨Nat.lt_of_le_of_lt (Nat.le_of_dvd hP h) hp, (sm_of h hP h1 h2 (Nat.lt_of_lt_of_le hp (pow_le2 (by decide))) ?_).2⟩
  exact Nat.lt_of_lt_of_le (Nat.mul_lt_mul'' hm hp) (by rw [← Nat.pow_add]; exact pow_le2 (by decide))
theorem sm_mn {a b : Rat} (ha : sm a) (hb : sm b) : MulOk a.num b.den := sm_mul (Nat.lt_of_lt_of_le ha.2 (pow_le2 (by decide))) (by rw [Int.natAbs_natCast]; exact Nat.lt_of_lt_of_le hb.1 (pow_le2 (by decide)))
theorem sm_nn {a b : Rat} (ha : sm a) (hb : sm b) : MulOk a.num b.num := sm_mul (Nat.lt_of_lt_of_le ha.2 (pow_le2 (by decide))) (Nat.lt_of_lt_of_le hb.2 (pow_le2 (by decide)))
theorem sm_mm {a b : Rat} (ha : sm a) (hb : sm b) : MulOk a.den b.den := sm_mul (by rw [Int.natAbs_natCast]; exact Nat.lt_of_lt_of_le ha.1 (pow_le2 (by decide))) (by rw [Int.natAbs_natCast]; exact Nat.lt_of_lt_of_le hb.1 (pow_le2 (by decide)))
theorem smS_dd {a b : Rat} (ha : smS a) (hb : smS b) : (a.den : Int) * (b.den : Int) ≠ 0 ∧ ((a.den : Int) * (b.den : Int)).natAbs < 2 ^ 1900 := by
  refine ⟨Int.mul_ne_zero (by have := a.den_nz; omega) (by have := b.den_nz; omega), ?_⟩
  rw [Int.natAbs_mul, Int.natAbs_natCast, Int.natAbs_natCast]
  exact Nat.lt_of_lt_of_le (Nat.mul_lt_mul'' ha.1 hb.1) (by rw [← Nat.pow_add]; exact pow_le2 (by decide))
@[reducible] def sp_s2 (f : Rat → Rat → Rat) : Spc := fun ds S Q => ∃ a b, ds = [qD a, qD b] ∧ smS a ∧ smS b ∧ ∀ S', Sub S S' → Q (qD (f a b)) S'
@[reducible] def sp_div : Spc := fun ds S Q => ∃ a b, ds = [qD a, qD b] ∧ smS a ∧ smS b ∧ 0 < b ∧ b.num.natAbs < 2 ^ 900 ∧ ∀ S', Sub S S' → Q (qD (a / b)) S'
theorem body_plus : Body 2 2 (w_plus sp_ratio) (sp_s2 (· + ·)) := by
  rintro ds S Q _ ⟨a, b, rfl, ha, hb, k⟩
  unfold w_plus
  (simp only [start, List.map_cons, List.map_nil, List.length_cons, List.length_nil, Nat.reduceAdd, Nat.reduceSub, List.replicate_succ, List.replicate_zero, List.cons_append, List.nil_append, Nat.sub_self, Nat.zero_add])
  ((with_reducible conv => whnf); repeat (first | (rw [natD_len]; with_reducible conv => whnf) | (rw [intD_len]; with_reducible conv => whnf) | (refine Exists.intro _ (And.intro (rfl : _ = some _) ?_); with_reducible conv => whnf) | (refine And.intro (okII _ _) ?_; rw [eqD_ii]; with_reducible conv => whnf) | (refine And.intro (by first | assumption | exact Exists.intro _ (by assumption) | exact ⟨rfl, rfl, by decide, by decide⟩ | exact Nat.le_of_ble_eq_true rfl | exact rfl) ?_; with_reducible conv => whnf) | (rw [isLst_at (by assumption)]; with_reducible conv => whnf) | (refine ifT rfl ?_; with_reducible conv => whnf) | (refine ifF rfl ?_; with_reducible conv => whnf) | (refine it_at (by assumption) ?_; with_reducible conv => whnf)))
  refine ⟨sm_mn ha.sm hb.sm, ?_⟩
  ((with_reducible conv => whnf); repeat (first | (rw [natD_len]; with_reducible conv => whnf) | (rw [intD_len]; with_reducible conv => whnf) | (refine Exists.intro _ (And.intro (rfl : _ = some _) ?_); with_reducible conv => whnf) | (refine And.intro (okII _ _) ?_; rw [eqD_ii]; with_reducible conv => whnf) | (refine And.intro (by first | assumption | exact Exists.intro _ (by assumption) | exact ⟨rfl, rfl, by decide, by decide⟩ | exact Nat.le_of_ble_eq_true rfl | exact rfl) ?_; with_reducible conv => whnf) | (rw [isLst_at (by assumption)]; with_reducible conv => whnf) | (refine ifT rfl ?_; with_reducible conv => whnf) | (refine ifF rfl ?_; with_reducible conv => whnf) | (refine it_at (by assumption) ?_; with_reducible conv => whnf)))
  refine ⟨sm_mn hb.sm ha.sm, ?_⟩
  ((with_reducible conv => whnf); repeat (first | (rw [natD_len]; with_reducible conv => whnf) | (rw [intD_len]; with_reducible conv => whnf) | (refine Exists.intro _ (And.intro (rfl : _ = some _) ?_); with_reducible conv => whnf) | (refine And.intro (okII _ _) ?_; rw [eqD_ii]; with_reducible conv => whnf) | (refine And.intro (by first | assumption | exact Exists.intro _ (by assumption) | exact ⟨rfl, rfl, by decide, by decide⟩ | exact Nat.le_of_ble_eq_true rfl | exact rfl) ?_; with_reducible conv => whnf) | (rw [isLst_at (by assumption)]; with_reducible conv => whnf) | (refine ifT rfl ?_; with_reducible conv => whnf) | (refine ifF rfl ?_; with_reducible conv => whnf) | (refine it_at (by assumption) ?_; with_reducible conv => whnf)))
  refine ⟨sm_mm ha.sm hb.sm, ?_⟩
  ((with_reducible conv => whnf); repeat (first | (rw [natD_len]; with_reducible conv => whnf) | (rw [intD_len]; with_reducible conv => whnf) | (refine Exists.intro _ (And.intro (rfl : _ = some _) ?_); with_reducible conv => whnf) | (refine And.intro (okII _ _) ?_; rw [eqD_ii]; with_reducible conv => whnf) | (refine And.intro (by first | assumption | exact Exists.intro _ (by assumption) | exact ⟨rfl, rfl, by decide, by decide⟩ | exact Nat.le_of_ble_eq_true rfl | exact rfl) ?_; with_reducible conv => whnf) | (rw [isLst_at (by assumption)]; with_reducible conv => whnf) | (refine ifT rfl ?_; with_reducible conv => whnf) | (refine ifF rfl ?_; with_reducible conv => whnf) | (refine it_at (by assumption) ?_; with_reducible conv => whnf)))
  obtain ⟨h1, h2⟩ := smS_dd ha hb
  refine ⟨_, _, rfl, h1, Nat.lt_of_lt_of_le h2 (pow_le2 (by decide)), fun S' h => ?_⟩
  rw [q_plus]
  exact k S' h
theorem body_minus : Body 2 2 (w_minus sp_ratio) (sp_s2 (· - ·)) := by
  rintro ds S Q _ ⟨a, b, rfl, ha, hb, k⟩
  unfold w_minus
  (simp only [start, List.map_cons, List.map_nil, List.length_cons, List.length_nil, Nat.reduceAdd, Nat.reduceSub, List.replicate_succ, List.replicate_zero, List.cons_append, List.nil_append, Nat.sub_self, Nat.zero_add])
  ((with_reducible conv => whnf); repeat (first | (rw [natD_len]; with_reducible conv => whnf) | (rw [intD_len]; with_reducible conv => whnf) | (refine Exists.intro _ (And.intro (rfl : _ = some _) ?_); with_reducible conv => whnf) | (refine And.intro (okII _ _) ?_; rw [eqD_ii]; with_reducible conv => whnf) | (refine And.intro (by first | assumption | exact Exists.intro _ (by assumption) | exact ⟨rfl, rfl, by decide, by decide⟩ | exact Nat.le_of_ble_eq_true rfl | exact rfl) ?_; with_reducible conv => whnf) | (rw [isLst_at (by assumption)]; with_reducible conv => whnf) | (refine ifT rfl ?_; with_reducible conv => whnf) | (refine ifF rfl ?_; with_reducible conv => whnf) | (refine it_at (by assumption) ?_; with_reducible conv => whnf)))
  refine ⟨sm_mn ha.sm hb.sm, ?_⟩
  ((with_reducible conv => whnf); repeat (first | (rw [natD_len]; with_reducible conv => whnf) | (rw [intD_len]; with_reducible conv => whnf) | (refine Exists.intro _ (And.intro (rfl : _ = some _) ?_); with_reducible conv => whnf) | (refine And.intro (okII _ _) ?_; rw [eqD_ii]; with_reducible conv => whnf) | (refine And.intro (by first | assumption | exact Exists.intro _ (by assumption) | exact ⟨rfl, rfl, by decide, by decide⟩ | exact Nat.le_of_ble_eq_true rfl | exact rfl) ?_; with_reducible conv => whnf) | (rw [isLst_at (by assumption)]; with_reducible conv => whnf) | (refine ifT rfl ?_; with_reducible conv => whnf) | (refine ifF rfl ?_; with_reducible conv => whnf) | (refine it_at (by assumption) ?_; with_reducible conv => whnf)))
  refine ⟨sm_mn hb.sm ha.sm, ?_⟩
  ((with_reducible conv => whnf); repeat (first | (rw [natD_len]; with_reducible conv => whnf) | (rw [intD_len]; with_reducible conv => whnf) | (refine Exists.intro _ (And.intro (rfl : _ = some _) ?_); with_reducible conv => whnf) | (refine And.intro (okII _ _) ?_; rw [eqD_ii]; with_reducible conv => whnf) | (refine And.intro (by first | assumption | exact Exists.intro _ (by assumption) | exact ⟨rfl, rfl, by decide, by decide⟩ | exact Nat.le_of_ble_eq_true rfl | exact rfl) ?_; with_reducible conv => whnf) | (rw [isLst_at (by assumption)]; with_reducible conv => whnf) | (refine ifT rfl ?_; with_reducible conv => whnf) | (refine ifF rfl ?_; with_reducible conv => whnf) | (refine it_at (by assumption) ?_; with_reducible conv => whnf)))
  refine ⟨sm_mm ha.sm hb.sm, ?_⟩
  ((with_reducible conv => whnf); repeat (first | (rw [natD_len]; with_reducible conv => whnf) | (rw [intD_len]; with_reducible conv => whnf) | (refine Exists.intro _ (And.intro (rfl : _ = some _) ?_); with_reducible conv => whnf) | (refine And.intro (okII _ _) ?_; rw [eqD_ii]; with_reducible conv => whnf) | (refine And.intro (by first | assumption | exact Exists.intro _ (by assumption) | exact ⟨rfl, rfl, by decide, by decide⟩ | exact Nat.le_of_ble_eq_true rfl | exact rfl) ?_; with_reducible conv => whnf) | (rw [isLst_at (by assumption)]; with_reducible conv => whnf) | (refine ifT rfl ?_; with_reducible conv => whnf) | (refine ifF rfl ?_; with_reducible conv => whnf) | (refine it_at (by assumption) ?_; with_reducible conv => whnf)))
  obtain ⟨h1, h2⟩ := smS_dd ha hb
  refine ⟨_, _, rfl, h1, Nat.lt_of_lt_of_le h2 (pow_le2 (by decide)), fun S' h => ?_⟩
  rw [q_minus]
  exact k S' h
theorem body_times : Body 2 2 (w_times sp_ratio) (sp_s2 (· * ·)) := by
  rintro ds S Q _ ⟨a, b, rfl, ha, hb, k⟩
  unfold w_times
  (simp only [start, List.map_cons, List.map_nil, List.length_cons, List.length_nil, Nat.reduceAdd, Nat.reduceSub, List.replicate_succ, List.replicate_zero, List.cons_append, List.nil_append, Nat.sub_self, Nat.zero_add])
  ((with_reducible conv => whnf); repeat (first | (rw [natD_len]; with_reducible conv => whnf) | (rw [intD_len]; with_reducible conv => whnf) | (refine Exists.intro _ (And.intro (rfl : _ = some _) ?_); with_reducible conv => whnf) | (refine And.intro (okII _ _) ?_; rw [eqD_ii]; with_reducible conv => whnf) | (refine And.intro (by first | assumption | exact Exists.intro _ (by assumption) | exact ⟨rfl, rfl, by decide, by decide⟩ | exact Nat.le_of_ble_eq_true rfl | exact rfl) ?_; with_reducible conv => whnf) | (rw [isLst_at (by assumption)]; with_reducible conv => whnf) | (refine ifT rfl ?_; with_reducible conv => whnf) | (refine ifF rfl ?_; with_reducible conv => whnf) | (refine it_at (by assumption) ?_; with_reducible conv => whnf)))
  refine ⟨sm_nn ha.sm hb.sm, ?_⟩
  ((with_reducible conv => whnf); repeat (first | (rw [natD_len]; with_reducible conv => whnf) | (rw [intD_len]; with_reducible conv => whnf) | (refine Exists.intro _ (And.intro (rfl : _ = some _) ?_); with_reducible conv => whnf) | (refine And.intro (okII _ _) ?_; rw [eqD_ii]; with_reducible conv => whnf) | (refine And.intro (by first | assumption | exact Exists.intro _ (by assumption) | exact ⟨rfl, rfl, by decide, by decide⟩ | exact Nat.le_of_ble_eq_true rfl | exact rfl) ?_; with_reducible conv => whnf) | (rw [isLst_at (by assumption)]; with_reducible conv => whnf) | (refine ifT rfl ?_; with_reducible conv => whnf) | (refine ifF rfl ?_; with_reducible conv => whnf) | (refine it_at (by assumption) ?_; with_reducible conv => whnf)))
  refine ⟨sm_mm ha.sm hb.sm, ?_⟩
  ((with_reducible conv => whnf); repeat (first | (rw [natD_len]; with_reducible conv => whnf) | (rw [intD_len]; with_reducible conv => whnf) | (refine Exists.intro _ (And.intro (rfl : _ = some _) ?_); with_reducible conv => whnf) | (refine And.intro (okII _ _) ?_; rw [eqD_ii]; with_reducible conv => whnf) | (refine And.intro (by first | assumption | exact Exists.intro _ (by assumption) | exact ⟨rfl, rfl, by decide, by decide⟩ | exact Nat.le_of_ble_eq_true rfl | exact rfl) ?_; with_reducible conv => whnf) | (rw [isLst_at (by assumption)]; with_reducible conv => whnf) | (refine ifT rfl ?_; with_reducible conv => whnf) | (refine ifF rfl ?_; with_reducible conv => whnf) | (refine it_at (by assumption) ?_; with_reducible conv => whnf)))
  obtain ⟨h1, h2⟩ := smS_dd ha hb
  refine ⟨_, _, rfl, h1, Nat.lt_of_lt_of_le h2 (pow_le2 (by decide)), fun S' h => ?_⟩
  rw [q_times]
  exact k S' h
theorem body_law_plus : Body 2 2 (w_law_plus sp_frac) (sp_s2 (· + ·)) := by
  rintro ds S Q _ ⟨a, b, rfl, ha, hb, k⟩
  unfold w_law_plus
  (simp only [start, List.map_cons, List.map_nil, List.length_cons, List.length_nil, Nat.reduceAdd, Nat.reduceSub, List.replicate_succ, List.replicate_zero, List.cons_append, List.nil_append, Nat.sub_self, Nat.zero_add])
  ((with_reducible conv => whnf); repeat (first | (rw [natD_len]; with_reducible conv => whnf) | (rw [intD_len]; with_reducible conv => whnf) | (refine Exists.intro _ (And.intro (rfl : _ = some _) ?_); with_reducible conv => whnf) | (refine And.intro (okII _ _) ?_; rw [eqD_ii]; with_reducible conv => whnf) | (refine And.intro (by first | assumption | exact Exists.intro _ (by assumption) | exact ⟨rfl, rfl, by decide, by decide⟩ | exact Nat.le_of_ble_eq_true rfl | exact rfl) ?_; with_reducible conv => whnf) | (rw [isLst_at (by assumption)]; with_reducible conv => whnf) | (refine ifT rfl ?_; with_reducible conv => whnf) | (refine ifF rfl ?_; with_reducible conv => whnf) | (refine it_at (by assumption) ?_; with_reducible conv => whnf)))
  refine ⟨sm_mn ha.sm hb.sm, ?_⟩
  ((with_reducible conv => whnf); repeat (first | (rw [natD_len]; with_reducible conv => whnf) | (rw [intD_len]; with_reducible conv => whnf) | (refine Exists.intro _ (And.intro (rfl : _ = some _) ?_); with_reducible conv => whnf) | (refine And.intro (okII _ _) ?_; rw [eqD_ii]; with_reducible conv => whnf) | (refine And.intro (by first | assumption | exact Exists.intro _ (by assumption) | exact ⟨rfl, rfl, by decide, by decide⟩ | exact Nat.le_of_ble_eq_true rfl | exact rfl) ?_; with_reducible conv => whnf) | (rw [isLst_at (by assumption)]; with_reducible conv => whnf) | (refine ifT rfl ?_; with_reducible conv => whnf) | (refine ifF rfl ?_; with_reducible conv => whnf) | (refine it_at (by assumption) ?_; with_reducible conv => whnf)))
  refine ⟨sm_mn hb.sm ha.sm, ?_⟩
  ((with_reducible conv => whnf); repeat (first | (rw [natD_len]; with_reducible conv => whnf) | (rw [intD_len]; with_reducible conv => whnf) | (refine Exists.intro _ (And.intro (rfl : _ = some _) ?_); with_reducible conv => whnf) | (refine And.intro (okII _ _) ?_; rw [eqD_ii]; with_reducible conv => whnf) | (refine And.intro (by first | assumption | exact Exists.intro _ (by assumption) | exact ⟨rfl, rfl, by decide, by decide⟩ | exact Nat.le_of_ble_eq_true rfl | exact rfl) ?_; with_reducible conv => whnf) | (rw [isLst_at (by assumption)]; with_reducible conv => whnf) | (refine ifT rfl ?_; with_reducible conv => whnf) | (refine ifF rfl ?_; with_reducible conv => whnf) | (refine it_at (by assumption) ?_; with_reducible conv => whnf)))
  refine ⟨sm_mm ha.sm hb.sm, ?_⟩
  ((with_reducible conv => whnf); repeat (first | (rw [natD_len]; with_reducible conv => whnf) | (rw [intD_len]; with_reducible conv => whnf) | (refine Exists.intro _ (And.intro (rfl : _ = some _) ?_); with_reducible conv => whnf) | (refine And.intro (okII _ _) ?_; rw [eqD_ii]; with_reducible conv => whnf) | (refine And.intro (by first | assumption | exact Exists.intro _ (by assumption) | exact ⟨rfl, rfl, by decide, by decide⟩ | exact Nat.le_of_ble_eq_true rfl | exact rfl) ?_; with_reducible conv => whnf) | (rw [isLst_at (by assumption)]; with_reducible conv => whnf) | (refine ifT rfl ?_; with_reducible conv => whnf) | (refine ifF rfl ?_; with_reducible conv => whnf) | (refine it_at (by assumption) ?_; with_reducible conv => whnf)))
  obtain ⟨h1, h2⟩ := smS_dd ha hb
  refine ⟨_, _, rfl, h1, Nat.lt_of_lt_of_le h2 (pow_le2 (by decide)), fun S' h => ?_⟩
  rw [q_plus]
  exact k S' h
theorem body_law_minus : Body 2 2 (w_law_minus sp_frac) (sp_s2 (· - ·)) := by
  rintro ds S Q _ ⟨a, b, rfl, ha, hb, k⟩
  unfold w_law_minus
  (simp only [start, List.map_cons, List.map_nil, List.length_cons, List.length_nil, Nat.reduceAdd, Nat.reduceSub, List.replicate_succ, List.replicate_zero, List.cons_append, List.nil_append, Nat.sub_self, Nat.zero_add])
  ((with_reducible conv => whnf); repeat (first | (rw [natD_len]; with_reducible conv => whnf) | (rw [intD_len]; with_reducible conv => whnf) | (refine Exists.intro _ (And.intro (rfl : _ = some _) ?_); with_reducible conv => whnf) | (refine And.intro (okII _ _) ?_; rw [eqD_ii]; with_reducible conv => whnf) | (refine And.intro (by first | assumption | exact Exists.intro _ (by assumption) | exact ⟨rfl, rfl, by decide, by decide⟩ | exact Nat.le_of_ble_eq_true rfl | exact rfl) ?_; with_reducible conv => whnf) | (rw [isLst_at (by assumption)]; with_reducible conv => whnf) | (refine ifT rfl ?_; with_reducible conv => whnf) | (refine ifF rfl ?_; with_reducible conv => whnf) | (refine it_at (by assumption) ?_; with_reducible conv => whnf)))
  refine ⟨sm_mn ha.sm hb.sm, ?_⟩
  ((with_reducible conv => whnf); repeat (first | (rw [natD_len]; with_reducible conv => whnf) | (rw [intD_len]; with_reducible conv => whnf) | (refine Exists.intro _ (And.intro (rfl : _ = some _) ?_); with_reducible conv => whnf) | (refine And.intro (okII _ _) ?_; rw [eqD_ii]; with_reducible conv => whnf) | (refine And.intro (by first | assumption | exact Exists.intro _ (by assumption) | exact ⟨rfl, rfl, by decide, by decide⟩ | exact Nat.le_of_ble_eq_true rfl | exact rfl) ?_; with_reducible conv => whnf) | (rw [isLst_at (by assumption)]; with_reducible conv => whnf) | (refine ifT rfl ?_; with_reducible conv => whnf) | (refine ifF rfl ?_; with_reducible conv => whnf) | (refine it_at (by assumption) ?_; with_reducible conv => whnf)))
  refine ⟨sm_mn hb.sm ha.sm, ?_⟩
  ((with_reducible conv => whnf); repeat (first | (rw [natD_len]; with_reducible conv => whnf) | (rw [intD_len]; with_reducible conv => whnf) | (refine Exists.intro _ (And.intro (rfl : _ = some _) ?_); with_reducible conv => whnf) | (refine And.intro (okII _ _) ?_; rw [eqD_ii]; with_reducible conv => whnf) | (refine And.intro (by first | assumption | exact Exists.intro _ (by assumption) | exact ⟨rfl, rfl, by decide, by decide⟩ | exact Nat.le_of_ble_eq_true rfl | exact rfl) ?_; with_reducible conv => whnf) | (rw [isLst_at (by assumption)]; with_reducible conv => whnf) | (refine ifT rfl ?_; with_reducible conv => whnf) | (refine ifF rfl ?_; with_reducible conv => whnf) | (refine it_at (by assumption) ?_; with_reducible conv => whnf)))
  refine ⟨sm_mm ha.sm hb.sm, ?_⟩
  ((with_reducible conv => whnf); repeat (first | (rw [natD_len]; with_reducible conv => whnf) | (rw [intD_len]; with_reducible conv => whnf) | (refine Exists.intro _ (And.intro (rfl : _ = some _) ?_); with_reducible conv => whnf) | (refine And.intro (okII _ _) ?_; rw [eqD_ii]; with_reducible conv => whnf) | (refine And.intro (by first | assumption | exact Exists.intro _ (by assumption) | exact ⟨rfl, rfl, by decide, by decide⟩ | exact Nat.le_of_ble_eq_true rfl | exact rfl) ?_; with_reducible conv => whnf) | (rw [isLst_at (by assumption)]; with_reducible conv => whnf) | (refine ifT rfl ?_; with_reducible conv => whnf) | (refine ifF rfl ?_; with_reducible conv => whnf) | (refine it_at (by assumption) ?_; with_reducible conv => whnf)))
  obtain ⟨h1, h2⟩ := smS_dd ha hb
  refine ⟨_, _, rfl, h1, Nat.lt_of_lt_of_le h2 (pow_le2 (by decide)), fun S' h => ?_⟩
  rw [q_minus]
  exact k S' h
theorem body_law_mul : Body 2 2 (w_law_mul sp_frac) (sp_s2 (· * ·)) := by
  rintro ds S Q _ ⟨a, b, rfl, ha, hb, k⟩
  unfold w_law_mul
  (simp only [start, List.map_cons, List.map_nil, List.length_cons, List.length_nil, Nat.reduceAdd, Nat.reduceSub, List.replicate_succ, List.replicate_zero, List.cons_append, List.nil_append, Nat.sub_self, Nat.zero_add])
  ((with_reducible conv => whnf); repeat (first | (rw [natD_len]; with_reducible conv => whnf) | (rw [intD_len]; with_reducible conv => whnf) | (refine Exists.intro _ (And.intro (rfl : _ = some _) ?_); with_reducible conv => whnf) | (refine And.intro (okII _ _) ?_; rw [eqD_ii]; with_reducible conv => whnf) | (refine And.intro (by first | assumption | exact Exists.intro _ (by assumption) | exact ⟨rfl, rfl, by decide, by decide⟩ | exact Nat.le_of_ble_eq_true rfl | exact rfl) ?_; with_reducible conv => whnf) | (rw [isLst_at (by assumption)]; with_reducible conv => whnf) | (refine ifT rfl ?_; with_reducible conv => whnf) | (refine ifF rfl ?_; with_reducible conv => whnf) | (refine it_at (by assumption) ?_; with_reducible conv => whnf)))
  refine ⟨sm_nn ha.sm hb.sm, ?_⟩
  ((with_reducible conv => whnf); repeat (first | (rw [natD_len]; with_reducible conv => whnf) | (rw [intD_len]; with_reducible conv => whnf) | (refine Exists.intro _ (And.intro (rfl : _ = some _) ?_); with_reducible conv => whnf) | (refine And.intro (okII _ _) ?_; rw [eqD_ii]; with_reducible conv => whnf) | (refine And.intro (by first | assumption | exact Exists.intro _ (by assumption) | exact ⟨rfl, rfl, by decide, by decide⟩ | exact Nat.le_of_ble_eq_true rfl | exact rfl) ?_; with_reducible conv => whnf) | (rw [isLst_at (by assumption)]; with_reducible conv => whnf) | (refine ifT rfl ?_; with_reducible conv => whnf) | (refine ifF rfl ?_; with_reducible conv => whnf) | (refine it_at (by assumption) ?_; with_reducible conv => whnf)))
  refine ⟨sm_mm ha.sm hb.sm, ?_⟩
  ((with_reducible conv => whnf); repeat (first | (rw [natD_len]; with_reducible conv => whnf) | (rw [intD_len]; with_reducible conv => whnf) | (refine Exists.intro _ (And.intro (rfl : _ = some _) ?_); with_reducible conv => whnf) | (refine And.intro (okII _ _) ?_; rw [eqD_ii]; with_reducible conv => whnf) | (refine And.intro (by first | assumption | exact Exists.intro _ (by assumption) | exact ⟨rfl, rfl, by decide, by decide⟩ | exact Nat.le_of_ble_eq_true rfl | exact rfl) ?_; with_reducible conv => whnf) | (rw [isLst_at (by assumption)]; with_reducible conv => whnf) | (refine ifT rfl ?_; with_reducible conv => whnf) | (refine ifF rfl ?_; with_reducible conv => whnf) | (refine it_at (by assumption) ?_; with_reducible conv => whnf)))
  obtain ⟨h1, h2⟩ := smS_dd ha hb
  refine ⟨_, _, rfl, h1, Nat.lt_of_lt_of_le h2 (pow_le2 (by decide)), fun S' h => ?_⟩
  rw [q_times]
  exact k S' h
theorem body_divided : Body 2 2 (w_divided sp_ratio) sp_div := by
  rintro ds S Q _ ⟨a, b, rfl, ha, hb, h0, hn, k⟩
  unfold w_divided
  (simp only [start, List.map_cons, List.map_nil, List.length_cons, List.length_nil, Nat.reduceAdd, Nat.reduceSub, List.replicate_succ, List.replicate_zero, List.cons_append, List.nil_append, Nat.sub_self, Nat.zero_add])
  ((with_reducible conv => whnf); repeat (first | (rw [natD_len]; with_reducible conv => whnf) | (rw [intD_len]; with_reducible conv => whnf) | (refine Exists.intro _ (And.intro (rfl : _ = some _) ?_); with_reducible conv => whnf) | (refine And.intro (okII _ _) ?_; rw [eqD_ii]; with_reducible conv => whnf) | (refine And.intro (by first | assumption | exact Exists.intro _ (by assumption) | exact ⟨rfl, rfl, by decide, by decide⟩ | exact Nat.le_of_ble_eq_true rfl | exact rfl) ?_; with_reducible conv => whnf) | (rw [isLst_at (by assumption)]; with_reducible conv => whnf) | (refine ifT rfl ?_; with_reducible conv => whnf) | (refine ifF rfl ?_; with_reducible conv => whnf) | (refine it_at (by assumption) ?_; with_reducible conv => whnf)))
  refine ⟨sm_mn ha.sm hb.sm, ?_⟩
  ((with_reducible conv => whnf); repeat (first | (rw [natD_len]; with_reducible conv => whnf) | (rw [intD_len]; with_reducible conv => whnf) | (refine Exists.intro _ (And.intro (rfl : _ = some _) ?_); with_reducible conv => whnf) | (refine And.intro (okII _ _) ?_; rw [eqD_ii]; with_reducible conv => whnf) | (refine And.intro (by first | assumption | exact Exists.intro _ (by assumption) | exact ⟨rfl, rfl, by decide, by decide⟩ | exact Nat.le_of_ble_eq_true rfl | exact rfl) ?_; with_reducible conv => whnf) | (rw [isLst_at (by assumption)]; with_reducible conv => whnf) | (refine ifT rfl ?_; with_reducible conv => whnf) | (refine ifF rfl ?_; with_reducible conv => whnf) | (refine it_at (by assumption) ?_; with_reducible conv => whnf)))
  refine ⟨?_, ?_⟩
  · exact sm_mul (by rw [Int.natAbs_natCast]; exact Nat.lt_of_lt_of_le ha.1 (pow_le2 (by decide))) (Nat.lt_of_lt_of_le hn (pow_le2 (by decide)))
  ((with_reducible conv => whnf); repeat (first | (rw [natD_len]; with_reducible conv => whnf) | (rw [intD_len]; with_reducible conv => whnf) | (refine Exists.intro _ (And.intro (rfl : _ = some _) ?_); with_reducible conv => whnf) | (refine And.intro (okII _ _) ?_; rw [eqD_ii]; with_reducible conv => whnf) | (refine And.intro (by first | assumption | exact Exists.intro _ (by assumption) | exact ⟨rfl, rfl, by decide, by decide⟩ | exact Nat.le_of_ble_eq_true rfl | exact rfl) ?_; with_reducible conv => whnf) | (rw [isLst_at (by assumption)]; with_reducible conv => whnf) | (refine ifT rfl ?_; with_reducible conv => whnf) | (refine ifF rfl ?_; with_reducible conv => whnf) | (refine it_at (by assumption) ?_; with_reducible conv => whnf)))
  have hz : b.num ≠ 0 := fun e => by rw [Rat.num_eq_zero.mp e] at h0; exact absurd h0 (by decide)
  refine ⟨_, _, rfl, Int.mul_ne_zero (by have := a.den_nz; omega) hz, ?_, fun S' h => ?_⟩
  · rw [Int.natAbs_mul, Int.natAbs_natCast]
    exact Nat.lt_of_lt_of_le (Nat.mul_lt_mul'' ha.1 hn) (by rw [← Nat.pow_add]; exact pow_le2 (by decide))
  rw [q_over]
  exact k S' h
@[reducible] def sp_ways : Spc := fun ds S Q => ∃ n k : Int, ds = [.int n, .int k] ∧ n ≤ 500 ∧ ∀ S', Sub S S' → Q (.int (waysZ n k)) S'
theorem step_ways {n j : Nat} (h : j ≤ n) : (((chs n j : Nat) : Int) * ((n : Int) - (0 + (j : Int)))).fdiv (0 + (j : Int) + 1) = ((chs n (j + 1) : Nat) : Int) := by
  rw [show (n : Int) - (0 + (j : Int)) = ((n - j : Nat) : Int) by omega, show (0 + (j : Int) + 1) = ((j + 1 : Nat) : Int) by omega, ← Int.natCast_mul, Int.fdiv_eq_ediv_of_nonneg _ (by omega), ← Int.natCast_ediv, chs_div h]
theorem waysZ_yes {n k : Nat} (_ : k ≤ n) : waysZ n k = (chs n k : Nat) := waysZ_nat n k
theorem body_ways : Body 4 2 w_ways sp_ways := by
  rintro ds S Q _ ⟨n, kk, rfl, hn, k⟩
  unfold w_ways
  (simp only [start, List.map_cons, List.map_nil, List.length_cons, List.length_nil, Nat.reduceAdd, Nat.reduceSub, List.replicate_succ, List.replicate_zero, List.cons_append, List.nil_append, Nat.sub_self, Nat.zero_add])
  have fin := k S (Sub.refl _)
  ((with_reducible conv => whnf); repeat (first | (rw [natD_len]; with_reducible conv => whnf) | (rw [intD_len]; with_reducible conv => whnf) | (refine Exists.intro _ (And.intro (rfl : _ = some _) ?_); with_reducible conv => whnf) | (refine And.intro (okII _ _) ?_; rw [eqD_ii]; with_reducible conv => whnf) | (refine And.intro (by first | assumption | exact Exists.intro _ (by assumption) | exact ⟨rfl, rfl, by decide, by decide⟩ | exact Nat.le_of_ble_eq_true rfl | exact rfl) ?_; with_reducible conv => whnf) | (rw [isLst_at (by assumption)]; with_reducible conv => whnf) | (refine ifT rfl ?_; with_reducible conv => whnf) | (refine ifF rfl ?_; with_reducible conv => whnf) | (refine it_at (by assumption) ?_; with_reducible conv => whnf)))
  refine ite_d (fun hc => ?_) fun hc => ?_
  · ((with_reducible conv => whnf); repeat (first | (rw [natD_len]; with_reducible conv => whnf) | (rw [intD_len]; with_reducible conv => whnf) | (refine Exists.intro _ (And.intro (rfl : _ = some _) ?_); with_reducible conv => whnf) | (refine And.intro (okII _ _) ?_; rw [eqD_ii]; with_reducible conv => whnf) | (refine And.intro (by first | assumption | exact Exists.intro _ (by assumption) | exact ⟨rfl, rfl, by decide, by decide⟩ | exact Nat.le_of_ble_eq_true rfl | exact rfl) ?_; with_reducible conv => whnf) | (rw [isLst_at (by assumption)]; with_reducible conv => whnf) | (refine ifT rfl ?_; with_reducible conv => whnf) | (refine ifF rfl ?_; with_reducible conv => whnf) | (refine it_at (by assumption) ?_; with_reducible conv => whnf)))
    by_cases hc2 : kk ≤ n
    · refine ifF (by simp [hc2]) ?_
      obtain ⟨kn, rfl⟩ : ∃ m : Nat, kk = m := ⟨kk.toNat, by omega⟩
      obtain ⟨nn, rfl⟩ : ∃ m : Nat, n = m := ⟨n.toNat, by omega⟩
      have hkn : kn ≤ nn := by omega
      rw [waysZ_yes hkn] at fin
      ((with_reducible conv => whnf); repeat (first | (rw [natD_len]; with_reducible conv => whnf) | (rw [intD_len]; with_reducible conv => whnf) | (refine Exists.intro _ (And.intro (rfl : _ = some _) ?_); with_reducible conv => whnf) | (refine And.intro (okII _ _) ?_; rw [eqD_ii]; with_reducible conv => whnf) | (refine And.intro (by first | assumption | exact Exists.intro _ (by assumption) | exact ⟨rfl, rfl, by decide, by decide⟩ | exact Nat.le_of_ble_eq_true rfl | exact rfl) ?_; with_reducible conv => whnf) | (rw [isLst_at (by assumption)]; with_reducible conv => whnf) | (refine ifT rfl ?_; with_reducible conv => whnf) | (refine ifF rfl ?_; with_reducible conv => whnf) | (refine it_at (by assumption) ?_; with_reducible conv => whnf)))
      refine ⟨⟨by omega, by omega⟩, ?_⟩
      refine Loop_mk (fun i ρ S' => ∃ o3, ρ = [some (.int nn), some (.int kn), some (.int (chs nn i : Nat)), o3] ∧ S' = S) ⟨none, by rw [chs_0]; rfl, rfl⟩ (by intros; trivial) ?_ ?_
      · rintro i d ρ' S' hi ⟨o3, rfl, rfl⟩
        obtain ⟨hi1, rfl⟩ := rangeD_get hi
        ((with_reducible conv => whnf); repeat (first | (rw [natD_len]; with_reducible conv => whnf) | (rw [intD_len]; with_reducible conv => whnf) | (refine Exists.intro _ (And.intro (rfl : _ = some _) ?_); with_reducible conv => whnf) | (refine And.intro (okII _ _) ?_; rw [eqD_ii]; with_reducible conv => whnf) | (refine And.intro (by first | assumption | exact Exists.intro _ (by assumption) | exact ⟨rfl, rfl, by decide, by decide⟩ | exact Nat.le_of_ble_eq_true rfl | exact rfl) ?_; with_reducible conv => whnf) | (rw [isLst_at (by assumption)]; with_reducible conv => whnf) | (refine ifT rfl ?_; with_reducible conv => whnf) | (refine ifF rfl ?_; with_reducible conv => whnf) | (refine it_at (by assumption) ?_; with_reducible conv => whnf)))
        refine ⟨smallMul (by omega), ?_⟩
        ((with_reducible conv => whnf); repeat (first | (rw [natD_len]; with_reducible conv => whnf) | (rw [intD_len]; with_reducible conv => whnf) | (refine Exists.intro _ (And.intro (rfl : _ = some _) ?_); with_reducible conv => whnf) | (refine And.intro (okII _ _) ?_; rw [eqD_ii]; with_reducible conv => whnf) | (refine And.intro (by first | assumption | exact Exists.intro _ (by assumption) | exact ⟨rfl, rfl, by decide, by decide⟩ | exact Nat.le_of_ble_eq_true rfl | exact rfl) ?_; with_reducible conv => whnf) | (rw [isLst_at (by assumption)]; with_reducible conv => whnf) | (refine ifT rfl ?_; with_reducible conv => whnf) | (refine ifF rfl ?_; with_reducible conv => whnf) | (refine it_at (by assumption) ?_; with_reducible conv => whnf)))
        refine ⟨⟨by omega, Nat.lt_of_lt_of_le (show (0 + (i : Int) + 1).natAbs < 2 ^ 10 by omega) (Nat.pow_le_pow_right (by decide) (by decide))⟩, ?_⟩
        ((with_reducible conv => whnf); repeat (first | (rw [natD_len]; with_reducible conv => whnf) | (rw [intD_len]; with_reducible conv => whnf) | (refine Exists.intro _ (And.intro (rfl : _ = some _) ?_); with_reducible conv => whnf) | (refine And.intro (okII _ _) ?_; rw [eqD_ii]; with_reducible conv => whnf) | (refine And.intro (by first | assumption | exact Exists.intro _ (by assumption) | exact ⟨rfl, rfl, by decide, by decide⟩ | exact Nat.le_of_ble_eq_true rfl | exact rfl) ?_; with_reducible conv => whnf) | (rw [isLst_at (by assumption)]; with_reducible conv => whnf) | (refine ifT rfl ?_; with_reducible conv => whnf) | (refine ifF rfl ?_; with_reducible conv => whnf) | (refine it_at (by assumption) ?_; with_reducible conv => whnf)))
        rw [step_ways (by omega)]
        exact ⟨_, rfl, rfl⟩
      · rintro ρ' S' ⟨o3, rfl, rfl⟩
        rw [rangeD_len]
        ((with_reducible conv => whnf); repeat (first | (rw [natD_len]; with_reducible conv => whnf) | (rw [intD_len]; with_reducible conv => whnf) | (refine Exists.intro _ (And.intro (rfl : _ = some _) ?_); with_reducible conv => whnf) | (refine And.intro (okII _ _) ?_; rw [eqD_ii]; with_reducible conv => whnf) | (refine And.intro (by first | assumption | exact Exists.intro _ (by assumption) | exact ⟨rfl, rfl, by decide, by decide⟩ | exact Nat.le_of_ble_eq_true rfl | exact rfl) ?_; with_reducible conv => whnf) | (rw [isLst_at (by assumption)]; with_reducible conv => whnf) | (refine ifT rfl ?_; with_reducible conv => whnf) | (refine ifF rfl ?_; with_reducible conv => whnf) | (refine it_at (by assumption) ?_; with_reducible conv => whnf)))
        have e : chs nn ((min (kn : Int) ((nn : Int) - kn)) - 0).toNat = chs nn kn := by
          rcases Nat.le_total kn (nn - kn) with h | h
          · rw [show ((min (kn : Int) ((nn : Int) - kn)) - 0).toNat = kn by omega]
          · rw [show ((min (kn : Int) ((nn : Int) - kn)) - 0).toNat = nn - kn by omega, ← chs_sym hkn]
        rw [e]
        exact fin
    · refine ifT (by simp [hc2]) ?_
      rw [waysZ_no (by omega)] at fin
      exact fin
  · rw [waysZ_no (by omega)] at fin
    ((with_reducible conv => whnf); repeat (first | (rw [natD_len]; with_reducible conv => whnf) | (rw [intD_len]; with_reducible conv => whnf) | (refine Exists.intro _ (And.intro (rfl : _ = some _) ?_); with_reducible conv => whnf) | (refine And.intro (okII _ _) ?_; rw [eqD_ii]; with_reducible conv => whnf) | (refine And.intro (by first | assumption | exact Exists.intro _ (by assumption) | exact ⟨rfl, rfl, by decide, by decide⟩ | exact Nat.le_of_ble_eq_true rfl | exact rfl) ?_; with_reducible conv => whnf) | (rw [isLst_at (by assumption)]; with_reducible conv => whnf) | (refine ifT rfl ?_; with_reducible conv => whnf) | (refine ifF rfl ?_; with_reducible conv => whnf) | (refine it_at (by assumption) ?_; with_reducible conv => whnf)))
    exact fin
theorem body_law_ways : Body 4 2 w_law_ways sp_ways := by
  rintro ds S Q _ ⟨n, kk, rfl, hn, k⟩
  unfold w_law_ways
  (simp only [start, List.map_cons, List.map_nil, List.length_cons, List.length_nil, Nat.reduceAdd, Nat.reduceSub, List.replicate_succ, List.replicate_zero, List.cons_append, List.nil_append, Nat.sub_self, Nat.zero_add])
  have fin := k S (Sub.refl _)
  ((with_reducible conv => whnf); repeat (first | (rw [natD_len]; with_reducible conv => whnf) | (rw [intD_len]; with_reducible conv => whnf) | (refine Exists.intro _ (And.intro (rfl : _ = some _) ?_); with_reducible conv => whnf) | (refine And.intro (okII _ _) ?_; rw [eqD_ii]; with_reducible conv => whnf) | (refine And.intro (by first | assumption | exact Exists.intro _ (by assumption) | exact ⟨rfl, rfl, by decide, by decide⟩ | exact Nat.le_of_ble_eq_true rfl | exact rfl) ?_; with_reducible conv => whnf) | (rw [isLst_at (by assumption)]; with_reducible conv => whnf) | (refine ifT rfl ?_; with_reducible conv => whnf) | (refine ifF rfl ?_; with_reducible conv => whnf) | (refine it_at (by assumption) ?_; with_reducible conv => whnf)))
  refine ite_d (fun hc => ?_) fun hc => ?_
  · rw [waysZ_no (by omega)] at fin
    ((with_reducible conv => whnf); repeat (first | (rw [natD_len]; with_reducible conv => whnf) | (rw [intD_len]; with_reducible conv => whnf) | (refine Exists.intro _ (And.intro (rfl : _ = some _) ?_); with_reducible conv => whnf) | (refine And.intro (okII _ _) ?_; rw [eqD_ii]; with_reducible conv => whnf) | (refine And.intro (by first | assumption | exact Exists.intro _ (by assumption) | exact ⟨rfl, rfl, by decide, by decide⟩ | exact Nat.le_of_ble_eq_true rfl | exact rfl) ?_; with_reducible conv => whnf) | (rw [isLst_at (by assumption)]; with_reducible conv => whnf) | (refine ifT rfl ?_; with_reducible conv => whnf) | (refine ifF rfl ?_; with_reducible conv => whnf) | (refine it_at (by assumption) ?_; with_reducible conv => whnf)))
    exact fin
  · ((with_reducible conv => whnf); repeat (first | (rw [natD_len]; with_reducible conv => whnf) | (rw [intD_len]; with_reducible conv => whnf) | (refine Exists.intro _ (And.intro (rfl : _ = some _) ?_); with_reducible conv => whnf) | (refine And.intro (okII _ _) ?_; rw [eqD_ii]; with_reducible conv => whnf) | (refine And.intro (by first | assumption | exact Exists.intro _ (by assumption) | exact ⟨rfl, rfl, by decide, by decide⟩ | exact Nat.le_of_ble_eq_true rfl | exact rfl) ?_; with_reducible conv => whnf) | (rw [isLst_at (by assumption)]; with_reducible conv => whnf) | (refine ifT rfl ?_; with_reducible conv => whnf) | (refine ifF rfl ?_; with_reducible conv => whnf) | (refine it_at (by assumption) ?_; with_reducible conv => whnf)))
    refine ite_d (fun hc2 => ?_) fun hc2 => ?_
    · rw [waysZ_no (by omega)] at fin
      exact fin
    · obtain ⟨kn, rfl⟩ : ∃ m : Nat, kk = m := ⟨kk.toNat, by omega⟩
      obtain ⟨nn, rfl⟩ : ∃ m : Nat, n = m := ⟨n.toNat, by omega⟩
      have hkn : kn ≤ nn := by omega
      rw [waysZ_yes hkn] at fin
      ((with_reducible conv => whnf); repeat (first | (rw [natD_len]; with_reducible conv => whnf) | (rw [intD_len]; with_reducible conv => whnf) | (refine Exists.intro _ (And.intro (rfl : _ = some _) ?_); with_reducible conv => whnf) | (refine And.intro (okII _ _) ?_; rw [eqD_ii]; with_reducible conv => whnf) | (refine And.intro (by first | assumption | exact Exists.intro _ (by assumption) | exact ⟨rfl, rfl, by decide, by decide⟩ | exact Nat.le_of_ble_eq_true rfl | exact rfl) ?_; with_reducible conv => whnf) | (rw [isLst_at (by assumption)]; with_reducible conv => whnf) | (refine ifT rfl ?_; with_reducible conv => whnf) | (refine ifF rfl ?_; with_reducible conv => whnf) | (refine it_at (by assumption) ?_; with_reducible conv => whnf)))
      refine ⟨⟨by omega, by omega⟩, ?_⟩
      refine Loop_mk (fun i ρ S' => ∃ o3, ρ = [some (.int nn), some (.int kn), some (.int (chs nn i : Nat)), o3] ∧ S' = S) ⟨none, by rw [chs_0]; rfl, rfl⟩ (by intros; trivial) ?_ ?_
      · rintro i d ρ' S' hi ⟨o3, rfl, rfl⟩
        obtain ⟨hi1, rfl⟩ := rangeD_get hi
        ((with_reducible conv => whnf); repeat (first | (rw [natD_len]; with_reducible conv => whnf) | (rw [intD_len]; with_reducible conv => whnf) | (refine Exists.intro _ (And.intro (rfl : _ = some _) ?_); with_reducible conv => whnf) | (refine And.intro (okII _ _) ?_; rw [eqD_ii]; with_reducible conv => whnf) | (refine And.intro (by first | assumption | exact Exists.intro _ (by assumption) | exact ⟨rfl, rfl, by decide, by decide⟩ | exact Nat.le_of_ble_eq_true rfl | exact rfl) ?_; with_reducible conv => whnf) | (rw [isLst_at (by assumption)]; with_reducible conv => whnf) | (refine ifT rfl ?_; with_reducible conv => whnf) | (refine ifF rfl ?_; with_reducible conv => whnf) | (refine it_at (by assumption) ?_; with_reducible conv => whnf)))
        refine ⟨smallMul (by omega), ?_⟩
        ((with_reducible conv => whnf); repeat (first | (rw [natD_len]; with_reducible conv => whnf) | (rw [intD_len]; with_reducible conv => whnf) | (refine Exists.intro _ (And.intro (rfl : _ = some _) ?_); with_reducible conv => whnf) | (refine And.intro (okII _ _) ?_; rw [eqD_ii]; with_reducible conv => whnf) | (refine And.intro (by first | assumption | exact Exists.intro _ (by assumption) | exact ⟨rfl, rfl, by decide, by decide⟩ | exact Nat.le_of_ble_eq_true rfl | exact rfl) ?_; with_reducible conv => whnf) | (rw [isLst_at (by assumption)]; with_reducible conv => whnf) | (refine ifT rfl ?_; with_reducible conv => whnf) | (refine ifF rfl ?_; with_reducible conv => whnf) | (refine it_at (by assumption) ?_; with_reducible conv => whnf)))
        refine ⟨⟨by omega, Nat.lt_of_lt_of_le (show (0 + (i : Int) + 1).natAbs < 2 ^ 10 by omega) (Nat.pow_le_pow_right (by decide) (by decide))⟩, ?_⟩
        ((with_reducible conv => whnf); repeat (first | (rw [natD_len]; with_reducible conv => whnf) | (rw [intD_len]; with_reducible conv => whnf) | (refine Exists.intro _ (And.intro (rfl : _ = some _) ?_); with_reducible conv => whnf) | (refine And.intro (okII _ _) ?_; rw [eqD_ii]; with_reducible conv => whnf) | (refine And.intro (by first | assumption | exact Exists.intro _ (by assumption) | exact ⟨rfl, rfl, by decide, by decide⟩ | exact Nat.le_of_ble_eq_true rfl | exact rfl) ?_; with_reducible conv => whnf) | (rw [isLst_at (by assumption)]; with_reducible conv => whnf) | (refine ifT rfl ?_; with_reducible conv => whnf) | (refine ifF rfl ?_; with_reducible conv => whnf) | (refine it_at (by assumption) ?_; with_reducible conv => whnf)))
        rw [step_ways (by omega)]
        exact ⟨_, rfl, rfl⟩
      · rintro ρ' S' ⟨o3, rfl, rfl⟩
        rw [rangeD_len, show ((kn : Int) - 0).toNat = kn by omega]
        ((with_reducible conv => whnf); repeat (first | (rw [natD_len]; with_reducible conv => whnf) | (rw [intD_len]; with_reducible conv => whnf) | (refine Exists.intro _ (And.intro (rfl : _ = some _) ?_); with_reducible conv => whnf) | (refine And.intro (okII _ _) ?_; rw [eqD_ii]; with_reducible conv => whnf) | (refine And.intro (by first | assumption | exact Exists.intro _ (by assumption) | exact ⟨rfl, rfl, by decide, by decide⟩ | exact Nat.le_of_ble_eq_true rfl | exact rfl) ?_; with_reducible conv => whnf) | (rw [isLst_at (by assumption)]; with_reducible conv => whnf) | (refine ifT rfl ?_; with_reducible conv => whnf) | (refine ifF rfl ?_; with_reducible conv => whnf) | (refine it_at (by assumption) ?_; with_reducible conv => whnf)))
        exact fin

end K94
set_option linter.all false
set_option maxRecDepth 100000
set_option maxHeartbeats 4000000
namespace K94
open DL
/-- a row of tosses: true a head -/
def cs (b : Bool) : Nat := if b then 72 else 84
def tx (r : List Bool) : PySem.Str := ⟨(r.map cs).toArray⟩
def sg (b : Bool) : PySem.Str := ⟨#[cs b]⟩
theorem ofH : PySem.Str.ofString "H" = sg true := by decide +kernel
theorem ofT : PySem.Str.ofString "T" = sg false := by decide +kernel
theorem ofE : PySem.Str.ofString "" = tx [] := by decide +kernel
theorem ofHT : PySem.Str.ofString "HT" = tx [true, false] := by decide +kernel
theorem tx_len (r : List Bool) : (tx r).length = r.length := by
  show ((r.map cs).toArray).size = _
  rw [List.size_toArray, List.length_map]
theorem tx_one (b : Bool) : tx [b] = sg b := rfl
theorem tx_app (r s : List Bool) : tx r ++ tx s = tx (r ++ s) := by
  show (⟨(r.map cs).toArray ++ (s.map cs).toArray⟩ : PySem.Str) = ⟨((r ++ s).map cs).toArray⟩
  rw [List.map_append, List.append_toArray]
theorem tx_chars (r : List Bool) : chars (tx r) = r.map fun b => D.str (sg b) := by
  show ((r.map cs).toArray.toList.map fun c => D.str ⟨#[c]⟩) = _
  rw [List.toList_toArray, List.map_map]
  rfl
theorem tx_at {r : List Bool} {i : Nat} {b : Bool} (h : r[i]? = some b) : atZ (tx r).cps.toList (i : Int) = some (cs b) := by
  refine atZ_nat ?_
  show ((r.map cs).toArray.toList)[i]? = _
  rw [List.toList_toArray, List.getElem?_map, h]
  rfl
theorem cs_inj {a b : Bool} : cs a = cs b ↔ a = b := by cases a <;> cases b <;> decide
theorem flat1 (b : Bool) : flat (.str (sg b)) = true := by cases b <;> (unfold flat; decide +kernel)
theorem flatS (a b : Bool) : flat (.str (sg a)) = true ∧ flat (.str (sg b)) = true ∧ deep (.str (sg a)) ≤ 64 ∧ deep (.str (sg b)) ≤ 64 := ⟨flat1 a, flat1 b, Nat.zero_le _, Nat.zero_le _⟩
theorem sg_eq (a b : Bool) : eqD (.str (sg a)) (.str (sg b)) = decide (a = b) := by
  show decide (sg a = sg b) = _
  refine decide_eq_decide.mpr ?_
  constructor
  · intro h
    exact cs_inj.mp (by have := congrArg (fun s : PySem.Str => s.cps[0]?) h; simpa [sg] using this)
  · rintro rfl; rfl
/-- runs: lengths and signs -/
def rstep (acc : List (Nat × Bool)) (b : Bool) : List (Nat × Bool) := match acc.getLast? with
  | some (n, s) => if s = b then acc.dropLast ++ [(n + 1, s)] else acc ++ [(1, b)]
  | none => [(1, b)]
def rl (r : List Bool) : List (Nat × Bool) := r.foldl rstep []
theorem rl_snoc (r : List Bool) (b : Bool) : rl (r ++ [b]) = rstep (rl r) b := by unfold rl; rw [List.foldl_append]; rfl
theorem rstep_last (acc : List (Nat × Bool)) (b : Bool) : ∃ l n, rstep acc b = l ++ [(n, b)] := by
  unfold rstep
  split
  · rename_i n s _
    by_cases c : s = b
    · rw [if_pos c, c]; exact ⟨_, _, rfl⟩
    · rw [if_neg c]; exact ⟨_, _, rfl⟩
  · exact ⟨[], 1, rfl⟩
/-- one more sign behind at least one -/
theorem rl_same (r : List Bool) (a b : Bool) : ∃ l n, rl (r ++ [a]) = l ++ [(n, a)] ∧ rl (r ++ [a] ++ [b]) = if a = b then l ++ [(n + 1, a)] else l ++ [(n, a)] ++ [(1, b)] := by
  obtain ⟨l, n, h⟩ := rstep_last (rl r) a
  rw [← rl_snoc] at h
  refine ⟨l, n, h, ?_⟩
  rw [rl_snoc, h]
  unfold rstep
  rw [List.getLast?_concat]
  show (if a = b then (l ++ [(n, a)]).dropLast ++ [(n + 1, a)] else l ++ [(n, a)] ++ [(1, b)]) = _
  rw [List.dropLast_concat]
theorem rl_one (b : Bool) : rl [b] = [(1, b)] := rfl
theorem rl_len : ∀ r : List Bool, (rl r).length ≤ r.length := by
  intro r
  have : ∀ (r : List Bool) (acc : List (Nat × Bool)), (r.foldl rstep acc).length ≤ acc.length + r.length := by
    intro r
    induction r with
    | nil => intro acc; exact Nat.le_refl _
    | cons b r ih =>
      intro acc
      have h := ih (rstep acc b)
      have h2 : (rstep acc b).length ≤ acc.length + 1 := by
        unfold rstep
        split
        · rename_i n s e
          have : 0 < acc.length := by cases acc with
            | nil => cases e
            | cons _ _ => exact Nat.succ_pos _
          split
          · rw [List.length_append, List.length_dropLast, List.length_singleton]; omega
          · simp
        · simp
      rw [List.foldl_cons, List.length_cons]
      omega
  have := this r []
  rw [List.length_nil, Nat.zero_add] at this
  exact this
def lens (r : List Bool) : List Nat := (rl r).map (·.1)
@[reducible] def sp_runs : Spc := fun ds S Q => ∃ r, ds = [.str (tx r)] ∧ r.length ≤ 1000 ∧ ∀ S', Sub S S' → Q (.tup (natD (lens r))) S'
theorem natD_app (l : List Nat) (x : Nat) : natD l ++ [D.int (x : Int)] = natD (l ++ [x]) := by rw [natD_map, natD_map, List.map_append]; rfl
theorem natD_last {l : List Nat} {x : Nat} : atZ (natD (l ++ [x])) (-1) = some (.int (x : Int)) := by
  unfold atZ ixZ
  rw [natD_len, if_neg (by omega), if_pos (by rw [List.length_append]; simp; omega)]
  show (natD (l ++ [x]))[(-1 + ((l ++ [x]).length : Int)).toNat]? = _
  rw [show (-1 + ((l ++ [x]).length : Int)).toNat = l.length by rw [List.length_append]; simp; omega, natD_map, List.getElem?_map]
  simp
theorem natD_setL (l : List Nat) (x y : Nat) : (natD (l ++ [x])).set (-1 + ((l ++ [x]).length : Int)).toNat (.int (y : Int)) = natD (l ++ [y]) := by
  rw [show (-1 + ((l ++ [x]).length : Int)).toNat = l.length by rw [List.length_append]; simp; omega, natD_map, natD_map, List.map_append, List.map_append, List.set_append]
  simp
theorem body_runs_of : Body 3 1 w_runs_of sp_runs := by
  rintro ds S Q _ ⟨r, rfl, hr, k⟩
  unfold w_runs_of
  (simp only [start, List.map_cons, List.map_nil, List.length_cons, List.length_nil, Nat.reduceAdd, Nat.reduceSub, List.replicate_succ, List.replicate_zero, List.cons_append, List.nil_append, Nat.sub_self, Nat.zero_add])
  ((with_reducible conv => whnf); repeat (first | (rw [natD_len]; with_reducible conv => whnf) | (rw [intD_len]; with_reducible conv => whnf) | (refine Exists.intro _ (And.intro (rfl : _ = some _) ?_); with_reducible conv => whnf) | (refine And.intro (okII _ _) ?_; rw [eqD_ii]; with_reducible conv => whnf) | (refine And.intro (by first | assumption | exact Exists.intro _ (by assumption) | exact ⟨rfl, rfl, by decide, by decide⟩ | exact Nat.le_of_ble_eq_true rfl | exact rfl) ?_; with_reducible conv => whnf) | (rw [isLst_at (by assumption)]; with_reducible conv => whnf) | (refine ifT rfl ?_; with_reducible conv => whnf) | (refine ifF rfl ?_; with_reducible conv => whnf) | (refine it_at (by assumption) ?_; with_reducible conv => whnf)))
  have e0 := at_push S (.lst [])
  have s0 := (Sub.refl S).app [.lst []]
  generalize hn : S.length = n at *
  generalize S ++ [.lst []] = S0 at *
  rw [tx_len]
  refine ⟨by unfold szL; omega, ?_⟩
  (with_reducible conv => whnf)
  refine ⟨⟨by omega, by omega⟩, ?_⟩
  refine Loop_mk (fun i ρ S' => ∃ o2, ρ = [some (.str (tx r)), some (.ref n), o2] ∧ S'[n]? = some (.lst (natD (lens (r.take i)))) ∧ Sub S S') ⟨none, rfl, e0, s0⟩ (by intros; trivial) ?_ ?_
  · clear e0 s0 S0
    rintro i d ρ' S' hi ⟨o2, rfl, e1, s1⟩
    obtain ⟨hi1, rfl⟩ := rangeD_get hi
    have hil : i < r.length := by omega
    have hri := List.getElem?_eq_getElem hil
    rw [Int.zero_add]
    have htk : r.take (i + 1) = r.take i ++ [r[i]] := by rw [List.take_succ, hri]; rfl
    have hll := rl_len (r.take i)
    have hl2 : (lens (r.take i)).length ≤ 1000 := by unfold lens; rw [List.length_map]; rw [List.length_take] at hll; omega
    ((with_reducible conv => whnf); repeat (first | (rw [natD_len]; with_reducible conv => whnf) | (rw [intD_len]; with_reducible conv => whnf) | (refine Exists.intro _ (And.intro (rfl : _ = some _) ?_); with_reducible conv => whnf) | (refine And.intro (okII _ _) ?_; rw [eqD_ii]; with_reducible conv => whnf) | (refine And.intro (by first | assumption | exact Exists.intro _ (by assumption) | exact ⟨rfl, rfl, by decide, by decide⟩ | exact Nat.le_of_ble_eq_true rfl | exact rfl) ?_; with_reducible conv => whnf) | (rw [isLst_at (by assumption)]; with_reducible conv => whnf) | (refine ifT rfl ?_; with_reducible conv => whnf) | (refine ifF rfl ?_; with_reducible conv => whnf) | (refine it_at (by assumption) ?_; with_reducible conv => whnf)))
    refine ite_d (fun hc => ?_) fun hc => ?_
    · obtain ⟨j, rfl⟩ : ∃ j, i = j + 1 := ⟨i - 1, by omega⟩
      have hrj1 : r[j + 1]? = some r[j + 1] := hri
      have hrj := List.getElem?_eq_getElem (show j < r.length by omega)
      have htj : r.take (j + 1) = r.take j ++ [r[j]] := by rw [List.take_succ, hrj]; rfl
      obtain ⟨l, m, h1, h2⟩ := rl_same (r.take j) r[j] r[j + 1]
      rw [← htj] at h1 h2
      rw [← htk] at h2
      ((with_reducible conv => whnf); repeat (first | (rw [natD_len]; with_reducible conv => whnf) | (rw [intD_len]; with_reducible conv => whnf) | (refine Exists.intro _ (And.intro (rfl : _ = some _) ?_); with_reducible conv => whnf) | (refine And.intro (okII _ _) ?_; rw [eqD_ii]; with_reducible conv => whnf) | (refine And.intro (by first | assumption | exact Exists.intro _ (by assumption) | exact ⟨rfl, rfl, by decide, by decide⟩ | exact Nat.le_of_ble_eq_true rfl | exact rfl) ?_; with_reducible conv => whnf) | (rw [isLst_at (by assumption)]; with_reducible conv => whnf) | (refine ifT rfl ?_; with_reducible conv => whnf) | (refine ifF rfl ?_; with_reducible conv => whnf) | (refine it_at (by assumption) ?_; with_reducible conv => whnf)))
      have hsz : (tx r).length ≤ szL := by rw [tx_len]; unfold szL; omega
      refine ⟨hsz, _, tx_at hrj1, ?_⟩
      (with_reducible conv => whnf)
      rw [show ((j + 1 : Nat) : Int) - 1 = (j : Int) by omega]
      refine ⟨hsz, _, tx_at hrj, ?_⟩
      (with_reducible conv => whnf)
      refine ⟨flatS r[j + 1] r[j], ?_⟩
      rw [show eqD (.str ⟨#[cs r[j + 1]]⟩) (.str ⟨#[cs r[j]]⟩) = decide (r[j + 1] = r[j]) from sg_eq _ _]
      (with_reducible conv => whnf)
      have e1 : S'[n]? = some (.lst (natD (l.map (·.1) ++ [m]))) := by rw [e1]; unfold lens; rw [h1, List.map_append]; rfl
      refine ite_d (fun hcc => ?_) fun hcc => ?_
      · rw [if_pos hcc.symm] at h2
        ((with_reducible conv => whnf); repeat (first | (rw [natD_len]; with_reducible conv => whnf) | (rw [intD_len]; with_reducible conv => whnf) | (refine Exists.intro _ (And.intro (rfl : _ = some _) ?_); with_reducible conv => whnf) | (refine And.intro (okII _ _) ?_; rw [eqD_ii]; with_reducible conv => whnf) | (refine And.intro (by first | assumption | exact Exists.intro _ (by assumption) | exact ⟨rfl, rfl, by decide, by decide⟩ | exact Nat.le_of_ble_eq_true rfl | exact rfl) ?_; with_reducible conv => whnf) | (rw [isLst_at (by assumption)]; with_reducible conv => whnf) | (refine ifT rfl ?_; with_reducible conv => whnf) | (refine ifF rfl ?_; with_reducible conv => whnf) | (refine it_at (by assumption) ?_; with_reducible conv => whnf)))
        refine ⟨_, natD_last, ?_⟩
        ((with_reducible conv => whnf); repeat (first | (rw [natD_len]; with_reducible conv => whnf) | (rw [intD_len]; with_reducible conv => whnf) | (refine Exists.intro _ (And.intro (rfl : _ = some _) ?_); with_reducible conv => whnf) | (refine And.intro (okII _ _) ?_; rw [eqD_ii]; with_reducible conv => whnf) | (refine And.intro (by first | assumption | exact Exists.intro _ (by assumption) | exact ⟨rfl, rfl, by decide, by decide⟩ | exact Nat.le_of_ble_eq_true rfl | exact rfl) ?_; with_reducible conv => whnf) | (rw [isLst_at (by assumption)]; with_reducible conv => whnf) | (refine ifT rfl ?_; with_reducible conv => whnf) | (refine ifF rfl ?_; with_reducible conv => whnf) | (refine it_at (by assumption) ?_; with_reducible conv => whnf)))
        refine ⟨(-1 + ((l.map (·.1) ++ [m]).length : Int)).toNat, ?_, ?_⟩
        · unfold ixZ
          rw [if_neg (by omega), if_pos (by rw [List.length_append]; simp; omega)]
        rw [show ((m : Int) + 1) = ((m + 1 : Nat) : Int) by omega, natD_setL]
        refine ⟨_, rfl, ?_, s1.put (by omega)⟩
        rw [at_set e1]
        unfold lens
        rw [h2, List.map_append]
        rfl
      · rw [if_neg (fun e => hcc e.symm)] at h2
        ((with_reducible conv => whnf); repeat (first | (rw [natD_len]; with_reducible conv => whnf) | (rw [intD_len]; with_reducible conv => whnf) | (refine Exists.intro _ (And.intro (rfl : _ = some _) ?_); with_reducible conv => whnf) | (refine And.intro (okII _ _) ?_; rw [eqD_ii]; with_reducible conv => whnf) | (refine And.intro (by first | assumption | exact Exists.intro _ (by assumption) | exact ⟨rfl, rfl, by decide, by decide⟩ | exact Nat.le_of_ble_eq_true rfl | exact rfl) ?_; with_reducible conv => whnf) | (rw [isLst_at (by assumption)]; with_reducible conv => whnf) | (refine ifT rfl ?_; with_reducible conv => whnf) | (refine ifF rfl ?_; with_reducible conv => whnf) | (refine it_at (by assumption) ?_; with_reducible conv => whnf)))
        refine ⟨?_, ?_⟩
        · have : (lens (r.take (j + 1))).length = (l.map (·.1) ++ [m]).length := by unfold lens; rw [h1, List.map_append]; rfl
          rw [← this]; unfold szL; omega
        (with_reducible conv => whnf)
        refine ⟨_, rfl, ?_, s1.put (by omega)⟩
        rw [at_set e1]
        unfold lens
        rw [h2, List.map_append, List.map_append, show [D.int 1] = [D.int ((1 : Nat) : Int)] from rfl]
        exact congrArg (fun z => some (O.lst z)) (natD_app _ _)
    · obtain rfl : i = 0 := by omega
      ((with_reducible conv => whnf); repeat (first | (rw [natD_len]; with_reducible conv => whnf) | (rw [intD_len]; with_reducible conv => whnf) | (refine Exists.intro _ (And.intro (rfl : _ = some _) ?_); with_reducible conv => whnf) | (refine And.intro (okII _ _) ?_; rw [eqD_ii]; with_reducible conv => whnf) | (refine And.intro (by first | assumption | exact Exists.intro _ (by assumption) | exact ⟨rfl, rfl, by decide, by decide⟩ | exact Nat.le_of_ble_eq_true rfl | exact rfl) ?_; with_reducible conv => whnf) | (rw [isLst_at (by assumption)]; with_reducible conv => whnf) | (refine ifT rfl ?_; with_reducible conv => whnf) | (refine ifF rfl ?_; with_reducible conv => whnf) | (refine it_at (by assumption) ?_; with_reducible conv => whnf)))
      exact ⟨_, rfl, by rw [at_set e1, htk]; rfl, s1.put (by omega)⟩
  · rintro ρ' S' ⟨o2, rfl, e1, s1⟩
    rw [rangeD_len, show ((r.length : Int) - 0).toNat = r.length by omega, List.take_length] at e1
    ((with_reducible conv => whnf); repeat (first | (rw [natD_len]; with_reducible conv => whnf) | (rw [intD_len]; with_reducible conv => whnf) | (refine Exists.intro _ (And.intro (rfl : _ = some _) ?_); with_reducible conv => whnf) | (refine And.intro (okII _ _) ?_; rw [eqD_ii]; with_reducible conv => whnf) | (refine And.intro (by first | assumption | exact Exists.intro _ (by assumption) | exact ⟨rfl, rfl, by decide, by decide⟩ | exact Nat.le_of_ble_eq_true rfl | exact rfl) ?_; with_reducible conv => whnf) | (rw [isLst_at (by assumption)]; with_reducible conv => whnf) | (refine ifT rfl ?_; with_reducible conv => whnf) | (refine ifF rfl ?_; with_reducible conv => whnf) | (refine it_at (by assumption) ?_; with_reducible conv => whnf)))
    exact k _ s1
end K94
set_option linter.all false
set_option maxRecDepth 100000
set_option maxHeartbeats 4000000
namespace K94
open DL
/-- the longest run of a sign, and the one at the end -/
def lgS (b : Bool) (z : Nat × Nat) (x : Bool) : Nat × Nat := (max z.1 (if x = b then z.2 + 1 else 0), if x = b then z.2 + 1 else 0)
def lg (b : Bool) (r : List Bool) : Nat × Nat := r.foldl (lgS b) (0, 0)
theorem lg_snoc (b : Bool) (r : List Bool) (x : Bool) : lg b (r ++ [x]) = lgS b (lg b r) x := by unfold lg; rw [List.foldl_append]; rfl
@[reducible] def sp_longest : Spc := fun ds S Q => ∃ r b, ds = [.str (tx r), .str (sg b)] ∧ r.length ≤ 1000 ∧ ∀ S', Sub S S' → Q (.int ((lg b r).1 : Nat)) S'
theorem body_longest : Body 5 2 w_longest sp_longest := by
  rintro ds S Q _ ⟨r, b, rfl, hr, k⟩
  unfold w_longest
  (simp only [start, List.map_cons, List.map_nil, List.length_cons, List.length_nil, Nat.reduceAdd, Nat.reduceSub, List.replicate_succ, List.replicate_zero, List.cons_append, List.nil_append, Nat.sub_self, Nat.zero_add])
  ((with_reducible conv => whnf); repeat (first | (rw [natD_len]; with_reducible conv => whnf) | (rw [intD_len]; with_reducible conv => whnf) | (refine Exists.intro _ (And.intro (rfl : _ = some _) ?_); with_reducible conv => whnf) | (refine And.intro (okII _ _) ?_; rw [eqD_ii]; with_reducible conv => whnf) | (refine And.intro (by first | assumption | exact Exists.intro _ (by assumption) | exact ⟨rfl, rfl, by decide, by decide⟩ | exact Nat.le_of_ble_eq_true rfl | exact rfl) ?_; with_reducible conv => whnf) | (rw [isLst_at (by assumption)]; with_reducible conv => whnf) | (refine ifT rfl ?_; with_reducible conv => whnf) | (refine ifF rfl ?_; with_reducible conv => whnf) | (refine it_at (by assumption) ?_; with_reducible conv => whnf)))
  rw [tx_chars]
  refine Loop_mk (fun i ρ S' => ∃ o4, ρ = [some (.str (tx r)), some (.str (sg b)), some (.int ((lg b (r.take i)).1 : Nat)), some (.int ((lg b (r.take i)).2 : Nat)), o4] ∧ S' = S) ⟨none, rfl, rfl⟩ (by intros; trivial) ?_ ?_
  · rintro i d ρ' S' hi ⟨o4, rfl, rfl⟩
    rw [List.getElem?_map] at hi
    obtain ⟨x, hx, rfl⟩ := Option.map_eq_some_iff.mp hi
    have htk : r.take (i + 1) = r.take i ++ [x] := by rw [List.take_succ, hx]; rfl
    rw [htk, lg_snoc]
    unfold lgS
    ((with_reducible conv => whnf); repeat (first | (rw [natD_len]; with_reducible conv => whnf) | (rw [intD_len]; with_reducible conv => whnf) | (refine Exists.intro _ (And.intro (rfl : _ = some _) ?_); with_reducible conv => whnf) | (refine And.intro (okII _ _) ?_; rw [eqD_ii]; with_reducible conv => whnf) | (refine And.intro (by first | assumption | exact Exists.intro _ (by assumption) | exact ⟨rfl, rfl, by decide, by decide⟩ | exact Nat.le_of_ble_eq_true rfl | exact rfl) ?_; with_reducible conv => whnf) | (rw [isLst_at (by assumption)]; with_reducible conv => whnf) | (refine ifT rfl ?_; with_reducible conv => whnf) | (refine ifF rfl ?_; with_reducible conv => whnf) | (refine it_at (by assumption) ?_; with_reducible conv => whnf)))
    refine ⟨flatS x b, ?_⟩
    rw [sg_eq]
    (with_reducible conv => whnf)
    refine ite_d (fun hc => ?_) fun hc => ?_
    · rw [if_pos hc]
      ((with_reducible conv => whnf); repeat (first | (rw [natD_len]; with_reducible conv => whnf) | (rw [intD_len]; with_reducible conv => whnf) | (refine Exists.intro _ (And.intro (rfl : _ = some _) ?_); with_reducible conv => whnf) | (refine And.intro (okII _ _) ?_; rw [eqD_ii]; with_reducible conv => whnf) | (refine And.intro (by first | assumption | exact Exists.intro _ (by assumption) | exact ⟨rfl, rfl, by decide, by decide⟩ | exact Nat.le_of_ble_eq_true rfl | exact rfl) ?_; with_reducible conv => whnf) | (rw [isLst_at (by assumption)]; with_reducible conv => whnf) | (refine ifT rfl ?_; with_reducible conv => whnf) | (refine ifF rfl ?_; with_reducible conv => whnf) | (refine it_at (by assumption) ?_; with_reducible conv => whnf)))
      refine ⟨some (.str (sg x)), ?_, rfl⟩
      show [_, _, some (D.int (max ((lg b (r.take i)).1 : Int) (((lg b (r.take i)).2 : Int) + 1))), some (D.int (((lg b (r.take i)).2 : Int) + 1)), _] = _
      rw [show max ((lg b (r.take i)).1 : Int) (((lg b (r.take i)).2 : Int) + 1) = ((max (lg b (r.take i)).1 ((lg b (r.take i)).2 + 1) : Nat) : Int) by omega, show ((lg b (r.take i)).2 : Int) + 1 = (((lg b (r.take i)).2 + 1 : Nat) : Int) by omega]
    · rw [if_neg hc]
      ((with_reducible conv => whnf); repeat (first | (rw [natD_len]; with_reducible conv => whnf) | (rw [intD_len]; with_reducible conv => whnf) | (refine Exists.intro _ (And.intro (rfl : _ = some _) ?_); with_reducible conv => whnf) | (refine And.intro (okII _ _) ?_; rw [eqD_ii]; with_reducible conv => whnf) | (refine And.intro (by first | assumption | exact Exists.intro _ (by assumption) | exact ⟨rfl, rfl, by decide, by decide⟩ | exact Nat.le_of_ble_eq_true rfl | exact rfl) ?_; with_reducible conv => whnf) | (rw [isLst_at (by assumption)]; with_reducible conv => whnf) | (refine ifT rfl ?_; with_reducible conv => whnf) | (refine ifF rfl ?_; with_reducible conv => whnf) | (refine it_at (by assumption) ?_; with_reducible conv => whnf)))
      refine ⟨some (.str (sg x)), ?_, rfl⟩
      show [_, _, some (D.int (max ((lg b (r.take i)).1 : Int) 0)), some (D.int 0), _] = _
      rw [show max ((lg b (r.take i)).1 : Int) 0 = ((max (lg b (r.take i)).1 0 : Nat) : Int) by omega]
      rfl
  · rintro ρ' S' ⟨o4, rfl, rfl⟩
    rw [List.length_map, List.take_length]
    ((with_reducible conv => whnf); repeat (first | (rw [natD_len]; with_reducible conv => whnf) | (rw [intD_len]; with_reducible conv => whnf) | (refine Exists.intro _ (And.intro (rfl : _ = some _) ?_); with_reducible conv => whnf) | (refine And.intro (okII _ _) ?_; rw [eqD_ii]; with_reducible conv => whnf) | (refine And.intro (by first | assumption | exact Exists.intro _ (by assumption) | exact ⟨rfl, rfl, by decide, by decide⟩ | exact Nat.le_of_ble_eq_true rfl | exact rfl) ?_; with_reducible conv => whnf) | (rw [isLst_at (by assumption)]; with_reducible conv => whnf) | (refine ifT rfl ?_; with_reducible conv => whnf) | (refine ifF rfl ?_; with_reducible conv => whnf) | (refine it_at (by assumption) ?_; with_reducible conv => whnf)))
    exact k _ (Sub.refl _)
end K94
set_option linter.all false
set_option maxRecDepth 100000
set_option maxHeartbeats 4000000
namespace K94
open DL
theorem chs_le : ∀ n k, chs n k ≤ 2 ^ n
  | _, 0 => by rw [chs_0]; exact Nat.one_le_two_pow
  | 0, k + 1 => by show 0 ≤ _; omega
  | n + 1, k + 1 => by
    have a := chs_le n k
    have b := chs_le n (k + 1)
    show chs n k + chs n (k + 1) ≤ _
    rw [Nat.pow_succ]; omega
/-- ways to part so many signs into so many runs -/
def parZ (m r : Int) : Int := if r = 0 then (if m = 0 then 1 else 0) else if m > 0 then waysZ (m - 1) (r - 1) else 0
@[reducible] def sp_par : Spc := fun ds S Q => ∃ m r : Int, ds = [.int m, .int r] ∧ m ≤ 400 ∧ ∀ S', Sub S S' → Q (.int (parZ m r)) S'
theorem body_parted : Body 2 2 (w_parted sp_ways) sp_par := by
  rintro ds S Q _ ⟨m, r, rfl, hm, k⟩
  unfold w_parted
  unfold parZ at k
  (simp only [start, List.map_cons, List.map_nil, List.length_cons, List.length_nil, Nat.reduceAdd, Nat.reduceSub, List.replicate_succ, List.replicate_zero, List.cons_append, List.nil_append, Nat.sub_self, Nat.zero_add])
  ((with_reducible conv => whnf); repeat (first | (rw [natD_len]; with_reducible conv => whnf) | (rw [intD_len]; with_reducible conv => whnf) | (refine Exists.intro _ (And.intro (rfl : _ = some _) ?_); with_reducible conv => whnf) | (refine And.intro (okII _ _) ?_; rw [eqD_ii]; with_reducible conv => whnf) | (refine And.intro (by first | assumption | exact Exists.intro _ (by assumption) | exact ⟨rfl, rfl, by decide, by decide⟩ | exact Nat.le_of_ble_eq_true rfl | exact rfl) ?_; with_reducible conv => whnf) | (rw [isLst_at (by assumption)]; with_reducible conv => whnf) | (refine ifT rfl ?_; with_reducible conv => whnf) | (refine ifF rfl ?_; with_reducible conv => whnf) | (refine it_at (by assumption) ?_; with_reducible conv => whnf)))
  refine ite_d (fun hc => ?_) fun hc => ?_
  · rw [if_pos hc] at k
    ((with_reducible conv => whnf); repeat (first | (rw [natD_len]; with_reducible conv => whnf) | (rw [intD_len]; with_reducible conv => whnf) | (refine Exists.intro _ (And.intro (rfl : _ = some _) ?_); with_reducible conv => whnf) | (refine And.intro (okII _ _) ?_; rw [eqD_ii]; with_reducible conv => whnf) | (refine And.intro (by first | assumption | exact Exists.intro _ (by assumption) | exact ⟨rfl, rfl, by decide, by decide⟩ | exact Nat.le_of_ble_eq_true rfl | exact rfl) ?_; with_reducible conv => whnf) | (rw [isLst_at (by assumption)]; with_reducible conv => whnf) | (refine ifT rfl ?_; with_reducible conv => whnf) | (refine ifF rfl ?_; with_reducible conv => whnf) | (refine it_at (by assumption) ?_; with_reducible conv => whnf)))
    refine ite_d (fun h2 => ?_) fun h2 => ?_
    · rw [if_pos h2] at k
      ((with_reducible conv => whnf); repeat (first | (rw [natD_len]; with_reducible conv => whnf) | (rw [intD_len]; with_reducible conv => whnf) | (refine Exists.intro _ (And.intro (rfl : _ = some _) ?_); with_reducible conv => whnf) | (refine And.intro (okII _ _) ?_; rw [eqD_ii]; with_reducible conv => whnf) | (refine And.intro (by first | assumption | exact Exists.intro _ (by assumption) | exact ⟨rfl, rfl, by decide, by decide⟩ | exact Nat.le_of_ble_eq_true rfl | exact rfl) ?_; with_reducible conv => whnf) | (rw [isLst_at (by assumption)]; with_reducible conv => whnf) | (refine ifT rfl ?_; with_reducible conv => whnf) | (refine ifF rfl ?_; with_reducible conv => whnf) | (refine it_at (by assumption) ?_; with_reducible conv => whnf)))
      exact k S (Sub.refl _)
    · rw [if_neg h2] at k
      ((with_reducible conv => whnf); repeat (first | (rw [natD_len]; with_reducible conv => whnf) | (rw [intD_len]; with_reducible conv => whnf) | (refine Exists.intro _ (And.intro (rfl : _ = some _) ?_); with_reducible conv => whnf) | (refine And.intro (okII _ _) ?_; rw [eqD_ii]; with_reducible conv => whnf) | (refine And.intro (by first | assumption | exact Exists.intro _ (by assumption) | exact ⟨rfl, rfl, by decide, by decide⟩ | exact Nat.le_of_ble_eq_true rfl | exact rfl) ?_; with_reducible conv => whnf) | (rw [isLst_at (by assumption)]; with_reducible conv => whnf) | (refine ifT rfl ?_; with_reducible conv => whnf) | (refine ifF rfl ?_; with_reducible conv => whnf) | (refine it_at (by assumption) ?_; with_reducible conv => whnf)))
      exact k S (Sub.refl _)
  · rw [if_neg hc] at k
    ((with_reducible conv => whnf); repeat (first | (rw [natD_len]; with_reducible conv => whnf) | (rw [intD_len]; with_reducible conv => whnf) | (refine Exists.intro _ (And.intro (rfl : _ = some _) ?_); with_reducible conv => whnf) | (refine And.intro (okII _ _) ?_; rw [eqD_ii]; with_reducible conv => whnf) | (refine And.intro (by first | assumption | exact Exists.intro _ (by assumption) | exact ⟨rfl, rfl, by decide, by decide⟩ | exact Nat.le_of_ble_eq_true rfl | exact rfl) ?_; with_reducible conv => whnf) | (rw [isLst_at (by assumption)]; with_reducible conv => whnf) | (refine ifT rfl ?_; with_reducible conv => whnf) | (refine ifF rfl ?_; with_reducible conv => whnf) | (refine it_at (by assumption) ?_; with_reducible conv => whnf)))
    refine ite_d (fun h2 => ?_) fun h2 => ?_
    · rw [if_pos h2] at k
      ((with_reducible conv => whnf); repeat (first | (rw [natD_len]; with_reducible conv => whnf) | (rw [intD_len]; with_reducible conv => whnf) | (refine Exists.intro _ (And.intro (rfl : _ = some _) ?_); with_reducible conv => whnf) | (refine And.intro (okII _ _) ?_; rw [eqD_ii]; with_reducible conv => whnf) | (refine And.intro (by first | assumption | exact Exists.intro _ (by assumption) | exact ⟨rfl, rfl, by decide, by decide⟩ | exact Nat.le_of_ble_eq_true rfl | exact rfl) ?_; with_reducible conv => whnf) | (rw [isLst_at (by assumption)]; with_reducible conv => whnf) | (refine ifT rfl ?_; with_reducible conv => whnf) | (refine ifF rfl ?_; with_reducible conv => whnf) | (refine it_at (by assumption) ?_; with_reducible conv => whnf)))
      exact ⟨_, _, rfl, by omega, k⟩
    · rw [if_neg h2] at k
      ((with_reducible conv => whnf); repeat (first | (rw [natD_len]; with_reducible conv => whnf) | (rw [intD_len]; with_reducible conv => whnf) | (refine Exists.intro _ (And.intro (rfl : _ = some _) ?_); with_reducible conv => whnf) | (refine And.intro (okII _ _) ?_; rw [eqD_ii]; with_reducible conv => whnf) | (refine And.intro (by first | assumption | exact Exists.intro _ (by assumption) | exact ⟨rfl, rfl, by decide, by decide⟩ | exact Nat.le_of_ble_eq_true rfl | exact rfl) ?_; with_reducible conv => whnf) | (rw [isLst_at (by assumption)]; with_reducible conv => whnf) | (refine ifT rfl ?_; with_reducible conv => whnf) | (refine ifF rfl ?_; with_reducible conv => whnf) | (refine it_at (by assumption) ?_; with_reducible conv => whnf)))
      exact k S (Sub.refl _)
theorem parZ_big {m r : Int} (h : m ≤ 60) : (parZ m r).natAbs < 2 ^ 64 := by
  unfold parZ
  split
  · split <;> decide
  · split
    · unfold waysZ
      split
      · rw [Int.natAbs_natCast]
        refine Nat.lt_of_le_of_lt (chs_le _ _) (Nat.pow_lt_pow_right (by decide) (by omega))
      · decide
    · decide
end K94
set_option linter.all false
set_option maxRecDepth 100000
set_option maxHeartbeats 4000000
namespace K94
open DL
theorem b2i (c : Prop) [Decidable c] : (if decide c = true then (1 : Int) else 0) = if c then 1 else 0 := by
  by_cases h : c
  · rw [if_pos h, if_pos (decide_eq_true h)]
  · rw [if_neg h, if_neg (by rw [decide_eq_false h]; decide)]
theorem body_law_parted : Body 2 2 (w_law_parted sp_ways) sp_par := by
  rintro ds S Q _ ⟨m, r, rfl, hm, k⟩
  unfold w_law_parted
  unfold parZ at k
  (simp only [start, List.map_cons, List.map_nil, List.length_cons, List.length_nil, Nat.reduceAdd, Nat.reduceSub, List.replicate_succ, List.replicate_zero, List.cons_append, List.nil_append, Nat.sub_self, Nat.zero_add])
  ((with_reducible conv => whnf); repeat (first | (rw [natD_len]; with_reducible conv => whnf) | (rw [intD_len]; with_reducible conv => whnf) | (refine Exists.intro _ (And.intro (rfl : _ = some _) ?_); with_reducible conv => whnf) | (refine And.intro (okII _ _) ?_; rw [eqD_ii]; with_reducible conv => whnf) | (refine And.intro (by first | assumption | exact Exists.intro _ (by assumption) | exact ⟨rfl, rfl, by decide, by decide⟩ | exact Nat.le_of_ble_eq_true rfl | exact rfl) ?_; with_reducible conv => whnf) | (rw [isLst_at (by assumption)]; with_reducible conv => whnf) | (refine ifT rfl ?_; with_reducible conv => whnf) | (refine ifF rfl ?_; with_reducible conv => whnf) | (refine it_at (by assumption) ?_; with_reducible conv => whnf)))
  refine ite_d (fun hc => ?_) fun hc => ?_
  · rw [if_pos hc] at k
    ((with_reducible conv => whnf); repeat (first | (rw [natD_len]; with_reducible conv => whnf) | (rw [intD_len]; with_reducible conv => whnf) | (refine Exists.intro _ (And.intro (rfl : _ = some _) ?_); with_reducible conv => whnf) | (refine And.intro (okII _ _) ?_; rw [eqD_ii]; with_reducible conv => whnf) | (refine And.intro (by first | assumption | exact Exists.intro _ (by assumption) | exact ⟨rfl, rfl, by decide, by decide⟩ | exact Nat.le_of_ble_eq_true rfl | exact rfl) ?_; with_reducible conv => whnf) | (rw [isLst_at (by assumption)]; with_reducible conv => whnf) | (refine ifT rfl ?_; with_reducible conv => whnf) | (refine ifF rfl ?_; with_reducible conv => whnf) | (refine it_at (by assumption) ?_; with_reducible conv => whnf)))
    rw [b2i]
    exact k S (Sub.refl _)
  · rw [if_neg hc] at k
    ((with_reducible conv => whnf); repeat (first | (rw [natD_len]; with_reducible conv => whnf) | (rw [intD_len]; with_reducible conv => whnf) | (refine Exists.intro _ (And.intro (rfl : _ = some _) ?_); with_reducible conv => whnf) | (refine And.intro (okII _ _) ?_; rw [eqD_ii]; with_reducible conv => whnf) | (refine And.intro (by first | assumption | exact Exists.intro _ (by assumption) | exact ⟨rfl, rfl, by decide, by decide⟩ | exact Nat.le_of_ble_eq_true rfl | exact rfl) ?_; with_reducible conv => whnf) | (rw [isLst_at (by assumption)]; with_reducible conv => whnf) | (refine ifT rfl ?_; with_reducible conv => whnf) | (refine ifF rfl ?_; with_reducible conv => whnf) | (refine it_at (by assumption) ?_; with_reducible conv => whnf)))
    refine ⟨_, _, rfl, by omega, fun S1 s1 => ?_⟩
    ((with_reducible conv => whnf); repeat (first | (rw [natD_len]; with_reducible conv => whnf) | (rw [intD_len]; with_reducible conv => whnf) | (refine Exists.intro _ (And.intro (rfl : _ = some _) ?_); with_reducible conv => whnf) | (refine And.intro (okII _ _) ?_; rw [eqD_ii]; with_reducible conv => whnf) | (refine And.intro (by first | assumption | exact Exists.intro _ (by assumption) | exact ⟨rfl, rfl, by decide, by decide⟩ | exact Nat.le_of_ble_eq_true rfl | exact rfl) ?_; with_reducible conv => whnf) | (rw [isLst_at (by assumption)]; with_reducible conv => whnf) | (refine ifT rfl ?_; with_reducible conv => whnf) | (refine ifF rfl ?_; with_reducible conv => whnf) | (refine it_at (by assumption) ?_; with_reducible conv => whnf)))
    rw [b2i]
    refine ⟨smallMul (by split <;> decide), ?_⟩
    have k := k S1 s1
    by_cases h2 : m > 0
    · rw [if_pos h2] at k ⊢
      rw [Int.mul_one]
      exact k
    · rw [if_neg h2] at k ⊢
      rw [Int.mul_zero]
      exact k
/-- orders with so many runs -/
def cbrZ (h t r : Int) : Int := if h + t = 0 ∨ r < 1 then (if h + t = 0 ∧ r = 0 then 1 else 0) else
  parZ h ((r + 1).fdiv 2) * parZ t (r.fdiv 2) + parZ h (r.fdiv 2) * parZ t ((r + 1).fdiv 2)
@[reducible] def sp_cbr : Spc := fun ds S Q => ∃ h t r : Int, ds = [.int h, .int t, .int r] ∧ h ≤ 60 ∧ t ≤ 60 ∧ ∀ S', Sub S S' → Q (.int (cbrZ h t r)) S'
theorem body_count_by_runs : Body 5 3 (w_count_by_runs sp_par) sp_cbr := by
  rintro ds S Q _ ⟨h, t, r, rfl, hh, ht, k⟩
  unfold w_count_by_runs
  unfold cbrZ at k
  (simp only [start, List.map_cons, List.map_nil, List.length_cons, List.length_nil, Nat.reduceAdd, Nat.reduceSub, List.replicate_succ, List.replicate_zero, List.cons_append, List.nil_append, Nat.sub_self, Nat.zero_add])
  have rest : ¬ (h + t = 0 ∨ r < 1) → sSeq (sPar 3 4 (wOp rDiv (wOp rAdd (wVar 2) (wC (.int 1))) (wC (.int 2))) (wOp rDiv (wVar 2) (wC (.int 2))))
      (sRet (wOp rAdd (wOp rMul (wCall 2 sp_par (wCons (wVar 0) (wCons (wVar 3) wNil))) (wCall 2 sp_par (wCons (wVar 1) (wCons (wVar 4) wNil)))) (wOp rMul (wCall 2 sp_par (wCons (wVar 0) (wCons (wVar 4) wNil))) (wCall 2 sp_par (wCons (wVar 1) (wCons (wVar 3) wNil))))))
      { nx := fun _ S' => Q .non S', rt := Q, bk := fun _ _ => False, ct := fun _ _ => False } [some (.int h), some (.int t), some (.int r), none, none] S := fun hc => by
    rw [if_neg hc] at k
    ((with_reducible conv => whnf); repeat (first | (rw [natD_len]; with_reducible conv => whnf) | (rw [intD_len]; with_reducible conv => whnf) | (refine Exists.intro _ (And.intro (rfl : _ = some _) ?_); with_reducible conv => whnf) | (refine And.intro (okII _ _) ?_; rw [eqD_ii]; with_reducible conv => whnf) | (refine And.intro (by first | assumption | exact Exists.intro _ (by assumption) | exact ⟨rfl, rfl, by decide, by decide⟩ | exact Nat.le_of_ble_eq_true rfl | exact rfl) ?_; with_reducible conv => whnf) | (rw [isLst_at (by assumption)]; with_reducible conv => whnf) | (refine ifT rfl ?_; with_reducible conv => whnf) | (refine ifF rfl ?_; with_reducible conv => whnf) | (refine it_at (by assumption) ?_; with_reducible conv => whnf)))
    refine ⟨⟨by decide, by decide⟩, ?_⟩
    ((with_reducible conv => whnf); repeat (first | (rw [natD_len]; with_reducible conv => whnf) | (rw [intD_len]; with_reducible conv => whnf) | (refine Exists.intro _ (And.intro (rfl : _ = some _) ?_); with_reducible conv => whnf) | (refine And.intro (okII _ _) ?_; rw [eqD_ii]; with_reducible conv => whnf) | (refine And.intro (by first | assumption | exact Exists.intro _ (by assumption) | exact ⟨rfl, rfl, by decide, by decide⟩ | exact Nat.le_of_ble_eq_true rfl | exact rfl) ?_; with_reducible conv => whnf) | (rw [isLst_at (by assumption)]; with_reducible conv => whnf) | (refine ifT rfl ?_; with_reducible conv => whnf) | (refine ifF rfl ?_; with_reducible conv => whnf) | (refine it_at (by assumption) ?_; with_reducible conv => whnf)))
    refine ⟨⟨by decide, by decide⟩, ?_⟩
    ((with_reducible conv => whnf); repeat (first | (rw [natD_len]; with_reducible conv => whnf) | (rw [intD_len]; with_reducible conv => whnf) | (refine Exists.intro _ (And.intro (rfl : _ = some _) ?_); with_reducible conv => whnf) | (refine And.intro (okII _ _) ?_; rw [eqD_ii]; with_reducible conv => whnf) | (refine And.intro (by first | assumption | exact Exists.intro _ (by assumption) | exact ⟨rfl, rfl, by decide, by decide⟩ | exact Nat.le_of_ble_eq_true rfl | exact rfl) ?_; with_reducible conv => whnf) | (rw [isLst_at (by assumption)]; with_reducible conv => whnf) | (refine ifT rfl ?_; with_reducible conv => whnf) | (refine ifF rfl ?_; with_reducible conv => whnf) | (refine it_at (by assumption) ?_; with_reducible conv => whnf)))
    refine ⟨_, _, rfl, by omega, fun S1 s1 => ?_⟩
    ((with_reducible conv => whnf); repeat (first | (rw [natD_len]; with_reducible conv => whnf) | (rw [intD_len]; with_reducible conv => whnf) | (refine Exists.intro _ (And.intro (rfl : _ = some _) ?_); with_reducible conv => whnf) | (refine And.intro (okII _ _) ?_; rw [eqD_ii]; with_reducible conv => whnf) | (refine And.intro (by first | assumption | exact Exists.intro _ (by assumption) | exact ⟨rfl, rfl, by decide, by decide⟩ | exact Nat.le_of_ble_eq_true rfl | exact rfl) ?_; with_reducible conv => whnf) | (rw [isLst_at (by assumption)]; with_reducible conv => whnf) | (refine ifT rfl ?_; with_reducible conv => whnf) | (refine ifF rfl ?_; with_reducible conv => whnf) | (refine it_at (by assumption) ?_; with_reducible conv => whnf)))
    refine ⟨_, _, rfl, by omega, fun S2 s2 => ?_⟩
    ((with_reducible conv => whnf); repeat (first | (rw [natD_len]; with_reducible conv => whnf) | (rw [intD_len]; with_reducible conv => whnf) | (refine Exists.intro _ (And.intro (rfl : _ = some _) ?_); with_reducible conv => whnf) | (refine And.intro (okII _ _) ?_; rw [eqD_ii]; with_reducible conv => whnf) | (refine And.intro (by first | assumption | exact Exists.intro _ (by assumption) | exact ⟨rfl, rfl, by decide, by decide⟩ | exact Nat.le_of_ble_eq_true rfl | exact rfl) ?_; with_reducible conv => whnf) | (rw [isLst_at (by assumption)]; with_reducible conv => whnf) | (refine ifT rfl ?_; with_reducible conv => whnf) | (refine ifF rfl ?_; with_reducible conv => whnf) | (refine it_at (by assumption) ?_; with_reducible conv => whnf)))
    refine ⟨smallMul (parZ_big ht), ?_⟩
    ((with_reducible conv => whnf); repeat (first | (rw [natD_len]; with_reducible conv => whnf) | (rw [intD_len]; with_reducible conv => whnf) | (refine Exists.intro _ (And.intro (rfl : _ = some _) ?_); with_reducible conv => whnf) | (refine And.intro (okII _ _) ?_; rw [eqD_ii]; with_reducible conv => whnf) | (refine And.intro (by first | assumption | exact Exists.intro _ (by assumption) | exact ⟨rfl, rfl, by decide, by decide⟩ | exact Nat.le_of_ble_eq_true rfl | exact rfl) ?_; with_reducible conv => whnf) | (rw [isLst_at (by assumption)]; with_reducible conv => whnf) | (refine ifT rfl ?_; with_reducible conv => whnf) | (refine ifF rfl ?_; with_reducible conv => whnf) | (refine it_at (by assumption) ?_; with_reducible conv => whnf)))
    refine ⟨_, _, rfl, by omega, fun S3 s3 => ?_⟩
    ((with_reducible conv => whnf); repeat (first | (rw [natD_len]; with_reducible conv => whnf) | (rw [intD_len]; with_reducible conv => whnf) | (refine Exists.intro _ (And.intro (rfl : _ = some _) ?_); with_reducible conv => whnf) | (refine And.intro (okII _ _) ?_; rw [eqD_ii]; with_reducible conv => whnf) | (refine And.intro (by first | assumption | exact Exists.intro _ (by assumption) | exact ⟨rfl, rfl, by decide, by decide⟩ | exact Nat.le_of_ble_eq_true rfl | exact rfl) ?_; with_reducible conv => whnf) | (rw [isLst_at (by assumption)]; with_reducible conv => whnf) | (refine ifT rfl ?_; with_reducible conv => whnf) | (refine ifF rfl ?_; with_reducible conv => whnf) | (refine it_at (by assumption) ?_; with_reducible conv => whnf)))
    refine ⟨_, _, rfl, by omega, fun S4 s4 => ?_⟩
    ((with_reducible conv => whnf); repeat (first | (rw [natD_len]; with_reducible conv => whnf) | (rw [intD_len]; with_reducible conv => whnf) | (refine Exists.intro _ (And.intro (rfl : _ = some _) ?_); with_reducible conv => whnf) | (refine And.intro (okII _ _) ?_; rw [eqD_ii]; with_reducible conv => whnf) | (refine And.intro (by first | assumption | exact Exists.intro _ (by assumption) | exact ⟨rfl, rfl, by decide, by decide⟩ | exact Nat.le_of_ble_eq_true rfl | exact rfl) ?_; with_reducible conv => whnf) | (rw [isLst_at (by assumption)]; with_reducible conv => whnf) | (refine ifT rfl ?_; with_reducible conv => whnf) | (refine ifF rfl ?_; with_reducible conv => whnf) | (refine it_at (by assumption) ?_; with_reducible conv => whnf)))
    refine ⟨smallMul (parZ_big ht), ?_⟩
    ((with_reducible conv => whnf); repeat (first | (rw [natD_len]; with_reducible conv => whnf) | (rw [intD_len]; with_reducible conv => whnf) | (refine Exists.intro _ (And.intro (rfl : _ = some _) ?_); with_reducible conv => whnf) | (refine And.intro (okII _ _) ?_; rw [eqD_ii]; with_reducible conv => whnf) | (refine And.intro (by first | assumption | exact Exists.intro _ (by assumption) | exact ⟨rfl, rfl, by decide, by decide⟩ | exact Nat.le_of_ble_eq_true rfl | exact rfl) ?_; with_reducible conv => whnf) | (rw [isLst_at (by assumption)]; with_reducible conv => whnf) | (refine ifT rfl ?_; with_reducible conv => whnf) | (refine ifF rfl ?_; with_reducible conv => whnf) | (refine it_at (by assumption) ?_; with_reducible conv => whnf)))
    exact k _ (s1.trans (s2.trans (s3.trans s4)))
  ((with_reducible conv => whnf); repeat (first | (rw [natD_len]; with_reducible conv => whnf) | (rw [intD_len]; with_reducible conv => whnf) | (refine Exists.intro _ (And.intro (rfl : _ = some _) ?_); with_reducible conv => whnf) | (refine And.intro (okII _ _) ?_; rw [eqD_ii]; with_reducible conv => whnf) | (refine And.intro (by first | assumption | exact Exists.intro _ (by assumption) | exact ⟨rfl, rfl, by decide, by decide⟩ | exact Nat.le_of_ble_eq_true rfl | exact rfl) ?_; with_reducible conv => whnf) | (rw [isLst_at (by assumption)]; with_reducible conv => whnf) | (refine ifT rfl ?_; with_reducible conv => whnf) | (refine ifF rfl ?_; with_reducible conv => whnf) | (refine it_at (by assumption) ?_; with_reducible conv => whnf)))
  refine ite_d (fun hc => ?_) fun hc => ?_
  · rw [if_pos (.inl hc)] at k
    ((with_reducible conv => whnf); repeat (first | (rw [natD_len]; with_reducible conv => whnf) | (rw [intD_len]; with_reducible conv => whnf) | (refine Exists.intro _ (And.intro (rfl : _ = some _) ?_); with_reducible conv => whnf) | (refine And.intro (okII _ _) ?_; rw [eqD_ii]; with_reducible conv => whnf) | (refine And.intro (by first | assumption | exact Exists.intro _ (by assumption) | exact ⟨rfl, rfl, by decide, by decide⟩ | exact Nat.le_of_ble_eq_true rfl | exact rfl) ?_; with_reducible conv => whnf) | (rw [isLst_at (by assumption)]; with_reducible conv => whnf) | (refine ifT rfl ?_; with_reducible conv => whnf) | (refine ifF rfl ?_; with_reducible conv => whnf) | (refine it_at (by assumption) ?_; with_reducible conv => whnf)))
    refine ite_d (fun h1 => ?_) fun h1 => ?_
    · ((with_reducible conv => whnf); repeat (first | (rw [natD_len]; with_reducible conv => whnf) | (rw [intD_len]; with_reducible conv => whnf) | (refine Exists.intro _ (And.intro (rfl : _ = some _) ?_); with_reducible conv => whnf) | (refine And.intro (okII _ _) ?_; rw [eqD_ii]; with_reducible conv => whnf) | (refine And.intro (by first | assumption | exact Exists.intro _ (by assumption) | exact ⟨rfl, rfl, by decide, by decide⟩ | exact Nat.le_of_ble_eq_true rfl | exact rfl) ?_; with_reducible conv => whnf) | (rw [isLst_at (by assumption)]; with_reducible conv => whnf) | (refine ifT rfl ?_; with_reducible conv => whnf) | (refine ifF rfl ?_; with_reducible conv => whnf) | (refine it_at (by assumption) ?_; with_reducible conv => whnf)))
      refine ite_d (fun h2 => ?_) fun h2 => ?_
      · rw [if_pos ⟨h1, h2⟩] at k
        exact k S (Sub.refl _)
      · rw [if_neg (fun z => h2 z.2)] at k
        exact k S (Sub.refl _)
    · exact absurd hc h1
  · ((with_reducible conv => whnf); repeat (first | (rw [natD_len]; with_reducible conv => whnf) | (rw [intD_len]; with_reducible conv => whnf) | (refine Exists.intro _ (And.intro (rfl : _ = some _) ?_); with_reducible conv => whnf) | (refine And.intro (okII _ _) ?_; rw [eqD_ii]; with_reducible conv => whnf) | (refine And.intro (by first | assumption | exact Exists.intro _ (by assumption) | exact ⟨rfl, rfl, by decide, by decide⟩ | exact Nat.le_of_ble_eq_true rfl | exact rfl) ?_; with_reducible conv => whnf) | (rw [isLst_at (by assumption)]; with_reducible conv => whnf) | (refine ifT rfl ?_; with_reducible conv => whnf) | (refine ifF rfl ?_; with_reducible conv => whnf) | (refine it_at (by assumption) ?_; with_reducible conv => whnf)))
    refine ite_d (fun h1 => ?_) fun h1 => ?_
    · rw [if_pos (.inr h1), if_neg (fun z => hc z.1)] at k
      ((with_reducible conv => whnf); repeat (first | (rw [natD_len]; with_reducible conv => whnf) | (rw [intD_len]; with_reducible conv => whnf) | (refine Exists.intro _ (And.intro (rfl : _ = some _) ?_); with_reducible conv => whnf) | (refine And.intro (okII _ _) ?_; rw [eqD_ii]; with_reducible conv => whnf) | (refine And.intro (by first | assumption | exact Exists.intro _ (by assumption) | exact ⟨rfl, rfl, by decide, by decide⟩ | exact Nat.le_of_ble_eq_true rfl | exact rfl) ?_; with_reducible conv => whnf) | (rw [isLst_at (by assumption)]; with_reducible conv => whnf) | (refine ifT rfl ?_; with_reducible conv => whnf) | (refine ifF rfl ?_; with_reducible conv => whnf) | (refine it_at (by assumption) ?_; with_reducible conv => whnf)))
      refine ite_d (fun h3 => absurd h3 hc) fun _ => ?_
      ((with_reducible conv => whnf); repeat (first | (rw [natD_len]; with_reducible conv => whnf) | (rw [intD_len]; with_reducible conv => whnf) | (refine Exists.intro _ (And.intro (rfl : _ = some _) ?_); with_reducible conv => whnf) | (refine And.intro (okII _ _) ?_; rw [eqD_ii]; with_reducible conv => whnf) | (refine And.intro (by first | assumption | exact Exists.intro _ (by assumption) | exact ⟨rfl, rfl, by decide, by decide⟩ | exact Nat.le_of_ble_eq_true rfl | exact rfl) ?_; with_reducible conv => whnf) | (rw [isLst_at (by assumption)]; with_reducible conv => whnf) | (refine ifT rfl ?_; with_reducible conv => whnf) | (refine ifF rfl ?_; with_reducible conv => whnf) | (refine it_at (by assumption) ?_; with_reducible conv => whnf)))
      exact k S (Sub.refl _)
    · exact rest (by omega)
end K94
set_option linter.all false
set_option maxRecDepth 100000
set_option maxHeartbeats 4000000
namespace K94
open DL
/-- a chance of the law -/
structure Chn (p : Rat) : Prop where
  lo : 0 ≤ p
  hi : p ≤ 1
  den : p.den ≤ 31
theorem Chn.sm {p : Rat} (h : Chn p) : smS p := by
  refine smS_of (P := p.den) (M := 1) (Ov_self p) p.den_pos (by have := h.lo; grind) (by have := h.hi; grind) (Nat.lt_of_le_of_lt h.den ?_) ?_
  · exact Nat.lt_of_lt_of_le (show 31 < 2 ^ 5 by decide) (pow_le2 (by decide))
  · exact Nat.one_lt_two_pow (by decide)
def wtQ (p : Rat) : Nat → Rat
  | 0 => 0
  | k + 1 => (wtQ p k + 1) / p
theorem Chn.num {p : Rat} (h : Chn p) (h0 : 0 < p) : 0 < p.num ∧ p.num ≤ 31 := by
  have h1 : 0 < p.num := by
    have e := q_den p
    have hd : (0 : Rat) < (p.den : Rat) := by exact_mod_cast p.den_pos
    have := Rat.mul_pos h0 hd
    rw [e] at this
    exact_mod_cast this
  refine ⟨h1, ?_⟩
  have h2 := h.hi
  have h3 := h.den
  have h4 : (p.num : Rat) ≤ (p.den : Rat) := by
    have := q_den p
    have hd : (0 : Rat) ≤ (p.den : Rat) := by exact_mod_cast Nat.zero_le _
    have := Rat.mul_le_mul_of_nonneg_right h2 hd
    grind
  have : p.num ≤ (p.den : Int) := by exact_mod_cast h4
  omega
theorem wt_ov {p : Rat} (h : Chn p) (h0 : 0 < p) : ∀ k, Ov (p.num.toNat ^ k) (wtQ p k)
  | 0 => Ov_int 1 0
  | k + 1 => by
    obtain ⟨n1, n2⟩ := h.num h0
    have ih := (wt_ov h h0 k).add (Ov_int _ 1)
    have hc : p.num.toNat ≠ 0 := by omega
    have h2 := (ih.mul (Ov_int 1 (p.den : Int))).over hc
    rw [Nat.mul_one] at h2
    have hcast : ((p.num.toNat : Nat) : Rat) = (p.num : Rat) := by
      have : ((p.num.toNat : Nat) : Int) = p.num := by omega
      rw [← this]; rfl
    have e : wtQ p (k + 1) = (wtQ p k + ((1 : Int) : Rat)) * ((p.den : Int) : Rat) / ((p.num.toNat : Nat) : Rat) := by
      show (wtQ p k + 1) / p = _
      rw [hcast]
      have hn : (p.num : Rat) ≠ 0 := fun e => by have : p.num = 0 := by exact_mod_cast e
                                                 omega
      have hp : p ≠ 0 := fun e => by rw [e] at h0; exact absurd h0 (by decide)
      have q := q_den p
      have c1 : ((1 : Int) : Rat) = 1 := rfl
      have c2 : ((p.den : Int) : Rat) = (p.den : Rat) := rfl
      rw [c1, c2]
      grind
    rw [e, Nat.pow_succ]
    exact h2
theorem wt_le {p : Rat} (h : Chn p) (h0 : 0 < p) : ∀ k, 0 ≤ wtQ p k ∧ wtQ p k + 1 ≤ ((32 ^ k : Nat) : Rat)
  | 0 => by
    refine ⟨by show (0 : Rat) ≤ 0; decide, ?_⟩
    show (0 : Rat) + 1 ≤ ((1 : Nat) : Rat)
    decide +kernel
  | k + 1 => by
    obtain ⟨i1, i2⟩ := wt_le h h0 k
    obtain ⟨n1, n2⟩ := h.num h0
    have q := q_den p
    have hd : (p.den : Rat) ≤ 31 := by have : ((p.den : Nat) : Rat) ≤ ((31 : Nat) : Rat) := by exact_mod_cast h.den
                                       exact this
    have hn : (1 : Rat) ≤ (p.num : Rat) := by exact_mod_cast n1
    have h31 : 0 ≤ p * 31 - 1 := by
      have := Rat.mul_le_mul_of_nonneg_left hd (Rat.le_of_lt h0)
      grind
    have hp : p ≠ 0 := fun e => by rw [e] at h0; exact absurd h0 (by decide)
    have hi : 0 ≤ p⁻¹ := Rat.le_of_lt (Rat.inv_pos.mpr h0)
    have hx : wtQ p (k + 1) = (wtQ p k + 1) * p⁻¹ := Rat.div_def _ _
    have hx0 : 0 ≤ wtQ p (k + 1) := by rw [hx]; exact Rat.mul_nonneg (by grind) hi
    refine ⟨hx0, ?_⟩
    have hxp : wtQ p (k + 1) * p = wtQ p k + 1 := by rw [hx, Rat.mul_assoc, Rat.inv_mul_cancel p hp, Rat.mul_one]
    have := Rat.mul_nonneg hx0 h31
    have h1 : (1 : Rat) ≤ ((32 ^ k : Nat) : Rat) := by
      have : 1 ≤ 32 ^ k := Nat.one_le_pow _ _ (by decide)
      exact_mod_cast this
    have e : ((32 ^ (k + 1) : Nat) : Rat) = ((32 ^ k : Nat) : Rat) * 32 := by rw [Nat.pow_succ, Rat.natCast_mul]; rfl
    rw [e]
    grind
end K94
set_option linter.all false
set_option maxRecDepth 100000
set_option maxHeartbeats 4000000
namespace K94
open DL
theorem wt_sm {p : Rat} (h : Chn p) (h0 : 0 < p) {k : Nat} (hk : k ≤ 20) : smS (wtQ p k) ∧ smS (wtQ p k + 1) := by
  obtain ⟨i1, i2⟩ := wt_le h h0 k
  obtain ⟨n1, n2⟩ := h.num h0
  have hP : 0 < p.num.toNat ^ k := Nat.pow_pos (by omega)
  have hb : p.num.toNat ^ k < 2 ^ 900 := by
    refine Nat.lt_of_le_of_lt (Nat.pow_le_pow_left (show p.num.toNat ≤ 2 ^ 5 by omega) k) ?_
    rw [← Nat.pow_mul]
    exact Nat.pow_lt_pow_right (by decide) (by omega)
  have hM : 32 ^ k < 2 ^ 3000 := by
    rw [show 32 = 2 ^ 5 from rfl, ← Nat.pow_mul]
    exact Nat.pow_lt_pow_right (by decide) (by omega)
  have hM0 : (0 : Rat) ≤ ((32 ^ k : Nat) : Rat) := by exact_mod_cast Nat.zero_le _
  exact ⟨smS_of (wt_ov h h0 k) hP (by grind) (by grind) hb hM, smS_of ((wt_ov h h0 k).add (Ov_int _ 1)) hP (by have : ((1 : Int) : Rat) = 1 := rfl; grind) (by have : ((1 : Int) : Rat) = 1 := rfl; grind) hb hM⟩
theorem dN : dNOTHING = qD 0 := rfl
theorem dO : dONE = qD 1 := rfl
theorem sm1 : smS 1 := smS_of (P := 1) (M := 1) (Ov_int 1 1) Nat.one_pos (by decide +kernel) (by decide +kernel) (Nat.one_lt_two_pow (by decide)) (Nat.one_lt_two_pow (by decide))
@[reducible] def sp_until : Spc := fun ds S Q => ∃ (p : Rat) (k : Nat), ds = [qD p, .int k] ∧ Chn p ∧ 0 < p ∧ k ≤ 20 ∧ ∀ S', Sub S S' → Q (qD (wtQ p k)) S'
theorem body_mean_until : Body 4 2 (w_mean_until (sp_s2 (· + ·)) sp_div) sp_until := by
  rintro ds S Q _ ⟨p, kk, rfl, hp, h0, hk, k⟩
  unfold w_mean_until
  (simp only [start, List.map_cons, List.map_nil, List.length_cons, List.length_nil, Nat.reduceAdd, Nat.reduceSub, List.replicate_succ, List.replicate_zero, List.cons_append, List.nil_append, Nat.sub_self, Nat.zero_add])
  obtain ⟨n1, n2⟩ := hp.num h0
  have hn9 : p.num.natAbs < 2 ^ 900 := Nat.lt_of_lt_of_le (show p.num.natAbs < 2 ^ 5 by omega) (pow_le2 (by decide))
  ((with_reducible conv => whnf); repeat (first | (rw [natD_len]; with_reducible conv => whnf) | (rw [intD_len]; with_reducible conv => whnf) | (refine Exists.intro _ (And.intro (rfl : _ = some _) ?_); with_reducible conv => whnf) | (refine And.intro (okII _ _) ?_; rw [eqD_ii]; with_reducible conv => whnf) | (refine And.intro (by first | assumption | exact Exists.intro _ (by assumption) | exact ⟨rfl, rfl, by decide, by decide⟩ | exact Nat.le_of_ble_eq_true rfl | exact rfl) ?_; with_reducible conv => whnf) | (rw [isLst_at (by assumption)]; with_reducible conv => whnf) | (refine ifT rfl ?_; with_reducible conv => whnf) | (refine ifF rfl ?_; with_reducible conv => whnf) | (refine it_at (by assumption) ?_; with_reducible conv => whnf)))
  refine ⟨⟨by omega, by omega⟩, ?_⟩
  refine Loop_mk (fun i ρ S' => ∃ o3, ρ = [some (qD p), some (.int kk), some (qD (wtQ p i)), o3] ∧ Sub S S') ⟨none, rfl, Sub.refl _⟩ (by intros; trivial) ?_ ?_
  · rintro i d ρ' S' hi ⟨o3, rfl, s1⟩
    obtain ⟨hi1, rfl⟩ := rangeD_get hi
    obtain ⟨w1, w2⟩ := wt_sm hp h0 (show i ≤ 20 by omega)
    ((with_reducible conv => whnf); repeat (first | (rw [natD_len]; with_reducible conv => whnf) | (rw [intD_len]; with_reducible conv => whnf) | (refine Exists.intro _ (And.intro (rfl : _ = some _) ?_); with_reducible conv => whnf) | (refine And.intro (okII _ _) ?_; rw [eqD_ii]; with_reducible conv => whnf) | (refine And.intro (by first | assumption | exact Exists.intro _ (by assumption) | exact ⟨rfl, rfl, by decide, by decide⟩ | exact Nat.le_of_ble_eq_true rfl | exact rfl) ?_; with_reducible conv => whnf) | (rw [isLst_at (by assumption)]; with_reducible conv => whnf) | (refine ifT rfl ?_; with_reducible conv => whnf) | (refine ifF rfl ?_; with_reducible conv => whnf) | (refine it_at (by assumption) ?_; with_reducible conv => whnf)))
    refine ⟨wtQ p i, 1, rfl, w1, sm1, fun S2 s2 => ?_⟩
    ((with_reducible conv => whnf); repeat (first | (rw [natD_len]; with_reducible conv => whnf) | (rw [intD_len]; with_reducible conv => whnf) | (refine Exists.intro _ (And.intro (rfl : _ = some _) ?_); with_reducible conv => whnf) | (refine And.intro (okII _ _) ?_; rw [eqD_ii]; with_reducible conv => whnf) | (refine And.intro (by first | assumption | exact Exists.intro _ (by assumption) | exact ⟨rfl, rfl, by decide, by decide⟩ | exact Nat.le_of_ble_eq_true rfl | exact rfl) ?_; with_reducible conv => whnf) | (rw [isLst_at (by assumption)]; with_reducible conv => whnf) | (refine ifT rfl ?_; with_reducible conv => whnf) | (refine ifF rfl ?_; with_reducible conv => whnf) | (refine it_at (by assumption) ?_; with_reducible conv => whnf)))
    refine ⟨wtQ p i + 1, p, rfl, w2, hp.sm, h0, hn9, fun S3 s3 => ?_⟩
    ((with_reducible conv => whnf); repeat (first | (rw [natD_len]; with_reducible conv => whnf) | (rw [intD_len]; with_reducible conv => whnf) | (refine Exists.intro _ (And.intro (rfl : _ = some _) ?_); with_reducible conv => whnf) | (refine And.intro (okII _ _) ?_; rw [eqD_ii]; with_reducible conv => whnf) | (refine And.intro (by first | assumption | exact Exists.intro _ (by assumption) | exact ⟨rfl, rfl, by decide, by decide⟩ | exact Nat.le_of_ble_eq_true rfl | exact rfl) ?_; with_reducible conv => whnf) | (rw [isLst_at (by assumption)]; with_reducible conv => whnf) | (refine ifT rfl ?_; with_reducible conv => whnf) | (refine ifF rfl ?_; with_reducible conv => whnf) | (refine it_at (by assumption) ?_; with_reducible conv => whnf)))
    exact ⟨_, rfl, s1.trans (s2.trans s3)⟩
  · rintro ρ' S' ⟨o3, rfl, s1⟩
    rw [rangeD_len, show ((kk : Int) - 0).toNat = kk by omega]
    ((with_reducible conv => whnf); repeat (first | (rw [natD_len]; with_reducible conv => whnf) | (rw [intD_len]; with_reducible conv => whnf) | (refine Exists.intro _ (And.intro (rfl : _ = some _) ?_); with_reducible conv => whnf) | (refine And.intro (okII _ _) ?_; rw [eqD_ii]; with_reducible conv => whnf) | (refine And.intro (by first | assumption | exact Exists.intro _ (by assumption) | exact ⟨rfl, rfl, by decide, by decide⟩ | exact Nat.le_of_ble_eq_true rfl | exact rfl) ?_; with_reducible conv => whnf) | (rw [isLst_at (by assumption)]; with_reducible conv => whnf) | (refine ifT rfl ?_; with_reducible conv => whnf) | (refine ifF rfl ?_; with_reducible conv => whnf) | (refine it_at (by assumption) ?_; with_reducible conv => whnf)))
    exact k _ s1
end K94
set_option linter.all false
set_option maxRecDepth 100000
set_option maxHeartbeats 4000000
namespace K94
open DL
/-- rows of so many tosses by how many heads stand at the end: below k -/
def nowC (k : Nat) : Nat → List Nat
  | 0 => 1 :: List.replicate (k - 1) 0
  | n + 1 => (nowC k n).sum :: (nowC k n).dropLast
theorem nowC_len {k : Nat} (hk : 1 ≤ k) : ∀ n, (nowC k n).length = k
  | 0 => by show (1 :: List.replicate (k - 1) 0).length = k; rw [List.length_cons, List.length_replicate]; omega
  | n + 1 => by show ((nowC k n).sum :: (nowC k n).dropLast).length = k; rw [List.length_cons, List.length_dropLast, nowC_len hk n]; omega
def cntW (k n : Nat) : Nat := (nowC k n).sum
/-- the number with j heads at the end is that of the rows before them and the other sign -/
theorem nowC_get {k : Nat} (hk : 1 ≤ k) : ∀ n j, j < k → (nowC k n)[j]? = some (if j < n then cntW k (n - 1 - j) else if j = n then 1 else 0)
  | 0, 0, _ => rfl
  | 0, j + 1, h => by
    show (List.replicate (k - 1) 0)[j]? = _
    rw [List.getElem?_replicate, if_pos (by omega), if_neg (by omega), if_neg (by omega)]
  | n + 1, 0, _ => by
    show some (nowC k n).sum = _
    rw [if_pos (by omega)]; rfl
  | n + 1, j + 1, h => by
    show ((nowC k n).dropLast)[j]? = _
    rw [List.getElem?_dropLast, nowC_len hk, if_pos (by omega), nowC_get hk n j (by omega)]
    by_cases c : j < n
    · rw [if_pos c, if_pos (by omega), show n + 1 - 1 - (j + 1) = n - 1 - j by omega]
    · rw [if_neg c, if_neg (show ¬ j + 1 < n + 1 by omega)]
      by_cases d : j = n
      · rw [if_pos d, if_pos (by omega)]
      · rw [if_neg d, if_neg (by omega)]
theorem nowC_eq {k : Nat} (hk : 1 ≤ k) (n : Nat) : nowC k n = ((List.range n).map (cntW k)).reverse.take k ++ (if n < k then 1 :: List.replicate (k - 1 - n) 0 else []) := by
  have hl : (((List.range n).map (cntW k)).reverse.take k).length = min k n := by rw [List.length_take, List.length_reverse, List.length_map, List.length_range]
  apply List.ext_getElem?
  intro j
  by_cases hj : j < k
  · rw [nowC_get hk n j hj]
    by_cases c : j < n
    · rw [if_pos c, List.getElem?_append_left (by rw [hl]; omega), List.getElem?_take, if_pos hj, List.getElem?_reverse (by rw [List.length_map, List.length_range]; exact c), List.length_map, List.length_range, List.getElem?_map, List.getElem?_range (by omega)]
      rfl
    · rw [if_neg c, List.getElem?_append_right (by rw [hl]; omega), hl, if_pos (show n < k by omega), show min k n = n by omega]
      by_cases d : j = n
      · rw [if_pos d, d, Nat.sub_self]; rfl
      · rw [if_neg d]
        obtain ⟨t, ht⟩ : ∃ t, j - n = t + 1 := ⟨j - n - 1, by omega⟩
        rw [ht, List.getElem?_cons_succ, List.getElem?_replicate, if_pos (by omega)]
  · rw [List.getElem?_eq_none (by rw [nowC_len hk]; omega), List.getElem?_eq_none]
    rw [List.length_append, hl]
    split
    · rw [List.length_cons, List.length_replicate]; omega
    · simp; omega
theorem sum_rep0 : ∀ n : Nat, (List.replicate n (0 : Nat)).sum = 0
  | 0 => rfl
  | n + 1 => by rw [List.replicate_succ, List.sum_cons, sum_rep0 n]
theorem cntW_rec {k : Nat} (hk : 1 ≤ k) (n : Nat) : cntW k n = (((List.range n).map (cntW k)).drop (n - k)).sum + if n < k then 1 else 0 := by
  show (nowC k n).sum = _
  rw [nowC_eq hk n, List.sum_append, List.take_reverse, List.sum_reverse, List.length_map, List.length_range]
  congr 1
  split
  · rw [List.sum_cons, sum_rep0]
  · rfl
end K94
set_option linter.all false
set_option maxRecDepth 100000
set_option maxHeartbeats 4000000
namespace K94
open DL
@[reducible] def sp_cw : Spc := fun ds S Q => ∃ n k : Nat, ds = [.int n, .int k] ∧ n ≤ 420 ∧ 1 ≤ k ∧ k ≤ 500 ∧ ∀ S', Sub S S' → Q (.int (cntW k n : Nat)) S'
theorem sum_cast (l : List Nat) : (l.map fun (k : Nat) => (k : Int)).sum = ((l.sum : Nat) : Int) := by
  induction l with
  | nil => rfl
  | cons x l ih => rw [List.map_cons, List.sum_cons, List.sum_cons, ih]; omega
theorem itemsR {S : Sto} {p : Nat} {l : List Nat} (h : S[p]? = some (.lst (natD l))) : itemsAt (.ref p) S = some (intD (l.map fun (k : Nat) => (k : Int))) := by
  show (match S[p]? with
    | some (.lst xs) => some xs
    | _ => none) = _
  rw [h]
  first | done | rfl
theorem body_count_without : Body 5 2 w_count_without sp_cw := by
  rintro ds S Q _ ⟨n, kk, rfl, hn, hk1, hk2, k⟩
  unfold w_count_without
  (simp only [start, List.map_cons, List.map_nil, List.length_cons, List.length_nil, Nat.reduceAdd, Nat.reduceSub, List.replicate_succ, List.replicate_zero, List.cons_append, List.nil_append, Nat.sub_self, Nat.zero_add])
  ((with_reducible conv => whnf); repeat (first | (rw [natD_len]; with_reducible conv => whnf) | (rw [intD_len]; with_reducible conv => whnf) | (refine Exists.intro _ (And.intro (rfl : _ = some _) ?_); with_reducible conv => whnf) | (refine And.intro (okII _ _) ?_; rw [eqD_ii]; with_reducible conv => whnf) | (refine And.intro (by first | assumption | exact Exists.intro _ (by assumption) | exact ⟨rfl, rfl, by decide, by decide⟩ | exact Nat.le_of_ble_eq_true rfl | exact rfl) ?_; with_reducible conv => whnf) | (rw [isLst_at (by assumption)]; with_reducible conv => whnf) | (refine ifT rfl ?_; with_reducible conv => whnf) | (refine ifF rfl ?_; with_reducible conv => whnf) | (refine it_at (by assumption) ?_; with_reducible conv => whnf)))
  have e0 := at_push S (.lst [])
  have s0 := (Sub.refl S).app [.lst []]
  generalize hp : S.length = p at *
  generalize S ++ [.lst []] = S0 at *
  refine ⟨⟨by omega, by omega⟩, ?_⟩
  refine Loop_mk (fun i ρ S' => ∃ o3 o4, ρ = [some (.int n), some (.int kk), some (.ref p), o3, o4] ∧ S'[p]? = some (.lst (natD ((List.range i).map (cntW kk)))) ∧ Sub S S') ⟨none, none, rfl, e0, s0⟩ (by intros; trivial) ?_ ?_
  · clear e0 s0 S0
    rintro i d ρ' S' hi ⟨o3, o4, rfl, e1, s1⟩
    obtain ⟨hi1, rfl⟩ := rangeD_get hi
    rw [Int.zero_add]
    ((with_reducible conv => whnf); repeat (first | (rw [natD_len]; with_reducible conv => whnf) | (rw [intD_len]; with_reducible conv => whnf) | (refine Exists.intro _ (And.intro (rfl : _ = some _) ?_); with_reducible conv => whnf) | (refine And.intro (okII _ _) ?_; rw [eqD_ii]; with_reducible conv => whnf) | (refine And.intro (by first | assumption | exact Exists.intro _ (by assumption) | exact ⟨rfl, rfl, by decide, by decide⟩ | exact Nat.le_of_ble_eq_true rfl | exact rfl) ?_; with_reducible conv => whnf) | (rw [isLst_at (by assumption)]; with_reducible conv => whnf) | (refine ifT rfl ?_; with_reducible conv => whnf) | (refine ifF rfl ?_; with_reducible conv => whnf) | (refine it_at (by assumption) ?_; with_reducible conv => whnf)))
    have hcut : cut (natD ((List.range i).map (cntW kk))) (some (max ((i : Int) - kk) 0)) (some (i : Int)) = natD (((List.range i).map (cntW kk)).drop (i - kk)) := by
      have hl : (natD ((List.range i).map (cntW kk))).length = i := by rw [natD_len, List.length_map, List.length_range]
      unfold cut
      rw [sIx_nn _ _ (by omega), sIx_nn _ _ (by omega), hl, show min (max ((i : Int) - kk) 0).toNat i = i - kk by omega, show min (i : Int).toNat i = i by omega, natD_map, natD_map, ← List.map_drop, List.take_of_length_le (by rw [List.length_map, List.length_drop, List.length_map, List.length_range]; omega)]
    rw [hcut]
    refine ⟨_, itemsR (at_push _ _), ?_⟩
    have e2 := push_at e1 [.lst (natD (((List.range i).map (cntW kk)).drop (i - kk)))]
    have s2 := s1.app [.lst (natD (((List.range i).map (cntW kk)).drop (i - kk)))]
    generalize S' ++ [.lst (natD (((List.range i).map (cntW kk)).drop (i - kk)))] = S2 at *
    have hr := cntW_rec hk1 i
    have fin : ∀ v : Int, v = ((cntW kk i : Nat) : Int) → S2.set p (.lst (natD ((List.range i).map (cntW kk)) ++ [.int v])) = S2.set p (.lst (natD ((List.range (i + 1)).map (cntW kk)))) := by
      rintro v rfl
      rw [List.range_succ, List.map_append, natD_app]
      rfl
    ((with_reducible conv => whnf); repeat (first | (rw [natD_len]; with_reducible conv => whnf) | (rw [intD_len]; with_reducible conv => whnf) | (refine Exists.intro _ (And.intro (rfl : _ = some _) ?_); with_reducible conv => whnf) | (refine And.intro (okII _ _) ?_; rw [eqD_ii]; with_reducible conv => whnf) | (refine And.intro (by first | assumption | exact Exists.intro _ (by assumption) | exact ⟨rfl, rfl, by decide, by decide⟩ | exact Nat.le_of_ble_eq_true rfl | exact rfl) ?_; with_reducible conv => whnf) | (rw [isLst_at (by assumption)]; with_reducible conv => whnf) | (refine ifT rfl ?_; with_reducible conv => whnf) | (refine ifF rfl ?_; with_reducible conv => whnf) | (refine it_at (by assumption) ?_; with_reducible conv => whnf)))
    refine ite_d (fun hc => ?_) fun hc => ?_
    · rw [if_pos (by omega)] at hr
      ((with_reducible conv => whnf); repeat (first | (rw [natD_len]; with_reducible conv => whnf) | (rw [intD_len]; with_reducible conv => whnf) | (refine Exists.intro _ (And.intro (rfl : _ = some _) ?_); with_reducible conv => whnf) | (refine And.intro (okII _ _) ?_; rw [eqD_ii]; with_reducible conv => whnf) | (refine And.intro (by first | assumption | exact Exists.intro _ (by assumption) | exact ⟨rfl, rfl, by decide, by decide⟩ | exact Nat.le_of_ble_eq_true rfl | exact rfl) ?_; with_reducible conv => whnf) | (rw [isLst_at (by assumption)]; with_reducible conv => whnf) | (refine ifT rfl ?_; with_reducible conv => whnf) | (refine ifF rfl ?_; with_reducible conv => whnf) | (refine it_at (by assumption) ?_; with_reducible conv => whnf)))
      refine ⟨by rw [List.length_map, List.length_range]; unfold szL; omega, ?_⟩
      (with_reducible conv => whnf)
      rw [fin _ (by rw [sum_cast, hr]; omega)]
      exact ⟨_, _, rfl, at_set e2, s2.put (by omega)⟩
    · rw [if_neg (by omega)] at hr
      ((with_reducible conv => whnf); repeat (first | (rw [natD_len]; with_reducible conv => whnf) | (rw [intD_len]; with_reducible conv => whnf) | (refine Exists.intro _ (And.intro (rfl : _ = some _) ?_); with_reducible conv => whnf) | (refine And.intro (okII _ _) ?_; rw [eqD_ii]; with_reducible conv => whnf) | (refine And.intro (by first | assumption | exact Exists.intro _ (by assumption) | exact ⟨rfl, rfl, by decide, by decide⟩ | exact Nat.le_of_ble_eq_true rfl | exact rfl) ?_; with_reducible conv => whnf) | (rw [isLst_at (by assumption)]; with_reducible conv => whnf) | (refine ifT rfl ?_; with_reducible conv => whnf) | (refine ifF rfl ?_; with_reducible conv => whnf) | (refine it_at (by assumption) ?_; with_reducible conv => whnf)))
      refine ⟨by rw [List.length_map, List.length_range]; unfold szL; omega, ?_⟩
      (with_reducible conv => whnf)
      rw [fin _ (by rw [sum_cast, hr]; omega)]
      exact ⟨_, _, rfl, at_set e2, s2.put (by omega)⟩
  · rintro ρ' S' ⟨o3, o4, rfl, e1, s1⟩
    rw [rangeD_len, show ((n : Int) + 1 - 0).toNat = n + 1 by omega] at e1
    ((with_reducible conv => whnf); repeat (first | (rw [natD_len]; with_reducible conv => whnf) | (rw [intD_len]; with_reducible conv => whnf) | (refine Exists.intro _ (And.intro (rfl : _ = some _) ?_); with_reducible conv => whnf) | (refine And.intro (okII _ _) ?_; rw [eqD_ii]; with_reducible conv => whnf) | (refine And.intro (by first | assumption | exact Exists.intro _ (by assumption) | exact ⟨rfl, rfl, by decide, by decide⟩ | exact Nat.le_of_ble_eq_true rfl | exact rfl) ?_; with_reducible conv => whnf) | (rw [isLst_at (by assumption)]; with_reducible conv => whnf) | (refine ifT rfl ?_; with_reducible conv => whnf) | (refine ifF rfl ?_; with_reducible conv => whnf) | (refine it_at (by assumption) ?_; with_reducible conv => whnf)))
    refine ⟨.int (cntW kk n : Nat), ?_, ?_⟩
    · refine atZ_nat ?_
      rw [natD_map, List.getElem?_map, List.getElem?_map, List.getElem?_range (by omega)]
      rfl
    · ((with_reducible conv => whnf); repeat (first | (rw [natD_len]; with_reducible conv => whnf) | (rw [intD_len]; with_reducible conv => whnf) | (refine Exists.intro _ (And.intro (rfl : _ = some _) ?_); with_reducible conv => whnf) | (refine And.intro (okII _ _) ?_; rw [eqD_ii]; with_reducible conv => whnf) | (refine And.intro (by first | assumption | exact Exists.intro _ (by assumption) | exact ⟨rfl, rfl, by decide, by decide⟩ | exact Nat.le_of_ble_eq_true rfl | exact rfl) ?_; with_reducible conv => whnf) | (rw [isLst_at (by assumption)]; with_reducible conv => whnf) | (refine ifT rfl ?_; with_reducible conv => whnf) | (refine ifF rfl ?_; with_reducible conv => whnf) | (refine it_at (by assumption) ?_; with_reducible conv => whnf)))
      exact k _ s1
end K94
set_option linter.all false
set_option maxRecDepth 100000
set_option maxHeartbeats 4000000
namespace K94
open DL
theorem body_law_count : Body 4 2 w_law_count sp_cw := by
  rintro ds S Q _ ⟨n, kk, rfl, hn, hk1, hk2, k⟩
  unfold w_law_count
  (simp only [start, List.map_cons, List.map_nil, List.length_cons, List.length_nil, Nat.reduceAdd, Nat.reduceSub, List.replicate_succ, List.replicate_zero, List.cons_append, List.nil_append, Nat.sub_self, Nat.zero_add])
  ((with_reducible conv => whnf); repeat (first | (rw [natD_len]; with_reducible conv => whnf) | (rw [intD_len]; with_reducible conv => whnf) | (refine Exists.intro _ (And.intro (rfl : _ = some _) ?_); with_reducible conv => whnf) | (refine And.intro (okII _ _) ?_; rw [eqD_ii]; with_reducible conv => whnf) | (refine And.intro (by first | assumption | exact Exists.intro _ (by assumption) | exact ⟨rfl, rfl, by decide, by decide⟩ | exact Nat.le_of_ble_eq_true rfl | exact rfl) ?_; with_reducible conv => whnf) | (rw [isLst_at (by assumption)]; with_reducible conv => whnf) | (refine ifT rfl ?_; with_reducible conv => whnf) | (refine ifF rfl ?_; with_reducible conv => whnf) | (refine it_at (by assumption) ?_; with_reducible conv => whnf)))
  have a1 := push_at (at_push S (.lst [.int 1])) [.lst [.int 0]]
  have a2 := at_push (S ++ [.lst [.int 1]]) (.lst [.int 0])
  have s1 := ((Sub.refl S).app [.lst [.int 1]]).app [.lst [.int 0]]
  generalize S ++ [O.lst [.int 1]] ++ [O.lst [.int 0]] = S1 at *
  generalize (S ++ [O.lst [.int 1]]).length = p2 at *
  generalize S.length = p1 at *
  ((with_reducible conv => whnf); repeat (first | (rw [natD_len]; with_reducible conv => whnf) | (rw [intD_len]; with_reducible conv => whnf) | (refine Exists.intro _ (And.intro (rfl : _ = some _) ?_); with_reducible conv => whnf) | (refine And.intro (okII _ _) ?_; rw [eqD_ii]; with_reducible conv => whnf) | (refine And.intro (by first | assumption | exact Exists.intro _ (by assumption) | exact ⟨rfl, rfl, by decide, by decide⟩ | exact Nat.le_of_ble_eq_true rfl | exact rfl) ?_; with_reducible conv => whnf) | (rw [isLst_at (by assumption)]; with_reducible conv => whnf) | (refine ifT rfl ?_; with_reducible conv => whnf) | (refine ifF rfl ?_; with_reducible conv => whnf) | (refine it_at (by assumption) ?_; with_reducible conv => whnf)))
  refine ⟨⟨by omega, by omega⟩, by rw [List.length_singleton]; unfold szL; omega, ?_⟩
  (with_reducible conv => whnf)
  have hrep : (List.replicate ((kk : Int) - 1).toNat [D.int 0]).flatten = natD (List.replicate (kk - 1) 0) := by
    rw [show ((kk : Int) - 1).toNat = kk - 1 by omega, natD_map, List.map_replicate]
    generalize kk - 1 = m
    induction m with
    | zero => rfl
    | succ m ih => rw [List.replicate_succ, List.flatten_cons, ih, List.replicate_succ]; rfl
  rw [hrep]
  have b1 := push_at a1 [.lst (natD (List.replicate (kk - 1) 0))]
  have b2 := at_push S1 (.lst (natD (List.replicate (kk - 1) 0)))
  have s2 := s1.app [.lst (natD (List.replicate (kk - 1) 0))]
  generalize S1 ++ [O.lst (natD (List.replicate (kk - 1) 0))] = S2 at *
  generalize S1.length = p3 at *
  clear a1 a2 s1 S1
  ((with_reducible conv => whnf); repeat (first | (rw [natD_len]; with_reducible conv => whnf) | (rw [intD_len]; with_reducible conv => whnf) | (refine Exists.intro _ (And.intro (rfl : _ = some _) ?_); with_reducible conv => whnf) | (refine And.intro (okII _ _) ?_; rw [eqD_ii]; with_reducible conv => whnf) | (refine And.intro (by first | assumption | exact Exists.intro _ (by assumption) | exact ⟨rfl, rfl, by decide, by decide⟩ | exact Nat.le_of_ble_eq_true rfl | exact rfl) ?_; with_reducible conv => whnf) | (rw [isLst_at (by assumption)]; with_reducible conv => whnf) | (refine ifT rfl ?_; with_reducible conv => whnf) | (refine ifF rfl ?_; with_reducible conv => whnf) | (refine it_at (by assumption) ?_; with_reducible conv => whnf)))
  refine ⟨by rw [List.length_replicate, List.length_singleton]; unfold szL; omega, ?_⟩
  have c1 := at_push S2 (.lst ([D.int 1] ++ natD (List.replicate (kk - 1) 0)))
  have s3 := s2.app [.lst ([D.int 1] ++ natD (List.replicate (kk - 1) 0))]
  rw [show [D.int 1] ++ natD (List.replicate (kk - 1) 0) = natD (nowC kk 0) from rfl] at c1 s3 ⊢
  (with_reducible conv => whnf)
  refine ⟨⟨by omega, by omega⟩, ?_⟩
  refine Loop_mk (fun i ρ S' => ∃ p o3, ρ = [some (.int n), some (.int kk), some (.ref p), o3] ∧ S'[p]? = some (.lst (natD (nowC kk i))) ∧ Sub S S') ⟨_, none, rfl, c1, s3⟩ (by intros; trivial) ?_ ?_
  · clear b1 b2 s2 c1 s3 S2
    rintro i d ρ' S' hi ⟨p, o3, rfl, e1, s1⟩
    obtain ⟨hi1, rfl⟩ := rangeD_get hi
    ((with_reducible conv => whnf); repeat (first | (rw [natD_len]; with_reducible conv => whnf) | (rw [intD_len]; with_reducible conv => whnf) | (refine Exists.intro _ (And.intro (rfl : _ = some _) ?_); with_reducible conv => whnf) | (refine And.intro (okII _ _) ?_; rw [eqD_ii]; with_reducible conv => whnf) | (refine And.intro (by first | assumption | exact Exists.intro _ (by assumption) | exact ⟨rfl, rfl, by decide, by decide⟩ | exact Nat.le_of_ble_eq_true rfl | exact rfl) ?_; with_reducible conv => whnf) | (rw [isLst_at (by assumption)]; with_reducible conv => whnf) | (refine ifT rfl ?_; with_reducible conv => whnf) | (refine ifF rfl ?_; with_reducible conv => whnf) | (refine it_at (by assumption) ?_; with_reducible conv => whnf)))
    refine ⟨_, itemsR e1, ?_⟩
    (with_reducible conv => whnf)
    rw [sum_cast]
    ((with_reducible conv => whnf); repeat (first | (rw [natD_len]; with_reducible conv => whnf) | (rw [intD_len]; with_reducible conv => whnf) | (refine Exists.intro _ (And.intro (rfl : _ = some _) ?_); with_reducible conv => whnf) | (refine And.intro (okII _ _) ?_; rw [eqD_ii]; with_reducible conv => whnf) | (refine And.intro (by first | assumption | exact Exists.intro _ (by assumption) | exact ⟨rfl, rfl, by decide, by decide⟩ | exact Nat.le_of_ble_eq_true rfl | exact rfl) ?_; with_reducible conv => whnf) | (rw [isLst_at (by assumption)]; with_reducible conv => whnf) | (refine ifT rfl ?_; with_reducible conv => whnf) | (refine ifF rfl ?_; with_reducible conv => whnf) | (refine it_at (by assumption) ?_; with_reducible conv => whnf)))
    have hln := nowC_len hk1 i
    have hcut : cut (natD (nowC kk i)) none (some (-1)) = natD (nowC kk i).dropLast := by
      unfold cut sIx
      rw [natD_len, hln, natD_map, natD_map, List.map_dropLast, List.dropLast_eq_take, List.length_map, hln]
      simp
      congr 1
      omega
    have d1 := push_at e1 [.lst [.int ((nowC kk i).sum : Nat)]]
    have d2 := at_push S' (.lst [.int ((nowC kk i).sum : Nat)])
    have t1 := s1.app [.lst [.int ((nowC kk i).sum : Nat)]]
    generalize S' ++ [O.lst [.int ((nowC kk i).sum : Nat)]] = S3 at *
    generalize S'.length = q1 at *
    clear e1 s1 S'
    rw [isLst_at d1, hcut]
    (with_reducible conv => whnf)
    have f1 := push_at d2 [.lst (natD (nowC kk i).dropLast)]
    have f2 := at_push S3 (.lst (natD (nowC kk i).dropLast))
    have t2 := t1.app [.lst (natD (nowC kk i).dropLast)]
    generalize S3 ++ [O.lst (natD (nowC kk i).dropLast)] = S4 at *
    generalize S3.length = q2 at *
    rw [isLst_at f1]
    (with_reducible conv => whnf)
    rw [isLst_at f2]
    (with_reducible conv => whnf)
    refine ⟨by rw [natD_len, List.length_dropLast, hln, List.length_singleton]; unfold szL; omega, ?_⟩
    (with_reducible conv => whnf)
    exact ⟨_, _, rfl, at_push _ _, t2.app _⟩
  · rintro ρ' S' ⟨p, o3, rfl, e1, s1⟩
    rw [rangeD_len, show ((n : Int) - 0).toNat = n by omega] at e1
    ((with_reducible conv => whnf); repeat (first | (rw [natD_len]; with_reducible conv => whnf) | (rw [intD_len]; with_reducible conv => whnf) | (refine Exists.intro _ (And.intro (rfl : _ = some _) ?_); with_reducible conv => whnf) | (refine And.intro (okII _ _) ?_; rw [eqD_ii]; with_reducible conv => whnf) | (refine And.intro (by first | assumption | exact Exists.intro _ (by assumption) | exact ⟨rfl, rfl, by decide, by decide⟩ | exact Nat.le_of_ble_eq_true rfl | exact rfl) ?_; with_reducible conv => whnf) | (rw [isLst_at (by assumption)]; with_reducible conv => whnf) | (refine ifT rfl ?_; with_reducible conv => whnf) | (refine ifF rfl ?_; with_reducible conv => whnf) | (refine it_at (by assumption) ?_; with_reducible conv => whnf)))
    refine ⟨_, itemsR e1, ?_⟩
    show Q (D.int (((nowC kk n).map fun (k : Nat) => (k : Int)).sum)) S'
    rw [sum_cast]
    exact k _ s1
end K94
set_option linter.all false
set_option maxRecDepth 100000
set_option maxHeartbeats 4000000
namespace K94
open DL
/-- the mean number of runs -/
def mrQ (p : Rat) (n : Nat) : Rat := if n = 0 then 0 else 1 + ((2 * (n - 1 : Nat) : Nat) : Rat) * (p * (1 - p))
theorem sm_small {q : Rat} {P M : Nat} (h : Ov P q) (hP : 0 < P) (h1 : -(M : Rat) ≤ q) (h2 : q ≤ (M : Rat)) (hp : P < 2 ^ 20) (hm : M < 2 ^ 20) : smS q :=
  smS_of h hP h1 h2 (Nat.lt_of_lt_of_le hp (pow_le2 (by decide))) (Nat.lt_of_lt_of_le hm (pow_le2 (by decide)))
theorem Chn.sub {p : Rat} (h : Chn p) : smS (1 - p) ∧ smS (p * (1 - p)) := by
  have h1 := h.lo
  have h2 := h.hi
  have hd := h.den
  have o1 : Ov p.den (1 - p) := by have := (Ov_int p.den 1).sub (Ov_self p); exact this
  have h3 : 0 ≤ 1 - p := by grind
  have h4 := Rat.mul_nonneg h1 h3
  have h5 : p * (1 - p) ≤ 1 := by
    have := Rat.mul_le_mul_of_nonneg_right h2 h3
    grind
  have e1 : ((1 : Nat) : Rat) = 1 := rfl
  exact ⟨sm_small o1 p.den_pos (M := 1) (by grind) (by grind) (by omega) (by decide), sm_small ((Ov_self p).mul o1) (Nat.mul_pos p.den_pos p.den_pos) (M := 1) (by grind) (by grind)
    (Nat.lt_of_le_of_lt (Nat.mul_le_mul hd hd) (by decide)) (by decide)⟩
theorem sm_nat {n : Nat} (h : n < 2 ^ 20) : smS (n : Rat) := by
  have h0 : (0 : Rat) ≤ (n : Rat) := by exact_mod_cast Nat.zero_le _
  exact sm_small (P := 1) (M := n) (by have := Ov_int 1 (n : Int); exact this) Nat.one_pos (by grind) (by grind) (by decide) h
theorem qD_nat (n : Nat) : D.tup [.int (n : Int), .int 1] = qD (n : Rat) := by
  have := qD_int (n : Int)
  exact this.symm
theorem mr_sm {p : Rat} (h : Chn p) {n : Nat} (hn : n ≤ 2000) : smS (((2 * (n - 1 : Nat) : Nat) : Rat) * (p * (1 - p))) := by
  have h1 := h.lo
  have h2 := h.hi
  have hd := h.den
  have o1 : Ov p.den (1 - p) := by have := (Ov_int p.den 1).sub (Ov_self p); exact this
  have h3 : 0 ≤ 1 - p := by grind
  have h4 := Rat.mul_nonneg h1 h3
  have h5 : p * (1 - p) ≤ 1 := by
    have := Rat.mul_le_mul_of_nonneg_right h2 h3
    grind
  have h0 : (0 : Rat) ≤ ((2 * (n - 1 : Nat) : Nat) : Rat) := by exact_mod_cast Nat.zero_le _
  have h6 := Rat.mul_nonneg h0 h4
  have h7 : ((2 * (n - 1 : Nat) : Nat) : Rat) * (p * (1 - p)) ≤ ((2 * (n - 1 : Nat) : Nat) : Rat) := by
    have := Rat.mul_le_mul_of_nonneg_left h5 h0
    grind
  have oo : Ov (1 * (p.den * p.den)) (((2 * (n - 1 : Nat) : Nat) : Rat) * (p * (1 - p))) := (show Ov 1 ((2 * (n - 1 : Nat) : Nat) : Rat) from Ov_int 1 ((2 * (n - 1 : Nat) : Nat) : Int)).mul ((Ov_self p).mul o1)
  exact sm_small oo (by have := Nat.mul_pos p.den_pos p.den_pos; omega) (M := 2 * (n - 1)) (by grind) (by grind) (by have := Nat.mul_le_mul hd hd; omega) (by omega)
@[reducible] def sp_mr : Spc := fun ds S Q => ∃ (p : Rat) (n : Nat), ds = [qD p, .int n] ∧ Chn p ∧ n ≤ 2000 ∧ ∀ S', Sub S S' → Q (qD (mrQ p n)) S'
theorem body_mean_runs : Body 3 2 (w_mean_runs (sp_s2 (· - ·)) (sp_s2 (· * ·)) (sp_s2 (· + ·))) sp_mr := by
  rintro ds S Q _ ⟨p, n, rfl, hp, hn, k⟩
  unfold w_mean_runs
  unfold mrQ at k
  (simp only [start, List.map_cons, List.map_nil, List.length_cons, List.length_nil, Nat.reduceAdd, Nat.reduceSub, List.replicate_succ, List.replicate_zero, List.cons_append, List.nil_append, Nat.sub_self, Nat.zero_add])
  ((with_reducible conv => whnf); repeat (first | (rw [natD_len]; with_reducible conv => whnf) | (rw [intD_len]; with_reducible conv => whnf) | (refine Exists.intro _ (And.intro (rfl : _ = some _) ?_); with_reducible conv => whnf) | (refine And.intro (okII _ _) ?_; rw [eqD_ii]; with_reducible conv => whnf) | (refine And.intro (by first | assumption | exact Exists.intro _ (by assumption) | exact ⟨rfl, rfl, by decide, by decide⟩ | exact Nat.le_of_ble_eq_true rfl | exact rfl) ?_; with_reducible conv => whnf) | (rw [isLst_at (by assumption)]; with_reducible conv => whnf) | (refine ifT rfl ?_; with_reducible conv => whnf) | (refine ifF rfl ?_; with_reducible conv => whnf) | (refine it_at (by assumption) ?_; with_reducible conv => whnf)))
  refine ite_d (fun hc => ?_) fun hc => ?_
  · rw [if_pos (by omega)] at k
    ((with_reducible conv => whnf); repeat (first | (rw [natD_len]; with_reducible conv => whnf) | (rw [intD_len]; with_reducible conv => whnf) | (refine Exists.intro _ (And.intro (rfl : _ = some _) ?_); with_reducible conv => whnf) | (refine And.intro (okII _ _) ?_; rw [eqD_ii]; with_reducible conv => whnf) | (refine And.intro (by first | assumption | exact Exists.intro _ (by assumption) | exact ⟨rfl, rfl, by decide, by decide⟩ | exact Nat.le_of_ble_eq_true rfl | exact rfl) ?_; with_reducible conv => whnf) | (rw [isLst_at (by assumption)]; with_reducible conv => whnf) | (refine ifT rfl ?_; with_reducible conv => whnf) | (refine ifF rfl ?_; with_reducible conv => whnf) | (refine it_at (by assumption) ?_; with_reducible conv => whnf)))
    exact k S (Sub.refl _)
  · rw [if_neg (by omega)] at k
    ((with_reducible conv => whnf); repeat (first | (rw [natD_len]; with_reducible conv => whnf) | (rw [intD_len]; with_reducible conv => whnf) | (refine Exists.intro _ (And.intro (rfl : _ = some _) ?_); with_reducible conv => whnf) | (refine And.intro (okII _ _) ?_; rw [eqD_ii]; with_reducible conv => whnf) | (refine And.intro (by first | assumption | exact Exists.intro _ (by assumption) | exact ⟨rfl, rfl, by decide, by decide⟩ | exact Nat.le_of_ble_eq_true rfl | exact rfl) ?_; with_reducible conv => whnf) | (rw [isLst_at (by assumption)]; with_reducible conv => whnf) | (refine ifT rfl ?_; with_reducible conv => whnf) | (refine ifF rfl ?_; with_reducible conv => whnf) | (refine it_at (by assumption) ?_; with_reducible conv => whnf)))
    refine ⟨smallMul' (by decide), ?_⟩
    rw [show (2 : Int) * ((n : Int) - 1) = ((2 * (n - 1 : Nat) : Nat) : Int) by omega]
    ((with_reducible conv => whnf); repeat (first | (rw [natD_len]; with_reducible conv => whnf) | (rw [intD_len]; with_reducible conv => whnf) | (refine Exists.intro _ (And.intro (rfl : _ = some _) ?_); with_reducible conv => whnf) | (refine And.intro (okII _ _) ?_; rw [eqD_ii]; with_reducible conv => whnf) | (refine And.intro (by first | assumption | exact Exists.intro _ (by assumption) | exact ⟨rfl, rfl, by decide, by decide⟩ | exact Nat.le_of_ble_eq_true rfl | exact rfl) ?_; with_reducible conv => whnf) | (rw [isLst_at (by assumption)]; with_reducible conv => whnf) | (refine ifT rfl ?_; with_reducible conv => whnf) | (refine ifF rfl ?_; with_reducible conv => whnf) | (refine it_at (by assumption) ?_; with_reducible conv => whnf)))
    refine ⟨1, p, rfl, sm1, hp.sm, fun S1 s1 => ?_⟩
    ((with_reducible conv => whnf); repeat (first | (rw [natD_len]; with_reducible conv => whnf) | (rw [intD_len]; with_reducible conv => whnf) | (refine Exists.intro _ (And.intro (rfl : _ = some _) ?_); with_reducible conv => whnf) | (refine And.intro (okII _ _) ?_; rw [eqD_ii]; with_reducible conv => whnf) | (refine And.intro (by first | assumption | exact Exists.intro _ (by assumption) | exact ⟨rfl, rfl, by decide, by decide⟩ | exact Nat.le_of_ble_eq_true rfl | exact rfl) ?_; with_reducible conv => whnf) | (rw [isLst_at (by assumption)]; with_reducible conv => whnf) | (refine ifT rfl ?_; with_reducible conv => whnf) | (refine ifF rfl ?_; with_reducible conv => whnf) | (refine it_at (by assumption) ?_; with_reducible conv => whnf)))
    refine ⟨p, 1 - p, rfl, hp.sm, hp.sub.1, fun S2 s2 => ?_⟩
    rw [qD_nat]
    ((with_reducible conv => whnf); repeat (first | (rw [natD_len]; with_reducible conv => whnf) | (rw [intD_len]; with_reducible conv => whnf) | (refine Exists.intro _ (And.intro (rfl : _ = some _) ?_); with_reducible conv => whnf) | (refine And.intro (okII _ _) ?_; rw [eqD_ii]; with_reducible conv => whnf) | (refine And.intro (by first | assumption | exact Exists.intro _ (by assumption) | exact ⟨rfl, rfl, by decide, by decide⟩ | exact Nat.le_of_ble_eq_true rfl | exact rfl) ?_; with_reducible conv => whnf) | (rw [isLst_at (by assumption)]; with_reducible conv => whnf) | (refine ifT rfl ?_; with_reducible conv => whnf) | (refine ifF rfl ?_; with_reducible conv => whnf) | (refine it_at (by assumption) ?_; with_reducible conv => whnf)))
    refine ⟨_, p * (1 - p), rfl, sm_nat (by omega), hp.sub.2, fun S3 s3 => ?_⟩
    ((with_reducible conv => whnf); repeat (first | (rw [natD_len]; with_reducible conv => whnf) | (rw [intD_len]; with_reducible conv => whnf) | (refine Exists.intro _ (And.intro (rfl : _ = some _) ?_); with_reducible conv => whnf) | (refine And.intro (okII _ _) ?_; rw [eqD_ii]; with_reducible conv => whnf) | (refine And.intro (by first | assumption | exact Exists.intro _ (by assumption) | exact ⟨rfl, rfl, by decide, by decide⟩ | exact Nat.le_of_ble_eq_true rfl | exact rfl) ?_; with_reducible conv => whnf) | (rw [isLst_at (by assumption)]; with_reducible conv => whnf) | (refine ifT rfl ?_; with_reducible conv => whnf) | (refine ifF rfl ?_; with_reducible conv => whnf) | (refine it_at (by assumption) ?_; with_reducible conv => whnf)))
    exact ⟨1, _, rfl, sm1, mr_sm hp hn, fun S4 s4 => k S4 (s1.trans (s2.trans (s3.trans s4)))⟩
end K94
set_option linter.all false
set_option maxRecDepth 100000
set_option maxHeartbeats 4000000
namespace K94
open DL
def rsum (l : List Rat) : Rat := l.foldl (· + ·) 0
/-- chances by how many heads stand at the end, below k -/
def dpQ (p : Rat) (k : Nat) : Nat → List Rat
  | 0 => 1 :: List.replicate (k - 1) 0
  | n + 1 => (rsum (dpQ p k n) * (1 - p)) :: (dpQ p k n).dropLast.map fun x => x * p
theorem dpQ_len {p : Rat} {k : Nat} (hk : 1 ≤ k) : ∀ n, (dpQ p k n).length = k
  | 0 => by show (1 :: List.replicate (k - 1) 0).length = k; rw [List.length_cons, List.length_replicate]; omega
  | n + 1 => by
    show (_ :: (dpQ p k n).dropLast.map _).length = k
    rw [List.length_cons, List.length_map, List.length_dropLast, dpQ_len hk n]; omega
theorem foldl_add (l : List Rat) : ∀ a : Rat, l.foldl (· + ·) a = a + rsum l := by
  unfold rsum
  induction l with
  | nil => intro a; show a = a + 0; grind
  | cons x l ih => intro a; rw [List.foldl_cons, List.foldl_cons, ih (a + x), ih (0 + x)]; grind
theorem rsum_cons (x : Rat) (l : List Rat) : rsum (x :: l) = x + rsum l := by
  show (x :: l).foldl (· + ·) 0 = _
  rw [List.foldl_cons, foldl_add]; grind
theorem rsum_app (l m : List Rat) : rsum (l ++ m) = rsum l + rsum m := by
  show (l ++ m).foldl (· + ·) 0 = _
  rw [List.foldl_append, foldl_add]
  rfl
theorem rsum_mul (l : List Rat) (p : Rat) : rsum (l.map fun x => x * p) = rsum l * p := by
  induction l with
  | nil => show (0 : Rat) = 0 * p; grind
  | cons x l ih => rw [List.map_cons, rsum_cons, rsum_cons, ih]; grind
theorem rsum_nn {l : List Rat} (h : ∀ x ∈ l, 0 ≤ x) : 0 ≤ rsum l := by
  induction l with
  | nil => show (0 : Rat) ≤ 0; decide
  | cons x l ih =>
    rw [rsum_cons]
    have := h x List.mem_cons_self
    have := ih fun y hy => h y (List.mem_cons_of_mem _ hy)
    grind
theorem rsum_rep : ∀ n : Nat, rsum (List.replicate n 0) = 0
  | 0 => rfl
  | n + 1 => by rw [List.replicate_succ, rsum_cons, rsum_rep n]; grind
theorem rsum_drop {l : List Rat} (h : ∀ x ∈ l, 0 ≤ x) : rsum l.dropLast ≤ rsum l := by
  by_cases c : l = []
  · subst c; show (0 : Rat) ≤ 0; decide
  · have e := List.dropLast_concat_getLast c
    have h2 := h _ (List.getLast_mem c)
    have : rsum l = rsum l.dropLast + l.getLast c := by
      conv => lhs; rw [← e]
      rw [rsum_app]
      show _ + rsum [l.getLast c] = _
      rw [rsum_cons]
      show _ + (_ + (0 : Rat)) = _
      grind
    rw [this]
    grind
theorem dpQ_ok {p : Rat} (h : Chn p) (k : Nat) : ∀ n, (∀ x ∈ dpQ p k n, 0 ≤ x ∧ Ov (p.den ^ n) x) ∧ rsum (dpQ p k n) ≤ 1
  | 0 => by
    refine ⟨fun x hx => ?_, ?_⟩
    · rcases List.mem_cons.mp hx with rfl | hx
      · exact ⟨by decide +kernel, Ov_int 1 1⟩
      · rw [(List.mem_replicate.mp hx).2]
        exact ⟨by decide +kernel, Ov_int 1 0⟩
    · show rsum (1 :: List.replicate (k - 1) 0) ≤ 1
      rw [rsum_cons, rsum_rep]; grind
  | n + 1 => by
    obtain ⟨i1, i2⟩ := dpQ_ok h k n
    have h1 := h.lo
    have h2 := h.hi
    have h3 : 0 ≤ 1 - p := by grind
    have o1 : Ov p.den (1 - p) := by have := (Ov_int p.den 1).sub (Ov_self p); exact this
    have hs := rsum_nn fun x hx => (i1 x hx).1
    have hos : ∀ l : List Rat, (∀ x ∈ l, Ov (p.den ^ n) x) → Ov (p.den ^ n) (rsum l) := by
      intro l
      induction l with
      | nil => intro _; exact Ov_int _ 0
      | cons x l ih => intro hl; rw [rsum_cons]; exact (hl x List.mem_cons_self).add (ih fun y hy => hl y (List.mem_cons_of_mem _ hy))
    refine ⟨fun x hx => ?_, ?_⟩
    · rcases List.mem_cons.mp hx with rfl | hx
      · exact ⟨Rat.mul_nonneg hs h3, by rw [Nat.pow_succ]; exact (hos _ fun x hx => (i1 x hx).2).mul o1⟩
      · obtain ⟨y, hy, rfl⟩ := List.mem_map.mp hx
        obtain ⟨j1, j2⟩ := i1 y (List.dropLast_subset _ hy)
        exact ⟨Rat.mul_nonneg j1 h1, by rw [Nat.pow_succ]; exact j2.mul (Ov_self p)⟩
    · show rsum ((rsum (dpQ p k n) * (1 - p)) :: (dpQ p k n).dropLast.map fun x => x * p) ≤ 1
      rw [rsum_cons, rsum_mul]
      have h4 := rsum_drop fun x hx => (i1 x hx).1
      have h5 := Rat.mul_le_mul_of_nonneg_right h4 h1
      grind
end K94
set_option linter.all false
set_option maxRecDepth 100000
set_option maxHeartbeats 4000000
namespace K94
open DL
def qs (l : List Rat) : List D := l.map qD
theorem dp_sm {p : Rat} {N : Nat} (hN : p.den ^ N < 2 ^ 420) {x : Rat} {n : Nat} (hn : n ≤ N) (h : Ov (p.den ^ n) x) (h0 : 0 ≤ x) (h1 : x ≤ 2) : smS x := by
  have hP : 0 < p.den ^ n := Nat.pow_pos p.den_pos
  have hle : p.den ^ n ≤ p.den ^ N := Nat.pow_le_pow_right p.den_pos hn
  exact smS_of h hP (M := 2) (by have : ((2 : Nat) : Rat) = 2 := rfl; grind) (by have : ((2 : Nat) : Rat) = 2 := rfl; grind) (Nat.lt_of_le_of_lt hle (Nat.lt_of_lt_of_le hN (pow_le2 (by decide)))) (Nat.lt_of_lt_of_le (show 2 < 2 ^ 2 by decide) (pow_le2 (by decide)))
theorem rsum_take {l : List Rat} {i : Nat} {x : Rat} (h : l[i]? = some x) : rsum (l.take (i + 1)) = rsum (l.take i) + x := by
  rw [List.take_succ, h, rsum_app]
  show _ + rsum [x] = _
  rw [rsum_cons]
  show _ + (x + (0 : Rat)) = _
  grind
end K94
set_option linter.all false
set_option maxRecDepth 100000
set_option maxHeartbeats 4000000
namespace K94
open DL
@[reducible] def sp_cwo : Spc := fun ds S Q => ∃ (p : Rat) (n k : Nat), ds = [qD p, .int n, .int k] ∧ Chn p ∧ n ≤ 420 ∧ 1 ≤ k ∧ k ≤ 500 ∧ p.den ^ n < 2 ^ 420 ∧ ∀ S', Sub S S' → Q (qD (rsum (dpQ p k n))) S'
theorem qs_rep (m : Nat) : (List.replicate m [D.tup [.int 0, .int 1]]).flatten = qs (List.replicate m 0) := by
  induction m with
  | zero => rfl
  | succ m ih => rw [List.replicate_succ, List.flatten_cons, ih, List.replicate_succ]; rfl
theorem le2 {x : Rat} (h : x ≤ 1) : x ≤ 2 := by grind
theorem rsum_mem {l : List Rat} (h : ∀ x ∈ l, 0 ≤ x) {x : Rat} (hx : x ∈ l) : x ≤ rsum l := by
  induction l with
  | nil => cases hx
  | cons y l ih =>
    rw [rsum_cons]
    have h1 := h y List.mem_cons_self
    have h2 := rsum_nn fun z hz => h z (List.mem_cons_of_mem _ hz)
    rcases List.mem_cons.mp hx with rfl | hx
    · grind
    · have := ih (fun z hz => h z (List.mem_cons_of_mem _ hz)) hx
      grind
theorem rsum_tk {l : List Rat} (h : ∀ x ∈ l, 0 ≤ x) (j : Nat) : 0 ≤ rsum (l.take j) ∧ rsum (l.take j) ≤ rsum l := by
  have e : rsum l = rsum (l.take j) + rsum (l.drop j) := by rw [← rsum_app, List.take_append_drop]
  have h1 := rsum_nn (l := l.take j) fun x hx => h x (List.take_subset _ _ hx)
  have h2 := rsum_nn (l := l.drop j) fun x hx => h x (List.drop_subset _ _ hx)
  rw [e]
  grind
theorem rsum_ov {P : Nat} : ∀ {l : List Rat}, (∀ x ∈ l, Ov P x) → Ov P (rsum l)
  | [], _ => Ov_int _ 0
  | x :: l, h => by rw [rsum_cons]; exact (h x List.mem_cons_self).add (rsum_ov fun y hy => h y (List.mem_cons_of_mem _ hy))
section
variable {p : Rat} {l : List Rat} {P : Nat}
theorem dp_le (w1 : ∀ x ∈ l, 0 ≤ x ∧ Ov P x) (w2 : rsum l ≤ 1) {x : Rat} (hx : x ∈ l) : x ≤ 1 := by
  have := rsum_mem (fun y hy => (w1 y hy).1) hx
  grind
theorem dp_tk0 (w1 : ∀ x ∈ l, 0 ≤ x ∧ Ov P x) (w2 : rsum l ≤ 1) (j : Nat) : Ov P (rsum (l.take j)) ∧ 0 ≤ rsum (l.take j) ∧ rsum (l.take j) ≤ 1 := by
  have h := rsum_tk (fun y hy => (w1 y hy).1) j
  exact ⟨rsum_ov fun x hx => (w1 x (List.take_subset _ _ hx)).2, h.1, by grind⟩
theorem le_mul1 {a b : Rat} (ha : 0 ≤ a) (ha1 : a ≤ 1) (hb : 0 ≤ b) (hb1 : b ≤ 1) : 0 ≤ a * b ∧ a * b ≤ 1 := by
  have h1 := Rat.mul_nonneg ha hb
  have h2 := Rat.mul_le_mul_of_nonneg_right ha1 hb
  exact ⟨h1, by grind⟩
end
theorem dp_tk {p : Rat} {l : List Rat} {i : Nat} (hp : Chn p) (w1 : ∀ x ∈ l, 0 ≤ x ∧ Ov (p.den ^ i) x) (w2 : rsum l ≤ 1) (j : Nat) : Ov (p.den ^ (i + 1)) ((1 - p) * rsum (l.take j)) ∧ 0 ≤ (1 - p) * rsum (l.take j) ∧ (1 - p) * rsum (l.take j) ≤ 1 := by
  obtain ⟨h1, h2, h3⟩ := dp_tk0 w1 w2 j
  have a := hp.lo
  have b := hp.hi
  have o1 : Ov p.den (1 - p) := by have := (Ov_int p.den 1).sub (Ov_self p); exact this
  refine ⟨?_, le_mul1 (by grind) (by grind) h2 h3⟩
  rw [Nat.pow_succ, Nat.mul_comm]
  exact o1.mul h1
theorem dp_one {p : Rat} {l : List Rat} {i : Nat} (hp : Chn p) (w1 : ∀ x ∈ l, 0 ≤ x ∧ Ov (p.den ^ i) x) (w2 : rsum l ≤ 1) {x : Rat} (hx : x ∈ l) : Ov (p.den ^ (i + 1)) ((1 - p) * x) ∧ 0 ≤ (1 - p) * x ∧ (1 - p) * x ≤ 1 := by
  have a := hp.lo
  have b := hp.hi
  have o1 : Ov p.den (1 - p) := by have := (Ov_int p.den 1).sub (Ov_self p); exact this
  refine ⟨?_, le_mul1 (by grind) (by grind) (w1 x hx).1 (dp_le w1 w2 hx)⟩
  rw [Nat.pow_succ, Nat.mul_comm]
  exact o1.mul (w1 x hx).2
theorem body_chance_without : Body 10 3 (w_chance_without (sp_s2 (· - ·)) (sp_s2 (· * ·)) (sp_s2 (· + ·))) sp_cwo := by
  rintro ds S Q _ ⟨p, n, kk, rfl, hp, hn, hk1, hk2, hb, k⟩
  unfold w_chance_without
  (simp only [start, List.map_cons, List.map_nil, List.length_cons, List.length_nil, Nat.reduceAdd, Nat.reduceSub, List.replicate_succ, List.replicate_zero, List.cons_append, List.nil_append, Nat.sub_self, Nat.zero_add])
  ((with_reducible conv => whnf); repeat (first | (rw [natD_len]; with_reducible conv => whnf) | (rw [intD_len]; with_reducible conv => whnf) | (refine Exists.intro _ (And.intro (rfl : _ = some _) ?_); with_reducible conv => whnf) | (refine And.intro (okII _ _) ?_; rw [eqD_ii]; with_reducible conv => whnf) | (refine And.intro (by first | assumption | exact Exists.intro _ (by assumption) | exact ⟨rfl, rfl, by decide, by decide⟩ | exact Nat.le_of_ble_eq_true rfl | exact rfl) ?_; with_reducible conv => whnf) | (rw [isLst_at (by assumption)]; with_reducible conv => whnf) | (refine ifT rfl ?_; with_reducible conv => whnf) | (refine ifF rfl ?_; with_reducible conv => whnf) | (refine it_at (by assumption) ?_; with_reducible conv => whnf)))
  have a1 := push_at (at_push S (.lst [dONE])) [.lst [dNOTHING]]
  have a2 := at_push (S ++ [.lst [dONE]]) (.lst [dNOTHING])
  have s1 := ((Sub.refl S).app [.lst [dONE]]).app [.lst [dNOTHING]]
  generalize S ++ [O.lst [dONE]] ++ [O.lst [dNOTHING]] = S1 at *
  generalize (S ++ [O.lst [dONE]]).length = p2 at *
  generalize S.length = p1 at *
  ((with_reducible conv => whnf); repeat (first | (rw [natD_len]; with_reducible conv => whnf) | (rw [intD_len]; with_reducible conv => whnf) | (refine Exists.intro _ (And.intro (rfl : _ = some _) ?_); with_reducible conv => whnf) | (refine And.intro (okII _ _) ?_; rw [eqD_ii]; with_reducible conv => whnf) | (refine And.intro (by first | assumption | exact Exists.intro _ (by assumption) | exact ⟨rfl, rfl, by decide, by decide⟩ | exact Nat.le_of_ble_eq_true rfl | exact rfl) ?_; with_reducible conv => whnf) | (rw [isLst_at (by assumption)]; with_reducible conv => whnf) | (refine ifT rfl ?_; with_reducible conv => whnf) | (refine ifF rfl ?_; with_reducible conv => whnf) | (refine it_at (by assumption) ?_; with_reducible conv => whnf)))
  refine ⟨⟨by omega, by omega⟩, by rw [List.length_singleton]; unfold szL; omega, ?_⟩
  (with_reducible conv => whnf)
  rw [show ((kk : Int) - 1).toNat = kk - 1 by omega, show (List.replicate (kk - 1) [dNOTHING]).flatten = qs (List.replicate (kk - 1) 0) from qs_rep _]
  have b1 := push_at a1 [.lst (qs (List.replicate (kk - 1) 0))]
  have b2 := at_push S1 (.lst (qs (List.replicate (kk - 1) 0)))
  have s2 := s1.app [.lst (qs (List.replicate (kk - 1) 0))]
  generalize S1 ++ [O.lst (qs (List.replicate (kk - 1) 0))] = S2 at *
  generalize S1.length = p3 at *
  clear a1 a2 s1 S1
  ((with_reducible conv => whnf); repeat (first | (rw [natD_len]; with_reducible conv => whnf) | (rw [intD_len]; with_reducible conv => whnf) | (refine Exists.intro _ (And.intro (rfl : _ = some _) ?_); with_reducible conv => whnf) | (refine And.intro (okII _ _) ?_; rw [eqD_ii]; with_reducible conv => whnf) | (refine And.intro (by first | assumption | exact Exists.intro _ (by assumption) | exact ⟨rfl, rfl, by decide, by decide⟩ | exact Nat.le_of_ble_eq_true rfl | exact rfl) ?_; with_reducible conv => whnf) | (rw [isLst_at (by assumption)]; with_reducible conv => whnf) | (refine ifT rfl ?_; with_reducible conv => whnf) | (refine ifF rfl ?_; with_reducible conv => whnf) | (refine it_at (by assumption) ?_; with_reducible conv => whnf)))
  refine ⟨by rw [List.length_singleton, qs, List.length_map, List.length_replicate]; unfold szL; omega, ?_⟩
  have c1 := at_push S2 (.lst ([dONE] ++ qs (List.replicate (kk - 1) 0)))
  have s3 := s2.app [.lst ([dONE] ++ qs (List.replicate (kk - 1) 0))]
  rw [show [dONE] ++ qs (List.replicate (kk - 1) 0) = qs (dpQ p kk 0) from rfl] at c1 s3 ⊢
  generalize S2 ++ [O.lst (qs (dpQ p kk 0))] = S3 at *
  generalize S2.length = q0 at *
  clear b1 b2 s2 S2
  ((with_reducible conv => whnf); repeat (first | (rw [natD_len]; with_reducible conv => whnf) | (rw [intD_len]; with_reducible conv => whnf) | (refine Exists.intro _ (And.intro (rfl : _ = some _) ?_); with_reducible conv => whnf) | (refine And.intro (okII _ _) ?_; rw [eqD_ii]; with_reducible conv => whnf) | (refine And.intro (by first | assumption | exact Exists.intro _ (by assumption) | exact ⟨rfl, rfl, by decide, by decide⟩ | exact Nat.le_of_ble_eq_true rfl | exact rfl) ?_; with_reducible conv => whnf) | (rw [isLst_at (by assumption)]; with_reducible conv => whnf) | (refine ifT rfl ?_; with_reducible conv => whnf) | (refine ifF rfl ?_; with_reducible conv => whnf) | (refine it_at (by assumption) ?_; with_reducible conv => whnf)))
  refine ⟨1, p, rfl, sm1, hp.sm, fun S4 s4 => ?_⟩
  replace c1 := s4 _ _ c1
  replace s4 := s3.trans s4
  ((with_reducible conv => whnf); repeat (first | (rw [natD_len]; with_reducible conv => whnf) | (rw [intD_len]; with_reducible conv => whnf) | (refine Exists.intro _ (And.intro (rfl : _ = some _) ?_); with_reducible conv => whnf) | (refine And.intro (okII _ _) ?_; rw [eqD_ii]; with_reducible conv => whnf) | (refine And.intro (by first | assumption | exact Exists.intro _ (by assumption) | exact ⟨rfl, rfl, by decide, by decide⟩ | exact Nat.le_of_ble_eq_true rfl | exact rfl) ?_; with_reducible conv => whnf) | (rw [isLst_at (by assumption)]; with_reducible conv => whnf) | (refine ifT rfl ?_; with_reducible conv => whnf) | (refine ifF rfl ?_; with_reducible conv => whnf) | (refine it_at (by assumption) ?_; with_reducible conv => whnf)))
  refine ⟨⟨by omega, by omega⟩, ?_⟩
  have dsm := fun {x : Rat} {m : Nat} (hm : m ≤ n) => dp_sm (p := p) (N := n) hb (x := x) (n := m) hm
  refine Loop_mk (fun i ρ S' => ∃ q o5 o6 o7 o8, ρ = [some (qD p), some (.int n), some (.int kk), some (.ref q), some (qD (1 - p)), o5, o6, o7, o8, none] ∧ S'[q]? = some (.lst (qs (dpQ p kk i))) ∧ Sub S S' ∧ i ≤ n) ⟨_, none, none, none, none, rfl, c1, s4, Nat.zero_le _⟩ (by intros; trivial) ?_ ?_
  · clear c1 s4 s3 S4 S3
    rintro i d ρ' S' hi ⟨q, o5, o6, o7, o8, rfl, e1, s1, _⟩
    obtain ⟨hi1, rfl⟩ := rangeD_get hi
    have hin : i < n := by omega
    obtain ⟨w1, w2⟩ := dpQ_ok hp kk i
    have hln := dpQ_len (p := p) hk1 i
    ((with_reducible conv => whnf); repeat (first | (rw [natD_len]; with_reducible conv => whnf) | (rw [intD_len]; with_reducible conv => whnf) | (refine Exists.intro _ (And.intro (rfl : _ = some _) ?_); with_reducible conv => whnf) | (refine And.intro (okII _ _) ?_; rw [eqD_ii]; with_reducible conv => whnf) | (refine And.intro (by first | assumption | exact Exists.intro _ (by assumption) | exact ⟨rfl, rfl, by decide, by decide⟩ | exact Nat.le_of_ble_eq_true rfl | exact rfl) ?_; with_reducible conv => whnf) | (rw [isLst_at (by assumption)]; with_reducible conv => whnf) | (refine ifT rfl ?_; with_reducible conv => whnf) | (refine ifF rfl ?_; with_reducible conv => whnf) | (refine it_at (by assumption) ?_; with_reducible conv => whnf)))
    have hz0 : dNOTHING = qD ((1 - p) * rsum ((dpQ p kk i).take 0)) := by
      rw [List.take_zero, show rsum ([] : List Rat) = 0 from rfl, Rat.mul_zero, dN]
    refine Loop_mk (fun j ρ S' => ∃ o7, ρ = [some (qD p), some (.int n), some (.int kk), some (.ref q), some (qD (1 - p)), some (.int (0 + (i : Int))), some (qD ((1 - p) * rsum ((dpQ p kk i).take j))), o7, o8, none] ∧ S'[q]? = some (.lst (qs (dpQ p kk i))) ∧ Sub S S') ⟨o7, by rw [← hz0], e1, s1⟩ (by rintro j ρ' S' ⟨o7, rfl, f1, f2⟩; exact f1) ?_ ?_
    · clear e1 s1 S'
      rintro j d ρ' S' hj ⟨o7, rfl, e1, s1⟩
      rw [qs, List.getElem?_map] at hj
      obtain ⟨x, hx, rfl⟩ := Option.map_eq_some_iff.mp hj
      have hm := List.mem_of_getElem? hx
      obtain ⟨x0, x1⟩ := w1 x hm
      rw [rsum_take hx]
      ((with_reducible conv => whnf); repeat (first | (rw [natD_len]; with_reducible conv => whnf) | (rw [intD_len]; with_reducible conv => whnf) | (refine Exists.intro _ (And.intro (rfl : _ = some _) ?_); with_reducible conv => whnf) | (refine And.intro (okII _ _) ?_; rw [eqD_ii]; with_reducible conv => whnf) | (refine And.intro (by first | assumption | exact Exists.intro _ (by assumption) | exact ⟨rfl, rfl, by decide, by decide⟩ | exact Nat.le_of_ble_eq_true rfl | exact rfl) ?_; with_reducible conv => whnf) | (rw [isLst_at (by assumption)]; with_reducible conv => whnf) | (refine ifT rfl ?_; with_reducible conv => whnf) | (refine ifF rfl ?_; with_reducible conv => whnf) | (refine it_at (by assumption) ?_; with_reducible conv => whnf)))
      refine ⟨1 - p, x, rfl, hp.sub.1, dsm (Nat.le_of_lt hin) x1 x0 (le2 (dp_le w1 w2 hm)), fun S2 s2 => ?_⟩
      ((with_reducible conv => whnf); repeat (first | (rw [natD_len]; with_reducible conv => whnf) | (rw [intD_len]; with_reducible conv => whnf) | (refine Exists.intro _ (And.intro (rfl : _ = some _) ?_); with_reducible conv => whnf) | (refine And.intro (okII _ _) ?_; rw [eqD_ii]; with_reducible conv => whnf) | (refine And.intro (by first | assumption | exact Exists.intro _ (by assumption) | exact ⟨rfl, rfl, by decide, by decide⟩ | exact Nat.le_of_ble_eq_true rfl | exact rfl) ?_; with_reducible conv => whnf) | (rw [isLst_at (by assumption)]; with_reducible conv => whnf) | (refine ifT rfl ?_; with_reducible conv => whnf) | (refine ifF rfl ?_; with_reducible conv => whnf) | (refine it_at (by assumption) ?_; with_reducible conv => whnf)))
      have st := dp_tk hp w1 w2 j
      have sx := dp_one hp w1 w2 hm
      refine ⟨(1 - p) * rsum ((dpQ p kk i).take j), (1 - p) * x, rfl, dsm hin st.1 st.2.1 (le2 st.2.2), dsm hin sx.1 sx.2.1 (le2 sx.2.2), fun S3 s3 => ?_⟩
      ((with_reducible conv => whnf); repeat (first | (rw [natD_len]; with_reducible conv => whnf) | (rw [intD_len]; with_reducible conv => whnf) | (refine Exists.intro _ (And.intro (rfl : _ = some _) ?_); with_reducible conv => whnf) | (refine And.intro (okII _ _) ?_; rw [eqD_ii]; with_reducible conv => whnf) | (refine And.intro (by first | assumption | exact Exists.intro _ (by assumption) | exact ⟨rfl, rfl, by decide, by decide⟩ | exact Nat.le_of_ble_eq_true rfl | exact rfl) ?_; with_reducible conv => whnf) | (rw [isLst_at (by assumption)]; with_reducible conv => whnf) | (refine ifT rfl ?_; with_reducible conv => whnf) | (refine ifF rfl ?_; with_reducible conv => whnf) | (refine it_at (by assumption) ?_; with_reducible conv => whnf)))
      rw [Rat.mul_add]
      exact ⟨_, rfl, s3 _ _ (s2 _ _ e1), s1.trans (s2.trans s3)⟩
    · clear e1 s1 S'
      rintro ρ' S' ⟨o7, rfl, e1, s1⟩
      rw [show (qs (dpQ p kk i)).length = (dpQ p kk i).length from List.length_map .., List.take_length]
      ((with_reducible conv => whnf); repeat (first | (rw [natD_len]; with_reducible conv => whnf) | (rw [intD_len]; with_reducible conv => whnf) | (refine Exists.intro _ (And.intro (rfl : _ = some _) ?_); with_reducible conv => whnf) | (refine And.intro (okII _ _) ?_; rw [eqD_ii]; with_reducible conv => whnf) | (refine And.intro (by first | assumption | exact Exists.intro _ (by assumption) | exact ⟨rfl, rfl, by decide, by decide⟩ | exact Nat.le_of_ble_eq_true rfl | exact rfl) ?_; with_reducible conv => whnf) | (rw [isLst_at (by assumption)]; with_reducible conv => whnf) | (refine ifT rfl ?_; with_reducible conv => whnf) | (refine ifF rfl ?_; with_reducible conv => whnf) | (refine it_at (by assumption) ?_; with_reducible conv => whnf)))
      rw [show (kk : Int) - 1 = ((kk - 1 : Nat) : Int) by omega]
      refine ⟨⟨by omega, by omega⟩, ?_⟩
      (with_reducible conv => whnf)
      have e2 := push_at e1 [.lst [qD ((1 - p) * rsum (dpQ p kk i))]]
      have f2 := at_push S' (.lst [qD ((1 - p) * rsum (dpQ p kk i))])
      have s2 := s1.app [.lst [qD ((1 - p) * rsum (dpQ p kk i))]]
      generalize S' ++ [O.lst [qD ((1 - p) * rsum (dpQ p kk i))]] = S2 at *
      generalize S'.length = q1 at *
      clear e1 s1 S'
      refine Lc_rm (fun j => qD (p * (dpQ p kk i).getD j 0)) (by unfold szL; omega) (by intros; trivial) ?_ ?_
      · intro j S3 R hj h3 hR
        have hjl : j < (dpQ p kk i).length := by omega
        have hx := List.getElem?_eq_getElem hjl
        have hm := List.mem_of_getElem? hx
        have hv : (dpQ p kk i).getD j 0 = (dpQ p kk i)[j] := by rw [List.getD_eq_getElem?_getD, hx]; rfl
        have e3 := h3 _ _ e2
        have sx := w1 _ hm
        ((with_reducible conv => whnf); repeat (first | (rw [natD_len]; with_reducible conv => whnf) | (rw [intD_len]; with_reducible conv => whnf) | (refine Exists.intro _ (And.intro (rfl : _ = some _) ?_); with_reducible conv => whnf) | (refine And.intro (okII _ _) ?_; rw [eqD_ii]; with_reducible conv => whnf) | (refine And.intro (by first | assumption | exact Exists.intro _ (by assumption) | exact ⟨rfl, rfl, by decide, by decide⟩ | exact Nat.le_of_ble_eq_true rfl | exact rfl) ?_; with_reducible conv => whnf) | (rw [isLst_at (by assumption)]; with_reducible conv => whnf) | (refine ifT rfl ?_; with_reducible conv => whnf) | (refine ifF rfl ?_; with_reducible conv => whnf) | (refine it_at (by assumption) ?_; with_reducible conv => whnf)))
        refine ⟨qD ((dpQ p kk i).getD j 0), ?_, ?_⟩
        · refine atZ_nat ?_
          rw [qs, List.getElem?_map, hx, hv]
          rfl
        · ((with_reducible conv => whnf); repeat (first | (rw [natD_len]; with_reducible conv => whnf) | (rw [intD_len]; with_reducible conv => whnf) | (refine Exists.intro _ (And.intro (rfl : _ = some _) ?_); with_reducible conv => whnf) | (refine And.intro (okII _ _) ?_; rw [eqD_ii]; with_reducible conv => whnf) | (refine And.intro (by first | assumption | exact Exists.intro _ (by assumption) | exact ⟨rfl, rfl, by decide, by decide⟩ | exact Nat.le_of_ble_eq_true rfl | exact rfl) ?_; with_reducible conv => whnf) | (rw [isLst_at (by assumption)]; with_reducible conv => whnf) | (refine ifT rfl ?_; with_reducible conv => whnf) | (refine ifF rfl ?_; with_reducible conv => whnf) | (refine it_at (by assumption) ?_; with_reducible conv => whnf)))
          refine ⟨p, (dpQ p kk i).getD j 0, rfl, hp.sm, ?_, fun S4 s4 => ?_⟩
          · rw [hv]
            exact dsm (Nat.le_of_lt hin) sx.2 sx.1 (le2 (dp_le w1 w2 hm))
          · ((with_reducible conv => whnf); repeat (first | (rw [natD_len]; with_reducible conv => whnf) | (rw [intD_len]; with_reducible conv => whnf) | (refine Exists.intro _ (And.intro (rfl : _ = some _) ?_); with_reducible conv => whnf) | (refine And.intro (okII _ _) ?_; rw [eqD_ii]; with_reducible conv => whnf) | (refine And.intro (by first | assumption | exact Exists.intro _ (by assumption) | exact ⟨rfl, rfl, by decide, by decide⟩ | exact Nat.le_of_ble_eq_true rfl | exact rfl) ?_; with_reducible conv => whnf) | (rw [isLst_at (by assumption)]; with_reducible conv => whnf) | (refine ifT rfl ?_; with_reducible conv => whnf) | (refine ifF rfl ?_; with_reducible conv => whnf) | (refine it_at (by assumption) ?_; with_reducible conv => whnf)))
            exact hR _ s4
      · intro S3 h3
        have e3 := push_at (h3 _ _ e2) [.lst ((List.range (kk - 1)).map fun j => qD (p * (dpQ p kk i).getD j 0))]
        have f3 := push_at (h3 _ _ f2) [.lst ((List.range (kk - 1)).map fun j => qD (p * (dpQ p kk i).getD j 0))]
        have g3 := at_push S3 (.lst ((List.range (kk - 1)).map fun j => qD (p * (dpQ p kk i).getD j 0)))
        have s3 := (s2.trans h3).app [.lst ((List.range (kk - 1)).map fun j => qD (p * (dpQ p kk i).getD j 0))]
        generalize S3 ++ [O.lst ((List.range (kk - 1)).map fun j => qD (p * (dpQ p kk i).getD j 0))] = S4 at *
        generalize S3.length = q3 at *
        ((with_reducible conv => whnf); repeat (first | (rw [natD_len]; with_reducible conv => whnf) | (rw [intD_len]; with_reducible conv => whnf) | (refine Exists.intro _ (And.intro (rfl : _ = some _) ?_); with_reducible conv => whnf) | (refine And.intro (okII _ _) ?_; rw [eqD_ii]; with_reducible conv => whnf) | (refine And.intro (by first | assumption | exact Exists.intro _ (by assumption) | exact ⟨rfl, rfl, by decide, by decide⟩ | exact Nat.le_of_ble_eq_true rfl | exact rfl) ?_; with_reducible conv => whnf) | (rw [isLst_at (by assumption)]; with_reducible conv => whnf) | (refine ifT rfl ?_; with_reducible conv => whnf) | (refine ifF rfl ?_; with_reducible conv => whnf) | (refine it_at (by assumption) ?_; with_reducible conv => whnf)))
        refine ⟨by rw [List.length_map, List.length_range, List.length_singleton]; unfold szL; omega, ?_⟩
        have hE : [qD ((1 - p) * rsum (dpQ p kk i))] ++ (List.range (kk - 1)).map (fun j => qD (p * (dpQ p kk i).getD j 0)) = qs (dpQ p kk (i + 1)) := by
          show _ = qD (rsum (dpQ p kk i) * (1 - p)) :: ((dpQ p kk i).dropLast.map fun x => x * p).map qD
          rw [List.singleton_append, Rat.mul_comm, List.map_map]
          congr 1
          apply List.ext_getElem?
          intro j
          rw [List.getElem?_map, List.getElem?_map]
          by_cases hj : j < kk - 1
          · rw [List.getElem?_range hj, List.getElem?_dropLast, if_pos (by omega), List.getElem?_eq_getElem (show j < (dpQ p kk i).length by omega)]
            show some (qD (p * (dpQ p kk i).getD j 0)) = some (qD ((dpQ p kk i)[j] * p))
            rw [List.getD_eq_getElem?_getD, List.getElem?_eq_getElem (show j < (dpQ p kk i).length by omega), Rat.mul_comm]
            rfl
          · rw [List.getElem?_eq_none (by rw [List.length_range]; omega), List.getElem?_eq_none (by rw [List.length_dropLast]; omega)]
            rfl
        rw [hE]
        (with_reducible conv => whnf)
        exact ⟨_, _, _, _, _, rfl, at_push _ _, s3.app _, hin⟩
  · clear c1 s4 s3 S4 S3
    rintro ρ' S' ⟨q, o5, o6, o7, o8, rfl, e1, s1, _⟩
    rw [rangeD_len, show ((n : Int) - 0).toNat = n by omega] at e1
    obtain ⟨w1, w2⟩ := dpQ_ok hp kk n
    ((with_reducible conv => whnf); repeat (first | (rw [natD_len]; with_reducible conv => whnf) | (rw [intD_len]; with_reducible conv => whnf) | (refine Exists.intro _ (And.intro (rfl : _ = some _) ?_); with_reducible conv => whnf) | (refine And.intro (okII _ _) ?_; rw [eqD_ii]; with_reducible conv => whnf) | (refine And.intro (by first | assumption | exact Exists.intro _ (by assumption) | exact ⟨rfl, rfl, by decide, by decide⟩ | exact Nat.le_of_ble_eq_true rfl | exact rfl) ?_; with_reducible conv => whnf) | (rw [isLst_at (by assumption)]; with_reducible conv => whnf) | (refine ifT rfl ?_; with_reducible conv => whnf) | (refine ifF rfl ?_; with_reducible conv => whnf) | (refine it_at (by assumption) ?_; with_reducible conv => whnf)))
    have hz0 : dNOTHING = qD (rsum ((dpQ p kk n).take 0)) := by rw [List.take_zero, dN]; rfl
    refine Loop_mk (fun j ρ S' => ∃ o7, ρ = [some (qD p), some (.int n), some (.int kk), some (.ref q), some (qD (1 - p)), o5, o6, o7, o8, some (qD (rsum ((dpQ p kk n).take j)))] ∧ S'[q]? = some (.lst (qs (dpQ p kk n))) ∧ Sub S S') ⟨o7, by rw [← hz0], e1, s1⟩ (by rintro j ρ' S' ⟨o7, rfl, f1, f2⟩; exact f1) ?_ ?_
    · clear e1 s1 S'
      rintro j d ρ' S' hj ⟨o7, rfl, e1, s1⟩
      rw [qs, List.getElem?_map] at hj
      obtain ⟨x, hx, rfl⟩ := Option.map_eq_some_iff.mp hj
      have hm := List.mem_of_getElem? hx
      obtain ⟨x0, x1⟩ := w1 x hm
      rw [rsum_take hx]
      ((with_reducible conv => whnf); repeat (first | (rw [natD_len]; with_reducible conv => whnf) | (rw [intD_len]; with_reducible conv => whnf) | (refine Exists.intro _ (And.intro (rfl : _ = some _) ?_); with_reducible conv => whnf) | (refine And.intro (okII _ _) ?_; rw [eqD_ii]; with_reducible conv => whnf) | (refine And.intro (by first | assumption | exact Exists.intro _ (by assumption) | exact ⟨rfl, rfl, by decide, by decide⟩ | exact Nat.le_of_ble_eq_true rfl | exact rfl) ?_; with_reducible conv => whnf) | (rw [isLst_at (by assumption)]; with_reducible conv => whnf) | (refine ifT rfl ?_; with_reducible conv => whnf) | (refine ifF rfl ?_; with_reducible conv => whnf) | (refine it_at (by assumption) ?_; with_reducible conv => whnf)))
      have st := dp_tk0 w1 w2 j
      refine ⟨rsum ((dpQ p kk n).take j), x, rfl, dsm (Nat.le_refl _) st.1 st.2.1 (le2 st.2.2), dsm (Nat.le_refl _) x1 x0 (le2 (dp_le w1 w2 hm)), fun S3 s3 => ?_⟩
      ((with_reducible conv => whnf); repeat (first | (rw [natD_len]; with_reducible conv => whnf) | (rw [intD_len]; with_reducible conv => whnf) | (refine Exists.intro _ (And.intro (rfl : _ = some _) ?_); with_reducible conv => whnf) | (refine And.intro (okII _ _) ?_; rw [eqD_ii]; with_reducible conv => whnf) | (refine And.intro (by first | assumption | exact Exists.intro _ (by assumption) | exact ⟨rfl, rfl, by decide, by decide⟩ | exact Nat.le_of_ble_eq_true rfl | exact rfl) ?_; with_reducible conv => whnf) | (rw [isLst_at (by assumption)]; with_reducible conv => whnf) | (refine ifT rfl ?_; with_reducible conv => whnf) | (refine ifF rfl ?_; with_reducible conv => whnf) | (refine it_at (by assumption) ?_; with_reducible conv => whnf)))
      exact ⟨_, rfl, s3 _ _ e1, s1.trans s3⟩
    · clear e1 s1 S'
      rintro ρ' S' ⟨o7, rfl, e1, s1⟩
      rw [show (qs (dpQ p kk n)).length = (dpQ p kk n).length from List.length_map .., List.take_length]
      ((with_reducible conv => whnf); repeat (first | (rw [natD_len]; with_reducible conv => whnf) | (rw [intD_len]; with_reducible conv => whnf) | (refine Exists.intro _ (And.intro (rfl : _ = some _) ?_); with_reducible conv => whnf) | (refine And.intro (okII _ _) ?_; rw [eqD_ii]; with_reducible conv => whnf) | (refine And.intro (by first | assumption | exact Exists.intro _ (by assumption) | exact ⟨rfl, rfl, by decide, by decide⟩ | exact Nat.le_of_ble_eq_true rfl | exact rfl) ?_; with_reducible conv => whnf) | (rw [isLst_at (by assumption)]; with_reducible conv => whnf) | (refine ifT rfl ?_; with_reducible conv => whnf) | (refine ifF rfl ?_; with_reducible conv => whnf) | (refine it_at (by assumption) ?_; with_reducible conv => whnf)))
      exact k _ s1
end K94
set_option linter.all false
set_option maxRecDepth 100000
set_option maxHeartbeats 4000000
namespace K94
open DL
theorem body_law_without : Body 9 3 (w_law_without (sp_s2 (· - ·)) (sp_s2 (· + ·)) (sp_s2 (· * ·))) sp_cwo := by
  rintro ds S Q _ ⟨p, n, kk, rfl, hp, hn, hk1, hk2, hb, k⟩
  unfold w_law_without
  (simp only [start, List.map_cons, List.map_nil, List.length_cons, List.length_nil, Nat.reduceAdd, Nat.reduceSub, List.replicate_succ, List.replicate_zero, List.cons_append, List.nil_append, Nat.sub_self, Nat.zero_add])
  ((with_reducible conv => whnf); repeat (first | (rw [natD_len]; with_reducible conv => whnf) | (rw [intD_len]; with_reducible conv => whnf) | (refine Exists.intro _ (And.intro (rfl : _ = some _) ?_); with_reducible conv => whnf) | (refine And.intro (okII _ _) ?_; rw [eqD_ii]; with_reducible conv => whnf) | (refine And.intro (by first | assumption | exact Exists.intro _ (by assumption) | exact ⟨rfl, rfl, by decide, by decide⟩ | exact Nat.le_of_ble_eq_true rfl | exact rfl) ?_; with_reducible conv => whnf) | (rw [isLst_at (by assumption)]; with_reducible conv => whnf) | (refine ifT rfl ?_; with_reducible conv => whnf) | (refine ifF rfl ?_; with_reducible conv => whnf) | (refine it_at (by assumption) ?_; with_reducible conv => whnf)))
  refine ⟨1, p, rfl, sm1, hp.sm, fun S0 s0 => ?_⟩
  ((with_reducible conv => whnf); repeat (first | (rw [natD_len]; with_reducible conv => whnf) | (rw [intD_len]; with_reducible conv => whnf) | (refine Exists.intro _ (And.intro (rfl : _ = some _) ?_); with_reducible conv => whnf) | (refine And.intro (okII _ _) ?_; rw [eqD_ii]; with_reducible conv => whnf) | (refine And.intro (by first | assumption | exact Exists.intro _ (by assumption) | exact ⟨rfl, rfl, by decide, by decide⟩ | exact Nat.le_of_ble_eq_true rfl | exact rfl) ?_; with_reducible conv => whnf) | (rw [isLst_at (by assumption)]; with_reducible conv => whnf) | (refine ifT rfl ?_; with_reducible conv => whnf) | (refine ifF rfl ?_; with_reducible conv => whnf) | (refine it_at (by assumption) ?_; with_reducible conv => whnf)))
  have a1 := push_at (at_push S0 (.lst [dONE])) [.lst [dNOTHING]]
  have a2 := at_push (S0 ++ [.lst [dONE]]) (.lst [dNOTHING])
  have s1 := (s0.app [.lst [dONE]]).app [.lst [dNOTHING]]
  rw [show D.tup [.int 1, .int 1] = dONE from rfl, show D.tup [.int 0, .int 1] = dNOTHING from rfl]
  generalize S0 ++ [O.lst [dONE]] ++ [O.lst [dNOTHING]] = S1 at *
  generalize (S0 ++ [O.lst [dONE]]).length = p2 at *
  generalize S0.length = p1 at *
  ((with_reducible conv => whnf); repeat (first | (rw [natD_len]; with_reducible conv => whnf) | (rw [intD_len]; with_reducible conv => whnf) | (refine Exists.intro _ (And.intro (rfl : _ = some _) ?_); with_reducible conv => whnf) | (refine And.intro (okII _ _) ?_; rw [eqD_ii]; with_reducible conv => whnf) | (refine And.intro (by first | assumption | exact Exists.intro _ (by assumption) | exact ⟨rfl, rfl, by decide, by decide⟩ | exact Nat.le_of_ble_eq_true rfl | exact rfl) ?_; with_reducible conv => whnf) | (rw [isLst_at (by assumption)]; with_reducible conv => whnf) | (refine ifT rfl ?_; with_reducible conv => whnf) | (refine ifF rfl ?_; with_reducible conv => whnf) | (refine it_at (by assumption) ?_; with_reducible conv => whnf)))
  refine ⟨⟨by omega, by omega⟩, by rw [List.length_singleton]; unfold szL; omega, ?_⟩
  (with_reducible conv => whnf)
  rw [show ((kk : Int) - 1).toNat = kk - 1 by omega, show (List.replicate (kk - 1) [dNOTHING]).flatten = qs (List.replicate (kk - 1) 0) from qs_rep _]
  have b1 := push_at a1 [.lst (qs (List.replicate (kk - 1) 0))]
  have b2 := at_push S1 (.lst (qs (List.replicate (kk - 1) 0)))
  have s2 := s1.app [.lst (qs (List.replicate (kk - 1) 0))]
  generalize S1 ++ [O.lst (qs (List.replicate (kk - 1) 0))] = S2 at *
  generalize S1.length = p3 at *
  clear a1 a2 s1 S1
  ((with_reducible conv => whnf); repeat (first | (rw [natD_len]; with_reducible conv => whnf) | (rw [intD_len]; with_reducible conv => whnf) | (refine Exists.intro _ (And.intro (rfl : _ = some _) ?_); with_reducible conv => whnf) | (refine And.intro (okII _ _) ?_; rw [eqD_ii]; with_reducible conv => whnf) | (refine And.intro (by first | assumption | exact Exists.intro _ (by assumption) | exact ⟨rfl, rfl, by decide, by decide⟩ | exact Nat.le_of_ble_eq_true rfl | exact rfl) ?_; with_reducible conv => whnf) | (rw [isLst_at (by assumption)]; with_reducible conv => whnf) | (refine ifT rfl ?_; with_reducible conv => whnf) | (refine ifF rfl ?_; with_reducible conv => whnf) | (refine it_at (by assumption) ?_; with_reducible conv => whnf)))
  refine ⟨by rw [List.length_singleton, qs, List.length_map, List.length_replicate]; unfold szL; omega, ?_⟩
  have c1 := at_push S2 (.lst ([dONE] ++ qs (List.replicate (kk - 1) 0)))
  have s3 := s2.app [.lst ([dONE] ++ qs (List.replicate (kk - 1) 0))]
  rw [show [dONE] ++ qs (List.replicate (kk - 1) 0) = qs (dpQ p kk 0) from rfl] at c1 s3 ⊢
  generalize S2 ++ [O.lst (qs (dpQ p kk 0))] = S3 at *
  generalize S2.length = q0 at *
  clear b1 b2 s2 S2
  ((with_reducible conv => whnf); repeat (first | (rw [natD_len]; with_reducible conv => whnf) | (rw [intD_len]; with_reducible conv => whnf) | (refine Exists.intro _ (And.intro (rfl : _ = some _) ?_); with_reducible conv => whnf) | (refine And.intro (okII _ _) ?_; rw [eqD_ii]; with_reducible conv => whnf) | (refine And.intro (by first | assumption | exact Exists.intro _ (by assumption) | exact ⟨rfl, rfl, by decide, by decide⟩ | exact Nat.le_of_ble_eq_true rfl | exact rfl) ?_; with_reducible conv => whnf) | (rw [isLst_at (by assumption)]; with_reducible conv => whnf) | (refine ifT rfl ?_; with_reducible conv => whnf) | (refine ifF rfl ?_; with_reducible conv => whnf) | (refine it_at (by assumption) ?_; with_reducible conv => whnf)))
  refine ⟨⟨by omega, by omega⟩, ?_⟩
  have dsm := fun {x : Rat} {m : Nat} (hm : m ≤ n) => dp_sm (p := p) (N := n) hb (x := x) (n := m) hm
  refine Loop_mk (fun i ρ S' => ∃ q o5 o6 o7, ρ = [some (qD p), some (.int n), some (.int kk), some (qD (1 - p)), some (.ref q), o5, o6, o7, none] ∧ S'[q]? = some (.lst (qs (dpQ p kk i))) ∧ Sub S S' ∧ i ≤ n) ⟨_, none, none, none, rfl, c1, s3, Nat.zero_le _⟩ (by intros; trivial) ?_ ?_
  · clear c1 s3 S3
    rintro i d ρ' S' hi ⟨q, o5, o6, o7, rfl, e1, s1, _⟩
    obtain ⟨hi1, rfl⟩ := rangeD_get hi
    have hin : i < n := by omega
    obtain ⟨w1, w2⟩ := dpQ_ok hp kk i
    have hln := dpQ_len (p := p) hk1 i
    ((with_reducible conv => whnf); repeat (first | (rw [natD_len]; with_reducible conv => whnf) | (rw [intD_len]; with_reducible conv => whnf) | (refine Exists.intro _ (And.intro (rfl : _ = some _) ?_); with_reducible conv => whnf) | (refine And.intro (okII _ _) ?_; rw [eqD_ii]; with_reducible conv => whnf) | (refine And.intro (by first | assumption | exact Exists.intro _ (by assumption) | exact ⟨rfl, rfl, by decide, by decide⟩ | exact Nat.le_of_ble_eq_true rfl | exact rfl) ?_; with_reducible conv => whnf) | (rw [isLst_at (by assumption)]; with_reducible conv => whnf) | (refine ifT rfl ?_; with_reducible conv => whnf) | (refine ifF rfl ?_; with_reducible conv => whnf) | (refine it_at (by assumption) ?_; with_reducible conv => whnf)))
    have hz0 : D.tup [.int 0, .int 1] = qD (rsum ((dpQ p kk i).take 0)) := by rw [List.take_zero]; rfl
    refine Loop_mk (fun j ρ S' => ∃ o7, ρ = [some (qD p), some (.int n), some (.int kk), some (qD (1 - p)), some (.ref q), some (.int (0 + (i : Int))), some (qD (rsum ((dpQ p kk i).take j))), o7, none] ∧ S'[q]? = some (.lst (qs (dpQ p kk i))) ∧ Sub S S') ⟨o7, by rw [← hz0], e1, s1⟩ (by rintro j ρ' S' ⟨o7, rfl, f1, f2⟩; exact f1) ?_ ?_
    · clear e1 s1 S'
      rintro j d ρ' S' hj ⟨o7, rfl, e1, s1⟩
      rw [qs, List.getElem?_map] at hj
      obtain ⟨x, hx, rfl⟩ := Option.map_eq_some_iff.mp hj
      have hm := List.mem_of_getElem? hx
      obtain ⟨x0, x1⟩ := w1 x hm
      rw [rsum_take hx]
      ((with_reducible conv => whnf); repeat (first | (rw [natD_len]; with_reducible conv => whnf) | (rw [intD_len]; with_reducible conv => whnf) | (refine Exists.intro _ (And.intro (rfl : _ = some _) ?_); with_reducible conv => whnf) | (refine And.intro (okII _ _) ?_; rw [eqD_ii]; with_reducible conv => whnf) | (refine And.intro (by first | assumption | exact Exists.intro _ (by assumption) | exact ⟨rfl, rfl, by decide, by decide⟩ | exact Nat.le_of_ble_eq_true rfl | exact rfl) ?_; with_reducible conv => whnf) | (rw [isLst_at (by assumption)]; with_reducible conv => whnf) | (refine ifT rfl ?_; with_reducible conv => whnf) | (refine ifF rfl ?_; with_reducible conv => whnf) | (refine it_at (by assumption) ?_; with_reducible conv => whnf)))
      have st := dp_tk0 w1 w2 j
      refine ⟨rsum ((dpQ p kk i).take j), x, rfl, dsm (Nat.le_of_lt hin) st.1 st.2.1 (le2 st.2.2), dsm (Nat.le_of_lt hin) x1 x0 (le2 (dp_le w1 w2 hm)), fun S3 s3 => ?_⟩
      ((with_reducible conv => whnf); repeat (first | (rw [natD_len]; with_reducible conv => whnf) | (rw [intD_len]; with_reducible conv => whnf) | (refine Exists.intro _ (And.intro (rfl : _ = some _) ?_); with_reducible conv => whnf) | (refine And.intro (okII _ _) ?_; rw [eqD_ii]; with_reducible conv => whnf) | (refine And.intro (by first | assumption | exact Exists.intro _ (by assumption) | exact ⟨rfl, rfl, by decide, by decide⟩ | exact Nat.le_of_ble_eq_true rfl | exact rfl) ?_; with_reducible conv => whnf) | (rw [isLst_at (by assumption)]; with_reducible conv => whnf) | (refine ifT rfl ?_; with_reducible conv => whnf) | (refine ifF rfl ?_; with_reducible conv => whnf) | (refine it_at (by assumption) ?_; with_reducible conv => whnf)))
      exact ⟨_, rfl, s3 _ _ e1, s1.trans s3⟩
    · clear e1 s1 S'
      rintro ρ' S' ⟨o7, rfl, e1, s1⟩
      rw [show (qs (dpQ p kk i)).length = (dpQ p kk i).length from List.length_map .., List.take_length]
      ((with_reducible conv => whnf); repeat (first | (rw [natD_len]; with_reducible conv => whnf) | (rw [intD_len]; with_reducible conv => whnf) | (refine Exists.intro _ (And.intro (rfl : _ = some _) ?_); with_reducible conv => whnf) | (refine And.intro (okII _ _) ?_; rw [eqD_ii]; with_reducible conv => whnf) | (refine And.intro (by first | assumption | exact Exists.intro _ (by assumption) | exact ⟨rfl, rfl, by decide, by decide⟩ | exact Nat.le_of_ble_eq_true rfl | exact rfl) ?_; with_reducible conv => whnf) | (rw [isLst_at (by assumption)]; with_reducible conv => whnf) | (refine ifT rfl ?_; with_reducible conv => whnf) | (refine ifF rfl ?_; with_reducible conv => whnf) | (refine it_at (by assumption) ?_; with_reducible conv => whnf)))
      have st := dp_tk0 w1 w2 (dpQ p kk i).length
      rw [List.take_length] at st
      refine ⟨rsum (dpQ p kk i), 1 - p, rfl, dsm (Nat.le_of_lt hin) st.1 st.2.1 (le2 st.2.2), hp.sub.1, fun S5 s5 => ?_⟩
      replace e1 := s5 _ _ e1
      replace s1 := s1.trans s5
      clear s5
      ((with_reducible conv => whnf); repeat (first | (rw [natD_len]; with_reducible conv => whnf) | (rw [intD_len]; with_reducible conv => whnf) | (refine Exists.intro _ (And.intro (rfl : _ = some _) ?_); with_reducible conv => whnf) | (refine And.intro (okII _ _) ?_; rw [eqD_ii]; with_reducible conv => whnf) | (refine And.intro (by first | assumption | exact Exists.intro _ (by assumption) | exact ⟨rfl, rfl, by decide, by decide⟩ | exact Nat.le_of_ble_eq_true rfl | exact rfl) ?_; with_reducible conv => whnf) | (rw [isLst_at (by assumption)]; with_reducible conv => whnf) | (refine ifT rfl ?_; with_reducible conv => whnf) | (refine ifF rfl ?_; with_reducible conv => whnf) | (refine it_at (by assumption) ?_; with_reducible conv => whnf)))
      have e2 := push_at e1 [.lst [qD (rsum (dpQ p kk i) * (1 - p))]]
      have f2 := at_push S5 (.lst [qD (rsum (dpQ p kk i) * (1 - p))])
      have s2 := s1.app [.lst [qD (rsum (dpQ p kk i) * (1 - p))]]
      generalize S5 ++ [O.lst [qD (rsum (dpQ p kk i) * (1 - p))]] = S2 at *
      generalize S5.length = q1 at *
      clear e1 s1 S5
      rw [isLst_at e2]
      (with_reducible conv => whnf)
      have hcut : cut (qs (dpQ p kk i)) none (some (-1)) = qs (dpQ p kk i).dropLast := by
        unfold cut sIx
        rw [show (qs (dpQ p kk i)).length = kk by rw [qs, List.length_map, hln]]
        rw [qs, qs, List.map_dropLast, List.dropLast_eq_take, List.length_map, hln]
        simp
        congr 1
        omega
      rw [hcut]
      have e3 := push_at f2 [.lst (qs (dpQ p kk i).dropLast)]
      have f3 := at_push S2 (.lst (qs (dpQ p kk i).dropLast))
      have s3 := s2.app [.lst (qs (dpQ p kk i).dropLast)]
      generalize S2 ++ [O.lst (qs (dpQ p kk i).dropLast)] = S3 at *
      generalize S2.length = q2 at *
      rw [f3]
      (with_reducible conv => whnf)
      refine Lc_lm (xs := (dpQ p kk i).dropLast) (e := qD) (fun x => qD (x * p)) (by rw [List.length_dropLast]; unfold szL; omega) ?_ ?_ ?_
      · intro S' h
        exact h _ _ f3
      · intro x S4 R hx h4 hR
        have hm := List.dropLast_subset _ hx
        have sx := w1 _ hm
        ((with_reducible conv => whnf); repeat (first | (rw [natD_len]; with_reducible conv => whnf) | (rw [intD_len]; with_reducible conv => whnf) | (refine Exists.intro _ (And.intro (rfl : _ = some _) ?_); with_reducible conv => whnf) | (refine And.intro (okII _ _) ?_; rw [eqD_ii]; with_reducible conv => whnf) | (refine And.intro (by first | assumption | exact Exists.intro _ (by assumption) | exact ⟨rfl, rfl, by decide, by decide⟩ | exact Nat.le_of_ble_eq_true rfl | exact rfl) ?_; with_reducible conv => whnf) | (rw [isLst_at (by assumption)]; with_reducible conv => whnf) | (refine ifT rfl ?_; with_reducible conv => whnf) | (refine ifF rfl ?_; with_reducible conv => whnf) | (refine it_at (by assumption) ?_; with_reducible conv => whnf)))
        refine ⟨x, p, rfl, dsm (Nat.le_of_lt hin) sx.2 sx.1 (le2 (dp_le w1 w2 hm)), hp.sm, fun S4 s4 => ?_⟩
        ((with_reducible conv => whnf); repeat (first | (rw [natD_len]; with_reducible conv => whnf) | (rw [intD_len]; with_reducible conv => whnf) | (refine Exists.intro _ (And.intro (rfl : _ = some _) ?_); with_reducible conv => whnf) | (refine And.intro (okII _ _) ?_; rw [eqD_ii]; with_reducible conv => whnf) | (refine And.intro (by first | assumption | exact Exists.intro _ (by assumption) | exact ⟨rfl, rfl, by decide, by decide⟩ | exact Nat.le_of_ble_eq_true rfl | exact rfl) ?_; with_reducible conv => whnf) | (rw [isLst_at (by assumption)]; with_reducible conv => whnf) | (refine ifT rfl ?_; with_reducible conv => whnf) | (refine ifF rfl ?_; with_reducible conv => whnf) | (refine it_at (by assumption) ?_; with_reducible conv => whnf)))
        exact hR _ s4
      · intro S4 h4
        have e4 := push_at (h4 _ _ e3) [.lst ((dpQ p kk i).dropLast.map fun x => qD (x * p))]
        have g4 := at_push S4 (.lst ((dpQ p kk i).dropLast.map fun x => qD (x * p)))
        have s4 := (s3.trans h4).app [.lst ((dpQ p kk i).dropLast.map fun x => qD (x * p))]
        generalize S4 ++ [O.lst ((dpQ p kk i).dropLast.map fun x => qD (x * p))] = S6 at *
        generalize S4.length = q3 at *
        ((with_reducible conv => whnf); repeat (first | (rw [natD_len]; with_reducible conv => whnf) | (rw [intD_len]; with_reducible conv => whnf) | (refine Exists.intro _ (And.intro (rfl : _ = some _) ?_); with_reducible conv => whnf) | (refine And.intro (okII _ _) ?_; rw [eqD_ii]; with_reducible conv => whnf) | (refine And.intro (by first | assumption | exact Exists.intro _ (by assumption) | exact ⟨rfl, rfl, by decide, by decide⟩ | exact Nat.le_of_ble_eq_true rfl | exact rfl) ?_; with_reducible conv => whnf) | (rw [isLst_at (by assumption)]; with_reducible conv => whnf) | (refine ifT rfl ?_; with_reducible conv => whnf) | (refine ifF rfl ?_; with_reducible conv => whnf) | (refine it_at (by assumption) ?_; with_reducible conv => whnf)))
        refine ⟨by rw [List.length_map, List.length_dropLast, List.length_singleton]; unfold szL; omega, ?_⟩
        rw [show [qD (rsum (dpQ p kk i) * (1 - p))] ++ (dpQ p kk i).dropLast.map (fun x => qD (x * p)) = qs (dpQ p kk (i + 1)) by
          show _ = qD (rsum (dpQ p kk i) * (1 - p)) :: ((dpQ p kk i).dropLast.map fun x => x * p).map qD
          rw [List.singleton_append, List.map_map]; rfl]
        (with_reducible conv => whnf)
        exact ⟨_, _, _, _, rfl, at_push _ _, s4.app _, hin⟩
  · clear c1 s3 S3
    rintro ρ' S' ⟨q, o5, o6, o7, rfl, e1, s1, _⟩
    rw [rangeD_len, show ((n : Int) - 0).toNat = n by omega] at e1
    obtain ⟨w1, w2⟩ := dpQ_ok hp kk n
    ((with_reducible conv => whnf); repeat (first | (rw [natD_len]; with_reducible conv => whnf) | (rw [intD_len]; with_reducible conv => whnf) | (refine Exists.intro _ (And.intro (rfl : _ = some _) ?_); with_reducible conv => whnf) | (refine And.intro (okII _ _) ?_; rw [eqD_ii]; with_reducible conv => whnf) | (refine And.intro (by first | assumption | exact Exists.intro _ (by assumption) | exact ⟨rfl, rfl, by decide, by decide⟩ | exact Nat.le_of_ble_eq_true rfl | exact rfl) ?_; with_reducible conv => whnf) | (rw [isLst_at (by assumption)]; with_reducible conv => whnf) | (refine ifT rfl ?_; with_reducible conv => whnf) | (refine ifF rfl ?_; with_reducible conv => whnf) | (refine it_at (by assumption) ?_; with_reducible conv => whnf)))
    have hz0 : D.tup [.int 0, .int 1] = qD (rsum ((dpQ p kk n).take 0)) := by rw [List.take_zero]; rfl
    refine Loop_mk (fun j ρ S' => ∃ o7, ρ = [some (qD p), some (.int n), some (.int kk), some (qD (1 - p)), some (.ref q), o5, o6, o7, some (qD (rsum ((dpQ p kk n).take j)))] ∧ S'[q]? = some (.lst (qs (dpQ p kk n))) ∧ Sub S S') ⟨o7, by rw [← hz0], e1, s1⟩ (by rintro j ρ' S' ⟨o7, rfl, f1, f2⟩; exact f1) ?_ ?_
    · clear e1 s1 S'
      rintro j d ρ' S' hj ⟨o7, rfl, e1, s1⟩
      rw [qs, List.getElem?_map] at hj
      obtain ⟨x, hx, rfl⟩ := Option.map_eq_some_iff.mp hj
      have hm := List.mem_of_getElem? hx
      obtain ⟨x0, x1⟩ := w1 x hm
      rw [rsum_take hx]
      ((with_reducible conv => whnf); repeat (first | (rw [natD_len]; with_reducible conv => whnf) | (rw [intD_len]; with_reducible conv => whnf) | (refine Exists.intro _ (And.intro (rfl : _ = some _) ?_); with_reducible conv => whnf) | (refine And.intro (okII _ _) ?_; rw [eqD_ii]; with_reducible conv => whnf) | (refine And.intro (by first | assumption | exact Exists.intro _ (by assumption) | exact ⟨rfl, rfl, by decide, by decide⟩ | exact Nat.le_of_ble_eq_true rfl | exact rfl) ?_; with_reducible conv => whnf) | (rw [isLst_at (by assumption)]; with_reducible conv => whnf) | (refine ifT rfl ?_; with_reducible conv => whnf) | (refine ifF rfl ?_; with_reducible conv => whnf) | (refine it_at (by assumption) ?_; with_reducible conv => whnf)))
      have st := dp_tk0 w1 w2 j
      refine ⟨rsum ((dpQ p kk n).take j), x, rfl, dsm (Nat.le_refl _) st.1 st.2.1 (le2 st.2.2), dsm (Nat.le_refl _) x1 x0 (le2 (dp_le w1 w2 hm)), fun S3 s3 => ?_⟩
      ((with_reducible conv => whnf); repeat (first | (rw [natD_len]; with_reducible conv => whnf) | (rw [intD_len]; with_reducible conv => whnf) | (refine Exists.intro _ (And.intro (rfl : _ = some _) ?_); with_reducible conv => whnf) | (refine And.intro (okII _ _) ?_; rw [eqD_ii]; with_reducible conv => whnf) | (refine And.intro (by first | assumption | exact Exists.intro _ (by assumption) | exact ⟨rfl, rfl, by decide, by decide⟩ | exact Nat.le_of_ble_eq_true rfl | exact rfl) ?_; with_reducible conv => whnf) | (rw [isLst_at (by assumption)]; with_reducible conv => whnf) | (refine ifT rfl ?_; with_reducible conv => whnf) | (refine ifF rfl ?_; with_reducible conv => whnf) | (refine it_at (by assumption) ?_; with_reducible conv => whnf)))
      exact ⟨_, rfl, s3 _ _ e1, s1.trans s3⟩
    · clear e1 s1 S'
      rintro ρ' S' ⟨o7, rfl, e1, s1⟩
      rw [show (qs (dpQ p kk n)).length = (dpQ p kk n).length from List.length_map .., List.take_length]
      ((with_reducible conv => whnf); repeat (first | (rw [natD_len]; with_reducible conv => whnf) | (rw [intD_len]; with_reducible conv => whnf) | (refine Exists.intro _ (And.intro (rfl : _ = some _) ?_); with_reducible conv => whnf) | (refine And.intro (okII _ _) ?_; rw [eqD_ii]; with_reducible conv => whnf) | (refine And.intro (by first | assumption | exact Exists.intro _ (by assumption) | exact ⟨rfl, rfl, by decide, by decide⟩ | exact Nat.le_of_ble_eq_true rfl | exact rfl) ?_; with_reducible conv => whnf) | (rw [isLst_at (by assumption)]; with_reducible conv => whnf) | (refine ifT rfl ?_; with_reducible conv => whnf) | (refine ifF rfl ?_; with_reducible conv => whnf) | (refine it_at (by assumption) ?_; with_reducible conv => whnf)))
      exact k _ s1
/-- p or what is left, a number of times -/
@[reducible] def sp_pow : Spc := fun ds S Q => ∃ (p : Rat) (n : Nat), ds = [qD p, .int n] ∧ n ≤ 420 ∧ (∀ i, i ≤ n → smS (p ^ i)) ∧ ∀ S', Sub S S' → Q (qD (p ^ n)) S'
theorem body_law_power : Body 4 2 (w_law_power (sp_s2 (· * ·))) sp_pow := by
  rintro ds S Q _ ⟨p, n, rfl, hn, hsm, k⟩
  unfold w_law_power
  (simp only [start, List.map_cons, List.map_nil, List.length_cons, List.length_nil, Nat.reduceAdd, Nat.reduceSub, List.replicate_succ, List.replicate_zero, List.cons_append, List.nil_append, Nat.sub_self, Nat.zero_add])
  ((with_reducible conv => whnf); repeat (first | (rw [natD_len]; with_reducible conv => whnf) | (rw [intD_len]; with_reducible conv => whnf) | (refine Exists.intro _ (And.intro (rfl : _ = some _) ?_); with_reducible conv => whnf) | (refine And.intro (okII _ _) ?_; rw [eqD_ii]; with_reducible conv => whnf) | (refine And.intro (by first | assumption | exact Exists.intro _ (by assumption) | exact ⟨rfl, rfl, by decide, by decide⟩ | exact Nat.le_of_ble_eq_true rfl | exact rfl) ?_; with_reducible conv => whnf) | (rw [isLst_at (by assumption)]; with_reducible conv => whnf) | (refine ifT rfl ?_; with_reducible conv => whnf) | (refine ifF rfl ?_; with_reducible conv => whnf) | (refine it_at (by assumption) ?_; with_reducible conv => whnf)))
  refine ⟨⟨by omega, by omega⟩, ?_⟩
  refine Loop_mk (fun i ρ S' => ∃ o3, ρ = [some (qD p), some (.int n), some (qD (p ^ i)), o3] ∧ Sub S S') ⟨none, by rw [Rat.pow_zero]; rfl, Sub.refl _⟩ (by intros; trivial) ?_ ?_
  · rintro i d ρ' S' hi ⟨o3, rfl, s1⟩
    obtain ⟨hi1, rfl⟩ := rangeD_get hi
    rw [Rat.pow_succ]
    ((with_reducible conv => whnf); repeat (first | (rw [natD_len]; with_reducible conv => whnf) | (rw [intD_len]; with_reducible conv => whnf) | (refine Exists.intro _ (And.intro (rfl : _ = some _) ?_); with_reducible conv => whnf) | (refine And.intro (okII _ _) ?_; rw [eqD_ii]; with_reducible conv => whnf) | (refine And.intro (by first | assumption | exact Exists.intro _ (by assumption) | exact ⟨rfl, rfl, by decide, by decide⟩ | exact Nat.le_of_ble_eq_true rfl | exact rfl) ?_; with_reducible conv => whnf) | (rw [isLst_at (by assumption)]; with_reducible conv => whnf) | (refine ifT rfl ?_; with_reducible conv => whnf) | (refine ifF rfl ?_; with_reducible conv => whnf) | (refine it_at (by assumption) ?_; with_reducible conv => whnf)))
    refine ⟨p ^ i, p, rfl, hsm i (by omega), by have := hsm 1 (by omega); rwa [Rat.pow_succ, Rat.pow_zero, Rat.one_mul] at this, fun S2 s2 => ?_⟩
    ((with_reducible conv => whnf); repeat (first | (rw [natD_len]; with_reducible conv => whnf) | (rw [intD_len]; with_reducible conv => whnf) | (refine Exists.intro _ (And.intro (rfl : _ = some _) ?_); with_reducible conv => whnf) | (refine And.intro (okII _ _) ?_; rw [eqD_ii]; with_reducible conv => whnf) | (refine And.intro (by first | assumption | exact Exists.intro _ (by assumption) | exact ⟨rfl, rfl, by decide, by decide⟩ | exact Nat.le_of_ble_eq_true rfl | exact rfl) ?_; with_reducible conv => whnf) | (rw [isLst_at (by assumption)]; with_reducible conv => whnf) | (refine ifT rfl ?_; with_reducible conv => whnf) | (refine ifF rfl ?_; with_reducible conv => whnf) | (refine it_at (by assumption) ?_; with_reducible conv => whnf)))
    exact ⟨_, rfl, s1.trans s2⟩
  · rintro ρ' S' ⟨o3, rfl, s1⟩
    rw [rangeD_len, show ((n : Int) - 0).toNat = n by omega]
    ((with_reducible conv => whnf); repeat (first | (rw [natD_len]; with_reducible conv => whnf) | (rw [intD_len]; with_reducible conv => whnf) | (refine Exists.intro _ (And.intro (rfl : _ = some _) ?_); with_reducible conv => whnf) | (refine And.intro (okII _ _) ?_; rw [eqD_ii]; with_reducible conv => whnf) | (refine And.intro (by first | assumption | exact Exists.intro _ (by assumption) | exact ⟨rfl, rfl, by decide, by decide⟩ | exact Nat.le_of_ble_eq_true rfl | exact rfl) ?_; with_reducible conv => whnf) | (rw [isLst_at (by assumption)]; with_reducible conv => whnf) | (refine ifT rfl ?_; with_reducible conv => whnf) | (refine ifF rfl ?_; with_reducible conv => whnf) | (refine it_at (by assumption) ?_; with_reducible conv => whnf)))
    exact k _ s1
end K94
set_option linter.all false
set_option maxRecDepth 100000
set_option maxHeartbeats 4000000
namespace K94
open DL
theorem half : D.tup [.int 1, .int 2] = qD (Rat.divInt 1 2) := by
  have h : (Rat.divInt 1 2).num = 1 ∧ (Rat.divInt 1 2).den = 2 := by decide +kernel
  unfold qD
  rw [h.1, h.2]
  rfl
@[reducible] def sp_chance : Spc := fun ds S Q => ∃ n, ds = [.ref n] ∧ Dr n S ∧ ∀ p S', Chn p → Dr n S' → Ch n S S' → Q (qD p) S'
theorem chn_div {a d : Int} (ha : 0 ≤ a) (hd : 0 < d) (had : a ≤ d) (h31 : d ≤ 31) : Chn (Rat.divInt a d) := by
  have e := divInt_eq a d
  have d0 : (0 : Rat) < (d : Rat) := by exact_mod_cast hd
  have dn : (d : Rat) ≠ 0 := fun h => by rw [h] at d0; exact absurd d0 (by decide)
  have a0 : (0 : Rat) ≤ (a : Rat) := by exact_mod_cast ha
  have ad : (a : Rat) ≤ (d : Rat) := by exact_mod_cast had
  have hm : Rat.divInt a d * (d : Rat) = (a : Rat) := by rw [e]; exact Rat.div_mul_cancel dn
  have hi : (0 : Rat) ≤ (d : Rat)⁻¹ := Rat.le_of_lt (Rat.inv_pos.mpr d0)
  have hq : Rat.divInt a d = (a : Rat) * (d : Rat)⁻¹ := by rw [e, Rat.div_def]
  have hdd : (d : Rat) * (d : Rat)⁻¹ = 1 := Rat.mul_inv_cancel _ dn
  refine ⟨by rw [hq]; exact Rat.mul_nonneg a0 hi, ?_, ?_⟩
  · rw [hq, ← hdd]
    exact Rat.mul_le_mul_of_nonneg_right ad hi
  · have hz : (Rat.divInt a d).den ∣ d.toNat := by
      refine Ov_iff.mpr ⟨a, ?_⟩
      rw [← hm]
      congr 1
      have : ((d.toNat : Nat) : Int) = d := by omega
      rw [← this]; rfl
    have := Nat.le_of_dvd (by omega) hz
    omega
theorem body_law_chance : Body 3 1 (w_law_chance sp_take sp_frac) sp_chance := by
  rintro ds S Q _ ⟨n, rfl, hd, k⟩
  unfold w_law_chance
  (simp only [start, List.map_cons, List.map_nil, List.length_cons, List.length_nil, Nat.reduceAdd, Nat.reduceSub, List.replicate_succ, List.replicate_zero, List.cons_append, List.nil_append, Nat.sub_self, Nat.zero_add])
  ((with_reducible conv => whnf); repeat (first | (rw [natD_len]; with_reducible conv => whnf) | (rw [intD_len]; with_reducible conv => whnf) | (refine Exists.intro _ (And.intro (rfl : _ = some _) ?_); with_reducible conv => whnf) | (refine And.intro (okII _ _) ?_; rw [eqD_ii]; with_reducible conv => whnf) | (refine And.intro (by first | assumption | exact Exists.intro _ (by assumption) | exact ⟨rfl, rfl, by decide, by decide⟩ | exact Nat.le_of_ble_eq_true rfl | exact rfl) ?_; with_reducible conv => whnf) | (rw [isLst_at (by assumption)]; with_reducible conv => whnf) | (refine ifT rfl ?_; with_reducible conv => whnf) | (refine ifF rfl ?_; with_reducible conv => whnf) | (refine it_at (by assumption) ?_; with_reducible conv => whnf)))
  refine ⟨n, 5, rfl, by decide, hd, fun st S1 h0 h1 d1 c1 => ?_⟩
  ((with_reducible conv => whnf); repeat (first | (rw [natD_len]; with_reducible conv => whnf) | (rw [intD_len]; with_reducible conv => whnf) | (refine Exists.intro _ (And.intro (rfl : _ = some _) ?_); with_reducible conv => whnf) | (refine And.intro (okII _ _) ?_; rw [eqD_ii]; with_reducible conv => whnf) | (refine And.intro (by first | assumption | exact Exists.intro _ (by assumption) | exact ⟨rfl, rfl, by decide, by decide⟩ | exact Nat.le_of_ble_eq_true rfl | exact rfl) ?_; with_reducible conv => whnf) | (rw [isLst_at (by assumption)]; with_reducible conv => whnf) | (refine ifT rfl ?_; with_reducible conv => whnf) | (refine ifF rfl ?_; with_reducible conv => whnf) | (refine it_at (by assumption) ?_; with_reducible conv => whnf)))
  refine ite_d (fun hc => ?_) fun hc => ?_
  · ((with_reducible conv => whnf); repeat (first | (rw [natD_len]; with_reducible conv => whnf) | (rw [intD_len]; with_reducible conv => whnf) | (refine Exists.intro _ (And.intro (rfl : _ = some _) ?_); with_reducible conv => whnf) | (refine And.intro (okII _ _) ?_; rw [eqD_ii]; with_reducible conv => whnf) | (refine And.intro (by first | assumption | exact Exists.intro _ (by assumption) | exact ⟨rfl, rfl, by decide, by decide⟩ | exact Nat.le_of_ble_eq_true rfl | exact rfl) ?_; with_reducible conv => whnf) | (rw [isLst_at (by assumption)]; with_reducible conv => whnf) | (refine ifT rfl ?_; with_reducible conv => whnf) | (refine ifF rfl ?_; with_reducible conv => whnf) | (refine it_at (by assumption) ?_; with_reducible conv => whnf)))
    rw [half]
    exact k _ _ (chn_div (by decide) (by decide) (by decide) (by decide)) d1 c1
  · ((with_reducible conv => whnf); repeat (first | (rw [natD_len]; with_reducible conv => whnf) | (rw [intD_len]; with_reducible conv => whnf) | (refine Exists.intro _ (And.intro (rfl : _ = some _) ?_); with_reducible conv => whnf) | (refine And.intro (okII _ _) ?_; rw [eqD_ii]; with_reducible conv => whnf) | (refine And.intro (by first | assumption | exact Exists.intro _ (by assumption) | exact ⟨rfl, rfl, by decide, by decide⟩ | exact Nat.le_of_ble_eq_true rfl | exact rfl) ?_; with_reducible conv => whnf) | (rw [isLst_at (by assumption)]; with_reducible conv => whnf) | (refine ifT rfl ?_; with_reducible conv => whnf) | (refine ifF rfl ?_; with_reducible conv => whnf) | (refine it_at (by assumption) ?_; with_reducible conv => whnf)))
    have a1 := at_push S1 (.lst [.int 4, .int 31, .int 1])
    have d2 := d1.app [.lst [.int 4, .int 31, .int 1]]
    have c2 := c1.app [.lst [.int 4, .int 31, .int 1]]
    generalize S1 ++ [O.lst [.int 4, .int 31, .int 1]] = S2 at *
    generalize S1.length = q at *
    rw [isLst_at a1]
    have hx : ∃ x : Int, 0 < x ∧ x ≤ 31 ∧ atZ [D.int 4, D.int 31, D.int 1] (st - 2) = some (.int x) := by
      rcases (show st = 2 ∨ st = 3 ∨ st = 4 by omega) with rfl | rfl | rfl
      · exact ⟨4, by decide, by decide, rfl⟩
      · exact ⟨31, by decide, by decide, rfl⟩
      · exact ⟨1, by decide, by decide, rfl⟩
    obtain ⟨x, x0, x1, hx⟩ := hx
    refine ⟨_, hx, ?_⟩
    ((with_reducible conv => whnf); repeat (first | (rw [natD_len]; with_reducible conv => whnf) | (rw [intD_len]; with_reducible conv => whnf) | (refine Exists.intro _ (And.intro (rfl : _ = some _) ?_); with_reducible conv => whnf) | (refine And.intro (okII _ _) ?_; rw [eqD_ii]; with_reducible conv => whnf) | (refine And.intro (by first | assumption | exact Exists.intro _ (by assumption) | exact ⟨rfl, rfl, by decide, by decide⟩ | exact Nat.le_of_ble_eq_true rfl | exact rfl) ?_; with_reducible conv => whnf) | (rw [isLst_at (by assumption)]; with_reducible conv => whnf) | (refine ifT rfl ?_; with_reducible conv => whnf) | (refine ifF rfl ?_; with_reducible conv => whnf) | (refine it_at (by assumption) ?_; with_reducible conv => whnf)))
    refine ⟨n, x, rfl, x0, d2, fun d S3 e0 e1 d3 c3 => ?_⟩
    ((with_reducible conv => whnf); repeat (first | (rw [natD_len]; with_reducible conv => whnf) | (rw [intD_len]; with_reducible conv => whnf) | (refine Exists.intro _ (And.intro (rfl : _ = some _) ?_); with_reducible conv => whnf) | (refine And.intro (okII _ _) ?_; rw [eqD_ii]; with_reducible conv => whnf) | (refine And.intro (by first | assumption | exact Exists.intro _ (by assumption) | exact ⟨rfl, rfl, by decide, by decide⟩ | exact Nat.le_of_ble_eq_true rfl | exact rfl) ?_; with_reducible conv => whnf) | (rw [isLst_at (by assumption)]; with_reducible conv => whnf) | (refine ifT rfl ?_; with_reducible conv => whnf) | (refine ifF rfl ?_; with_reducible conv => whnf) | (refine it_at (by assumption) ?_; with_reducible conv => whnf)))
    refine ⟨n, 1 + d + 1, rfl, by omega, d3, fun a S4 f0 f1 d4 c4 => ?_⟩
    ((with_reducible conv => whnf); repeat (first | (rw [natD_len]; with_reducible conv => whnf) | (rw [intD_len]; with_reducible conv => whnf) | (refine Exists.intro _ (And.intro (rfl : _ = some _) ?_); with_reducible conv => whnf) | (refine And.intro (okII _ _) ?_; rw [eqD_ii]; with_reducible conv => whnf) | (refine And.intro (by first | assumption | exact Exists.intro _ (by assumption) | exact ⟨rfl, rfl, by decide, by decide⟩ | exact Nat.le_of_ble_eq_true rfl | exact rfl) ?_; with_reducible conv => whnf) | (rw [isLst_at (by assumption)]; with_reducible conv => whnf) | (refine ifT rfl ?_; with_reducible conv => whnf) | (refine ifF rfl ?_; with_reducible conv => whnf) | (refine it_at (by assumption) ?_; with_reducible conv => whnf)))
    refine ⟨a, 1 + d, rfl, by omega, Nat.lt_of_lt_of_le (show (1 + d).natAbs < 2 ^ 10 by omega) (pow_le2 (by decide)), fun S5 s5 => ?_⟩
    exact k _ _ (chn_div f0 (by omega) (by omega) (by omega)) (d4.sub s5) (c2.trans (c3.trans (c4.trans s5.ch)))
/-! texts -/
theorem tx_join : ∀ l : List (List Bool), PySem.Str.join (tx []) (l.map tx) = tx l.flatten
  | [] => rfl
  | [x] => by
    show tx x = _
    simp
  | x :: y :: r => by
    have ih := tx_join (y :: r)
    show tx x ++ tx [] ++ PySem.Str.join (tx []) ((y :: r).map tx) = _
    rw [ih, tx_app, tx_app, List.append_nil, List.flatten_cons]
    rfl
theorem tx_joinT (l : List (List Bool)) : PySem.Txt.join (tx []) (l.map tx) = tx l.flatten := (TL.join_eq _ _).trans (tx_join l)
theorem tx_cut1 (r : List Bool) {n : Nat} : cutT (tx r) none (some (n : Int)) = tx (r.take n) := by
  unfold cutT
  rw [cut_take _ (by omega), Int.toNat_natCast]
  show (⟨(((r.map cs).toArray.toList).take n).toArray⟩ : PySem.Str) = ⟨((r.take n).map cs).toArray⟩
  rw [List.toList_toArray, List.map_take]
theorem tx_rep (r : List Bool) (n : Nat) : repT (tx r) n = tx ((List.replicate n r).flatten) := by
  unfold repT
  show (⟨((List.replicate n (r.map cs).toArray.toList).flatten).toArray⟩ : PySem.Str) = ⟨(((List.replicate n r).flatten).map cs).toArray⟩
  rw [List.toList_toArray, List.map_flatten, List.map_replicate]
theorem items_at {S : Sto} {n : Nat} {xs : List D} (h : S[n]? = some (.lst xs)) : itemsAt (.ref n) S = some xs := by
  show (match S[n]? with
    | some (.lst xs) => some xs
    | _ => none) = _
  rw [h]
  first | done | rfl
theorem flat_len (l : List (List Bool)) : ((l.map tx).map (·.length)).sum = l.flatten.length := by
  induction l with
  | nil => rfl
  | cons x l ih => rw [List.map_cons, List.map_cons, List.sum_cons, ih, List.flatten_cons, List.length_append, tx_len]
theorem flatten_le {N : Nat} : ∀ {l : List (List Bool)}, (∀ x ∈ l, x.length ≤ N) → l.flatten.length ≤ l.length * N
  | [], _ => Nat.zero_le _
  | x :: l, h => by
    rw [List.flatten_cons, List.length_append, List.length_cons, Nat.succ_mul]
    have := h x List.mem_cons_self
    have := flatten_le (l := l) fun y hy => h y (List.mem_cons_of_mem _ hy)
    omega
theorem flatten_one : ∀ l : List Bool, (l.map fun b => [b]).flatten = l
  | [] => rfl
  | b :: l => by rw [List.map_cons, List.flatten_cons, flatten_one l]; rfl
@[reducible] def sp_row : Spc := fun ds S Q => ∃ (n many : Nat), ds = [.ref n, .int many] ∧ many ≤ 40 ∧ Dr n S ∧ ∀ r S', r.length ≤ 80 → Dr n S' → Ch n S S' → Q (.str (tx r)) S'
theorem body_law_row : Body 6 2 (w_law_row sp_take) sp_row := by
  rintro ds S Q _ ⟨n, many, rfl, hm, hd, k⟩
  unfold w_law_row
  (simp only [start, List.map_cons, List.map_nil, List.length_cons, List.length_nil, Nat.reduceAdd, Nat.reduceSub, List.replicate_succ, List.replicate_zero, List.cons_append, List.nil_append, Nat.sub_self, Nat.zero_add])
  ((with_reducible conv => whnf); repeat (first | (rw [natD_len]; with_reducible conv => whnf) | (rw [intD_len]; with_reducible conv => whnf) | (refine Exists.intro _ (And.intro (rfl : _ = some _) ?_); with_reducible conv => whnf) | (refine And.intro (okII _ _) ?_; rw [eqD_ii]; with_reducible conv => whnf) | (refine And.intro (by first | assumption | exact Exists.intro _ (by assumption) | exact ⟨rfl, rfl, by decide, by decide⟩ | exact Nat.le_of_ble_eq_true rfl | exact rfl) ?_; with_reducible conv => whnf) | (rw [isLst_at (by assumption)]; with_reducible conv => whnf) | (refine ifT rfl ?_; with_reducible conv => whnf) | (refine ifF rfl ?_; with_reducible conv => whnf) | (refine it_at (by assumption) ?_; with_reducible conv => whnf)))
  refine ⟨n, 4, rfl, by decide, hd, fun st S1 h0 h1 d1 c1 => ?_⟩
  ((with_reducible conv => whnf); repeat (first | (rw [natD_len]; with_reducible conv => whnf) | (rw [intD_len]; with_reducible conv => whnf) | (refine Exists.intro _ (And.intro (rfl : _ = some _) ?_); with_reducible conv => whnf) | (refine And.intro (okII _ _) ?_; rw [eqD_ii]; with_reducible conv => whnf) | (refine And.intro (by first | assumption | exact Exists.intro _ (by assumption) | exact ⟨rfl, rfl, by decide, by decide⟩ | exact Nat.le_of_ble_eq_true rfl | exact rfl) ?_; with_reducible conv => whnf) | (rw [isLst_at (by assumption)]; with_reducible conv => whnf) | (refine ifT rfl ?_; with_reducible conv => whnf) | (refine ifF rfl ?_; with_reducible conv => whnf) | (refine it_at (by assumption) ?_; with_reducible conv => whnf)))
  refine ⟨trivial, ?_⟩
  (with_reducible conv => whnf)
  refine ⟨⟨by omega, by omega⟩, ?_⟩
  refine ⟨by rw [rangeD_len]; unfold szL; omega, fun i acc S' => ∃ l : List Bool, acc = l.map (fun b => D.str (sg b)) ∧ l.length = i ∧ Dr n S' ∧ Ch n S S', ⟨[], rfl, rfl, d1, c1⟩, fun _ _ _ _ => trivial, ?_, ?_⟩
  · rintro i d acc S' hi ⟨l, rfl, hl, d2, c2⟩
    ((with_reducible conv => whnf); repeat (first | (rw [natD_len]; with_reducible conv => whnf) | (rw [intD_len]; with_reducible conv => whnf) | (refine Exists.intro _ (And.intro (rfl : _ = some _) ?_); with_reducible conv => whnf) | (refine And.intro (okII _ _) ?_; rw [eqD_ii]; with_reducible conv => whnf) | (refine And.intro (by first | assumption | exact Exists.intro _ (by assumption) | exact ⟨rfl, rfl, by decide, by decide⟩ | exact Nat.le_of_ble_eq_true rfl | exact rfl) ?_; with_reducible conv => whnf) | (rw [isLst_at (by assumption)]; with_reducible conv => whnf) | (refine ifT rfl ?_; with_reducible conv => whnf) | (refine ifF rfl ?_; with_reducible conv => whnf) | (refine it_at (by assumption) ?_; with_reducible conv => whnf)))
    refine ⟨n, 2, rfl, by decide, d2, fun j S3 e0 e1 d3 c3 => ?_⟩
    rw [ofHT]
    (with_reducible conv => whnf)
    refine ⟨by rw [tx_len]; decide, ?_⟩
    obtain ⟨b, hb⟩ : ∃ b, [true, false][j.toNat]? = some b := by
      rcases (show j = 0 ∨ j = 1 by omega) with rfl | rfl
      · exact ⟨true, rfl⟩
      · exact ⟨false, rfl⟩
    have ha := tx_at hb
    rw [show ((j.toNat : Nat) : Int) = j by omega] at ha
    refine ⟨_, ha, ?_⟩
    exact ⟨l ++ [b], by rw [List.map_append]; rfl, by rw [List.length_append, hl]; rfl, d3, c2.trans c3⟩
  · rintro acc S' ⟨l, rfl, hl, d2, c2⟩
    rw [rangeD_len] at hl
    have a3 := at_push S' (.lst (l.map fun b => D.str (sg b)))
    have d3 := d2.app [.lst (l.map fun b => D.str (sg b))]
    have c3 := c2.app [.lst (l.map fun b => D.str (sg b))]
    generalize S' ++ [O.lst (l.map fun b => D.str (sg b))] = S3 at *
    generalize S'.length = q at *
    clear d2 c2 S'
    have ei : (l.map fun b => [b]).map tx = l.map sg := by rw [List.map_map]; rfl
    refine ⟨(l.map fun b => [b]).map tx, ?_, ?_, ?_⟩
    · rw [items_at a3, ei, List.map_map]
      rfl
    · rw [flat_len, flatten_one, ofE, tx_len, List.length_map, List.length_map]
      show l.length + l.length * 0 ≤ _
      omega
    rw [ofE, tx_joinT, flatten_one]
    -- what the rest asks
    have fin : ∀ r : List Bool, r.length ≤ 80 → sRet (wVar 3) { nx := fun _ S' => Q D.non S', rt := Q, bk := fun _ _ => False, ct := fun _ _ => False } [some (.ref n), some (.int many), some (.int st), some (.str (tx r)), none, none] S3 := fun r hr => by
      ((with_reducible conv => whnf); repeat (first | (rw [natD_len]; with_reducible conv => whnf) | (rw [intD_len]; with_reducible conv => whnf) | (refine Exists.intro _ (And.intro (rfl : _ = some _) ?_); with_reducible conv => whnf) | (refine And.intro (okII _ _) ?_; rw [eqD_ii]; with_reducible conv => whnf) | (refine And.intro (by first | assumption | exact Exists.intro _ (by assumption) | exact ⟨rfl, rfl, by decide, by decide⟩ | exact Nat.le_of_ble_eq_true rfl | exact rfl) ?_; with_reducible conv => whnf) | (rw [isLst_at (by assumption)]; with_reducible conv => whnf) | (refine ifT rfl ?_; with_reducible conv => whnf) | (refine ifF rfl ?_; with_reducible conv => whnf) | (refine it_at (by assumption) ?_; with_reducible conv => whnf)))
      exact k _ _ hr d3 c3
    ((with_reducible conv => whnf); repeat (first | (rw [natD_len]; with_reducible conv => whnf) | (rw [intD_len]; with_reducible conv => whnf) | (refine Exists.intro _ (And.intro (rfl : _ = some _) ?_); with_reducible conv => whnf) | (refine And.intro (okII _ _) ?_; rw [eqD_ii]; with_reducible conv => whnf) | (refine And.intro (by first | assumption | exact Exists.intro _ (by assumption) | exact ⟨rfl, rfl, by decide, by decide⟩ | exact Nat.le_of_ble_eq_true rfl | exact rfl) ?_; with_reducible conv => whnf) | (rw [isLst_at (by assumption)]; with_reducible conv => whnf) | (refine ifT rfl ?_; with_reducible conv => whnf) | (refine ifF rfl ?_; with_reducible conv => whnf) | (refine it_at (by assumption) ?_; with_reducible conv => whnf)))
    have hll : l.length ≤ 40 := by omega
    have k2 : ∀ r : List Bool, r.length ≤ 40 → sSeq (sIf (wtVal (wOp rEq (wVar 2) (wC (D.int 2))))
        (sAsg (wJoin (wC (D.str (tx []))) (wLc (wItS (wSl rSlS (wVar 3) wPNo (wPAt (wC (D.int 9))))) (gN 5) wtYes (wOp rMulS (wVar 5) (wOp rAdd (wC (D.int 1)) (wCall 2 sp_take (wCons (wVar 0) (wCons (wC (D.int 6)) wNil))))) [5])) (gN 3)) sNext)
        (sRet (wVar 3)) { nx := fun _ S' => Q D.non S', rt := Q, bk := fun _ _ => False, ct := fun _ _ => False } [some (.ref n), some (.int many), some (.int st), some (.str (tx r)), none, none] S3 := fun r hr => by
      ((with_reducible conv => whnf); repeat (first | (rw [natD_len]; with_reducible conv => whnf) | (rw [intD_len]; with_reducible conv => whnf) | (refine Exists.intro _ (And.intro (rfl : _ = some _) ?_); with_reducible conv => whnf) | (refine And.intro (okII _ _) ?_; rw [eqD_ii]; with_reducible conv => whnf) | (refine And.intro (by first | assumption | exact Exists.intro _ (by assumption) | exact ⟨rfl, rfl, by decide, by decide⟩ | exact Nat.le_of_ble_eq_true rfl | exact rfl) ?_; with_reducible conv => whnf) | (rw [isLst_at (by assumption)]; with_reducible conv => whnf) | (refine ifT rfl ?_; with_reducible conv => whnf) | (refine ifF rfl ?_; with_reducible conv => whnf) | (refine it_at (by assumption) ?_; with_reducible conv => whnf)))
      refine ite_d (fun hc => ?_) fun hc => ?_
      · ((with_reducible conv => whnf); repeat (first | (rw [natD_len]; with_reducible conv => whnf) | (rw [intD_len]; with_reducible conv => whnf) | (refine Exists.intro _ (And.intro (rfl : _ = some _) ?_); with_reducible conv => whnf) | (refine And.intro (okII _ _) ?_; rw [eqD_ii]; with_reducible conv => whnf) | (refine And.intro (by first | assumption | exact Exists.intro _ (by assumption) | exact ⟨rfl, rfl, by decide, by decide⟩ | exact Nat.le_of_ble_eq_true rfl | exact rfl) ?_; with_reducible conv => whnf) | (rw [isLst_at (by assumption)]; with_reducible conv => whnf) | (refine ifT rfl ?_; with_reducible conv => whnf) | (refine ifF rfl ?_; with_reducible conv => whnf) | (refine it_at (by assumption) ?_; with_reducible conv => whnf)))
        refine ⟨trivial, ?_⟩
        (with_reducible conv => whnf)
        refine ⟨by rw [tx_len]; unfold szL; omega, ?_⟩
        rw [show (9 : Int) = ((9 : Nat) : Int) from rfl, tx_cut1]
        (with_reducible conv => whnf)
        rw [tx_chars]
        refine ⟨by rw [List.length_map, List.length_take]; unfold szL; omega, fun i acc S' => ∃ l : List (List Bool), acc = (l.map tx).map D.str ∧ l.length = i ∧ (∀ x ∈ l, x.length ≤ 6) ∧ Dr n S' ∧ Ch n S S', ⟨[], rfl, rfl, by simp, d3, c3⟩, fun _ _ _ _ => trivial, ?_, ?_⟩
        · rintro i d acc S' hi ⟨l, rfl, hl, hx, d2, c2⟩
          rw [List.getElem?_map] at hi
          obtain ⟨b, hb, rfl⟩ := Option.map_eq_some_iff.mp hi
          ((with_reducible conv => whnf); repeat (first | (rw [natD_len]; with_reducible conv => whnf) | (rw [intD_len]; with_reducible conv => whnf) | (refine Exists.intro _ (And.intro (rfl : _ = some _) ?_); with_reducible conv => whnf) | (refine And.intro (okII _ _) ?_; rw [eqD_ii]; with_reducible conv => whnf) | (refine And.intro (by first | assumption | exact Exists.intro _ (by assumption) | exact ⟨rfl, rfl, by decide, by decide⟩ | exact Nat.le_of_ble_eq_true rfl | exact rfl) ?_; with_reducible conv => whnf) | (rw [isLst_at (by assumption)]; with_reducible conv => whnf) | (refine ifT rfl ?_; with_reducible conv => whnf) | (refine ifF rfl ?_; with_reducible conv => whnf) | (refine it_at (by assumption) ?_; with_reducible conv => whnf)))
          refine ⟨n, 6, rfl, by decide, d2, fun j S3 e0 e1 d3 c3 => ?_⟩
          ((with_reducible conv => whnf); repeat (first | (rw [natD_len]; with_reducible conv => whnf) | (rw [intD_len]; with_reducible conv => whnf) | (refine Exists.intro _ (And.intro (rfl : _ = some _) ?_); with_reducible conv => whnf) | (refine And.intro (okII _ _) ?_; rw [eqD_ii]; with_reducible conv => whnf) | (refine And.intro (by first | assumption | exact Exists.intro _ (by assumption) | exact ⟨rfl, rfl, by decide, by decide⟩ | exact Nat.le_of_ble_eq_true rfl | exact rfl) ?_; with_reducible conv => whnf) | (rw [isLst_at (by assumption)]; with_reducible conv => whnf) | (refine ifT rfl ?_; with_reducible conv => whnf) | (refine ifF rfl ?_; with_reducible conv => whnf) | (refine it_at (by assumption) ?_; with_reducible conv => whnf)))
          refine ⟨⟨by omega, by omega⟩, ?_⟩
          rw [← tx_one, tx_len, tx_rep]
          refine ⟨by rw [List.length_singleton]; unfold szL; omega, ?_⟩
          refine ⟨l ++ [(List.replicate (1 + j).toNat [b]).flatten], by rw [List.map_append, List.map_append]; rfl, by rw [List.length_append, hl]; rfl, ?_, d3, c2.trans c3⟩
          intro x hxx
          rcases List.mem_append.mp hxx with h | h
          · exact hx x h
          · rw [List.mem_singleton.mp h, List.length_flatten, List.map_replicate, List.sum_replicate_nat, List.length_singleton]
            omega
        · rintro acc S' ⟨l, rfl, hl, hx, d2, c2⟩
          have hl9 : l.length ≤ 9 := by rw [hl, List.length_map, List.length_take]; omega
          have a3 := at_push S' (.lst ((l.map tx).map D.str))
          have d3 := d2.app [.lst ((l.map tx).map D.str)]
          have c3 := c2.app [.lst ((l.map tx).map D.str)]
          have hfl := flatten_le hx
          refine ⟨l.map tx, items_at a3, ?_, ?_⟩
          · rw [flat_len, tx_len, List.length_map]
            show l.flatten.length + l.length * 0 ≤ _
            omega
          rw [tx_joinT]
          ((with_reducible conv => whnf); repeat (first | (rw [natD_len]; with_reducible conv => whnf) | (rw [intD_len]; with_reducible conv => whnf) | (refine Exists.intro _ (And.intro (rfl : _ = some _) ?_); with_reducible conv => whnf) | (refine And.intro (okII _ _) ?_; rw [eqD_ii]; with_reducible conv => whnf) | (refine And.intro (by first | assumption | exact Exists.intro _ (by assumption) | exact ⟨rfl, rfl, by decide, by decide⟩ | exact Nat.le_of_ble_eq_true rfl | exact rfl) ?_; with_reducible conv => whnf) | (rw [isLst_at (by assumption)]; with_reducible conv => whnf) | (refine ifT rfl ?_; with_reducible conv => whnf) | (refine ifF rfl ?_; with_reducible conv => whnf) | (refine it_at (by assumption) ?_; with_reducible conv => whnf)))
          exact k _ _ (by omega) d3 c3
      · ((with_reducible conv => whnf); repeat (first | (rw [natD_len]; with_reducible conv => whnf) | (rw [intD_len]; with_reducible conv => whnf) | (refine Exists.intro _ (And.intro (rfl : _ = some _) ?_); with_reducible conv => whnf) | (refine And.intro (okII _ _) ?_; rw [eqD_ii]; with_reducible conv => whnf) | (refine And.intro (by first | assumption | exact Exists.intro _ (by assumption) | exact ⟨rfl, rfl, by decide, by decide⟩ | exact Nat.le_of_ble_eq_true rfl | exact rfl) ?_; with_reducible conv => whnf) | (rw [isLst_at (by assumption)]; with_reducible conv => whnf) | (refine ifT rfl ?_; with_reducible conv => whnf) | (refine ifF rfl ?_; with_reducible conv => whnf) | (refine it_at (by assumption) ?_; with_reducible conv => whnf)))
        exact k _ _ (by omega) d3 c3
    rw [← ofE] at k2
    have k1 : ∀ r : List Bool, r.length ≤ 40 → sSeq (sIf (wtVal (wOp rEq (wVar 2) (wC (D.int 1))))
              (sAsg (wSl rSlS (wOp rMulS (wC (D.str (PySem.Str.ofString "HT"))) (wVar 1)) wPNo (wPAt (wVar 1))) (gN 3))
              sNext) (sSeq (sIf (wtVal (wOp rEq (wVar 2) (wC (D.int 2))))
        (sAsg (wJoin (wC (D.str (PySem.Str.ofString ""))) (wLc (wItS (wSl rSlS (wVar 3) wPNo (wPAt (wC (D.int 9))))) (gN 5) wtYes (wOp rMulS (wVar 5) (wOp rAdd (wC (D.int 1)) (wCall 2 sp_take (wCons (wVar 0) (wCons (wC (D.int 6)) wNil))))) [5])) (gN 3)) sNext)
        (sRet (wVar 3))) { nx := fun _ S' => Q D.non S', rt := Q, bk := fun _ _ => False, ct := fun _ _ => False } [some (.ref n), some (.int many), some (.int st), some (.str (tx r)), none, none] S3 := fun r hr => by
      ((with_reducible conv => whnf); repeat (first | (rw [natD_len]; with_reducible conv => whnf) | (rw [intD_len]; with_reducible conv => whnf) | (refine Exists.intro _ (And.intro (rfl : _ = some _) ?_); with_reducible conv => whnf) | (refine And.intro (okII _ _) ?_; rw [eqD_ii]; with_reducible conv => whnf) | (refine And.intro (by first | assumption | exact Exists.intro _ (by assumption) | exact ⟨rfl, rfl, by decide, by decide⟩ | exact Nat.le_of_ble_eq_true rfl | exact rfl) ?_; with_reducible conv => whnf) | (rw [isLst_at (by assumption)]; with_reducible conv => whnf) | (refine ifT rfl ?_; with_reducible conv => whnf) | (refine ifF rfl ?_; with_reducible conv => whnf) | (refine it_at (by assumption) ?_; with_reducible conv => whnf)))
      refine ite_d (fun hc => ?_) fun hc => ?_
      · ((with_reducible conv => whnf); repeat (first | (rw [natD_len]; with_reducible conv => whnf) | (rw [intD_len]; with_reducible conv => whnf) | (refine Exists.intro _ (And.intro (rfl : _ = some _) ?_); with_reducible conv => whnf) | (refine And.intro (okII _ _) ?_; rw [eqD_ii]; with_reducible conv => whnf) | (refine And.intro (by first | assumption | exact Exists.intro _ (by assumption) | exact ⟨rfl, rfl, by decide, by decide⟩ | exact Nat.le_of_ble_eq_true rfl | exact rfl) ?_; with_reducible conv => whnf) | (rw [isLst_at (by assumption)]; with_reducible conv => whnf) | (refine ifT rfl ?_; with_reducible conv => whnf) | (refine ifF rfl ?_; with_reducible conv => whnf) | (refine it_at (by assumption) ?_; with_reducible conv => whnf)))
        rw [ofHT, tx_rep, tx_len]
        refine ⟨⟨by omega, by omega⟩, by show 2 * _ ≤ _; unfold szL; omega, ?_⟩
        (with_reducible conv => whnf)
        refine ⟨by rw [tx_len, List.length_flatten, List.map_replicate, List.sum_replicate_nat]; show _ * 2 ≤ _; unfold szL; omega, ?_⟩
        rw [tx_cut1]
        exact k2 _ (by rw [List.length_take]; omega)
      · exact k2 r hr
    rw [← ofE]
    refine ite_d (fun hc => ?_) fun hc => ?_
    · ((with_reducible conv => whnf); repeat (first | (rw [natD_len]; with_reducible conv => whnf) | (rw [intD_len]; with_reducible conv => whnf) | (refine Exists.intro _ (And.intro (rfl : _ = some _) ?_); with_reducible conv => whnf) | (refine And.intro (okII _ _) ?_; rw [eqD_ii]; with_reducible conv => whnf) | (refine And.intro (by first | assumption | exact Exists.intro _ (by assumption) | exact ⟨rfl, rfl, by decide, by decide⟩ | exact Nat.le_of_ble_eq_true rfl | exact rfl) ?_; with_reducible conv => whnf) | (rw [isLst_at (by assumption)]; with_reducible conv => whnf) | (refine ifT rfl ?_; with_reducible conv => whnf) | (refine ifF rfl ?_; with_reducible conv => whnf) | (refine it_at (by assumption) ?_; with_reducible conv => whnf)))
      refine ⟨by rw [tx_len]; unfold szL; omega, ?_⟩
      rw [show (1 : Int) = ((1 : Nat) : Int) from rfl, tx_cut1]
      (with_reducible conv => whnf)
      rw [tx_rep, tx_len]
      have hl1 : (l.take 1).length ≤ 1 := by rw [List.length_take]; omega
      have hmt : ((many : Int)).toNat = many := by omega
      rw [hmt]
      refine ⟨⟨by omega, by omega⟩, by have := Nat.mul_le_mul_right many hl1; unfold szL; omega, ?_⟩
      exact k1 _ (by rw [List.length_flatten, List.map_replicate, List.sum_replicate_nat]; have := Nat.mul_le_mul_left many hl1; omega)
    · exact k1 l hll
end K94
set_option linter.all false
set_option maxRecDepth 100000
set_option maxHeartbeats 4000000
namespace K94
open DL
def sgs (r : List Bool) : List D := (rl r).map fun z => D.str (sg z.2)
theorem sgs_len (r : List Bool) : (sgs r).length = (rl r).length := by unfold sgs; rw [List.length_map]
theorem lens_len (r : List Bool) : (lens r).length = (rl r).length := by unfold lens; rw [List.length_map]
@[reducible] def sp_lruns : Spc := fun ds S Q => ∃ r, ds = [.str (tx r)] ∧ r.length ≤ 1000 ∧ ∀ a b S', a ≠ b → S'[a]? = some (.lst (natD (lens r))) → S'[b]? = some (.lst (sgs r)) → Sub S S' → Q (.tup [.ref a, .ref b]) S'
theorem lastD {l : List D} {x : D} : atZ (l ++ [x]) (-1) = some x := by
  unfold atZ ixZ
  rw [if_neg (by omega), if_pos (by rw [List.length_append]; simp; omega)]
  show (l ++ [x])[(-1 + ((l ++ [x]).length : Int)).toNat]? = _
  rw [show (-1 + ((l ++ [x]).length : Int)).toNat = l.length by rw [List.length_append]; simp; omega]
  simp
theorem body_law_runs : Body 4 1 w_law_runs sp_lruns := by
  rintro ds S Q _ ⟨r, rfl, hr, k⟩
  unfold w_law_runs
  (simp only [start, List.map_cons, List.map_nil, List.length_cons, List.length_nil, Nat.reduceAdd, Nat.reduceSub, List.replicate_succ, List.replicate_zero, List.cons_append, List.nil_append, Nat.sub_self, Nat.zero_add])
  ((with_reducible conv => whnf); repeat (first | (rw [natD_len]; with_reducible conv => whnf) | (rw [intD_len]; with_reducible conv => whnf) | (refine Exists.intro _ (And.intro (rfl : _ = some _) ?_); with_reducible conv => whnf) | (refine And.intro (okII _ _) ?_; rw [eqD_ii]; with_reducible conv => whnf) | (refine And.intro (by first | assumption | exact Exists.intro _ (by assumption) | exact ⟨rfl, rfl, by decide, by decide⟩ | exact Nat.le_of_ble_eq_true rfl | exact rfl) ?_; with_reducible conv => whnf) | (rw [isLst_at (by assumption)]; with_reducible conv => whnf) | (refine ifT rfl ?_; with_reducible conv => whnf) | (refine ifF rfl ?_; with_reducible conv => whnf) | (refine it_at (by assumption) ?_; with_reducible conv => whnf)))
  have e0 := push_at (at_push S (.lst [])) [.lst []]
  have f0 := at_push (S ++ [.lst []]) (.lst [])
  have s0 := ((Sub.refl S).app [.lst []]).app [.lst []]
  have hb : (S ++ [O.lst []]).length = S.length + 1 := by simp
  generalize hn : S.length = n at *
  rw [hb] at f0 ⊢
  generalize S ++ [.lst []] ++ [.lst []] = S0 at *
  rw [tx_chars]
  refine Loop_mk (fun i ρ S' => ∃ o3, ρ = [some (.str (tx r)), some (.ref n), some (.ref (n + 1)), o3] ∧ S'[n]? = some (.lst (natD (lens (r.take i)))) ∧ S'[n + 1]? = some (.lst (sgs (r.take i))) ∧ Sub S S') ⟨none, rfl, e0, f0, s0⟩ (by intros; trivial) ?_ ?_
  · clear e0 f0 s0 S0
    rintro i d ρ' S' hi ⟨o3, rfl, e1, f1, s1⟩
    rw [List.getElem?_map] at hi
    obtain ⟨b, hri, rfl⟩ := Option.map_eq_some_iff.mp hi
    have hil : i < r.length := (List.getElem?_eq_some_iff.mp hri).1
    have htk : r.take (i + 1) = r.take i ++ [b] := by rw [List.take_succ, hri]; rfl
    have hll := rl_len (r.take i)
    rw [List.length_take] at hll
    have hl2 : (lens (r.take i)).length ≤ 1000 := by rw [lens_len]; omega
    have hl3 : (sgs (r.take i)).length ≤ 1000 := by rw [sgs_len]; omega
    ((with_reducible conv => whnf); repeat (first | (rw [natD_len]; with_reducible conv => whnf) | (rw [intD_len]; with_reducible conv => whnf) | (refine Exists.intro _ (And.intro (rfl : _ = some _) ?_); with_reducible conv => whnf) | (refine And.intro (okII _ _) ?_; rw [eqD_ii]; with_reducible conv => whnf) | (refine And.intro (by first | assumption | exact Exists.intro _ (by assumption) | exact ⟨rfl, rfl, by decide, by decide⟩ | exact Nat.le_of_ble_eq_true rfl | exact rfl) ?_; with_reducible conv => whnf) | (rw [isLst_at (by assumption)]; with_reducible conv => whnf) | (refine ifT rfl ?_; with_reducible conv => whnf) | (refine ifF rfl ?_; with_reducible conv => whnf) | (refine it_at (by assumption) ?_; with_reducible conv => whnf)))
    refine ite_d (fun hc => ?_) fun hc => ?_
    · obtain ⟨j, rfl⟩ : ∃ j, i = j + 1 := by
        rcases Nat.eq_zero_or_pos i with rfl | h
        · exact absurd hc (by show ¬ (0 : Int) < 0; decide)
        · exact ⟨i - 1, by omega⟩
      have hrj := List.getElem?_eq_getElem (show j < r.length by omega)
      have htj : r.take (j + 1) = r.take j ++ [r[j]] := by rw [List.take_succ, hrj]; rfl
      obtain ⟨l, m, h1, h2⟩ := rl_same (r.take j) r[j] b
      rw [← htj] at h1 h2
      rw [← htk] at h2
      have e1 : S'[n]? = some (.lst (natD (l.map (·.1) ++ [m]))) := by rw [e1]; unfold lens; rw [h1, List.map_append]; rfl
      have f1 : S'[n + 1]? = some (.lst (l.map (fun z => D.str (sg z.2)) ++ [D.str (sg r[j])])) := by rw [f1]; unfold sgs; rw [h1, List.map_append]; rfl
      ((with_reducible conv => whnf); repeat (first | (rw [natD_len]; with_reducible conv => whnf) | (rw [intD_len]; with_reducible conv => whnf) | (refine Exists.intro _ (And.intro (rfl : _ = some _) ?_); with_reducible conv => whnf) | (refine And.intro (okII _ _) ?_; rw [eqD_ii]; with_reducible conv => whnf) | (refine And.intro (by first | assumption | exact Exists.intro _ (by assumption) | exact ⟨rfl, rfl, by decide, by decide⟩ | exact Nat.le_of_ble_eq_true rfl | exact rfl) ?_; with_reducible conv => whnf) | (rw [isLst_at (by assumption)]; with_reducible conv => whnf) | (refine ifT rfl ?_; with_reducible conv => whnf) | (refine ifF rfl ?_; with_reducible conv => whnf) | (refine it_at (by assumption) ?_; with_reducible conv => whnf)))
      refine ⟨_, lastD, ?_⟩
      (with_reducible conv => whnf)
      refine ⟨flatS r[j] b, ?_⟩
      rw [sg_eq]
      (with_reducible conv => whnf)
      refine ite_d (fun hcc => ?_) fun hcc => ?_
      · rw [if_pos hcc] at h2
        ((with_reducible conv => whnf); repeat (first | (rw [natD_len]; with_reducible conv => whnf) | (rw [intD_len]; with_reducible conv => whnf) | (refine Exists.intro _ (And.intro (rfl : _ = some _) ?_); with_reducible conv => whnf) | (refine And.intro (okII _ _) ?_; rw [eqD_ii]; with_reducible conv => whnf) | (refine And.intro (by first | assumption | exact Exists.intro _ (by assumption) | exact ⟨rfl, rfl, by decide, by decide⟩ | exact Nat.le_of_ble_eq_true rfl | exact rfl) ?_; with_reducible conv => whnf) | (rw [isLst_at (by assumption)]; with_reducible conv => whnf) | (refine ifT rfl ?_; with_reducible conv => whnf) | (refine ifF rfl ?_; with_reducible conv => whnf) | (refine it_at (by assumption) ?_; with_reducible conv => whnf)))
        refine ⟨_, natD_last, ?_⟩
        ((with_reducible conv => whnf); repeat (first | (rw [natD_len]; with_reducible conv => whnf) | (rw [intD_len]; with_reducible conv => whnf) | (refine Exists.intro _ (And.intro (rfl : _ = some _) ?_); with_reducible conv => whnf) | (refine And.intro (okII _ _) ?_; rw [eqD_ii]; with_reducible conv => whnf) | (refine And.intro (by first | assumption | exact Exists.intro _ (by assumption) | exact ⟨rfl, rfl, by decide, by decide⟩ | exact Nat.le_of_ble_eq_true rfl | exact rfl) ?_; with_reducible conv => whnf) | (rw [isLst_at (by assumption)]; with_reducible conv => whnf) | (refine ifT rfl ?_; with_reducible conv => whnf) | (refine ifF rfl ?_; with_reducible conv => whnf) | (refine it_at (by assumption) ?_; with_reducible conv => whnf)))
        refine ⟨(-1 + ((l.map (·.1) ++ [m]).length : Int)).toNat, ?_, ?_⟩
        · unfold ixZ
          rw [if_neg (by omega), if_pos (by rw [List.length_append]; simp; omega)]
        rw [show ((m : Int) + 1) = ((m + 1 : Nat) : Int) by omega, natD_setL]
        refine ⟨_, rfl, ?_, ?_, s1.put (by omega)⟩
        · rw [at_set e1]
          unfold lens
          rw [h2, List.map_append]
          rfl
        · rw [at_set_ne (by omega), f1]
          unfold sgs
          rw [h2, List.map_append]
          rfl
      · rw [if_neg hcc] at h2
        ((with_reducible conv => whnf); repeat (first | (rw [natD_len]; with_reducible conv => whnf) | (rw [intD_len]; with_reducible conv => whnf) | (refine Exists.intro _ (And.intro (rfl : _ = some _) ?_); with_reducible conv => whnf) | (refine And.intro (okII _ _) ?_; rw [eqD_ii]; with_reducible conv => whnf) | (refine And.intro (by first | assumption | exact Exists.intro _ (by assumption) | exact ⟨rfl, rfl, by decide, by decide⟩ | exact Nat.le_of_ble_eq_true rfl | exact rfl) ?_; with_reducible conv => whnf) | (rw [isLst_at (by assumption)]; with_reducible conv => whnf) | (refine ifT rfl ?_; with_reducible conv => whnf) | (refine ifF rfl ?_; with_reducible conv => whnf) | (refine it_at (by assumption) ?_; with_reducible conv => whnf)))
        have hz : (natD (l.map (·.1) ++ [m])).length < szL := by
          have : (lens (r.take (j + 1))).length = (l.map (·.1) ++ [m]).length := by unfold lens; rw [h1, List.map_append]; rfl
          rw [natD_len, ← this]; unfold szL; omega
        rw [natD_len] at hz
        refine ⟨hz, ?_⟩
        have f2 : (S'.set n (.lst (natD (l.map (·.1) ++ [m]) ++ [.int 1])))[n + 1]? = some (.lst (l.map (fun z => D.str (sg z.2)) ++ [D.str (sg r[j])])) := by rw [at_set_ne (by omega), f1]
        ((with_reducible conv => whnf); repeat (first | (rw [natD_len]; with_reducible conv => whnf) | (rw [intD_len]; with_reducible conv => whnf) | (refine Exists.intro _ (And.intro (rfl : _ = some _) ?_); with_reducible conv => whnf) | (refine And.intro (okII _ _) ?_; rw [eqD_ii]; with_reducible conv => whnf) | (refine And.intro (by first | assumption | exact Exists.intro _ (by assumption) | exact ⟨rfl, rfl, by decide, by decide⟩ | exact Nat.le_of_ble_eq_true rfl | exact rfl) ?_; with_reducible conv => whnf) | (rw [isLst_at (by assumption)]; with_reducible conv => whnf) | (refine ifT rfl ?_; with_reducible conv => whnf) | (refine ifF rfl ?_; with_reducible conv => whnf) | (refine it_at (by assumption) ?_; with_reducible conv => whnf)))
        refine ⟨?_, ?_⟩
        · have : (sgs (r.take (j + 1))).length = (l.map (fun z => D.str (sg z.2)) ++ [D.str (sg r[j])]).length := by unfold sgs; rw [h1, List.map_append]; rfl
          rw [← this]; unfold szL; omega
        (with_reducible conv => whnf)
        refine ⟨_, rfl, ?_, ?_, (s1.put (by omega)).put (by omega)⟩
        · rw [at_set_ne (by omega), at_set e1]
          unfold lens
          rw [h2, List.map_append, List.map_append, show [D.int 1] = [D.int ((1 : Nat) : Int)] from rfl]
          exact congrArg (fun z => some (O.lst z)) (natD_app _ _)
        · rw [at_set f2]
          unfold sgs
          rw [h2, List.map_append, List.map_append]
          rfl
    · have i0 : i = 0 := by
        rcases Nat.eq_zero_or_pos i with h | h
        · exact h
        · exfalso
          apply hc
          obtain ⟨j, rfl⟩ : ∃ j, i = j + 1 := ⟨i - 1, by omega⟩
          have hrj := List.getElem?_eq_getElem (show j < r.length by omega)
          have htj : r.take (j + 1) = r.take j ++ [r[j]] := by rw [List.take_succ, hrj]; rfl
          obtain ⟨l, m, h1, h2⟩ := rl_same (r.take j) r[j] b
          rw [← htj] at h1
          rw [sgs_len, h1, List.length_append, List.length_singleton]
          omega
      subst i0
      ((with_reducible conv => whnf); repeat (first | (rw [natD_len]; with_reducible conv => whnf) | (rw [intD_len]; with_reducible conv => whnf) | (refine Exists.intro _ (And.intro (rfl : _ = some _) ?_); with_reducible conv => whnf) | (refine And.intro (okII _ _) ?_; rw [eqD_ii]; with_reducible conv => whnf) | (refine And.intro (by first | assumption | exact Exists.intro _ (by assumption) | exact ⟨rfl, rfl, by decide, by decide⟩ | exact Nat.le_of_ble_eq_true rfl | exact rfl) ?_; with_reducible conv => whnf) | (rw [isLst_at (by assumption)]; with_reducible conv => whnf) | (refine ifT rfl ?_; with_reducible conv => whnf) | (refine ifF rfl ?_; with_reducible conv => whnf) | (refine it_at (by assumption) ?_; with_reducible conv => whnf)))
      have f2 : (S'.set n (.lst (natD (lens (r.take 0)) ++ [.int 1])))[n + 1]? = some (.lst (sgs (r.take 0))) := by rw [at_set_ne (by omega), f1]
      ((with_reducible conv => whnf); repeat (first | (rw [natD_len]; with_reducible conv => whnf) | (rw [intD_len]; with_reducible conv => whnf) | (refine Exists.intro _ (And.intro (rfl : _ = some _) ?_); with_reducible conv => whnf) | (refine And.intro (okII _ _) ?_; rw [eqD_ii]; with_reducible conv => whnf) | (refine And.intro (by first | assumption | exact Exists.intro _ (by assumption) | exact ⟨rfl, rfl, by decide, by decide⟩ | exact Nat.le_of_ble_eq_true rfl | exact rfl) ?_; with_reducible conv => whnf) | (rw [isLst_at (by assumption)]; with_reducible conv => whnf) | (refine ifT rfl ?_; with_reducible conv => whnf) | (refine ifF rfl ?_; with_reducible conv => whnf) | (refine it_at (by assumption) ?_; with_reducible conv => whnf)))
      refine ⟨_, rfl, ?_, ?_, (s1.put (by omega)).put (by omega)⟩
      · rw [at_set_ne (by omega), at_set e1, htk]; rfl
      · rw [at_set f2, htk]; rfl
  · rintro ρ' S' ⟨o3, rfl, e1, f1, s1⟩
    rw [List.length_map, List.take_length] at e1 f1
    ((with_reducible conv => whnf); repeat (first | (rw [natD_len]; with_reducible conv => whnf) | (rw [intD_len]; with_reducible conv => whnf) | (refine Exists.intro _ (And.intro (rfl : _ = some _) ?_); with_reducible conv => whnf) | (refine And.intro (okII _ _) ?_; rw [eqD_ii]; with_reducible conv => whnf) | (refine And.intro (by first | assumption | exact Exists.intro _ (by assumption) | exact ⟨rfl, rfl, by decide, by decide⟩ | exact Nat.le_of_ble_eq_true rfl | exact rfl) ?_; with_reducible conv => whnf) | (rw [isLst_at (by assumption)]; with_reducible conv => whnf) | (refine ifT rfl ?_; with_reducible conv => whnf) | (refine ifF rfl ?_; with_reducible conv => whnf) | (refine it_at (by assumption) ?_; with_reducible conv => whnf)))
    exact k _ _ _ (by omega) e1 f1 s1
/-- the longest run of a sign is the greatest length of one -/
def mxl (b : Bool) (l : List (Nat × Bool)) : Nat := l.foldl (fun a z => if z.2 = b then max a z.1 else a) 0
theorem mxl_snoc (b : Bool) (l : List (Nat × Bool)) (z : Nat × Bool) : mxl b (l ++ [z]) = if z.2 = b then max (mxl b l) z.1 else mxl b l := by unfold mxl; rw [List.foldl_append]; rfl
theorem mxl_lg (b : Bool) : ∀ r : List Bool, mxl b (rl r) = (lg b r).1 ∧ ((lg b r).2 = match (rl r).getLast? with | some (n, s) => if s = b then n else 0 | none => 0) := by
  intro r
  have gen : ∀ n (r : List Bool), r.length = n → mxl b (rl r) = (lg b r).1 ∧ ((lg b r).2 = match (rl r).getLast? with | some (n, s) => if s = b then n else 0 | none => 0) := by
    intro n
    induction n with
    | zero => intro r h; rw [List.length_eq_zero_iff.mp h]; exact ⟨rfl, rfl⟩
    | succ n ih =>
      intro r h
      have hne : r ≠ [] := by intro e; rw [e] at h; cases h
      have e := List.dropLast_concat_getLast hne
      generalize r.getLast hne = x at e
      obtain ⟨i1, i2⟩ := ih r.dropLast (by rw [List.length_dropLast]; omega)
      generalize r.dropLast = q at *
      subst e
      rw [lg_snoc, rl_snoc]
      unfold lgS rstep
      cases hq : (rl q).getLast? with
      | none =>
        rw [hq] at i2
        have hn : rl q = [] := by
          cases h : rl q with
          | nil => rfl
          | cons _ _ => rw [h] at hq; simp at hq
        rw [hn] at i1
        have i2 : (lg b q).2 = 0 := i2
        have i1 : 0 = (lg b q).1 := i1
        show (if x = b then max 0 1 else 0) = max (lg b q).1 (if x = b then (lg b q).2 + 1 else 0) ∧ (if x = b then (lg b q).2 + 1 else 0) = if x = b then 1 else 0
        rw [i2, ← i1]
        by_cases c : x = b
        · simp only [c, if_true]
          refine ⟨?_, ?_⟩ <;> first | rfl | trivial | omega
        · simp only [c, if_false]
          refine ⟨?_, ?_⟩ <;> first | rfl | trivial | omega
      | some z =>
        obtain ⟨m, s⟩ := z
        rw [hq] at i2
        have hd : rl q = (rl q).dropLast ++ [(m, s)] := by
          have hne : rl q ≠ [] := by intro e; rw [e] at hq; cases hq
          have h1 := List.dropLast_concat_getLast hne
          rw [List.getLast?_eq_some_getLast hne] at hq
          rw [Option.some.inj hq] at h1
          exact h1.symm
        have hm : mxl b (rl q) = if s = b then max (mxl b (rl q).dropLast) m else mxl b (rl q).dropLast := by
          conv => lhs; rw [hd]
          rw [mxl_snoc]
        simp only at i2 ⊢
        by_cases c : s = x
        · subst c
          rw [if_pos rfl, mxl_snoc, List.getLast?_concat]
          by_cases c2 : s = b
          · rw [if_pos c2] at hm i2
            simp only [c2, if_true]
            rw [← i1, hm, i2]
            exact ⟨by omega, rfl⟩
          · rw [if_neg c2] at hm i2
            simp only [c2, if_false]
            rw [← i1, hm]
            exact ⟨by omega, trivial⟩
        · rw [if_neg c, mxl_snoc, List.getLast?_concat]
          by_cases c2 : x = b
          · have c3 : ¬ s = b := fun h => c (h.trans c2.symm)
            rw [if_neg c3] at hm i2
            simp only [c2, if_true]
            rw [← i1, i2]
            exact ⟨by omega, rfl⟩
          · simp only [c2, if_false]
            rw [← i1]
            exact ⟨by omega, trivial⟩
  exact gen r.length r rfl
end K94
set_option linter.all false
set_option maxRecDepth 100000
set_option maxHeartbeats 4000000
namespace K94
open DL
theorem mxl_ge {b : Bool} {l : List (Nat × Bool)} {z : Nat × Bool} (h : z ∈ l) (hb : z.2 = b) : z.1 ≤ mxl b l := by
  have gen : ∀ (n : Nat) (l : List (Nat × Bool)), l.length = n → z ∈ l → z.1 ≤ mxl b l := by
    intro n
    induction n with
    | zero => intro l h hz; rw [List.length_eq_zero_iff.mp h] at hz; cases hz
    | succ n ih =>
      intro l h hz
      have hne : l ≠ [] := by intro e; rw [e] at h; cases h
      have e := List.dropLast_concat_getLast hne
      have i := ih l.dropLast (by rw [List.length_dropLast]; omega)
      generalize l.getLast hne = x at e
      generalize l.dropLast = q at *
      subst e
      rw [mxl_snoc]
      rcases List.mem_append.mp hz with hz | hz
      · have := i hz
        split <;> omega
      · rw [← List.mem_singleton.mp hz, if_pos hb]
        omega
  exact gen _ l rfl h
theorem mxl_in {b : Bool} (l : List (Nat × Bool)) : mxl b l = 0 ∨ ∃ z ∈ l, z.2 = b ∧ z.1 = mxl b l := by
  have gen : ∀ (n : Nat) (l : List (Nat × Bool)), l.length = n → mxl b l = 0 ∨ ∃ z ∈ l, z.2 = b ∧ z.1 = mxl b l := by
    intro n
    induction n with
    | zero => intro l h; rw [List.length_eq_zero_iff.mp h]; exact .inl rfl
    | succ n ih =>
      intro l h
      have hne : l ≠ [] := by intro e; rw [e] at h; cases h
      have e := List.dropLast_concat_getLast hne
      have i := ih l.dropLast (by rw [List.length_dropLast]; omega)
      generalize l.getLast hne = x at e
      generalize l.dropLast = q at *
      subst e
      rw [mxl_snoc]
      split
      · rename_i hx
        rcases Nat.le_total (mxl b q) x.1 with hc | hc
        · right
          exact ⟨x, by simp, hx, by omega⟩
        · rcases i with i | ⟨z, h1, h2, h3⟩
          · left; omega
          · right; exact ⟨z, by simp [h1], h2, by omega⟩
      · rcases i with i | ⟨z, h1, h2, h3⟩
        · left; exact i
        · right; exact ⟨z, by simp [h1], h2, h3⟩
  exact gen _ l rfl
theorem body_law_longest : Body 5 2 (w_law_longest sp_lruns) sp_longest := by
  rintro ds S Q _ ⟨r, b, rfl, hr, k⟩
  unfold w_law_longest
  (simp only [start, List.map_cons, List.map_nil, List.length_cons, List.length_nil, Nat.reduceAdd, Nat.reduceSub, List.replicate_succ, List.replicate_zero, List.cons_append, List.nil_append, Nat.sub_self, Nat.zero_add])
  ((with_reducible conv => whnf); repeat (first | (rw [natD_len]; with_reducible conv => whnf) | (rw [intD_len]; with_reducible conv => whnf) | (refine Exists.intro _ (And.intro (rfl : _ = some _) ?_); with_reducible conv => whnf) | (refine And.intro (okII _ _) ?_; rw [eqD_ii]; with_reducible conv => whnf) | (refine And.intro (by first | assumption | exact Exists.intro _ (by assumption) | exact ⟨rfl, rfl, by decide, by decide⟩ | exact Nat.le_of_ble_eq_true rfl | exact rfl) ?_; with_reducible conv => whnf) | (rw [isLst_at (by assumption)]; with_reducible conv => whnf) | (refine ifT rfl ?_; with_reducible conv => whnf) | (refine ifF rfl ?_; with_reducible conv => whnf) | (refine it_at (by assumption) ?_; with_reducible conv => whnf)))
  refine ⟨r, rfl, hr, fun p q S1 hne e1 f1 s1 => ?_⟩
  ((with_reducible conv => whnf); repeat (first | (rw [natD_len]; with_reducible conv => whnf) | (rw [intD_len]; with_reducible conv => whnf) | (refine Exists.intro _ (And.intro (rfl : _ = some _) ?_); with_reducible conv => whnf) | (refine And.intro (okII _ _) ?_; rw [eqD_ii]; with_reducible conv => whnf) | (refine And.intro (by first | assumption | exact Exists.intro _ (by assumption) | exact ⟨rfl, rfl, by decide, by decide⟩ | exact Nat.le_of_ble_eq_true rfl | exact rfl) ?_; with_reducible conv => whnf) | (rw [isLst_at (by assumption)]; with_reducible conv => whnf) | (refine ifT rfl ?_; with_reducible conv => whnf) | (refine ifF rfl ?_; with_reducible conv => whnf) | (refine it_at (by assumption) ?_; with_reducible conv => whnf)))
  have e2 := push_at e1 [.lst [.int 0]]
  have f2 := push_at f1 [.lst [.int 0]]
  have g2 := at_push S1 (.lst [.int 0])
  have s2 := s1.app [.lst [.int 0]]
  generalize S1 ++ [O.lst [.int 0]] = S2 at *
  generalize S1.length = z at *
  clear e1 f1 s1 S1
  rw [isLst_at f2]
  (with_reducible conv => whnf)
  have hln := rl_len r
  refine ⟨by rw [sgs_len]; exact ⟨by omega, by omega⟩, ?_⟩
  rw [sgs_len]
  refine Lc_rf (fun i => decide (((rl r).getD i (0, false)).2 = b)) (fun i => .int (((rl r).getD i (0, false)).1 : Nat)) (by unfold szL; omega) (fun _ _ => trivial) ?_ ?_
  · intro i S3 R hi s3 hR
    have hg := List.getElem?_eq_getElem hi
    have hd : (rl r).getD i (0, false) = (rl r)[i] := by rw [List.getD_eq_getElem?_getD, hg]; rfl
    have f3 := s3 _ _ f2
    have e3 := s3 _ _ e2
    have ha : atZ (sgs r) (i : Int) = some (D.str (sg (rl r)[i].2)) := atZ_nat (by unfold sgs; rw [List.getElem?_map, hg]; rfl)
    have hb : atZ (natD (lens r)) (i : Int) = some (D.int ((rl r)[i].1 : Nat)) := atZ_nat (by unfold lens; rw [natD_map, List.getElem?_map, List.getElem?_map, hg]; rfl)
    have hR := hR S3 (Sub.refl _)
    rw [hd] at hR
    ((with_reducible conv => whnf); repeat (first | (rw [natD_len]; with_reducible conv => whnf) | (rw [intD_len]; with_reducible conv => whnf) | (refine Exists.intro _ (And.intro (rfl : _ = some _) ?_); with_reducible conv => whnf) | (refine And.intro (okII _ _) ?_; rw [eqD_ii]; with_reducible conv => whnf) | (refine And.intro (by first | assumption | exact Exists.intro _ (by assumption) | exact ⟨rfl, rfl, by decide, by decide⟩ | exact Nat.le_of_ble_eq_true rfl | exact rfl) ?_; with_reducible conv => whnf) | (rw [isLst_at (by assumption)]; with_reducible conv => whnf) | (refine ifT rfl ?_; with_reducible conv => whnf) | (refine ifF rfl ?_; with_reducible conv => whnf) | (refine it_at (by assumption) ?_; with_reducible conv => whnf)))
    refine ⟨_, ha, ?_⟩
    ((with_reducible conv => whnf); repeat (first | (rw [natD_len]; with_reducible conv => whnf) | (rw [intD_len]; with_reducible conv => whnf) | (refine Exists.intro _ (And.intro (rfl : _ = some _) ?_); with_reducible conv => whnf) | (refine And.intro (okII _ _) ?_; rw [eqD_ii]; with_reducible conv => whnf) | (refine And.intro (by first | assumption | exact Exists.intro _ (by assumption) | exact ⟨rfl, rfl, by decide, by decide⟩ | exact Nat.le_of_ble_eq_true rfl | exact rfl) ?_; with_reducible conv => whnf) | (rw [isLst_at (by assumption)]; with_reducible conv => whnf) | (refine ifT rfl ?_; with_reducible conv => whnf) | (refine ifF rfl ?_; with_reducible conv => whnf) | (refine it_at (by assumption) ?_; with_reducible conv => whnf)))
    refine ⟨flatS _ b, ?_⟩
    rw [sg_eq]
    (with_reducible conv => whnf)
    refine ite_d (fun hc => ?_) fun hc => ?_
    · rw [if_pos (decide_eq_true hc)] at hR
      ((with_reducible conv => whnf); repeat (first | (rw [natD_len]; with_reducible conv => whnf) | (rw [intD_len]; with_reducible conv => whnf) | (refine Exists.intro _ (And.intro (rfl : _ = some _) ?_); with_reducible conv => whnf) | (refine And.intro (okII _ _) ?_; rw [eqD_ii]; with_reducible conv => whnf) | (refine And.intro (by first | assumption | exact Exists.intro _ (by assumption) | exact ⟨rfl, rfl, by decide, by decide⟩ | exact Nat.le_of_ble_eq_true rfl | exact rfl) ?_; with_reducible conv => whnf) | (rw [isLst_at (by assumption)]; with_reducible conv => whnf) | (refine ifT rfl ?_; with_reducible conv => whnf) | (refine ifF rfl ?_; with_reducible conv => whnf) | (refine it_at (by assumption) ?_; with_reducible conv => whnf)))
      exact ⟨_, hb, hR⟩
    · rw [if_neg (by simpa using hc)] at hR
      exact hR
  · intro S3 s3
    generalize hxs : ((List.range (rl r).length).filter fun i => decide (((rl r).getD i (0, false)).2 = b)) = js
    have g3 := push_at (s3 _ _ g2) [.lst (js.map fun i => D.int (((rl r).getD i (0, false)).1 : Nat))]
    have a3 := at_push S3 (.lst (js.map fun i => D.int (((rl r).getD i (0, false)).1 : Nat)))
    have t3 := (s2.trans s3).app [.lst (js.map fun i => D.int (((rl r).getD i (0, false)).1 : Nat))]
    have hjl : js.length ≤ 1000 := by
      rw [← hxs]
      exact Nat.le_trans (List.length_filter_le _ _) (by rw [List.length_range]; omega)
    generalize S3 ++ [O.lst (js.map fun i => D.int (((rl r).getD i (0, false)).1 : Nat))] = S4 at *
    generalize S3.length = y at *
    ((with_reducible conv => whnf); repeat (first | (rw [natD_len]; with_reducible conv => whnf) | (rw [intD_len]; with_reducible conv => whnf) | (refine Exists.intro _ (And.intro (rfl : _ = some _) ?_); with_reducible conv => whnf) | (refine And.intro (okII _ _) ?_; rw [eqD_ii]; with_reducible conv => whnf) | (refine And.intro (by first | assumption | exact Exists.intro _ (by assumption) | exact ⟨rfl, rfl, by decide, by decide⟩ | exact Nat.le_of_ble_eq_true rfl | exact rfl) ?_; with_reducible conv => whnf) | (rw [isLst_at (by assumption)]; with_reducible conv => whnf) | (refine ifT rfl ?_; with_reducible conv => whnf) | (refine ifF rfl ?_; with_reducible conv => whnf) | (refine it_at (by assumption) ?_; with_reducible conv => whnf)))
    refine ⟨by rw [List.length_map, List.length_singleton]; unfold szL; omega, ?_⟩
    have hE : [D.int 0] ++ js.map (fun i => D.int (((rl r).getD i (0, false)).1 : Nat)) = natD (0 :: js.map fun i => ((rl r).getD i (0, false)).1) := by
      rw [natD_map, List.map_cons, List.map_map]; rfl
    rw [hE]
    (with_reducible conv => whnf)
    have key := (mxl_lg b r).1
    refine ⟨_, itemsR (at_push _ _), by simp, ?_⟩
    intro m hm1 hm2
    have hmv : m = ((lg b r).1 : Nat) := by
      have hmem : ∀ v : Int, v ∈ (0 :: js.map fun i => ((rl r).getD i (0, false)).1).map (fun (k : Nat) => (k : Int)) ↔ v = 0 ∨ ∃ z ∈ rl r, z.2 = b ∧ v = (z.1 : Int) := by
        intro v
        rw [List.map_cons, List.mem_cons, List.map_map]
        refine or_congr (by simp) ?_
        rw [List.mem_map, ← hxs]
        constructor
        · rintro ⟨i, hi, rfl⟩
          obtain ⟨h1, h2⟩ := List.mem_filter.mp hi
          have hi2 := List.mem_range.mp h1
          have hg := List.getElem?_eq_getElem hi2
          have hd : (rl r).getD i (0, false) = (rl r)[i] := by rw [List.getD_eq_getElem?_getD, hg]; rfl
          rw [hd] at h2
          refine ⟨(rl r)[i], List.getElem_mem hi2, of_decide_eq_true h2, ?_⟩
          show (((rl r).getD i (0, false)).1 : Int) = _
          rw [hd]
        · rintro ⟨z, hz, hzb, rfl⟩
          obtain ⟨i, hi, rfl⟩ := List.getElem_of_mem hz
          have hg := List.getElem?_eq_getElem hi
          have hd : (rl r).getD i (0, false) = (rl r)[i] := by rw [List.getD_eq_getElem?_getD, hg]; rfl
          refine ⟨i, List.mem_filter.mpr ⟨List.mem_range.mpr hi, by rw [hd]; exact decide_eq_true hzb⟩, ?_⟩
          show (((rl r).getD i (0, false)).1 : Int) = _
          rw [hd]
      rw [← key]
      have h1 := (hmem m).mp hm1
      rcases mxl_in (b := b) (rl r) with h2 | ⟨z, z1, z2, z3⟩
      · rcases h1 with h1 | ⟨z, z1, z2, z3⟩
        · omega
        · have := mxl_ge z1 z2; omega
      · have h3 := hm2 (z.1 : Int) ((hmem _).mpr (.inr ⟨z, z1, z2, rfl⟩))
        rcases h1 with h1 | ⟨y, y1, y2, y3⟩
        · omega
        · have := mxl_ge y1 y2; omega
    rw [hmv]
    exact k _ (t3.app _)
/-- all rows of so many tosses -/
def allR : Nat → List (List Bool)
  | 0 => [[]]
  | n + 1 => (allR n).flatMap fun r => [r ++ [true], r ++ [false]]
theorem allR_len : ∀ n, (allR n).length = 2 ^ n
  | 0 => rfl
  | n + 1 => by
    have h : ∀ l : List (List Bool), (l.flatMap fun r => [r ++ [true], r ++ [false]]).length = 2 * l.length := by
      intro l
      induction l with
      | nil => rfl
      | cons x l ih =>
        rw [List.flatMap_cons, List.length_append, ih, List.length_cons]
        show 2 + 2 * l.length = 2 * (l.length + 1)
        omega
    show ((allR n).flatMap _).length = _
    rw [h, allR_len n, Nat.pow_succ]; omega
theorem allR_mem : ∀ {n : Nat} {r : List Bool}, r ∈ allR n → r.length = n
  | 0, r, h => by rw [List.mem_singleton.mp h]; rfl
  | n + 1, r, h => by
    obtain ⟨q, hq, hr⟩ := List.mem_flatMap.mp h
    have := allR_mem hq
    rcases List.mem_cons.mp hr with rfl | hr
    · rw [List.length_append, this]; rfl
    · rw [List.mem_singleton.mp hr, List.length_append, this]; rfl
def rowsD (l : List (List Bool)) : List D := l.map fun r => D.str (tx r)
@[reducible] def sp_all : Spc := fun ds S Q => ∃ n : Nat, ds = [.int n] ∧ n ≤ 12 ∧ ∀ a S', S'[a]? = some (.lst (rowsD (allR n))) → Sub S S' → Q (.ref a) S'
theorem body_law_all : Body 5 1 w_law_all sp_all := by
  rintro ds S Q _ ⟨n, rfl, hn, k⟩
  unfold w_law_all
  (simp only [start, List.map_cons, List.map_nil, List.length_cons, List.length_nil, Nat.reduceAdd, Nat.reduceSub, List.replicate_succ, List.replicate_zero, List.cons_append, List.nil_append, Nat.sub_self, Nat.zero_add])
  ((with_reducible conv => whnf); repeat (first | (rw [natD_len]; with_reducible conv => whnf) | (rw [intD_len]; with_reducible conv => whnf) | (refine Exists.intro _ (And.intro (rfl : _ = some _) ?_); with_reducible conv => whnf) | (refine And.intro (okII _ _) ?_; rw [eqD_ii]; with_reducible conv => whnf) | (refine And.intro (by first | assumption | exact Exists.intro _ (by assumption) | exact ⟨rfl, rfl, by decide, by decide⟩ | exact Nat.le_of_ble_eq_true rfl | exact rfl) ?_; with_reducible conv => whnf) | (rw [isLst_at (by assumption)]; with_reducible conv => whnf) | (refine ifT rfl ?_; with_reducible conv => whnf) | (refine ifF rfl ?_; with_reducible conv => whnf) | (refine it_at (by assumption) ?_; with_reducible conv => whnf)))
  refine ⟨⟨by omega, by omega⟩, ?_⟩
  refine Loop_mk (fun i ρ S' => ∃ a o2 o3 o4, ρ = [some (.int n), some (.ref a), o2, o3, o4] ∧ S'[a]? = some (.lst (rowsD (allR i))) ∧ Sub S S' ∧ i ≤ n) ⟨_, none, none, none, rfl, by rw [at_push, ofE]; rfl, (Sub.refl S).app _, Nat.zero_le _⟩ (by intros; trivial) ?_ ?_
  · rintro i d ρ' S' hi ⟨a, o2, o3, o4, rfl, e1, s1, _⟩
    obtain ⟨hi1, rfl⟩ := rangeD_get hi
    ((with_reducible conv => whnf); repeat (first | (rw [natD_len]; with_reducible conv => whnf) | (rw [intD_len]; with_reducible conv => whnf) | (refine Exists.intro _ (And.intro (rfl : _ = some _) ?_); with_reducible conv => whnf) | (refine And.intro (okII _ _) ?_; rw [eqD_ii]; with_reducible conv => whnf) | (refine And.intro (by first | assumption | exact Exists.intro _ (by assumption) | exact ⟨rfl, rfl, by decide, by decide⟩ | exact Nat.le_of_ble_eq_true rfl | exact rfl) ?_; with_reducible conv => whnf) | (rw [isLst_at (by assumption)]; with_reducible conv => whnf) | (refine ifT rfl ?_; with_reducible conv => whnf) | (refine ifF rfl ?_; with_reducible conv => whnf) | (refine it_at (by assumption) ?_; with_reducible conv => whnf)))
    have e2 := push_at e1 [.lst []]
    have f2 := at_push S' (.lst [])
    have s2 := s1.app [.lst []]
    generalize S' ++ [O.lst []] = S2 at *
    generalize S'.length = q at *
    clear e1 s1 S'
    rw [e2]
    (with_reducible conv => whnf)
    refine Loop_mk (fun j ρ S' => ∃ b o4, ρ = [some (.int n), some (.ref a), some (.int (0 + (i : Int))), some (.ref b), o4] ∧ S'[a]? = some (.lst (rowsD (allR i))) ∧ S'[b]? = some (.lst (rowsD (((allR i).take j).flatMap fun r => [r ++ [true], r ++ [false]]))) ∧ Sub S S') ⟨_, o4, rfl, e2, f2, s2⟩ (by rintro j ρ' S' ⟨b, o4, rfl, f1, f2⟩; exact f1) ?_ ?_
    · clear e2 f2 s2 S2
      rintro j d ρ' S' hj ⟨b, o4, rfl, e1, f1, s1⟩
      unfold rowsD at hj
      rw [List.getElem?_map] at hj
      obtain ⟨r, hr, rfl⟩ := Option.map_eq_some_iff.mp hj
      have hrl := allR_mem (List.mem_of_getElem? hr)
      rw [List.take_succ, hr]
      ((with_reducible conv => whnf); repeat (first | (rw [natD_len]; with_reducible conv => whnf) | (rw [intD_len]; with_reducible conv => whnf) | (refine Exists.intro _ (And.intro (rfl : _ = some _) ?_); with_reducible conv => whnf) | (refine And.intro (okII _ _) ?_; rw [eqD_ii]; with_reducible conv => whnf) | (refine And.intro (by first | assumption | exact Exists.intro _ (by assumption) | exact ⟨rfl, rfl, by decide, by decide⟩ | exact Nat.le_of_ble_eq_true rfl | exact rfl) ?_; with_reducible conv => whnf) | (rw [isLst_at (by assumption)]; with_reducible conv => whnf) | (refine ifT rfl ?_; with_reducible conv => whnf) | (refine ifF rfl ?_; with_reducible conv => whnf) | (refine it_at (by assumption) ?_; with_reducible conv => whnf)))
      rw [ofH, ofT, ← tx_one, ← tx_one, tx_len, tx_len]
      refine ⟨by show r.length + 1 ≤ _; unfold szL; omega, ?_⟩
      rw [tx_app]
      ((with_reducible conv => whnf); repeat (first | (rw [natD_len]; with_reducible conv => whnf) | (rw [intD_len]; with_reducible conv => whnf) | (refine Exists.intro _ (And.intro (rfl : _ = some _) ?_); with_reducible conv => whnf) | (refine And.intro (okII _ _) ?_; rw [eqD_ii]; with_reducible conv => whnf) | (refine And.intro (by first | assumption | exact Exists.intro _ (by assumption) | exact ⟨rfl, rfl, by decide, by decide⟩ | exact Nat.le_of_ble_eq_true rfl | exact rfl) ?_; with_reducible conv => whnf) | (rw [isLst_at (by assumption)]; with_reducible conv => whnf) | (refine ifT rfl ?_; with_reducible conv => whnf) | (refine ifF rfl ?_; with_reducible conv => whnf) | (refine it_at (by assumption) ?_; with_reducible conv => whnf)))
      rw [tx_len, tx_len]
      refine ⟨by show r.length + 1 ≤ _; unfold szL; omega, ?_⟩
      rw [tx_app]
      have hj2 : j < 2 ^ i := by rw [← allR_len i]; exact (List.getElem?_eq_some_iff.mp hr).1
      have h212 : 2 ^ i ≤ 4096 := Nat.pow_le_pow_right (n := 2) (by decide) (show i ≤ 12 by omega)
      have f2 := push_at f1 [.lst [D.str (tx (r ++ [true])), D.str (tx (r ++ [false]))]]
      have e2 := push_at e1 [.lst [D.str (tx (r ++ [true])), D.str (tx (r ++ [false]))]]
      have g2 := at_push S' (.lst [D.str (tx (r ++ [true])), D.str (tx (r ++ [false]))])
      have s2 := s1.app [.lst [D.str (tx (r ++ [true])), D.str (tx (r ++ [false]))]]
      ((with_reducible conv => whnf); repeat (first | (rw [natD_len]; with_reducible conv => whnf) | (rw [intD_len]; with_reducible conv => whnf) | (refine Exists.intro _ (And.intro (rfl : _ = some _) ?_); with_reducible conv => whnf) | (refine And.intro (okII _ _) ?_; rw [eqD_ii]; with_reducible conv => whnf) | (refine And.intro (by first | assumption | exact Exists.intro _ (by assumption) | exact ⟨rfl, rfl, by decide, by decide⟩ | exact Nat.le_of_ble_eq_true rfl | exact rfl) ?_; with_reducible conv => whnf) | (rw [isLst_at (by assumption)]; with_reducible conv => whnf) | (refine ifT rfl ?_; with_reducible conv => whnf) | (refine ifF rfl ?_; with_reducible conv => whnf) | (refine it_at (by assumption) ?_; with_reducible conv => whnf)))
      have hfl : ∀ l : List (List Bool), (l.flatMap fun r => [r ++ [true], r ++ [false]]).length = 2 * l.length := by
        intro l
        induction l with
        | nil => rfl
        | cons x l ih =>
          rw [List.flatMap_cons, List.length_append, ih, List.length_cons]
          show 2 + 2 * l.length = 2 * (l.length + 1)
          omega
      refine ⟨by rw [show ∀ l, (rowsD l).length = l.length from fun l => List.length_map .., hfl, List.length_take]; show _ + 2 ≤ _; unfold szL; omega, ?_⟩
      (with_reducible conv => whnf)
      refine ⟨_, _, rfl, push_at e2 _, ?_, s2.app _⟩
      rw [at_push, List.flatMap_append]
      unfold rowsD
      rw [List.map_append]
      rfl
    · clear e2 f2 s2 S2
      rintro ρ' S' ⟨b, o4, rfl, e1, f1, s1⟩
      rw [show (rowsD (allR i)).length = (allR i).length from List.length_map .., List.take_length] at f1
      ((with_reducible conv => whnf); repeat (first | (rw [natD_len]; with_reducible conv => whnf) | (rw [intD_len]; with_reducible conv => whnf) | (refine Exists.intro _ (And.intro (rfl : _ = some _) ?_); with_reducible conv => whnf) | (refine And.intro (okII _ _) ?_; rw [eqD_ii]; with_reducible conv => whnf) | (refine And.intro (by first | assumption | exact Exists.intro _ (by assumption) | exact ⟨rfl, rfl, by decide, by decide⟩ | exact Nat.le_of_ble_eq_true rfl | exact rfl) ?_; with_reducible conv => whnf) | (rw [isLst_at (by assumption)]; with_reducible conv => whnf) | (refine ifT rfl ?_; with_reducible conv => whnf) | (refine ifF rfl ?_; with_reducible conv => whnf) | (refine it_at (by assumption) ?_; with_reducible conv => whnf)))
      exact ⟨_, _, _, _, rfl, f1, s1, by omega⟩
  · rintro ρ' S' ⟨a, o2, o3, o4, rfl, e1, s1, _⟩
    rw [rangeD_len, show ((n : Int) - 0).toNat = n by omega] at e1
    ((with_reducible conv => whnf); repeat (first | (rw [natD_len]; with_reducible conv => whnf) | (rw [intD_len]; with_reducible conv => whnf) | (refine Exists.intro _ (And.intro (rfl : _ = some _) ?_); with_reducible conv => whnf) | (refine And.intro (okII _ _) ?_; rw [eqD_ii]; with_reducible conv => whnf) | (refine And.intro (by first | assumption | exact Exists.intro _ (by assumption) | exact ⟨rfl, rfl, by decide, by decide⟩ | exact Nat.le_of_ble_eq_true rfl | exact rfl) ?_; with_reducible conv => whnf) | (rw [isLst_at (by assumption)]; with_reducible conv => whnf) | (refine ifT rfl ?_; with_reducible conv => whnf) | (refine ifF rfl ?_; with_reducible conv => whnf) | (refine it_at (by assumption) ?_; with_reducible conv => whnf)))
    exact k _ _ e1 s1
end K94
set_option linter.all false
set_option maxRecDepth 100000
set_option maxHeartbeats 4000000
namespace K94
open DL
/-- heads -/
def hd (r : List Bool) : Nat := r.countP id
theorem hd_T (r : List Bool) : hd (r ++ [true]) = hd r + 1 := by unfold hd; rw [List.countP_append]; rfl
theorem hd_F (r : List Bool) : hd (r ++ [false]) = hd r := by unfold hd; rw [List.countP_append]; rfl
theorem hd_le (r : List Bool) : hd r ≤ r.length := List.countP_le_length
def wt (p q : Rat) (n : Nat) (r : List Bool) : Rat := p ^ hd r * q ^ (n - hd r)
theorem wt_T {p q : Rat} {n : Nat} {r : List Bool} : wt p q (n + 1) (r ++ [true]) = p * wt p q n r := by
  unfold wt
  rw [hd_T, Rat.pow_succ, show n + 1 - (hd r + 1) = n - hd r by omega]
  grind
theorem wt_F {p q : Rat} {n : Nat} {r : List Bool} (h : r.length = n) : wt p q (n + 1) (r ++ [false]) = q * wt p q n r := by
  unfold wt
  have := hd_le r
  rw [hd_F, show n + 1 - hd r = (n - hd r) + 1 by omega, Rat.pow_succ]
  grind
theorem rs_all {n : Nat} {f : List Bool → Rat} : rs (allR (n + 1)) f = rs (allR n) (fun r => f (r ++ [true]) + f (r ++ [false])) := by
  show rs ((allR n).flatMap _) f = _
  rw [rs_flatMap]
  exact rs_congr fun r _ => by rw [rs_cons, rs_one]
/-- with any weights -/
def dpG (p q : Rat) (k : Nat) : Nat → List Rat
  | 0 => 1 :: List.replicate (k - 1) 0
  | n + 1 => (rsum (dpG p q k n) * q) :: (dpG p q k n).dropLast.map fun x => x * p
theorem dpQ_G (p : Rat) (k : Nat) : ∀ n, dpQ p k n = dpG p (1 - p) k n
  | 0 => rfl
  | n + 1 => by
    show (rsum (dpQ p k n) * (1 - p)) :: _ = _
    rw [dpQ_G p k n]
    rfl
def FF (p q : Rat) (k n j : Nat) : Rat := rs (allR n) fun r => if (lg true r).1 < k ∧ (lg true r).2 = j then wt p q n r else 0
theorem lg_le (b : Bool) (r : List Bool) : (lg b r).2 ≤ (lg b r).1 := by
  by_cases c : r = []
  · subst c; exact Nat.le_refl _
  · have e := List.dropLast_concat_getLast c
    rw [← e, lg_snoc]
    unfold lgS
    exact Nat.le_max_right _ _
theorem rsum_rs (l : List Rat) : rsum l = rs l id := by
  induction l with
  | nil => rfl
  | cons x l ih => rw [rsum_cons, rs_cons, ih]; rfl
theorem FF_sum {p q : Rat} {k n : Nat} : rs (List.range k) (FF p q k n) = rs (allR n) (fun r => if (lg true r).1 < k then wt p q n r else 0) := by
  unfold FF
  rw [rs_swap]
  refine rs_congr fun r _ => ?_
  by_cases h : (lg true r).1 < k
  · rw [if_pos h]
    have := lg_le true r
    rw [show (fun x => if (lg true r).1 < k ∧ (lg true r).2 = x then wt p q n r else 0) = fun x => if (lg true r).2 = x then wt p q n r else 0 from funext fun x => by simp [h], rs_delta, if_pos (by omega)]
  · rw [if_neg h]
    rw [show (fun x => if (lg true r).1 < k ∧ (lg true r).2 = x then wt p q n r else 0) = fun _ => 0 from funext fun x => by simp [h], rs_zero]
theorem dpG_FF (p q : Rat) {k : Nat} (hk : 1 ≤ k) : ∀ n, dpG p q k n = (List.range k).map (FF p q k n)
  | 0 => by
    obtain ⟨m, rfl⟩ : ∃ m, k = m + 1 := ⟨k - 1, by omega⟩
    rw [List.range_succ_eq_map, List.map_cons, List.map_map]
    have h0 : ∀ j, FF p q (m + 1) 0 j = if j = 0 then 1 else 0 := fun j => by
      show rs [[]] _ = _
      rw [rs_one]
      show (if (0 < m + 1 ∧ 0 = j) then p ^ 0 * q ^ 0 else 0) = _
      rw [Rat.pow_zero, Rat.pow_zero]
      by_cases h : j = 0
      · rw [if_pos ⟨by omega, h.symm⟩, if_pos h]; grind
      · rw [if_neg (fun z => h z.2.symm), if_neg h]
    show 1 :: List.replicate m 0 = _
    rw [h0 0, if_pos rfl]
    congr 1
    rw [show (FF p q (m + 1) 0 ∘ Nat.succ) = fun _ => (0 : Rat) from funext fun j => by show FF p q (m + 1) 0 (j + 1) = 0; rw [h0, if_neg (by omega)], List.map_const', List.length_range]
  | n + 1 => by
    obtain ⟨m, rfl⟩ : ∃ m, k = m + 1 := ⟨k - 1, by omega⟩
    have ih := dpG_FF p q hk n
    show (rsum (dpG p q (m + 1) n) * q) :: (dpG p q (m + 1) n).dropLast.map (fun x => x * p) = _
    rw [ih, rsum_rs, rs_map]
    have e1 : (fun x => id (FF p q (m + 1) n x)) = FF p q (m + 1) n := rfl
    rw [e1, FF_sum, List.range_succ_eq_map]
    rw [List.map_cons, List.map_cons, List.map_map, List.map_map]
    have e2 : (FF p q (m + 1) n 0 :: List.map (FF p q (m + 1) n ∘ Nat.succ) (List.range m)).dropLast = (List.range m).map (FF p q (m + 1) n) := by
      have := List.range_succ_eq_map (n := m)
      rw [← List.map_map, ← List.map_cons (f := FF p q (m + 1) n), ← this, List.range_succ, List.map_append]
      simp
    rw [e2, List.map_map]
    congr 1
    · unfold FF
      rw [rs_all, ← rs_mul]
      refine rs_congr fun r hr => ?_
      rw [lg_snoc, lg_snoc, wt_F (allR_mem hr), wt_T]
      show _ = (if (max (lg true r).1 (if true = true then (lg true r).2 + 1 else 0) < m + 1 ∧ (if true = true then (lg true r).2 + 1 else 0) = 0) then p * wt p q n r else 0) + (if (max (lg true r).1 (if false = true then (lg true r).2 + 1 else 0) < m + 1 ∧ (if false = true then (lg true r).2 + 1 else 0) = 0) then q * wt p q n r else 0)
      rw [if_pos rfl, if_neg (show ¬ false = true by decide), if_neg (show ¬ (_ ∧ (lg true r).2 + 1 = 0) by omega)]
      by_cases h : (lg true r).1 < m + 1
      · rw [if_pos h, if_pos ⟨by omega, rfl⟩]; grind
      · rw [if_neg h, if_neg (by omega)]; grind
    · apply List.map_congr_left
      intro j hj
      have hj := List.mem_range.mp hj
      show FF p q (m + 1) n j * p = FF p q (m + 1) (n + 1) (j + 1)
      unfold FF
      rw [rs_all, ← rs_mul]
      refine rs_congr fun r hr => ?_
      rw [lg_snoc, lg_snoc, wt_F (allR_mem hr), wt_T]
      show _ = (if (max (lg true r).1 (if true = true then (lg true r).2 + 1 else 0) < m + 1 ∧ (if true = true then (lg true r).2 + 1 else 0) = j + 1) then p * wt p q n r else 0) + (if (max (lg true r).1 (if false = true then (lg true r).2 + 1 else 0) < m + 1 ∧ (if false = true then (lg true r).2 + 1 else 0) = j + 1) then q * wt p q n r else 0)
      rw [if_pos rfl, if_neg (show ¬ false = true by decide), if_neg (show ¬ (_ ∧ 0 = j + 1) by omega)]
      by_cases h : (lg true r).1 < m + 1 ∧ (lg true r).2 = j
      · rw [if_pos h, if_pos (by omega)]; grind
      · rw [if_neg h, if_neg (by omega)]; grind
/-- the chance by all rows -/
theorem dp_all (p : Rat) {k : Nat} (hk : 1 ≤ k) (n : Nat) : rsum (dpQ p k n) = rs (allR n) (fun r => if (lg true r).1 < k then wt p (1 - p) n r else 0) := by
  rw [dpQ_G, dpG_FF p _ hk n, rsum_rs, rs_map, ← FF_sum]
  rfl
theorem pow_one' : ∀ n : Nat, (1 : Rat) ^ n = 1
  | 0 => Rat.pow_zero _
  | n + 1 => by rw [Rat.pow_succ, pow_one' n]; decide +kernel
theorem wt1 (n : Nat) (r : List Bool) : wt 1 1 n r = 1 := by unfold wt; rw [pow_one', pow_one']; decide +kernel
theorem nowC_G {k : Nat} : ∀ n, (nowC k n).map (fun (x : Nat) => (x : Rat)) = dpG 1 1 k n
  | 0 => by
    show ((1 : Nat) : Rat) :: (List.replicate (k - 1) 0).map _ = 1 :: List.replicate (k - 1) 0
    rw [List.map_replicate]
    rfl
  | n + 1 => by
    show (((nowC k n).sum : Nat) : Rat) :: ((nowC k n).dropLast).map (fun (x : Nat) => (x : Rat)) = (rsum (dpG 1 1 k n) * 1) :: (dpG 1 1 k n).dropLast.map fun x => x * 1
    rw [← nowC_G n, rsum_rs, rs_map]
    have := rs_nat (nowC k n) id
    rw [List.map_id] at this
    rw [show rs (nowC k n) (fun x => id ((x : Nat) : Rat)) = rs (nowC k n) (fun x => ((id x : Nat) : Rat)) from rfl, this, List.map_dropLast]
    congr 1
    · grind
    · rw [show (fun x : Rat => x * 1) = id from funext fun x => by show x * 1 = x; grind, List.map_id]
theorem cnt_all {k : Nat} (hk : 1 ≤ k) (n : Nat) : cntW k n = ((allR n).map fun r => if (lg true r).1 < k then 1 else 0).sum := by
  have h1 : ((cntW k n : Nat) : Rat) = rsum (dpG 1 1 k n) := by
    rw [← nowC_G n, rsum_rs, rs_map]
    have := rs_nat (nowC k n) id
    rw [List.map_id] at this
    exact this.symm
  rw [dpG_FF 1 1 hk n, rsum_rs, rs_map] at h1
  have h2 : rs (List.range k) (fun x => id (FF 1 1 k n x)) = rs (List.range k) (FF 1 1 k n) := rfl
  rw [h2, FF_sum] at h1
  have h3 := rs_nat (allR n) fun r => if (lg true r).1 < k then 1 else 0
  have h4 : rs (allR n) (fun r => (((if (lg true r).1 < k then 1 else 0 : Nat)) : Rat)) = rs (allR n) (fun r => if (lg true r).1 < k then wt 1 1 n r else 0) := rs_congr fun r _ => by
    rw [wt1]
    split <;> rfl
  rw [h4] at h3
  rw [h3] at h1
  exact Rat.natCast_inj.mp h1
/-- with one half -/
theorem dpG_half (k : Nat) (c : Rat) : ∀ n, dpG c c k n = (dpG 1 1 k n).map fun x => x * c ^ n
  | 0 => by
    rw [show (fun x : Rat => x * c ^ 0) = id from funext fun x => by show x * c ^ 0 = x; rw [Rat.pow_zero]; grind, List.map_id]
    rfl
  | n + 1 => by
    show (rsum (dpG c c k n) * c) :: (dpG c c k n).dropLast.map (fun x => x * c) = ((rsum (dpG 1 1 k n) * 1) :: (dpG 1 1 k n).dropLast.map fun x => x * 1).map _
    rw [dpG_half k c n, rsum_mul, List.map_cons, ← List.map_dropLast, List.map_map, List.map_map]
    congr 1
    · rw [Rat.pow_succ]; grind
    · apply List.map_congr_left
      intro x _
      show x * c ^ n * c = x * 1 * c ^ (n + 1)
      rw [Rat.pow_succ]; grind
theorem dp_half (k n : Nat) : rsum (dpQ (Rat.divInt 1 2) k n) = ((cntW k n : Nat) : Rat) * (Rat.divInt 1 2) ^ n := by
  rw [dpQ_G, show 1 - Rat.divInt 1 2 = Rat.divInt 1 2 by decide +kernel, dpG_half, rsum_mul, ← nowC_G, rsum_rs, rs_map]
  congr 1
  have := rs_nat (nowC k n) id
  rw [List.map_id] at this
  exact this
end K94
set_option linter.all false
set_option maxRecDepth 100000
set_option maxHeartbeats 4000000
namespace K94
open DL
/-! the mean number of runs over all rows -/
def nr (r : List Bool) : Nat := (rl r).length
theorem nr_snoc (r : List Bool) (b : Bool) : nr (r ++ [b]) = nr r + match r.getLast? with | some a => (if a = b then 0 else 1) | none => 1 := by
  by_cases c : r = []
  · subst c; rfl
  · have e := List.dropLast_concat_getLast c
    obtain ⟨l, n, h1, h2⟩ := rl_same r.dropLast (r.getLast c) b
    rw [e] at h1 h2
    unfold nr
    rw [h1, h2, List.getLast?_eq_some_getLast c]
    simp only
    by_cases h : r.getLast c = b
    · rw [if_pos h, if_pos h]; simp
    · rw [if_neg h, if_neg h]; simp
def TT (p q : Rat) (n : Nat) : Rat := rs (allR n) (wt p q n)
theorem TT_1 {p q : Rat} (h : p + q = 1) : ∀ n, TT p q n = 1
  | 0 => by
    show rs [[]] _ = _
    rw [rs_one]
    show p ^ 0 * q ^ 0 = 1
    rw [Rat.pow_zero, Rat.pow_zero]
    decide +kernel
  | n + 1 => by
    have ih := TT_1 h n
    unfold TT at ih ⊢
    rw [rs_all, ← ih]
    refine rs_congr fun r hr => ?_
    rw [wt_T, wt_F (allR_mem hr)]
    grind
def LL (p q : Rat) (b : Bool) (n : Nat) : Rat := rs (allR n) fun r => if r.getLast? = some b then wt p q n r else 0
theorem LL_T {p q : Rat} (h : p + q = 1) (n : Nat) : LL p q true (n + 1) = p := by
  have := TT_1 h n
  unfold LL
  rw [rs_all]
  unfold TT at this
  refine Eq.trans (b := rs (allR n) fun r => p * wt p q n r) (rs_congr fun r hr => ?_) (by rw [rs_mulL, this]; grind)
  rw [List.getLast?_concat, List.getLast?_concat, if_pos rfl, if_neg (by decide), wt_T]
  grind
theorem LL_F {p q : Rat} (h : p + q = 1) (n : Nat) : LL p q false (n + 1) = q := by
  have := TT_1 h n
  unfold LL
  rw [rs_all]
  unfold TT at this
  refine Eq.trans (b := rs (allR n) fun r => q * wt p q n r) (rs_congr fun r hr => ?_) (by rw [rs_mulL, this]; grind)
  rw [List.getLast?_concat, List.getLast?_concat, if_neg (by decide), if_pos rfl, wt_F (allR_mem hr)]
  grind
def MM (p q : Rat) (n : Nat) : Rat := rs (allR n) fun r => wt p q n r * (nr r : Nat)
theorem MM_s {p q : Rat} (h : p + q = 1) : ∀ n, MM p q (n + 1) = 1 + ((2 * n : Nat) : Rat) * (p * q)
  | 0 => by
    unfold MM
    rw [rs_all]
    show rs [[]] _ = _
    rw [rs_one, wt_T, wt_F (n := 0) (r := []) rfl]
    show p * (p ^ 0 * q ^ 0) * ((1 : Nat) : Rat) + q * (p ^ 0 * q ^ 0) * ((1 : Nat) : Rat) = 1 + ((0 : Nat) : Rat) * (p * q)
    rw [Rat.pow_zero, Rat.pow_zero]
    have e1 : ((1 : Nat) : Rat) = 1 := rfl
    have e0 : ((0 : Nat) : Rat) = 0 := rfl
    rw [e1, e0]
    grind
  | n + 1 => by
    have ih := MM_s h n
    unfold MM at ih ⊢
    rw [rs_all]
    have step : ∀ r ∈ allR (n + 1), wt p q (n + 1 + 1) (r ++ [true]) * (nr (r ++ [true]) : Nat) + wt p q (n + 1 + 1) (r ++ [false]) * (nr (r ++ [false]) : Nat) = wt p q (n + 1) r * (nr r : Nat) + ((if r.getLast? = some false then wt p q (n + 1) r else 0) * p + (if r.getLast? = some true then wt p q (n + 1) r else 0) * q) := fun r hr => by
      have hl := allR_mem hr
      rw [wt_T, wt_F hl, nr_snoc, nr_snoc]
      cases hq : r.getLast? with
      | none =>
        have : r = [] := by simpa using hq
        rw [this] at hl
        cases hl
      | some a =>
        have e1 : ((1 : Nat) : Rat) = 1 := rfl
        have e0 : ((0 : Nat) : Rat) = 0 := rfl
        cases a
        · simp only [Rat.natCast_add, if_true, Option.some.injEq, reduceCtorEq, if_false]
          rw [e1, e0]
          grind
        · simp only [Rat.natCast_add, if_true, Option.some.injEq, reduceCtorEq, if_false]
          rw [e1, e0]
          grind
    rw [rs_congr step, rs_add, ih, rs_add, rs_mul, rs_mul]
    have h1 := LL_T h n
    have h2 := LL_F h n
    unfold LL at h1 h2
    rw [h1, h2]
    have e : ((2 * (n + 1) : Nat) : Rat) = ((2 * n : Nat) : Rat) + 2 := by rw [show 2 * (n + 1) = 2 * n + 2 by omega, Rat.natCast_add]; rfl
    rw [e]
    grind
theorem MM_mr (p : Rat) (n : Nat) : MM p (1 - p) n = mrQ p n := by
  unfold mrQ
  cases n with
  | zero =>
    rw [if_pos rfl]
    show rs [[]] _ = _
    rw [rs_one]
    show _ * ((0 : Nat) : Rat) = 0
    have e0 : ((0 : Nat) : Rat) = 0 := rfl
    rw [e0]; grind
  | succ n => rw [if_neg (by omega), MM_s (by grind)]; rfl
/-! by heads -/
def gN (f : List Bool → Nat) (L : List (List Bool)) (h : Nat) : Nat := (L.map fun r => if hd r = h then f r else 0).sum
theorem gN_rs (f : List Bool → Nat) (L : List (List Bool)) (h : Nat) : ((gN f L h : Nat) : Rat) = rs L fun r => if hd r = h then ((f r : Nat) : Rat) else 0 := by
  unfold gN
  rw [← rs_nat]
  exact rs_congr fun r _ => by split <;> rfl
theorem gN_sum {P : Nat → Rat} {f : List Bool → Nat} {L : List (List Bool)} {n : Nat} (h : ∀ r ∈ L, hd r ≤ n) : rs (List.range (n + 1)) (fun j => P j * ((gN f L j : Nat) : Rat)) = rs L fun r => P (hd r) * ((f r : Nat) : Rat) := by
  rw [rs_congr (g := fun j => rs L fun r => if hd r = j then P (hd r) * ((f r : Nat) : Rat) else 0) fun j _ => by
    rw [gN_rs, ← rs_mulL]
    refine rs_congr fun r _ => ?_
    by_cases c : hd r = j
    · rw [if_pos c, if_pos c, c]
    · rw [if_neg c, if_neg c]; grind]
  rw [rs_swap]
  exact rs_congr fun r hr => by rw [rs_delta, if_pos (by have := h r hr; omega)]
theorem gN_all {f : List Bool → Nat} {L : List (List Bool)} {n : Nat} (h : ∀ r ∈ L, hd r ≤ n) : ((List.range (n + 1)).map (gN f L)).sum = (L.map f).sum := by
  have := gN_sum (P := fun _ => 1) (f := f) h
  rw [rs_congr (g := fun j => ((gN f L j : Nat) : Rat)) fun j _ => by grind, rs_nat, rs_congr (g := fun r => ((f r : Nat) : Rat)) fun j _ => by grind, rs_nat] at this
  exact Rat.natCast_inj.mp this
theorem gN_snoc (f : List Bool → Nat) (L : List (List Bool)) (r : List Bool) (h : Nat) : gN f (L ++ [r]) h = if h = hd r then gN f L h + f r else gN f L h := by
  unfold gN
  rw [List.map_append, List.sum_append]
  by_cases c : h = hd r
  · rw [if_pos c, List.map_singleton, List.sum_singleton, if_pos c.symm]
  · rw [if_neg c, List.map_singleton, List.sum_singleton, if_neg (fun e => c e.symm)]
    rfl
def noR (k : Nat) (r : List Bool) : Nat := if (lg true r).1 < k then 1 else 0
end K94
set_option linter.all false
set_option maxRecDepth 100000
set_option maxHeartbeats 4000000
namespace K94
open DL
/-! how many rows with so many heads and runs -/
def nsm {α : Type} (l : List α) (f : α → Nat) : Nat := (l.map f).sum
theorem nsm_congr {α : Type} {l : List α} {f g : α → Nat} (h : ∀ x ∈ l, f x = g x) : nsm l f = nsm l g := by unfold nsm; rw [List.map_congr_left h]
theorem nsm_add {α : Type} (l : List α) (f g : α → Nat) : nsm l (fun x => f x + g x) = nsm l f + nsm l g := by
  unfold nsm
  induction l with
  | nil => rfl
  | cons x l ih => rw [List.map_cons, List.map_cons, List.map_cons, List.sum_cons, List.sum_cons, List.sum_cons, ih]; omega
theorem nsm_all {n : Nat} {f : List Bool → Nat} : nsm (allR (n + 1)) f = nsm (allR n) (fun r => f (r ++ [true]) + f (r ++ [false])) := by
  show nsm ((allR n).flatMap _) f = _
  unfold nsm
  induction allR n with
  | nil => rfl
  | cons x l ih =>
    rw [List.flatMap_cons, List.map_append, List.sum_append, ih, List.map_cons, List.sum_cons]
    show f (x ++ [true]) + (f (x ++ [false]) + 0) + _ = f (x ++ [true]) + f (x ++ [false]) + _
    rw [Nat.add_zero]
    rfl
theorem nsm_zero {α : Type} (l : List α) : nsm l (fun _ => 0) = 0 := by
  unfold nsm
  induction l with
  | nil => rfl
  | cons x l ih => rw [List.map_cons, List.sum_cons, ih]
def Pn : Nat → Nat → Nat
  | 0, 0 => 1
  | 0, _ + 1 => 0
  | _ + 1, 0 => 0
  | m + 1, r + 1 => chs m r
theorem Pn_s : ∀ h a, Pn (h + 1) (a + 1) = Pn h (a + 1) + Pn h a
  | 0, 0 => rfl
  | 0, a + 1 => rfl
  | h + 1, 0 => by show chs (h + 1) 0 = chs h 0 + 0; rw [chs_0, chs_0]
  | h + 1, a + 1 => by show chs (h + 1) (a + 1) = chs h (a + 1) + chs h a; show chs h a + chs h (a + 1) = _; omega
theorem parZ_n (m r : Nat) : parZ (m : Int) (r : Int) = ((Pn m r : Nat) : Int) := by
  unfold parZ
  cases r with
  | zero =>
    rw [if_pos (show ((0 : Nat) : Int) = 0 from rfl)]
    cases m with
    | zero => rfl
    | succ m => rw [if_neg (by omega)]; rfl
  | succ r =>
    rw [if_neg (by omega)]
    cases m with
    | zero => rw [if_neg (by omega)]; rfl
    | succ m => rw [if_pos (by omega), show ((m + 1 : Nat) : Int) - 1 = (m : Int) by omega, show ((r + 1 : Nat) : Int) - 1 = (r : Int) by omega, waysZ_nat]; rfl
/-- ending so -/
def cE (b : Bool) (n h m : Nat) : Nat := nsm (allR n) fun r => if hd r = h ∧ nr r = m ∧ r.getLast? = some b then 1 else 0
theorem cE_1 (b : Bool) (h m : Nat) : cE b 1 h m = if h = (if b then 1 else 0) ∧ m = 1 then 1 else 0 := by
  show (if hd [true] = h ∧ nr [true] = m ∧ ([true] : List Bool).getLast? = some b then 1 else 0) + ((if hd [false] = h ∧ nr [false] = m ∧ ([false] : List Bool).getLast? = some b then 1 else 0) + 0) = _
  have e1 : hd [true] = 1 := rfl
  have e2 : hd [false] = 0 := rfl
  have e3 : ∀ c, nr [c] = 1 := fun c => rfl
  rw [e1, e2, e3, e3]
  cases b
  · simp only [List.getLast?_singleton, Option.some.injEq, reduceCtorEq, and_false, if_false, and_true]
    rw [Nat.zero_add, Nat.add_zero]
    by_cases c : h = 0 ∧ m = 1
    · rw [if_pos (by omega), if_pos (by simpa using c)]
    · rw [if_neg (by omega), if_neg (by simpa using c)]
  · simp only [List.getLast?_singleton, Option.some.injEq, reduceCtorEq, and_false, if_false, and_true]
    rw [Nat.add_zero]
    by_cases c : h = 1 ∧ m = 1
    · rw [if_pos (by omega), if_pos (by simpa using c)]
    · rw [if_neg (by omega), if_neg (by simpa using c)]
theorem cE_T (n h m : Nat) : cE true (n + 2) h (m + 1) = match h with | 0 => 0 | h + 1 => cE true (n + 1) h (m + 1) + cE false (n + 1) h m := by
  unfold cE
  rw [nsm_all]
  cases h with
  | zero =>
    rw [nsm_congr (g := fun _ => 0) fun r _ => by
      rw [hd_T, List.getLast?_concat, List.getLast?_concat]
      rw [if_neg (by omega), if_neg (by simp)]]
    exact nsm_zero _
  | succ h =>
    show _ = nsm _ _ + nsm _ _
    rw [← nsm_add]
    refine nsm_congr fun r hr => ?_
    have hl := allR_mem hr
    rw [hd_T, nr_snoc, List.getLast?_concat, List.getLast?_concat]
    cases hq : r.getLast? with
    | none =>
      have : r = [] := by simpa using hq
      rw [this] at hl
      cases hl
    | some a =>
      cases a <;> simp only [Option.some.injEq, reduceCtorEq, and_false, if_false, and_true, if_true, Nat.add_zero, Nat.zero_add, Nat.add_right_cancel_iff]
theorem cE_F (n h m : Nat) : cE false (n + 2) h (m + 1) = cE false (n + 1) h (m + 1) + cE true (n + 1) h m := by
  unfold cE
  rw [nsm_all, ← nsm_add]
  refine nsm_congr fun r hr => ?_
  have hl := allR_mem hr
  rw [hd_F, nr_snoc r false, List.getLast?_concat, List.getLast?_concat]
  cases hq : r.getLast? with
  | none =>
    have : r = [] := by simpa using hq
    rw [this] at hl
    cases hl
  | some a =>
    cases a <;> simp only [Option.some.injEq, reduceCtorEq, and_false, if_false, and_true, if_true, Nat.add_zero, Nat.zero_add, Nat.add_right_cancel_iff]
theorem nr_pos {r : List Bool} (h : r ≠ []) : 0 < nr r := by
  have e := List.dropLast_concat_getLast h
  rw [← e, nr_snoc]
  cases hq : r.dropLast.getLast? with
  | none => simp only; omega
  | some a =>
    have h2 : r.dropLast ≠ [] := by intro z; rw [z] at hq; cases hq
    have := nr_pos h2
    omega
termination_by r.length
decreasing_by rw [List.length_dropLast]; have := List.length_pos_iff.mpr h; omega
theorem cE_0 (b : Bool) (n h : Nat) : cE b (n + 1) h 0 = 0 := by
  unfold cE
  rw [nsm_congr (g := fun _ => 0) fun r hr => by
    have hl := allR_mem hr
    have := nr_pos (r := r) (by intro z; rw [z] at hl; cases hl)
    rw [if_neg (by omega)]]
  exact nsm_zero _
/-- the rows, by their last sign -/
theorem cE_eq : ∀ (n h m : Nat), (h ≤ n + 1 → cE true (n + 1) h m = Pn h ((m + 1) / 2) * Pn (n + 1 - h) (m / 2)) ∧ (h ≤ n + 1 → cE false (n + 1) h m = Pn (n + 1 - h) ((m + 1) / 2) * Pn h (m / 2)) ∧ (n + 1 < h → cE true (n + 1) h m = 0 ∧ cE false (n + 1) h m = 0)
  | n, h, 0 => by
    rw [cE_0, cE_0]
    refine ⟨fun hh => ?_, fun hh => ?_, fun _ => ⟨rfl, rfl⟩⟩
    · show 0 = Pn h 0 * Pn (n + 1 - h) 0
      cases h with
      | zero => show 0 = Pn 0 0 * Pn (n + 1) 0; rfl
      | succ h => show 0 = 0 * _; omega
    · show 0 = Pn (n + 1 - h) 0 * Pn h 0
      cases h with
      | zero => show 0 = Pn (n + 1) 0 * Pn 0 0; rfl
      | succ h => show 0 = _ * 0; omega
  | 0, h, m + 1 => by
    rw [cE_1, cE_1]
    rcases (show h = 0 ∨ h = 1 ∨ 2 ≤ h by omega) with rfl | rfl | hh
    · refine ⟨fun _ => ?_, fun _ => ?_, fun z => absurd z (by omega)⟩
      · rw [if_neg (by simp), show (m + 1 + 1) / 2 = m / 2 + 1 by omega]
        show 0 = 0 * _
        omega
      · cases m with
        | zero => rfl
        | succ m => rw [if_neg (by omega)]; rw [show (m + 1 + 1 + 1) / 2 = (m + 1) / 2 + 1 by omega, show (m + 1 + 1) / 2 = m / 2 + 1 by omega]; show 0 = _ * 0; omega
    · refine ⟨fun _ => ?_, fun _ => ?_, fun z => absurd z (by omega)⟩
      · cases m with
        | zero => rfl
        | succ m => rw [if_neg (by omega)]; rw [show (m + 1 + 1 + 1) / 2 = (m + 1) / 2 + 1 by omega, show (m + 1 + 1) / 2 = m / 2 + 1 by omega]; show 0 = _ * 0; omega
      · rw [if_neg (by simp), show (m + 1 + 1) / 2 = m / 2 + 1 by omega]
        show 0 = 0 * _
        omega
    · refine ⟨fun _ => by omega, fun _ => by omega, fun _ => ⟨if_neg (by simp; omega), if_neg (by simp; omega)⟩⟩
  | n + 1, h, m + 1 => by
    have F := cE_eq n h (m + 1)
    have F2 := cE_eq n h m
    rw [cE_T, cE_F]
    refine ⟨fun hh => ?_, fun hh => ?_, fun hh => ⟨?_, ?_⟩⟩
    · cases h with
      | zero => rw [show (m + 1 + 1) / 2 = m / 2 + 1 by omega]; show 0 = 0 * _; omega
      | succ h =>
        have T := cE_eq n h (m + 1)
        have T2 := cE_eq n h m
        simp only
        rw [T.1 (by omega), T2.2.1 (by omega), show (m + 1 + 1) / 2 = m / 2 + 1 by omega, Pn_s, show n + 1 + 1 - (h + 1) = n + 1 - h by omega, Nat.add_mul, Nat.mul_comm (Pn (n + 1 - h) ((m + 1) / 2))]
    · by_cases c : h = n + 2
      · subst c
        rw [(F.2.2 (by omega)).2, (F2.2.2 (by omega)).1, show (m + 1 + 1) / 2 = m / 2 + 1 by omega, show n + 1 + 1 - (n + 2) = 0 by omega]
        show 0 = 0 * _
        omega
      · rw [F.2.1 (by omega), F2.1 (by omega), show (m + 1 + 1) / 2 = m / 2 + 1 by omega, show n + 1 + 1 - h = (n + 1 - h) + 1 by omega, Pn_s, Nat.add_mul, Nat.mul_comm (Pn h ((m + 1) / 2))]
    · cases h with
      | zero => rfl
      | succ h =>
        simp only
        rw [((cE_eq n h (m + 1)).2.2 (by omega)).1, ((cE_eq n h m).2.2 (by omega)).2]
    · rw [(F.2.2 (by omega)).2, (F2.2.2 (by omega)).1]
def cR (n h m : Nat) : Nat := nsm (allR n) fun r => if hd r = h ∧ nr r = m then 1 else 0
theorem cR_E (n h m : Nat) : cR (n + 1) h m = cE true (n + 1) h m + cE false (n + 1) h m := by
  unfold cR cE
  rw [← nsm_add]
  refine nsm_congr fun r hr => ?_
  have hl := allR_mem hr
  cases hq : r.getLast? with
  | none =>
    have : r = [] := by simpa using hq
    rw [this] at hl
    cases hl
  | some a => cases a <;> simp
theorem cR_cbr {n h : Nat} (hh : h ≤ n) (m : Nat) : ((cR n h m : Nat) : Int) = cbrZ h ((n : Int) - h) m := by
  unfold cbrZ
  cases n with
  | zero =>
    obtain rfl : h = 0 := by omega
    rw [if_pos (.inl rfl)]
    cases m with
    | zero => rfl
    | succ m => rw [if_neg (by omega)]; rfl
  | succ n =>
    rw [cR_E]
    have e := cE_eq n h m
    cases m with
    | zero =>
      rw [cE_0, cE_0, if_pos (.inr (by omega)), if_neg (by omega)]; rfl
    | succ m =>
      rw [if_neg (by omega), e.1 hh, e.2.1 hh]
      have d1 : ((((m + 1 : Nat)) : Int) + 1).fdiv 2 = (((m + 1 + 1) / 2 : Nat) : Int) := by rw [Int.fdiv_eq_ediv_of_nonneg _ (by omega)]; omega
      have d2 : (((m + 1 : Nat)) : Int).fdiv 2 = (((m + 1) / 2 : Nat) : Int) := by rw [Int.fdiv_eq_ediv_of_nonneg _ (by omega)]; omega
      rw [d1, d2, show (((n + 1 : Nat)) : Int) - (h : Int) = ((n + 1 - h : Nat) : Int) by omega, parZ_n, parZ_n, parZ_n, parZ_n, Int.natCast_add, Int.natCast_mul, Int.natCast_mul]
      congr 1
      exact Int.mul_comm _ _
/-- rows by their heads -/
theorem cH : ∀ n h : Nat, nsm (allR n) (fun r => if hd r = h then 1 else 0) = chs n h
  | 0, 0 => rfl
  | 0, h + 1 => rfl
  | n + 1, 0 => by
    have ih := cH n 0
    rw [chs_0] at ih ⊢
    rw [nsm_all]
    refine Eq.trans (nsm_congr fun r _ => ?_) ih
    rw [hd_T, hd_F, if_neg (by omega), Nat.zero_add]
  | n + 1, h + 1 => by
    rw [nsm_all]
    show _ = chs n h + chs n (h + 1)
    rw [← cH n h, ← cH n (h + 1), ← nsm_add]
    refine nsm_congr fun r _ => ?_
    rw [hd_T, hd_F]
    simp only [Nat.add_right_cancel_iff]
theorem nsm_swap {α β : Type} (l : List α) (m : List β) (f : α → β → Nat) : nsm l (fun x => nsm m (f x)) = nsm m (fun y => nsm l fun x => f x y) := by
  induction l with
  | nil => exact (nsm_zero m).symm
  | cons x l ih =>
    show nsm m (f x) + nsm l (fun x => nsm m (f x)) = nsm m fun y => f x y + nsm l fun x => f x y
    rw [ih, nsm_add]
theorem nsm_delta (n j : Nat) : nsm (List.range n) (fun i => if j = i then 1 else 0) = if j < n then 1 else 0 := by
  unfold nsm
  induction n with
  | zero => rfl
  | succ n ih =>
    rw [List.range_succ, List.map_append, List.sum_append, ih, List.map_singleton, List.sum_singleton]
    by_cases h : j < n
    · rw [if_pos h, if_neg (by omega), if_pos (by omega)]
    · rw [if_neg h]
      by_cases h2 : j = n
      · rw [if_pos h2, if_pos (by omega)]
      · rw [if_neg h2, if_neg (by omega)]
theorem cR_sum (n h : Nat) : nsm (List.range (n + 1)) (cR n h) = chs n h := by
  rw [← cH n h]
  unfold cR
  rw [nsm_swap]
  refine nsm_congr fun r hr => ?_
  by_cases c : hd r = h
  · rw [if_pos c]
    rw [show (fun x => if hd r = h ∧ nr r = x then 1 else 0) = fun x => if nr r = x then 1 else 0 from funext fun x => by simp [c], nsm_delta, if_pos]
    have := rl_len r
    rw [allR_mem hr] at this
    unfold nr
    omega
  · rw [if_neg c, show (fun x => if hd r = h ∧ nr r = x then 1 else 0) = fun x => 0 from funext fun x => by simp [c]]
    exact nsm_zero _
end K94
set_option linter.all false
set_option maxRecDepth 100000
set_option maxHeartbeats 4000000
namespace K94
open DL
theorem Chn.one_sub {p : Rat} (h : Chn p) : Chn (1 - p) := by
  have o1 : Ov p.den (1 - p) := by have := (Ov_int p.den 1).sub (Ov_self p); exact this
  have := Nat.le_of_dvd p.den_pos o1
  exact ⟨by have := h.hi; grind, by have := h.lo; grind, Nat.le_trans this h.den⟩
theorem pow_nn {p : Rat} (h : Chn p) : ∀ i, 0 ≤ p ^ i ∧ p ^ i ≤ 1 ∧ Ov (p.den ^ i) (p ^ i)
  | 0 => by rw [Rat.pow_zero]; exact ⟨by decide +kernel, by decide +kernel, Ov_int 1 1⟩
  | i + 1 => by
    obtain ⟨h1, h2, h3⟩ := pow_nn h i
    have := le_mul1 h1 h2 h.lo h.hi
    rw [Rat.pow_succ, Nat.pow_succ]
    exact ⟨this.1, this.2, h3.mul (Ov_self p)⟩
theorem den_pow {p : Rat} (h : Chn p) {i : Nat} (hi : i ≤ 60) : p.den ^ i < 2 ^ 301 := by
  refine Nat.lt_of_le_of_lt (Nat.pow_le_pow_left (show p.den ≤ 2 ^ 5 by have := h.den; omega) i) ?_
  rw [← Nat.pow_mul]
  exact Nat.pow_lt_pow_right (by decide) (by omega)
theorem pow_sm {p : Rat} (h : Chn p) {i : Nat} (hi : i ≤ 60) : smS (p ^ i) := by
  obtain ⟨h1, h2, h3⟩ := pow_nn h i
  exact smS_of h3 (Nat.pow_pos p.den_pos) (M := 1) (by have : ((1 : Nat) : Rat) = 1 := rfl; grind) h2 (Nat.lt_trans (den_pow h hi) (Nat.pow_lt_pow_right (by decide) (by decide))) (Nat.one_lt_two_pow (by decide))
/-- the chance of a row with so many heads -/
def pt (p : Rat) (n h : Nat) : Rat := p ^ h * (1 - p) ^ (n - h)
theorem sub_den (p : Rat) : (1 - p).den ∣ p.den := by have := (Ov_int p.den 1).sub (Ov_self p); exact this
theorem dvd_pow {a b : Nat} (h : a ∣ b) : ∀ n, a ^ n ∣ b ^ n
  | 0 => Nat.dvd_refl _
  | n + 1 => by rw [Nat.pow_succ, Nat.pow_succ]; exact Nat.mul_dvd_mul (dvd_pow h n) h
theorem pt_ok {p : Rat} (hp : Chn p) {n h : Nat} (hh : h ≤ n) (hn : n ≤ 30) : 0 ≤ pt p n h ∧ pt p n h ≤ 1 ∧ Ov (p.den ^ n) (pt p n h) := by
  obtain ⟨h1, h2, h3⟩ := pow_nn hp h
  obtain ⟨g1, g2, g3⟩ := pow_nn hp.one_sub (n - h)
  have := le_mul1 h1 h2 g1 g2
  refine ⟨this.1, this.2, ?_⟩
  have e : p.den ^ n = p.den ^ h * p.den ^ (n - h) := by rw [← Nat.pow_add]; congr 1; omega
  rw [e]
  exact h3.mul (g3.mono (dvd_pow (sub_den p) _))
theorem gN_le {f : List Bool → Nat} {B : Nat} {L : List (List Bool)} (hf : ∀ r ∈ L, f r ≤ B) (h : Nat) : gN f L h ≤ L.length * B := by
  unfold gN
  induction L with
  | nil => exact Nat.zero_le _
  | cons r L ih =>
    rw [List.map_cons, List.sum_cons, List.length_cons, Nat.succ_mul]
    have h1 := hf r List.mem_cons_self
    have h2 := ih fun x hx => hf x (List.mem_cons_of_mem _ hx)
    split <;> omega
/-- sums of chances times whole numbers -/
theorem term_ok {p : Rat} (hp : Chn p) {n h B c : Nat} (hh : h ≤ n) (hn : n ≤ 30) (hc : c ≤ B) : 0 ≤ pt p n h * (c : Rat) ∧ pt p n h * (c : Rat) ≤ (B : Rat) ∧ Ov (p.den ^ n) (pt p n h * (c : Rat)) := by
  obtain ⟨h1, h2, h3⟩ := pt_ok hp hh hn
  have c0 : (0 : Rat) ≤ (c : Rat) := by exact_mod_cast Nat.zero_le _
  have cB : (c : Rat) ≤ (B : Rat) := by exact_mod_cast hc
  refine ⟨Rat.mul_nonneg h1 c0, ?_, ?_⟩
  · have := Rat.mul_le_mul_of_nonneg_right h2 c0
    grind
  · have := h3.mul (show Ov 1 ((c : Nat) : Rat) from Ov_int 1 (c : Int))
    rwa [Nat.mul_one] at this
theorem part_ok {p : Rat} (hp : Chn p) {n B : Nat} {g : Nat → Nat} (hn : n ≤ 30) (hc : ∀ h, g h ≤ B) : ∀ j, j ≤ n + 1 → 0 ≤ rs (List.range j) (fun h => pt p n h * (g h : Rat)) ∧ rs (List.range j) (fun h => pt p n h * (g h : Rat)) ≤ ((j * B : Nat) : Rat) ∧ Ov (p.den ^ n) (rs (List.range j) (fun h => pt p n h * (g h : Rat)))
  | 0, _ => by rw [List.range_zero, rs_nil, Nat.zero_mul]; exact ⟨by decide +kernel, by decide +kernel, Ov_int _ 0⟩
  | j + 1, hj => by
    obtain ⟨i1, i2, i3⟩ := part_ok hp hn hc j (by omega)
    obtain ⟨t1, t2, t3⟩ := term_ok hp (show j ≤ n by omega) hn (hc j)
    rw [rs_range_s]
    refine ⟨by grind, ?_, i3.add t3⟩
    rw [Nat.succ_mul, Rat.natCast_add]
    grind
theorem big_sm {p x : Rat} (hp : Chn p) {n M : Nat} (hn : n ≤ 30) (h : 0 ≤ x ∧ x ≤ (M : Rat) ∧ Ov (p.den ^ n) x) (hM : M < 2 ^ 60) : smS x := by
  have c0 : (0 : Rat) ≤ (M : Rat) := by exact_mod_cast Nat.zero_le _
  exact smS_of h.2.2 (Nat.pow_pos p.den_pos) (M := M) (by grind) h.2.1 (Nat.lt_trans (den_pow hp (by omega)) (Nat.pow_lt_pow_right (by decide) (by decide))) (Nat.lt_of_lt_of_le hM (pow_le2 (by decide)))
def gR (L : List (List Bool)) (h m : Nat) : Nat := nsm L fun r => if hd r = h ∧ nr r = m then 1 else 0
theorem gR_snoc (L : List (List Bool)) (r : List Bool) (h m : Nat) : gR (L ++ [r]) h m = if h = hd r ∧ m = nr r then gR L h m + 1 else gR L h m := by
  unfold gR nsm
  rw [List.map_append, List.sum_append, List.map_singleton, List.sum_singleton]
  by_cases c : h = hd r ∧ m = nr r
  · rw [if_pos c, if_pos ⟨c.1.symm, c.2.symm⟩]
  · rw [if_neg c, if_neg (fun z => c ⟨z.1.symm, z.2.symm⟩)]
    rfl
structure TB (kvs : List (List Ky × D)) (L : List (List Bool)) (i : Nat) : Prop where
  len : kvs.length ≤ i
  val : ∀ h m : Nat, (valK kvs [.inl (h : Int), .inl (m : Int)]).getD (.int 0) = .int (gR L h m : Nat)
theorem TB.put {kvs : List (List Ky × D)} {L : List (List Bool)} {i : Nat} (t : TB kvs L i) (r : List Bool) : TB (putD kvs [.inl (hd r : Int), .inl (nr r : Int)] (.int ((gR L (hd r) (nr r) : Nat) + 1))) (L ++ [r]) (i + 1) := by
  refine ⟨Nat.le_trans (putD_len _ _ _) (by have := t.len; omega), fun h m => ?_⟩
  rw [valK_put, gR_snoc]
  by_cases c : h = hd r ∧ m = nr r
  · rw [if_pos (by rw [c.1, c.2]), if_pos c, c.1, c.2]
    rfl
  · rw [if_neg (fun e => c ?_), if_neg c, t.val]
    injection e with e1 e2
    injection e2 with e2 _
    injection e1 with e1
    injection e2 with e2
    exact ⟨by omega, by omega⟩
theorem nat_set_map {f g : Nat → Nat} {n j : Nat} (hj : j < n) (h : ∀ i, i < n → g i = if i = j then f i + (g j - f j) else f i) : ((List.range n).map f).set j (g j) = (List.range n).map g := by
  apply List.ext_getElem?
  intro i
  rw [List.getElem?_set, List.getElem?_map, List.length_map, List.length_range]
  by_cases hi : i < n
  · rw [List.getElem?_map, List.getElem?_range hi]
    by_cases c : j = i
    · rw [if_pos c, if_pos hj, c]; rfl
    · rw [if_neg c]
      show some (f i) = some (g i)
      rw [h i hi, if_neg (fun e => c e.symm)]
  · rw [List.getElem?_map, List.getElem?_eq_none (by rw [List.length_range]; omega), if_neg (by omega)]
    rfl
end K94
set_option linter.all false
set_option maxRecDepth 100000
set_option maxHeartbeats 4000000
namespace K94
open DL
@[reducible] def sp_few : Spc := fun ds S Q => ∃ (p : Rat) (n k : Nat), ds = [qD p, .int n, .int k] ∧ Chn p ∧ n ≤ 9 ∧ 1 ≤ k ∧ k ≤ 5 ∧ ∀ S', Sub S S' → Q (.bl true) S'
theorem hdL (r : List Bool) : ((r.filter fun b => decide (b = true)).map fun b => D.str (sg b)).length = hd r := by
  rw [List.length_map]
  unfold hd
  rw [List.countP_eq_length_filter]
  congr 1
  apply List.filter_congr
  intro b _
  cases b <;> rfl
theorem dq1 (q : Rat) : deep (qD q) ≤ 1 := by show max 0 (max 0 0) + 1 ≤ 1; decide
theorem body_law_few : Body 15 3 (w_law_few (sp_s2 (· - ·)) sp_pow (sp_s2 (· * ·)) sp_all sp_longest sp_lruns (sp_s2 (· + ·)) sp_cbr (sp_same 2) sp_cw sp_cwo sp_mr) sp_few := by
  rintro ds S Q _ ⟨p, n, kk, rfl, hp, hn, hk1, hk2, k⟩
  unfold w_law_few
  (simp only [start, List.map_cons, List.map_nil, List.length_cons, List.length_nil, Nat.reduceAdd, Nat.reduceSub, List.replicate_succ, List.replicate_zero, List.cons_append, List.nil_append, Nat.sub_self, Nat.zero_add])
  ((with_reducible conv => whnf); repeat (first | (rw [natD_len]; with_reducible conv => whnf) | (rw [intD_len]; with_reducible conv => whnf) | (refine Exists.intro _ (And.intro (rfl : _ = some _) ?_); with_reducible conv => whnf) | (refine And.intro (okII _ _) ?_; rw [eqD_ii]; with_reducible conv => whnf) | (refine And.intro (by first | assumption | exact Exists.intro _ (by assumption) | exact ⟨rfl, rfl, by decide, by decide⟩ | exact Nat.le_of_ble_eq_true rfl | exact rfl) ?_; with_reducible conv => whnf) | (rw [isLst_at (by assumption)]; with_reducible conv => whnf) | (refine ifT rfl ?_; with_reducible conv => whnf) | (refine ifF rfl ?_; with_reducible conv => whnf) | (refine it_at (by assumption) ?_; with_reducible conv => whnf)))
  refine ⟨1, p, rfl, sm1, hp.sm, fun S1 s1 => ?_⟩
  ((with_reducible conv => whnf); repeat (first | (rw [natD_len]; with_reducible conv => whnf) | (rw [intD_len]; with_reducible conv => whnf) | (refine Exists.intro _ (And.intro (rfl : _ = some _) ?_); with_reducible conv => whnf) | (refine And.intro (okII _ _) ?_; rw [eqD_ii]; with_reducible conv => whnf) | (refine And.intro (by first | assumption | exact Exists.intro _ (by assumption) | exact ⟨rfl, rfl, by decide, by decide⟩ | exact Nat.le_of_ble_eq_true rfl | exact rfl) ?_; with_reducible conv => whnf) | (rw [isLst_at (by assumption)]; with_reducible conv => whnf) | (refine ifT rfl ?_; with_reducible conv => whnf) | (refine ifF rfl ?_; with_reducible conv => whnf) | (refine it_at (by assumption) ?_; with_reducible conv => whnf)))
  refine ⟨⟨by omega, by omega⟩, ?_⟩
  rw [show (n : Int) + 1 = ((n + 1 : Nat) : Int) by omega]
  refine Lc_rm (fun h => qD (pt p n h)) (by unfold szL; omega) (fun _ _ => trivial) ?_ ?_
  · intro h S' R hh s2 hR
    ((with_reducible conv => whnf); repeat (first | (rw [natD_len]; with_reducible conv => whnf) | (rw [intD_len]; with_reducible conv => whnf) | (refine Exists.intro _ (And.intro (rfl : _ = some _) ?_); with_reducible conv => whnf) | (refine And.intro (okII _ _) ?_; rw [eqD_ii]; with_reducible conv => whnf) | (refine And.intro (by first | assumption | exact Exists.intro _ (by assumption) | exact ⟨rfl, rfl, by decide, by decide⟩ | exact Nat.le_of_ble_eq_true rfl | exact rfl) ?_; with_reducible conv => whnf) | (rw [isLst_at (by assumption)]; with_reducible conv => whnf) | (refine ifT rfl ?_; with_reducible conv => whnf) | (refine ifF rfl ?_; with_reducible conv => whnf) | (refine it_at (by assumption) ?_; with_reducible conv => whnf)))
    refine ⟨p, h, rfl, by omega, fun i hi => pow_sm hp (by omega), fun S3 s3 => ?_⟩
    ((with_reducible conv => whnf); repeat (first | (rw [natD_len]; with_reducible conv => whnf) | (rw [intD_len]; with_reducible conv => whnf) | (refine Exists.intro _ (And.intro (rfl : _ = some _) ?_); with_reducible conv => whnf) | (refine And.intro (okII _ _) ?_; rw [eqD_ii]; with_reducible conv => whnf) | (refine And.intro (by first | assumption | exact Exists.intro _ (by assumption) | exact ⟨rfl, rfl, by decide, by decide⟩ | exact Nat.le_of_ble_eq_true rfl | exact rfl) ?_; with_reducible conv => whnf) | (rw [isLst_at (by assumption)]; with_reducible conv => whnf) | (refine ifT rfl ?_; with_reducible conv => whnf) | (refine ifF rfl ?_; with_reducible conv => whnf) | (refine it_at (by assumption) ?_; with_reducible conv => whnf)))
    refine ⟨1 - p, n - h, by rw [show ((n - h : Nat) : Int) = (n : Int) - h by omega], by omega, fun i hi => pow_sm hp.one_sub (by omega), fun S4 s4 => ?_⟩
    ((with_reducible conv => whnf); repeat (first | (rw [natD_len]; with_reducible conv => whnf) | (rw [intD_len]; with_reducible conv => whnf) | (refine Exists.intro _ (And.intro (rfl : _ = some _) ?_); with_reducible conv => whnf) | (refine And.intro (okII _ _) ?_; rw [eqD_ii]; with_reducible conv => whnf) | (refine And.intro (by first | assumption | exact Exists.intro _ (by assumption) | exact ⟨rfl, rfl, by decide, by decide⟩ | exact Nat.le_of_ble_eq_true rfl | exact rfl) ?_; with_reducible conv => whnf) | (rw [isLst_at (by assumption)]; with_reducible conv => whnf) | (refine ifT rfl ?_; with_reducible conv => whnf) | (refine ifF rfl ?_; with_reducible conv => whnf) | (refine it_at (by assumption) ?_; with_reducible conv => whnf)))
    refine ⟨p ^ h, (1 - p) ^ (n - h), rfl, pow_sm hp (by omega), pow_sm hp.one_sub (by omega), fun S5 s5 => ?_⟩
    exact hR _ (s3.trans (s4.trans s5))
  intro S2 s2
  replace s1 := (s1.trans s2).app [.lst ((List.range (n + 1)).map fun h => qD (pt p n h))]
  have a4 := at_push S2 (.lst ((List.range (n + 1)).map fun h => qD (pt p n h)))
  clear s2 S1
  generalize S2 ++ [O.lst ((List.range (n + 1)).map fun h => qD (pt p n h))] = S1 at *
  generalize S2.length = p4 at *
  clear S2
  ((with_reducible conv => whnf); repeat (first | (rw [natD_len]; with_reducible conv => whnf) | (rw [intD_len]; with_reducible conv => whnf) | (refine Exists.intro _ (And.intro (rfl : _ = some _) ?_); with_reducible conv => whnf) | (refine And.intro (okII _ _) ?_; rw [eqD_ii]; with_reducible conv => whnf) | (refine And.intro (by first | assumption | exact Exists.intro _ (by assumption) | exact ⟨rfl, rfl, by decide, by decide⟩ | exact Nat.le_of_ble_eq_true rfl | exact rfl) ?_; with_reducible conv => whnf) | (rw [isLst_at (by assumption)]; with_reducible conv => whnf) | (refine ifT rfl ?_; with_reducible conv => whnf) | (refine ifF rfl ?_; with_reducible conv => whnf) | (refine it_at (by assumption) ?_; with_reducible conv => whnf)))
  have z0 : ∀ f, natD (List.replicate (n + 1) 0) = natD ((List.range (n + 1)).map (gN f [])) := fun f => by
    congr 1
    rw [show gN f [] = fun _ => 0 from funext fun _ => rfl, List.map_const', List.length_range]
  rw [isLst_at (at_push _ _)]
  refine ⟨⟨by omega, by omega⟩, by rw [List.length_singleton]; unfold szL; omega, ?_⟩
  rw [show ((n : Int) + 1).toNat = n + 1 by omega, show (List.replicate (n + 1) [D.int 0]).flatten = natD (List.replicate (n + 1) 0) from natD_rep (n + 1) 0, z0 (noR kk)]
  (with_reducible conv => whnf)
  have b4 := push_at (push_at a4 [.lst [.int 0]]) [.lst (natD ((List.range (n + 1)).map (gN (noR kk) [])))]
  have b6 := at_push (S1 ++ [.lst [.int 0]]) (.lst (natD ((List.range (n + 1)).map (gN (noR kk) []))))
  have g6 : S.length ≤ S1.length + 1 := by have := s1.len; omega
  replace s1 := (s1.app [.lst [.int 0]]).app [.lst (natD ((List.range (n + 1)).map (gN (noR kk) [])))]
  have l4 := at_lt a4
  have h6 : (S1 ++ [O.lst [.int 0]]).length = S1.length + 1 := by simp
  have n46 : p4 ≠ S1.length + 1 := by omega
  rw [h6] at b6 ⊢
  generalize S1.length + 1 = p6 at *
  clear a4 l4 h6
  generalize S1 ++ [O.lst [.int 0]] ++ [O.lst (natD ((List.range (n + 1)).map (gN (noR kk) [])))] = S2 at *
  clear S1
  ((with_reducible conv => whnf); repeat (first | (rw [natD_len]; with_reducible conv => whnf) | (rw [intD_len]; with_reducible conv => whnf) | (refine Exists.intro _ (And.intro (rfl : _ = some _) ?_); with_reducible conv => whnf) | (refine And.intro (okII _ _) ?_; rw [eqD_ii]; with_reducible conv => whnf) | (refine And.intro (by first | assumption | exact Exists.intro _ (by assumption) | exact ⟨rfl, rfl, by decide, by decide⟩ | exact Nat.le_of_ble_eq_true rfl | exact rfl) ?_; with_reducible conv => whnf) | (rw [isLst_at (by assumption)]; with_reducible conv => whnf) | (refine ifT rfl ?_; with_reducible conv => whnf) | (refine ifF rfl ?_; with_reducible conv => whnf) | (refine it_at (by assumption) ?_; with_reducible conv => whnf)))
  have c4 := push_at b4 [.dT []]
  have c6 := push_at b6 [.dT []]
  have c8 := at_push S2 (.dT [])
  have g8 : S.length ≤ S2.length := s1.len
  have s2 := s1.app [.dT []]
  have l4 := at_lt b4
  have l6 := at_lt b6
  have n48 : p4 ≠ S2.length := by omega
  have n68 : p6 ≠ S2.length := by omega
  generalize S2.length = p8 at *
  generalize S2 ++ [O.dT []] = S3 at *
  clear b4 b6 s1 l4 l6 S2
  ((with_reducible conv => whnf); repeat (first | (rw [natD_len]; with_reducible conv => whnf) | (rw [intD_len]; with_reducible conv => whnf) | (refine Exists.intro _ (And.intro (rfl : _ = some _) ?_); with_reducible conv => whnf) | (refine And.intro (okII _ _) ?_; rw [eqD_ii]; with_reducible conv => whnf) | (refine And.intro (by first | assumption | exact Exists.intro _ (by assumption) | exact ⟨rfl, rfl, by decide, by decide⟩ | exact Nat.le_of_ble_eq_true rfl | exact rfl) ?_; with_reducible conv => whnf) | (rw [isLst_at (by assumption)]; with_reducible conv => whnf) | (refine ifT rfl ?_; with_reducible conv => whnf) | (refine ifF rfl ?_; with_reducible conv => whnf) | (refine it_at (by assumption) ?_; with_reducible conv => whnf)))
  rw [isLst_at (at_push _ _)]
  refine ⟨⟨by omega, by omega⟩, by rw [List.length_singleton]; unfold szL; omega, ?_⟩
  rw [show ((n : Int) + 1).toNat = n + 1 by omega, show (List.replicate (n + 1) [D.int 0]).flatten = natD (List.replicate (n + 1) 0) from natD_rep (n + 1) 0, z0 nr]
  (with_reducible conv => whnf)
  have d4 := push_at (push_at c4 [.lst [.int 0]]) [.lst (natD ((List.range (n + 1)).map (gN nr [])))]
  have d6 := push_at (push_at c6 [.lst [.int 0]]) [.lst (natD ((List.range (n + 1)).map (gN nr [])))]
  have d8 := push_at (push_at c8 [.lst [.int 0]]) [.lst (natD ((List.range (n + 1)).map (gN nr [])))]
  have d9 := at_push (S3 ++ [.lst [.int 0]]) (.lst (natD ((List.range (n + 1)).map (gN nr []))))
  have g9 : S.length ≤ S3.length + 1 := by have := s2.len; omega
  replace s2 := (s2.app [.lst [.int 0]]).app [.lst (natD ((List.range (n + 1)).map (gN nr [])))]
  have l4 := at_lt c4
  have l6 := at_lt c6
  have l8 := at_lt c8
  have h9 : (S3 ++ [O.lst [.int 0]]).length = S3.length + 1 := by simp
  have n49 : p4 ≠ S3.length + 1 := by omega
  have n69 : p6 ≠ S3.length + 1 := by omega
  have n89 : p8 ≠ S3.length + 1 := by omega
  rw [h9] at d9 ⊢
  generalize S3.length + 1 = p9 at *
  clear c4 c6 c8 l4 l6 l8 h9
  generalize S3 ++ [O.lst [.int 0]] ++ [O.lst (natD ((List.range (n + 1)).map (gN nr [])))] = S4 at *
  clear S3
  ((with_reducible conv => whnf); repeat (first | (rw [natD_len]; with_reducible conv => whnf) | (rw [intD_len]; with_reducible conv => whnf) | (refine Exists.intro _ (And.intro (rfl : _ = some _) ?_); with_reducible conv => whnf) | (refine And.intro (okII _ _) ?_; rw [eqD_ii]; with_reducible conv => whnf) | (refine And.intro (by first | assumption | exact Exists.intro _ (by assumption) | exact ⟨rfl, rfl, by decide, by decide⟩ | exact Nat.le_of_ble_eq_true rfl | exact rfl) ?_; with_reducible conv => whnf) | (rw [isLst_at (by assumption)]; with_reducible conv => whnf) | (refine ifT rfl ?_; with_reducible conv => whnf) | (refine ifF rfl ?_; with_reducible conv => whnf) | (refine it_at (by assumption) ?_; with_reducible conv => whnf)))
  refine ⟨n, rfl, by omega, fun pr S5 er s5 => ?_⟩
  replace d4 := s5 _ _ d4
  replace d6 := s5 _ _ d6
  replace d8 := s5 _ _ d8
  replace d9 := s5 _ _ d9
  replace s2 := s2.trans s5
  clear s5 S4
  have hne : ∀ l : List Nat, rowsD (allR n) ≠ natD l := fun l e => by
    have h1 := allR_len n
    cases hA : allR n with
    | nil => rw [hA] at h1; have := Nat.pow_pos (n := n) (show 0 < 2 by decide); simp at h1; omega
    | cons r A =>
      rw [hA, natD_map] at e
      cases l with
      | nil => cases e
      | cons x l => injection e with e1 _; cases e1
  have nr6 : pr ≠ p6 := fun e => by rw [e, d6] at er; injection er with er; injection er with er; exact hne _ er.symm
  have nr9 : pr ≠ p9 := fun e => by rw [e, d9] at er; injection er with er; injection er with er; exact hne _ er.symm
  have nr8 : pr ≠ p8 := fun e => by rw [e, d8] at er; cases er
  (with_reducible conv => whnf)
  rw [er]
  (with_reducible conv => whnf)
  refine Loop_mk (fun i ρ S' => ∃ o5 o10 o11 o12 kvs, ρ = [some (qD p), some (.int n), some (.int kk), some (qD (1 - p)), some (.ref p4), o5, some (.ref p6), some (qD 0), some (.ref p8), some (.ref p9), o10, o11, o12, none, none] ∧
      S'[pr]? = some (.lst (rowsD (allR n))) ∧ S'[p4]? = some (.lst ((List.range (n + 1)).map fun h => qD (pt p n h))) ∧ S'[p6]? = some (.lst (natD ((List.range (n + 1)).map (gN (noR kk) ((allR n).take i))))) ∧
      S'[p8]? = some (.dT kvs) ∧ TB kvs ((allR n).take i) i ∧ S'[p9]? = some (.lst (natD ((List.range (n + 1)).map (gN nr ((allR n).take i))))) ∧ Sub S S' ∧ i ≤ (allR n).length)
      ⟨none, none, none, none, [], rfl, er, d4, d6, d8, ⟨Nat.le_refl _, fun h m => rfl⟩, d9, s2, Nat.zero_le _⟩ (by rintro i ρ' S' ⟨_, _, _, _, _, rfl, h, _⟩; exact h) ?_ ?_
  · clear er d4 d6 d8 d9 s2 S5
    rintro i d ρ' S' hi ⟨o5, o10, o11, o12, kvs, rfl, e1, e4, e6, e8, tb, e9, s1, _⟩
    unfold rowsD at hi
    rw [List.getElem?_map] at hi
    obtain ⟨r, hr, rfl⟩ := Option.map_eq_some_iff.mp hi
    have hrl := allR_mem (List.mem_of_getElem? hr)
    have hil := (List.getElem?_eq_some_iff.mp hr).1
    have htk : (allR n).take (i + 1) = (allR n).take i ++ [r] := by rw [List.take_succ, hr]; rfl
    have hhd := hd_le r
    ((with_reducible conv => whnf); repeat (first | (rw [natD_len]; with_reducible conv => whnf) | (rw [intD_len]; with_reducible conv => whnf) | (refine Exists.intro _ (And.intro (rfl : _ = some _) ?_); with_reducible conv => whnf) | (refine And.intro (okII _ _) ?_; rw [eqD_ii]; with_reducible conv => whnf) | (refine And.intro (by first | assumption | exact Exists.intro _ (by assumption) | exact ⟨rfl, rfl, by decide, by decide⟩ | exact Nat.le_of_ble_eq_true rfl | exact rfl) ?_; with_reducible conv => whnf) | (rw [isLst_at (by assumption)]; with_reducible conv => whnf) | (refine ifT rfl ?_; with_reducible conv => whnf) | (refine ifF rfl ?_; with_reducible conv => whnf) | (refine it_at (by assumption) ?_; with_reducible conv => whnf)))
    rw [tx_chars]
    refine Lc_lf (fun b => decide (b = true)) (fun b => D.str (sg b)) (by unfold szL; omega) (fun _ _ => trivial) ?_ ?_
    · intro b S2 R _ _ hR
      ((with_reducible conv => whnf); repeat (first | (rw [natD_len]; with_reducible conv => whnf) | (rw [intD_len]; with_reducible conv => whnf) | (refine Exists.intro _ (And.intro (rfl : _ = some _) ?_); with_reducible conv => whnf) | (refine And.intro (okII _ _) ?_; rw [eqD_ii]; with_reducible conv => whnf) | (refine And.intro (by first | assumption | exact Exists.intro _ (by assumption) | exact ⟨rfl, rfl, by decide, by decide⟩ | exact Nat.le_of_ble_eq_true rfl | exact rfl) ?_; with_reducible conv => whnf) | (rw [isLst_at (by assumption)]; with_reducible conv => whnf) | (refine ifT rfl ?_; with_reducible conv => whnf) | (refine ifF rfl ?_; with_reducible conv => whnf) | (refine it_at (by assumption) ?_; with_reducible conv => whnf)))
      rw [ofH]
      refine ⟨flatS b true, ?_⟩
      rw [sg_eq]
      (with_reducible conv => whnf)
      have hR := hR S2 (Sub.refl _)
      refine ite_d (fun hc => ?_) fun hc => ?_
      · rw [if_pos (decide_eq_true hc)] at hR
        exact hR
      · rw [if_neg (by simpa using hc)] at hR
        exact hR
    intro S2 s2
    have t1 := push_at (s2 _ _ e1) [.lst ((r.filter fun b => decide (b = true)).map fun b => D.str (sg b))]
    have t4 := push_at (s2 _ _ e4) [.lst ((r.filter fun b => decide (b = true)).map fun b => D.str (sg b))]
    have t6 := push_at (s2 _ _ e6) [.lst ((r.filter fun b => decide (b = true)).map fun b => D.str (sg b))]
    have t8 := push_at (s2 _ _ e8) [.lst ((r.filter fun b => decide (b = true)).map fun b => D.str (sg b))]
    have t9 := push_at (s2 _ _ e9) [.lst ((r.filter fun b => decide (b = true)).map fun b => D.str (sg b))]
    have u0 := at_push S2 (.lst ((r.filter fun b => decide (b = true)).map fun b => D.str (sg b)))
    have v1 := (s1.trans s2).app [.lst ((r.filter fun b => decide (b = true)).map fun b => D.str (sg b))]
    generalize S2 ++ [O.lst ((r.filter fun b => decide (b = true)).map fun b => D.str (sg b))] = S3 at *
    generalize S2.length = pl at *
    clear e1 e4 e6 e8 e9 s1 s2 S2 S'
    (with_reducible conv => whnf)
    rw [isLst_at u0]
    rw [hdL, ofH]
    ((with_reducible conv => whnf); repeat (first | (rw [natD_len]; with_reducible conv => whnf) | (rw [intD_len]; with_reducible conv => whnf) | (refine Exists.intro _ (And.intro (rfl : _ = some _) ?_); with_reducible conv => whnf) | (refine And.intro (okII _ _) ?_; rw [eqD_ii]; with_reducible conv => whnf) | (refine And.intro (by first | assumption | exact Exists.intro _ (by assumption) | exact ⟨rfl, rfl, by decide, by decide⟩ | exact Nat.le_of_ble_eq_true rfl | exact rfl) ?_; with_reducible conv => whnf) | (rw [isLst_at (by assumption)]; with_reducible conv => whnf) | (refine ifT rfl ?_; with_reducible conv => whnf) | (refine ifF rfl ?_; with_reducible conv => whnf) | (refine it_at (by assumption) ?_; with_reducible conv => whnf)))
    refine ⟨r, true, rfl, by omega, fun S4 s4 => ?_⟩
    replace t1 := s4 _ _ t1
    replace t4 := s4 _ _ t4
    replace t6 := s4 _ _ t6
    replace t8 := s4 _ _ t8
    replace t9 := s4 _ _ t9
    replace v1 := v1.trans s4
    clear u0 s4 S3
    -- the rest of the turn
    have rest : ∀ (E : Ends), (∀ ρ S', (∃ o5 o10 o11 o12 kvs, ρ = [some (qD p), some (.int n), some (.int kk), some (qD (1 - p)), some (.ref p4), o5, some (.ref p6), some (qD 0), some (.ref p8), some (.ref p9), o10, o11, o12, none, none] ∧
              S'[pr]? = some (.lst (rowsD (allR n))) ∧ S'[p4]? = some (.lst ((List.range (n + 1)).map fun h => qD (pt p n h))) ∧ S'[p6]? = some (.lst (natD ((List.range (n + 1)).map (gN (noR kk) ((allR n).take (i + 1)))))) ∧
              S'[p8]? = some (.dT kvs) ∧ TB kvs ((allR n).take (i + 1)) (i + 1) ∧ S'[p9]? = some (.lst (natD ((List.range (n + 1)).map (gN nr ((allR n).take (i + 1)))))) ∧ Sub S S' ∧ i + 1 ≤ (allR n).length) → E.nx ρ S') → ∀ S3, S3[pr]? = some (.lst (rowsD (allR n))) → S3[p4]? = some (.lst ((List.range (n + 1)).map fun h => qD (pt p n h))) → S3[p6]? = some (.lst (natD ((List.range (n + 1)).map (gN (noR kk) ((allR n).take (i + 1)))))) →
        S3[p8]? = some (.dT kvs) → S3[p9]? = some (.lst (natD ((List.range (n + 1)).map (gN nr ((allR n).take i))))) → Sub S S3 →
        sSeq (sAsg (wB rLen (wCons (wOp rIx (wCall 1 sp_lruns (wCons (wVar 10) wNil)) (wC (.int 0))) wNil)) (DL.gN 12))
          (sSeq (sSub rPut (wOp rAdd (wOp rIx (wVar 9) (wVar 5)) (wVar 12)) (wVar 9) (wVar 5))
            (sSub rDPut (wOp rAdd (wDGet2 (wVar 8) (wTup (wCons (wVar 5) (wCons (wVar 12) wNil))) (wC (.int 0))) (wC (.int 1))) (wVar 8) (wTup (wCons (wVar 5) (wCons (wVar 12) wNil)))))
          E [some (qD p), some (.int n), some (.int kk), some (qD (1 - p)), some (.ref p4), some (.int (hd r)), some (.ref p6), some (qD 0), some (.ref p8), some (.ref p9), some (.str (tx r)), o11, o12, none, none] S3 := by
      clear t1 t4 t6 t8 t9 v1 S4
      intro E hE S3 t1 t4 t6 t8 t9 v1
      ((with_reducible conv => whnf); repeat (first | (rw [natD_len]; with_reducible conv => whnf) | (rw [intD_len]; with_reducible conv => whnf) | (refine Exists.intro _ (And.intro (rfl : _ = some _) ?_); with_reducible conv => whnf) | (refine And.intro (okII _ _) ?_; rw [eqD_ii]; with_reducible conv => whnf) | (refine And.intro (by first | assumption | exact Exists.intro _ (by assumption) | exact ⟨rfl, rfl, by decide, by decide⟩ | exact Nat.le_of_ble_eq_true rfl | exact rfl) ?_; with_reducible conv => whnf) | (rw [isLst_at (by assumption)]; with_reducible conv => whnf) | (refine ifT rfl ?_; with_reducible conv => whnf) | (refine ifF rfl ?_; with_reducible conv => whnf) | (refine it_at (by assumption) ?_; with_reducible conv => whnf)))
      refine ⟨r, rfl, by omega, fun a b S5 _ ea eb s5 => ?_⟩
      replace t1 := s5 _ _ t1
      replace t4 := s5 _ _ t4
      replace t6 := s5 _ _ t6
      replace t8 := s5 _ _ t8
      replace t9 := s5 _ _ t9
      replace v1 := v1.trans s5
      clear s5 S3
      ((with_reducible conv => whnf); repeat (first | (rw [natD_len]; with_reducible conv => whnf) | (rw [intD_len]; with_reducible conv => whnf) | (refine Exists.intro _ (And.intro (rfl : _ = some _) ?_); with_reducible conv => whnf) | (refine And.intro (okII _ _) ?_; rw [eqD_ii]; with_reducible conv => whnf) | (refine And.intro (by first | assumption | exact Exists.intro _ (by assumption) | exact ⟨rfl, rfl, by decide, by decide⟩ | exact Nat.le_of_ble_eq_true rfl | exact rfl) ?_; with_reducible conv => whnf) | (rw [isLst_at (by assumption)]; with_reducible conv => whnf) | (refine ifT rfl ?_; with_reducible conv => whnf) | (refine ifF rfl ?_; with_reducible conv => whnf) | (refine it_at (by assumption) ?_; with_reducible conv => whnf)))
      have hgl : ∀ (f : List Bool → Nat) (L : List (List Bool)) (j : Nat), j < n + 1 → ((List.range (n + 1)).map (gN f L)).getD j 0 = gN f L j := fun f L j hj => by
        rw [List.getD_eq_getElem?_getD, List.getElem?_map, List.getElem?_range hj]; rfl
      have hll : ∀ (f : List Bool → Nat) (L : List (List Bool)), ((List.range (n + 1)).map (gN f L)).length = n + 1 := fun f L => by rw [List.length_map, List.length_range]
      refine ⟨_, natD_atZ (by rw [hll]; omega), ?_⟩
      rw [hgl _ _ _ (by omega)]
      rw [lens_len, show (rl r).length = nr r from rfl]
      ((with_reducible conv => whnf); repeat (first | (rw [natD_len]; with_reducible conv => whnf) | (rw [intD_len]; with_reducible conv => whnf) | (refine Exists.intro _ (And.intro (rfl : _ = some _) ?_); with_reducible conv => whnf) | (refine And.intro (okII _ _) ?_; rw [eqD_ii]; with_reducible conv => whnf) | (refine And.intro (by first | assumption | exact Exists.intro _ (by assumption) | exact ⟨rfl, rfl, by decide, by decide⟩ | exact Nat.le_of_ble_eq_true rfl | exact rfl) ?_; with_reducible conv => whnf) | (rw [isLst_at (by assumption)]; with_reducible conv => whnf) | (refine ifT rfl ?_; with_reducible conv => whnf) | (refine ifF rfl ?_; with_reducible conv => whnf) | (refine it_at (by assumption) ?_; with_reducible conv => whnf)))
      refine ⟨(hd r : Int).toNat, ixZ_ok (by omega) (by rw [hll]; omega), ?_⟩
      rw [Int.toNat_natCast, show ((gN nr ((allR n).take i) (hd r) : Nat) : Int) + ((nr r : Nat) : Int) = ((gN nr ((allR n).take i) (hd r) + nr r : Nat) : Int) by omega, natD_set]
      rw [show ((List.range (n + 1)).map (gN nr ((allR n).take i))).set (hd r) (gN nr ((allR n).take i) (hd r) + nr r) = (List.range (n + 1)).map (gN nr ((allR n).take (i + 1))) by
        rw [htk]
        have := nat_set_map (f := gN nr ((allR n).take i)) (g := gN nr ((allR n).take i ++ [r])) (n := n + 1) (j := hd r) (by omega) (fun j hj => by
          rw [gN_snoc, gN_snoc, if_pos rfl]
          by_cases c : j = hd r
          · rw [if_pos c, if_pos c, c]; omega
          · rw [if_neg c, if_neg c])
        rw [← this, gN_snoc, if_pos rfl]]
      (with_reducible conv => whnf)
      have w8 : (S5.set p9 (.lst (natD ((List.range (n + 1)).map (gN nr ((allR n).take (i + 1)))))))[p8]? = some (.dT kvs) := by rw [at_set_ne n89, t8]
      refine ⟨.inr ⟨kvs, .inl w8⟩, ?_⟩
      (with_reducible conv => whnf)
      refine ⟨by unfold szL; show 2 ≤ _; omega, ?_⟩
      (with_reducible conv => whnf)
      refine dict_T w8 ?_
      refine ⟨_, kyt2 _ _, ?_⟩
      have hv := tb.val (hd r) (nr r)
      (with_reducible conv => whnf)
      rw [hv]
      ((with_reducible conv => whnf); repeat (first | (rw [natD_len]; with_reducible conv => whnf) | (rw [intD_len]; with_reducible conv => whnf) | (refine Exists.intro _ (And.intro (rfl : _ = some _) ?_); with_reducible conv => whnf) | (refine And.intro (okII _ _) ?_; rw [eqD_ii]; with_reducible conv => whnf) | (refine And.intro (by first | assumption | exact Exists.intro _ (by assumption) | exact ⟨rfl, rfl, by decide, by decide⟩ | exact Nat.le_of_ble_eq_true rfl | exact rfl) ?_; with_reducible conv => whnf) | (rw [isLst_at (by assumption)]; with_reducible conv => whnf) | (refine ifT rfl ?_; with_reducible conv => whnf) | (refine ifF rfl ?_; with_reducible conv => whnf) | (refine it_at (by assumption) ?_; with_reducible conv => whnf)))
      refine put_T w8 ?_
      refine ⟨_, kyt2 _ _, by have := tb.len; have := allR_len n; have := Nat.pow_le_pow_right (n := 2) (by decide) hn; unfold szL; omega, ?_⟩
      refine hE _ _ ⟨_, _, _, _, _, rfl, ?_, ?_, ?_, at_set w8, ?_, ?_, (v1.put g9).put g8, hil⟩
      · rw [at_set_ne nr8, at_set_ne nr9, t1]
      · rw [at_set_ne n48, at_set_ne n49, t4]
      · rw [at_set_ne n68, at_set_ne n69, t6]
      · rw [htk]; exact tb.put r
      · rw [at_set_ne (Ne.symm n89), at_set t9]
    ((with_reducible conv => whnf); repeat (first | (rw [natD_len]; with_reducible conv => whnf) | (rw [intD_len]; with_reducible conv => whnf) | (refine Exists.intro _ (And.intro (rfl : _ = some _) ?_); with_reducible conv => whnf) | (refine And.intro (okII _ _) ?_; rw [eqD_ii]; with_reducible conv => whnf) | (refine And.intro (by first | assumption | exact Exists.intro _ (by assumption) | exact ⟨rfl, rfl, by decide, by decide⟩ | exact Nat.le_of_ble_eq_true rfl | exact rfl) ?_; with_reducible conv => whnf) | (rw [isLst_at (by assumption)]; with_reducible conv => whnf) | (refine ifT rfl ?_; with_reducible conv => whnf) | (refine ifF rfl ?_; with_reducible conv => whnf) | (refine it_at (by assumption) ?_; with_reducible conv => whnf)))
    have hgl : ∀ (f : List Bool → Nat) (L : List (List Bool)) (j : Nat), j < n + 1 → ((List.range (n + 1)).map (gN f L)).getD j 0 = gN f L j := fun f L j hj => by
      rw [List.getD_eq_getElem?_getD, List.getElem?_map, List.getElem?_range hj]; rfl
    have hll : ∀ (f : List Bool → Nat) (L : List (List Bool)), ((List.range (n + 1)).map (gN f L)).length = n + 1 := fun f L => by rw [List.length_map, List.length_range]
    refine ite_d (fun hc => ?_) fun hc => ?_
    · ((with_reducible conv => whnf); repeat (first | (rw [natD_len]; with_reducible conv => whnf) | (rw [intD_len]; with_reducible conv => whnf) | (refine Exists.intro _ (And.intro (rfl : _ = some _) ?_); with_reducible conv => whnf) | (refine And.intro (okII _ _) ?_; rw [eqD_ii]; with_reducible conv => whnf) | (refine And.intro (by first | assumption | exact Exists.intro _ (by assumption) | exact ⟨rfl, rfl, by decide, by decide⟩ | exact Nat.le_of_ble_eq_true rfl | exact rfl) ?_; with_reducible conv => whnf) | (rw [isLst_at (by assumption)]; with_reducible conv => whnf) | (refine ifT rfl ?_; with_reducible conv => whnf) | (refine ifF rfl ?_; with_reducible conv => whnf) | (refine it_at (by assumption) ?_; with_reducible conv => whnf)))
      refine ⟨_, natD_atZ (by rw [hll]; omega), ?_⟩
      rw [hgl _ _ _ (by omega)]
      ((with_reducible conv => whnf); repeat (first | (rw [natD_len]; with_reducible conv => whnf) | (rw [intD_len]; with_reducible conv => whnf) | (refine Exists.intro _ (And.intro (rfl : _ = some _) ?_); with_reducible conv => whnf) | (refine And.intro (okII _ _) ?_; rw [eqD_ii]; with_reducible conv => whnf) | (refine And.intro (by first | assumption | exact Exists.intro _ (by assumption) | exact ⟨rfl, rfl, by decide, by decide⟩ | exact Nat.le_of_ble_eq_true rfl | exact rfl) ?_; with_reducible conv => whnf) | (rw [isLst_at (by assumption)]; with_reducible conv => whnf) | (refine ifT rfl ?_; with_reducible conv => whnf) | (refine ifF rfl ?_; with_reducible conv => whnf) | (refine it_at (by assumption) ?_; with_reducible conv => whnf)))
      refine ⟨(hd r : Int).toNat, ixZ_ok (by omega) (by rw [hll]; omega), ?_⟩
      rw [Int.toNat_natCast, show ((gN (noR kk) ((allR n).take i) (hd r) : Nat) : Int) + 1 = ((gN (noR kk) ((allR n).take i) (hd r) + noR kk r : Nat) : Int) by rw [show noR kk r = 1 from if_pos (by omega)]; omega, natD_set]
      rw [show ((List.range (n + 1)).map (gN (noR kk) ((allR n).take i))).set (hd r) (gN (noR kk) ((allR n).take i) (hd r) + noR kk r) = (List.range (n + 1)).map (gN (noR kk) ((allR n).take (i + 1))) by
        rw [htk]
        have := nat_set_map (f := gN (noR kk) ((allR n).take i)) (g := gN (noR kk) ((allR n).take i ++ [r])) (n := n + 1) (j := hd r) (by omega) (fun j hj => by
          rw [gN_snoc, gN_snoc, if_pos rfl]
          by_cases c : j = hd r
          · rw [if_pos c, if_pos c, c]; omega
          · rw [if_neg c, if_neg c])
        rw [← this, gN_snoc, if_pos rfl]]
      refine rest _ ?hE _ ?h1 ?h2 ?h3 ?h4 ?h5 ?h6
      case hE => exact fun _ _ h => h
      case h1 => rw [at_set_ne nr6, t1]
      case h2 => rw [at_set_ne n46, t4]
      case h3 => rw [at_set t6]
      case h4 => rw [at_set_ne (Ne.symm n68), t8]
      case h5 => rw [at_set_ne (Ne.symm n69), t9]
      case h6 => exact v1.put g6
    · refine rest _ (fun _ _ h => h) _ t1 t4 ?_ t8 t9 v1
      rw [t6, htk]
      congr 4
      funext j
      rw [gN_snoc, show noR kk r = 0 from if_neg (by omega)]
      split <;> rfl
  · clear er d4 d6 d8 d9 s2 S5
    rintro ρ' S' ⟨o5, o10, o11, o12, kvs, rfl, e1, e4, e6, e8, tb, e9, s1, _⟩
    rw [show (rowsD (allR n)).length = (allR n).length from List.length_map .., List.take_length] at e6 e9 tb
    have hgl : ∀ (f : List Bool → Nat) (L : List (List Bool)) (j : Nat), j < n + 1 → ((List.range (n + 1)).map (gN f L)).getD j 0 = gN f L j := fun f L j hj => by
      rw [List.getD_eq_getElem?_getD, List.getElem?_map, List.getElem?_range hj]; rfl
    have hll : ∀ (f : List Bool → Nat) (L : List (List Bool)), ((List.range (n + 1)).map (gN f L)).length = n + 1 := fun f L => by rw [List.length_map, List.length_range]
    have b1 : ∀ h, gN (noR kk) (allR n) h ≤ 5120 := fun h => by
      have := gN_le (f := noR kk) (B := 1) (L := allR n) (fun r _ => by unfold noR; split <;> omega) h
      rw [allR_len] at this
      have := Nat.pow_le_pow_right (n := 2) (by decide) hn
      omega
    have b2 : ∀ h, gN nr (allR n) h ≤ 5120 := fun h => by
      have := gN_le (f := nr) (B := 9) (L := allR n) (fun r hr => by have := rl_len r; rw [allR_mem hr] at this; unfold nr; omega) h
      rw [allR_len] at this
      have := Nat.pow_le_pow_right (n := 2) (by decide) hn
      omega
    ((with_reducible conv => whnf); repeat (first | (rw [natD_len]; with_reducible conv => whnf) | (rw [intD_len]; with_reducible conv => whnf) | (refine Exists.intro _ (And.intro (rfl : _ = some _) ?_); with_reducible conv => whnf) | (refine And.intro (okII _ _) ?_; rw [eqD_ii]; with_reducible conv => whnf) | (refine And.intro (by first | assumption | exact Exists.intro _ (by assumption) | exact ⟨rfl, rfl, by decide, by decide⟩ | exact Nat.le_of_ble_eq_true rfl | exact rfl) ?_; with_reducible conv => whnf) | (rw [isLst_at (by assumption)]; with_reducible conv => whnf) | (refine ifT rfl ?_; with_reducible conv => whnf) | (refine ifF rfl ?_; with_reducible conv => whnf) | (refine it_at (by assumption) ?_; with_reducible conv => whnf)))
    refine ⟨⟨by omega, by omega⟩, ?_⟩
    have zr : D.tup [.int 0, .int 1] = qD (rs (List.range 0) fun h => pt p n h * ((gN (noR kk) (allR n) h : Nat) : Rat)) := rfl
    have zm : D.tup [.int 0, .int 1] = qD (rs (List.range 0) fun h => pt p n h * ((gN nr (allR n) h : Nat) : Rat)) := rfl
    refine Loop_mk (fun j ρ S' => ∃ o5 o14, ρ = [some (qD p), some (.int n), some (.int kk), some (qD (1 - p)), some (.ref p4), o5, some (.ref p6), some (qD (rs (List.range j) fun h => pt p n h * ((gN nr (allR n) h : Nat) : Rat))), some (.ref p8), some (.ref p9), o10, o11, o12, some (qD (rs (List.range j) fun h => pt p n h * ((gN (noR kk) (allR n) h : Nat) : Rat))), o14] ∧
      S'[p4]? = some (.lst ((List.range (n + 1)).map fun h => qD (pt p n h))) ∧ S'[p6]? = some (.lst (natD ((List.range (n + 1)).map (gN (noR kk) (allR n))))) ∧
      S'[p8]? = some (.dT kvs) ∧ S'[p9]? = some (.lst (natD ((List.range (n + 1)).map (gN nr (allR n))))) ∧ Sub S S') ⟨o5, none, by rw [← zr, ← zm]; rfl, e4, e6, e8, e9, s1⟩ (by intros; trivial) ?_ ?_
    · clear e1 e4 e6 e8 e9 s1 S'
      rintro h d ρ' S' hi ⟨o5, o14, rfl, e4, e6, e8, e9, s1⟩
      obtain ⟨hi1, rfl⟩ := rangeD_get hi
      rw [Int.zero_add]
      have hh : h < n + 1 := by omega
      have hat : atZ ((List.range (n + 1)).map fun h => qD (pt p n h)) (h : Int) = some (qD (pt p n h)) := atZ_nat (by rw [List.getElem?_map, List.getElem?_range hh]; rfl)
      have t1 := term_ok hp (show h ≤ n by omega) (show n ≤ 30 by omega) (b1 h)
      have t2 := term_ok hp (show h ≤ n by omega) (show n ≤ 30 by omega) (b2 h)
      have q1 := part_ok hp (show n ≤ 30 by omega) b1 h (by omega)
      have q2 := part_ok hp (show n ≤ 30 by omega) b2 h (by omega)
      have ptk := pt_ok hp (show h ≤ n by omega) (show n ≤ 30 by omega)
      have m1 : h * 5120 < 2 ^ 60 := by omega
      ((with_reducible conv => whnf); repeat (first | (rw [natD_len]; with_reducible conv => whnf) | (rw [intD_len]; with_reducible conv => whnf) | (refine Exists.intro _ (And.intro (rfl : _ = some _) ?_); with_reducible conv => whnf) | (refine And.intro (okII _ _) ?_; rw [eqD_ii]; with_reducible conv => whnf) | (refine And.intro (by first | assumption | exact Exists.intro _ (by assumption) | exact ⟨rfl, rfl, by decide, by decide⟩ | exact Nat.le_of_ble_eq_true rfl | exact rfl) ?_; with_reducible conv => whnf) | (rw [isLst_at (by assumption)]; with_reducible conv => whnf) | (refine ifT rfl ?_; with_reducible conv => whnf) | (refine ifF rfl ?_; with_reducible conv => whnf) | (refine it_at (by assumption) ?_; with_reducible conv => whnf)))
      refine ⟨_, hat, ?_⟩
      ((with_reducible conv => whnf); repeat (first | (rw [natD_len]; with_reducible conv => whnf) | (rw [intD_len]; with_reducible conv => whnf) | (refine Exists.intro _ (And.intro (rfl : _ = some _) ?_); with_reducible conv => whnf) | (refine And.intro (okII _ _) ?_; rw [eqD_ii]; with_reducible conv => whnf) | (refine And.intro (by first | assumption | exact Exists.intro _ (by assumption) | exact ⟨rfl, rfl, by decide, by decide⟩ | exact Nat.le_of_ble_eq_true rfl | exact rfl) ?_; with_reducible conv => whnf) | (rw [isLst_at (by assumption)]; with_reducible conv => whnf) | (refine ifT rfl ?_; with_reducible conv => whnf) | (refine ifF rfl ?_; with_reducible conv => whnf) | (refine it_at (by assumption) ?_; with_reducible conv => whnf)))
      refine ⟨_, natD_atZ (by rw [hll]; omega), ?_⟩
      rw [hgl _ _ _ hh]
      ((with_reducible conv => whnf); repeat (first | (rw [natD_len]; with_reducible conv => whnf) | (rw [intD_len]; with_reducible conv => whnf) | (refine Exists.intro _ (And.intro (rfl : _ = some _) ?_); with_reducible conv => whnf) | (refine And.intro (okII _ _) ?_; rw [eqD_ii]; with_reducible conv => whnf) | (refine And.intro (by first | assumption | exact Exists.intro _ (by assumption) | exact ⟨rfl, rfl, by decide, by decide⟩ | exact Nat.le_of_ble_eq_true rfl | exact rfl) ?_; with_reducible conv => whnf) | (rw [isLst_at (by assumption)]; with_reducible conv => whnf) | (refine ifT rfl ?_; with_reducible conv => whnf) | (refine ifF rfl ?_; with_reducible conv => whnf) | (refine it_at (by assumption) ?_; with_reducible conv => whnf)))
      rw [qD_nat]
      refine ⟨pt p n h, ((gN (noR kk) (allR n) h : Nat) : Rat), rfl, big_sm hp (M := 1) (by omega) ⟨ptk.1, by have : ((1 : Nat) : Rat) = 1 := rfl; rw [this]; exact ptk.2.1, ptk.2.2⟩ (by decide), sm_nat (by have := b1 h; omega), fun S2 s2 => ?_⟩
      ((with_reducible conv => whnf); repeat (first | (rw [natD_len]; with_reducible conv => whnf) | (rw [intD_len]; with_reducible conv => whnf) | (refine Exists.intro _ (And.intro (rfl : _ = some _) ?_); with_reducible conv => whnf) | (refine And.intro (okII _ _) ?_; rw [eqD_ii]; with_reducible conv => whnf) | (refine And.intro (by first | assumption | exact Exists.intro _ (by assumption) | exact ⟨rfl, rfl, by decide, by decide⟩ | exact Nat.le_of_ble_eq_true rfl | exact rfl) ?_; with_reducible conv => whnf) | (rw [isLst_at (by assumption)]; with_reducible conv => whnf) | (refine ifT rfl ?_; with_reducible conv => whnf) | (refine ifF rfl ?_; with_reducible conv => whnf) | (refine it_at (by assumption) ?_; with_reducible conv => whnf)))
      refine ⟨rs (List.range h) fun h => pt p n h * ((gN (noR kk) (allR n) h : Nat) : Rat), pt p n h * ((gN (noR kk) (allR n) h : Nat) : Rat), rfl, big_sm hp (by omega) q1 m1, big_sm hp (by omega) t1 (by decide), fun S3 s3 => ?_⟩
      replace e4 := s3 _ _ (s2 _ _ e4)
      replace e6 := s3 _ _ (s2 _ _ e6)
      replace e8 := s3 _ _ (s2 _ _ e8)
      replace e9 := s3 _ _ (s2 _ _ e9)
      replace s1 := s1.trans (s2.trans s3)
      clear s2 s3 S2 S'
      ((with_reducible conv => whnf); repeat (first | (rw [natD_len]; with_reducible conv => whnf) | (rw [intD_len]; with_reducible conv => whnf) | (refine Exists.intro _ (And.intro (rfl : _ = some _) ?_); with_reducible conv => whnf) | (refine And.intro (okII _ _) ?_; rw [eqD_ii]; with_reducible conv => whnf) | (refine And.intro (by first | assumption | exact Exists.intro _ (by assumption) | exact ⟨rfl, rfl, by decide, by decide⟩ | exact Nat.le_of_ble_eq_true rfl | exact rfl) ?_; with_reducible conv => whnf) | (rw [isLst_at (by assumption)]; with_reducible conv => whnf) | (refine ifT rfl ?_; with_reducible conv => whnf) | (refine ifF rfl ?_; with_reducible conv => whnf) | (refine it_at (by assumption) ?_; with_reducible conv => whnf)))
      refine ⟨_, hat, ?_⟩
      ((with_reducible conv => whnf); repeat (first | (rw [natD_len]; with_reducible conv => whnf) | (rw [intD_len]; with_reducible conv => whnf) | (refine Exists.intro _ (And.intro (rfl : _ = some _) ?_); with_reducible conv => whnf) | (refine And.intro (okII _ _) ?_; rw [eqD_ii]; with_reducible conv => whnf) | (refine And.intro (by first | assumption | exact Exists.intro _ (by assumption) | exact ⟨rfl, rfl, by decide, by decide⟩ | exact Nat.le_of_ble_eq_true rfl | exact rfl) ?_; with_reducible conv => whnf) | (rw [isLst_at (by assumption)]; with_reducible conv => whnf) | (refine ifT rfl ?_; with_reducible conv => whnf) | (refine ifF rfl ?_; with_reducible conv => whnf) | (refine it_at (by assumption) ?_; with_reducible conv => whnf)))
      refine ⟨_, natD_atZ (by rw [hll]; omega), ?_⟩
      rw [hgl _ _ _ hh]
      ((with_reducible conv => whnf); repeat (first | (rw [natD_len]; with_reducible conv => whnf) | (rw [intD_len]; with_reducible conv => whnf) | (refine Exists.intro _ (And.intro (rfl : _ = some _) ?_); with_reducible conv => whnf) | (refine And.intro (okII _ _) ?_; rw [eqD_ii]; with_reducible conv => whnf) | (refine And.intro (by first | assumption | exact Exists.intro _ (by assumption) | exact ⟨rfl, rfl, by decide, by decide⟩ | exact Nat.le_of_ble_eq_true rfl | exact rfl) ?_; with_reducible conv => whnf) | (rw [isLst_at (by assumption)]; with_reducible conv => whnf) | (refine ifT rfl ?_; with_reducible conv => whnf) | (refine ifF rfl ?_; with_reducible conv => whnf) | (refine it_at (by assumption) ?_; with_reducible conv => whnf)))
      rw [qD_nat]
      refine ⟨pt p n h, ((gN nr (allR n) h : Nat) : Rat), rfl, big_sm hp (M := 1) (by omega) ⟨ptk.1, by have : ((1 : Nat) : Rat) = 1 := rfl; rw [this]; exact ptk.2.1, ptk.2.2⟩ (by decide), sm_nat (by have := b2 h; omega), fun S4 s4 => ?_⟩
      ((with_reducible conv => whnf); repeat (first | (rw [natD_len]; with_reducible conv => whnf) | (rw [intD_len]; with_reducible conv => whnf) | (refine Exists.intro _ (And.intro (rfl : _ = some _) ?_); with_reducible conv => whnf) | (refine And.intro (okII _ _) ?_; rw [eqD_ii]; with_reducible conv => whnf) | (refine And.intro (by first | assumption | exact Exists.intro _ (by assumption) | exact ⟨rfl, rfl, by decide, by decide⟩ | exact Nat.le_of_ble_eq_true rfl | exact rfl) ?_; with_reducible conv => whnf) | (rw [isLst_at (by assumption)]; with_reducible conv => whnf) | (refine ifT rfl ?_; with_reducible conv => whnf) | (refine ifF rfl ?_; with_reducible conv => whnf) | (refine it_at (by assumption) ?_; with_reducible conv => whnf)))
      refine ⟨rs (List.range h) fun h => pt p n h * ((gN nr (allR n) h : Nat) : Rat), pt p n h * ((gN nr (allR n) h : Nat) : Rat), rfl, big_sm hp (by omega) q2 m1, big_sm hp (by omega) t2 (by decide), fun S5 s5 => ?_⟩
      replace e4 := s5 _ _ (s4 _ _ e4)
      replace e6 := s5 _ _ (s4 _ _ e6)
      replace e8 := s5 _ _ (s4 _ _ e8)
      replace e9 := s5 _ _ (s4 _ _ e9)
      replace s1 := s1.trans (s4.trans s5)
      clear s4 s5 S4 S3
      ((with_reducible conv => whnf); repeat (first | (rw [natD_len]; with_reducible conv => whnf) | (rw [intD_len]; with_reducible conv => whnf) | (refine Exists.intro _ (And.intro (rfl : _ = some _) ?_); with_reducible conv => whnf) | (refine And.intro (okII _ _) ?_; rw [eqD_ii]; with_reducible conv => whnf) | (refine And.intro (by first | assumption | exact Exists.intro _ (by assumption) | exact ⟨rfl, rfl, by decide, by decide⟩ | exact Nat.le_of_ble_eq_true rfl | exact rfl) ?_; with_reducible conv => whnf) | (rw [isLst_at (by assumption)]; with_reducible conv => whnf) | (refine ifT rfl ?_; with_reducible conv => whnf) | (refine ifF rfl ?_; with_reducible conv => whnf) | (refine it_at (by assumption) ?_; with_reducible conv => whnf)))
      refine ⟨⟨by omega, by omega⟩, ?_⟩
      refine Loop_mk (fun _ ρ S' => ∃ o14, ρ = [some (qD p), some (.int n), some (.int kk), some (qD (1 - p)), some (.ref p4), some (.int h), some (.ref p6), some (qD (rs (List.range (h + 1)) fun h => pt p n h * ((gN nr (allR n) h : Nat) : Rat))), some (.ref p8), some (.ref p9), o10, o11, o12, some (qD (rs (List.range (h + 1)) fun h => pt p n h * ((gN (noR kk) (allR n) h : Nat) : Rat))), o14] ∧
        S'[p4]? = some (.lst ((List.range (n + 1)).map fun h => qD (pt p n h))) ∧ S'[p6]? = some (.lst (natD ((List.range (n + 1)).map (gN (noR kk) (allR n))))) ∧
        S'[p8]? = some (.dT kvs) ∧ S'[p9]? = some (.lst (natD ((List.range (n + 1)).map (gN nr (allR n))))) ∧ Sub S S') ⟨o14, by rw [rs_range_s, rs_range_s], e4, e6, e8, e9, s1⟩ (by intros; trivial) ?_ ?_
      · clear e4 e6 e8 e9 s1 S5
        rintro m d ρ' S' hm ⟨o14, rfl, e4, e6, e8, e9, s1⟩
        obtain ⟨hm1, rfl⟩ := rangeD_get hm
        rw [Int.zero_add]
        ((with_reducible conv => whnf); repeat (first | (rw [natD_len]; with_reducible conv => whnf) | (rw [intD_len]; with_reducible conv => whnf) | (refine Exists.intro _ (And.intro (rfl : _ = some _) ?_); with_reducible conv => whnf) | (refine And.intro (okII _ _) ?_; rw [eqD_ii]; with_reducible conv => whnf) | (refine And.intro (by first | assumption | exact Exists.intro _ (by assumption) | exact ⟨rfl, rfl, by decide, by decide⟩ | exact Nat.le_of_ble_eq_true rfl | exact rfl) ?_; with_reducible conv => whnf) | (rw [isLst_at (by assumption)]; with_reducible conv => whnf) | (refine ifT rfl ?_; with_reducible conv => whnf) | (refine ifF rfl ?_; with_reducible conv => whnf) | (refine it_at (by assumption) ?_; with_reducible conv => whnf)))
        refine ⟨h, (n : Int) - h, m, rfl, by omega, by omega, fun S2 s2 => ?_⟩
        replace e4 := s2 _ _ e4
        replace e6 := s2 _ _ e6
        replace e8 := s2 _ _ e8
        replace e9 := s2 _ _ e9
        replace s1 := s1.trans s2
        clear s2 S'
        ((with_reducible conv => whnf); repeat (first | (rw [natD_len]; with_reducible conv => whnf) | (rw [intD_len]; with_reducible conv => whnf) | (refine Exists.intro _ (And.intro (rfl : _ = some _) ?_); with_reducible conv => whnf) | (refine And.intro (okII _ _) ?_; rw [eqD_ii]; with_reducible conv => whnf) | (refine And.intro (by first | assumption | exact Exists.intro _ (by assumption) | exact ⟨rfl, rfl, by decide, by decide⟩ | exact Nat.le_of_ble_eq_true rfl | exact rfl) ?_; with_reducible conv => whnf) | (rw [isLst_at (by assumption)]; with_reducible conv => whnf) | (refine ifT rfl ?_; with_reducible conv => whnf) | (refine ifF rfl ?_; with_reducible conv => whnf) | (refine it_at (by assumption) ?_; with_reducible conv => whnf)))
        refine ⟨.inr ⟨kvs, .inl e8⟩, ?_⟩
        ((with_reducible conv => whnf); repeat (first | (rw [natD_len]; with_reducible conv => whnf) | (rw [intD_len]; with_reducible conv => whnf) | (refine Exists.intro _ (And.intro (rfl : _ = some _) ?_); with_reducible conv => whnf) | (refine And.intro (okII _ _) ?_; rw [eqD_ii]; with_reducible conv => whnf) | (refine And.intro (by first | assumption | exact Exists.intro _ (by assumption) | exact ⟨rfl, rfl, by decide, by decide⟩ | exact Nat.le_of_ble_eq_true rfl | exact rfl) ?_; with_reducible conv => whnf) | (rw [isLst_at (by assumption)]; with_reducible conv => whnf) | (refine ifT rfl ?_; with_reducible conv => whnf) | (refine ifF rfl ?_; with_reducible conv => whnf) | (refine it_at (by assumption) ?_; with_reducible conv => whnf)))
        refine dict_T e8 ?_
        refine ⟨_, kyt2 _ _, ?_⟩
        (with_reducible conv => whnf)
        rw [tb.val h m, ← cR_cbr (show h ≤ n by omega) m]
        ((with_reducible conv => whnf); repeat (first | (rw [natD_len]; with_reducible conv => whnf) | (rw [intD_len]; with_reducible conv => whnf) | (refine Exists.intro _ (And.intro (rfl : _ = some _) ?_); with_reducible conv => whnf) | (refine And.intro (okII _ _) ?_; rw [eqD_ii]; with_reducible conv => whnf) | (refine And.intro (by first | assumption | exact Exists.intro _ (by assumption) | exact ⟨rfl, rfl, by decide, by decide⟩ | exact Nat.le_of_ble_eq_true rfl | exact rfl) ?_; with_reducible conv => whnf) | (rw [isLst_at (by assumption)]; with_reducible conv => whnf) | (refine ifT rfl ?_; with_reducible conv => whnf) | (refine ifF rfl ?_; with_reducible conv => whnf) | (refine it_at (by assumption) ?_; with_reducible conv => whnf)))
        refine ⟨.int ((cR n h m : Nat) : Int), rfl, rfl, rfl, Nat.zero_le _, fun S3 s3 => ?_⟩
        ((with_reducible conv => whnf); repeat (first | (rw [natD_len]; with_reducible conv => whnf) | (rw [intD_len]; with_reducible conv => whnf) | (refine Exists.intro _ (And.intro (rfl : _ = some _) ?_); with_reducible conv => whnf) | (refine And.intro (okII _ _) ?_; rw [eqD_ii]; with_reducible conv => whnf) | (refine And.intro (by first | assumption | exact Exists.intro _ (by assumption) | exact ⟨rfl, rfl, by decide, by decide⟩ | exact Nat.le_of_ble_eq_true rfl | exact rfl) ?_; with_reducible conv => whnf) | (rw [isLst_at (by assumption)]; with_reducible conv => whnf) | (refine ifT rfl ?_; with_reducible conv => whnf) | (refine ifF rfl ?_; with_reducible conv => whnf) | (refine it_at (by assumption) ?_; with_reducible conv => whnf)))
        exact ⟨_, rfl, s3 _ _ e4, s3 _ _ e6, s3 _ _ e8, s3 _ _ e9, s1.trans s3⟩
      · clear e4 e6 e8 e9 s1 S5
        rintro ρ' S' ⟨o14, rfl, e4, e6, e8, e9, s1⟩
        exact ⟨_, _, rfl, e4, e6, e8, e9, s1⟩
    · clear e1 e4 e6 e8 e9 s1 S'
      rintro ρ' S' ⟨o5, o14, rfl, e4, e6, e8, e9, s1⟩
      rw [rangeD_len, show ((n : Int) + 1 - 0).toNat = n + 1 by omega]
      have hle : ∀ r ∈ allR n, hd r ≤ n := fun r hr => by have := hd_le r; rw [allR_mem hr] at this; exact this
      have v1 : (rs (List.range (n + 1)) fun h => pt p n h * ((gN (noR kk) (allR n) h : Nat) : Rat)) = rsum (dpQ p kk n) := by
        rw [gN_sum hle, dp_all p hk1 n]
        refine rs_congr fun r _ => ?_
        unfold noR
        show wt p (1 - p) n r * _ = _
        have e1 : ((1 : Nat) : Rat) = 1 := rfl
        have e0 : ((0 : Nat) : Rat) = 0 := rfl
        by_cases c : (lg true r).1 < kk
        · rw [if_pos c, if_pos c, e1]; grind
        · rw [if_neg c, if_neg c, e0]; grind
      have v2 : (rs (List.range (n + 1)) fun h => pt p n h * ((gN nr (allR n) h : Nat) : Rat)) = mrQ p n := by
        rw [gN_sum hle, ← MM_mr]
        rfl
      rw [v1, v2]
      have v3 : ((List.range (n + 1)).map (gN (noR kk) (allR n))).sum = cntW kk n := by rw [gN_all hle, cnt_all hk1]; rfl
      ((with_reducible conv => whnf); repeat (first | (rw [natD_len]; with_reducible conv => whnf) | (rw [intD_len]; with_reducible conv => whnf) | (refine Exists.intro _ (And.intro (rfl : _ = some _) ?_); with_reducible conv => whnf) | (refine And.intro (okII _ _) ?_; rw [eqD_ii]; with_reducible conv => whnf) | (refine And.intro (by first | assumption | exact Exists.intro _ (by assumption) | exact ⟨rfl, rfl, by decide, by decide⟩ | exact Nat.le_of_ble_eq_true rfl | exact rfl) ?_; with_reducible conv => whnf) | (rw [isLst_at (by assumption)]; with_reducible conv => whnf) | (refine ifT rfl ?_; with_reducible conv => whnf) | (refine ifF rfl ?_; with_reducible conv => whnf) | (refine it_at (by assumption) ?_; with_reducible conv => whnf)))
      refine ⟨n, kk, rfl, by omega, hk1, by omega, fun S2 s2 => ?_⟩
      ((with_reducible conv => whnf); repeat (first | (rw [natD_len]; with_reducible conv => whnf) | (rw [intD_len]; with_reducible conv => whnf) | (refine Exists.intro _ (And.intro (rfl : _ = some _) ?_); with_reducible conv => whnf) | (refine And.intro (okII _ _) ?_; rw [eqD_ii]; with_reducible conv => whnf) | (refine And.intro (by first | assumption | exact Exists.intro _ (by assumption) | exact ⟨rfl, rfl, by decide, by decide⟩ | exact Nat.le_of_ble_eq_true rfl | exact rfl) ?_; with_reducible conv => whnf) | (rw [isLst_at (by assumption)]; with_reducible conv => whnf) | (refine ifT rfl ?_; with_reducible conv => whnf) | (refine ifF rfl ?_; with_reducible conv => whnf) | (refine it_at (by assumption) ?_; with_reducible conv => whnf)))
      refine ⟨_, itemsR (s2 _ _ e6), ?_⟩
      (with_reducible conv => whnf)
      rw [sum_cast, v3]
      ((with_reducible conv => whnf); repeat (first | (rw [natD_len]; with_reducible conv => whnf) | (rw [intD_len]; with_reducible conv => whnf) | (refine Exists.intro _ (And.intro (rfl : _ = some _) ?_); with_reducible conv => whnf) | (refine And.intro (okII _ _) ?_; rw [eqD_ii]; with_reducible conv => whnf) | (refine And.intro (by first | assumption | exact Exists.intro _ (by assumption) | exact ⟨rfl, rfl, by decide, by decide⟩ | exact Nat.le_of_ble_eq_true rfl | exact rfl) ?_; with_reducible conv => whnf) | (rw [isLst_at (by assumption)]; with_reducible conv => whnf) | (refine ifT rfl ?_; with_reducible conv => whnf) | (refine ifF rfl ?_; with_reducible conv => whnf) | (refine it_at (by assumption) ?_; with_reducible conv => whnf)))
      refine ⟨_, rfl, rfl, rfl, Nat.zero_le _, fun S3 s3 => ?_⟩
      ((with_reducible conv => whnf); repeat (first | (rw [natD_len]; with_reducible conv => whnf) | (rw [intD_len]; with_reducible conv => whnf) | (refine Exists.intro _ (And.intro (rfl : _ = some _) ?_); with_reducible conv => whnf) | (refine And.intro (okII _ _) ?_; rw [eqD_ii]; with_reducible conv => whnf) | (refine And.intro (by first | assumption | exact Exists.intro _ (by assumption) | exact ⟨rfl, rfl, by decide, by decide⟩ | exact Nat.le_of_ble_eq_true rfl | exact rfl) ?_; with_reducible conv => whnf) | (rw [isLst_at (by assumption)]; with_reducible conv => whnf) | (refine ifT rfl ?_; with_reducible conv => whnf) | (refine ifF rfl ?_; with_reducible conv => whnf) | (refine it_at (by assumption) ?_; with_reducible conv => whnf)))
      refine ⟨p, n, kk, rfl, hp, by omega, hk1, by omega, Nat.lt_trans (den_pow hp (by omega)) (Nat.pow_lt_pow_right (by decide) (by decide)), fun S4 s4 => ?_⟩
      ((with_reducible conv => whnf); repeat (first | (rw [natD_len]; with_reducible conv => whnf) | (rw [intD_len]; with_reducible conv => whnf) | (refine Exists.intro _ (And.intro (rfl : _ = some _) ?_); with_reducible conv => whnf) | (refine And.intro (okII _ _) ?_; rw [eqD_ii]; with_reducible conv => whnf) | (refine And.intro (by first | assumption | exact Exists.intro _ (by assumption) | exact ⟨rfl, rfl, by decide, by decide⟩ | exact Nat.le_of_ble_eq_true rfl | exact rfl) ?_; with_reducible conv => whnf) | (rw [isLst_at (by assumption)]; with_reducible conv => whnf) | (refine ifT rfl ?_; with_reducible conv => whnf) | (refine ifF rfl ?_; with_reducible conv => whnf) | (refine it_at (by assumption) ?_; with_reducible conv => whnf)))
      refine ⟨_, rfl, rfl, rfl, Nat.le_succ_of_le (dq1 _), fun S5 s5 => ?_⟩
      ((with_reducible conv => whnf); repeat (first | (rw [natD_len]; with_reducible conv => whnf) | (rw [intD_len]; with_reducible conv => whnf) | (refine Exists.intro _ (And.intro (rfl : _ = some _) ?_); with_reducible conv => whnf) | (refine And.intro (okII _ _) ?_; rw [eqD_ii]; with_reducible conv => whnf) | (refine And.intro (by first | assumption | exact Exists.intro _ (by assumption) | exact ⟨rfl, rfl, by decide, by decide⟩ | exact Nat.le_of_ble_eq_true rfl | exact rfl) ?_; with_reducible conv => whnf) | (rw [isLst_at (by assumption)]; with_reducible conv => whnf) | (refine ifT rfl ?_; with_reducible conv => whnf) | (refine ifF rfl ?_; with_reducible conv => whnf) | (refine it_at (by assumption) ?_; with_reducible conv => whnf)))
      refine ⟨p, n, rfl, hp, by omega, fun S6 s6 => ?_⟩
      ((with_reducible conv => whnf); repeat (first | (rw [natD_len]; with_reducible conv => whnf) | (rw [intD_len]; with_reducible conv => whnf) | (refine Exists.intro _ (And.intro (rfl : _ = some _) ?_); with_reducible conv => whnf) | (refine And.intro (okII _ _) ?_; rw [eqD_ii]; with_reducible conv => whnf) | (refine And.intro (by first | assumption | exact Exists.intro _ (by assumption) | exact ⟨rfl, rfl, by decide, by decide⟩ | exact Nat.le_of_ble_eq_true rfl | exact rfl) ?_; with_reducible conv => whnf) | (rw [isLst_at (by assumption)]; with_reducible conv => whnf) | (refine ifT rfl ?_; with_reducible conv => whnf) | (refine ifF rfl ?_; with_reducible conv => whnf) | (refine it_at (by assumption) ?_; with_reducible conv => whnf)))
      exact ⟨_, rfl, rfl, rfl, Nat.le_succ_of_le (dq1 _), fun S7 s7 => k _ (s1.trans (s2.trans (s3.trans (s4.trans (s5.trans (s6.trans s7))))))⟩
end K94
set_option linter.all false
set_option maxRecDepth 100000
set_option maxHeartbeats 4000000
namespace K94
open DL
theorem slq (q : Rat) : flat (qD q) = true ∧ slim (qD q) = true ∧ deep (qD q) ≤ 2 := ⟨rfl, by show (decide (2 ≤ szL) && true) = true; decide, Nat.le_trans (dq1 q) (by decide)⟩
theorem tx4 : PySem.Str.ofString "HHTH" = tx [true, true, false, true] := by decide +kernel
theorem wt3 : wtQ (Rat.divInt 1 2) 3 = 14 := by decide +kernel
theorem d14 : D.tup [.int 14, .int 1] = qD 14 := rfl
theorem chalf : Chn (Rat.divInt 1 2) := chn_div (by decide) (by decide) (by decide) (by decide)
theorem law_F {Q : VK} {n0 k n : Nat} {p : Rat} {x0 x3 x4 x7 x9 x10 x11 x12 x13 x14 x15 x16 x17 : Option D} {S : Sto} (hp : Chn p) (hk1 : 1 ≤ k) (hk2 : k ≤ 500) (hn : n ≤ 420) (hb : p.den ^ n < 2 ^ 420) (kk : ∀ S', Q (.bl true) S') (d0 : Dr n0 S) :
    w_law_t20 sp_draws sp_chance sp_take sp_row sp_lruns sp_runs (sp_same 2) sp_longest sp_longest sp_few sp_cw sp_cw sp_cwo sp_cwo sp_pow sp_frac sp_par sp_ways sp_cbr (sp_s2 (· + ·)) sp_until (sp_s2 (· - ·)) (sp_s2 (· * ·)) sp_mr { nx := fun _ S' => Q .non S', rt := Q, bk := fun _ _ => False, ct := fun _ _ => False } [x0, some (.ref n0), some (qD p), x3, x4, some (.int k), some (.int n), x7, some (qD (rsum (dpQ p k n))), x9, x10, x11, x12, x13, x14, x15, x16, x17] S := by
  ((with_reducible conv => whnf); repeat (first | (rw [natD_len]; with_reducible conv => whnf) | (rw [intD_len]; with_reducible conv => whnf) | (refine Exists.intro _ (And.intro (rfl : _ = some _) ?_); with_reducible conv => whnf) | (refine And.intro (okII _ _) ?_; rw [eqD_ii]; with_reducible conv => whnf) | (refine And.intro (by first | assumption | exact Exists.intro _ (by assumption) | exact ⟨rfl, rfl, by decide, by decide⟩ | exact Nat.le_of_ble_eq_true rfl | exact rfl) ?_; with_reducible conv => whnf) | (rw [isLst_at (by assumption)]; with_reducible conv => whnf) | (refine ifT rfl ?_; with_reducible conv => whnf) | (refine ifF rfl ?_; with_reducible conv => whnf) | (refine it_at (by assumption) ?_; with_reducible conv => whnf)))
  refine ⟨n0, 1000, rfl, by decide, d0, fun m S1 m0 m1 d1 _ => ?_⟩
  obtain ⟨mn, rfl⟩ : ∃ mn : Nat, m = mn := ⟨m.toNat, by omega⟩
  ((with_reducible conv => whnf); repeat (first | (rw [natD_len]; with_reducible conv => whnf) | (rw [intD_len]; with_reducible conv => whnf) | (refine Exists.intro _ (And.intro (rfl : _ = some _) ?_); with_reducible conv => whnf) | (refine And.intro (okII _ _) ?_; rw [eqD_ii]; with_reducible conv => whnf) | (refine And.intro (by first | assumption | exact Exists.intro _ (by assumption) | exact ⟨rfl, rfl, by decide, by decide⟩ | exact Nat.le_of_ble_eq_true rfl | exact rfl) ?_; with_reducible conv => whnf) | (rw [isLst_at (by assumption)]; with_reducible conv => whnf) | (refine ifT rfl ?_; with_reducible conv => whnf) | (refine ifF rfl ?_; with_reducible conv => whnf) | (refine it_at (by assumption) ?_; with_reducible conv => whnf)))
  refine ⟨1, p, rfl, sm1, hp.sm, fun S2 s2 => ?_⟩
  ((with_reducible conv => whnf); repeat (first | (rw [natD_len]; with_reducible conv => whnf) | (rw [intD_len]; with_reducible conv => whnf) | (refine Exists.intro _ (And.intro (rfl : _ = some _) ?_); with_reducible conv => whnf) | (refine And.intro (okII _ _) ?_; rw [eqD_ii]; with_reducible conv => whnf) | (refine And.intro (by first | assumption | exact Exists.intro _ (by assumption) | exact ⟨rfl, rfl, by decide, by decide⟩ | exact Nat.le_of_ble_eq_true rfl | exact rfl) ?_; with_reducible conv => whnf) | (rw [isLst_at (by assumption)]; with_reducible conv => whnf) | (refine ifT rfl ?_; with_reducible conv => whnf) | (refine ifF rfl ?_; with_reducible conv => whnf) | (refine it_at (by assumption) ?_; with_reducible conv => whnf)))
  refine ⟨p, 1 - p, rfl, hp.sm, hp.sub.1, fun S3 s3 => ?_⟩
  ((with_reducible conv => whnf); repeat (first | (rw [natD_len]; with_reducible conv => whnf) | (rw [intD_len]; with_reducible conv => whnf) | (refine Exists.intro _ (And.intro (rfl : _ = some _) ?_); with_reducible conv => whnf) | (refine And.intro (okII _ _) ?_; rw [eqD_ii]; with_reducible conv => whnf) | (refine And.intro (by first | assumption | exact Exists.intro _ (by assumption) | exact ⟨rfl, rfl, by decide, by decide⟩ | exact Nat.le_of_ble_eq_true rfl | exact rfl) ?_; with_reducible conv => whnf) | (rw [isLst_at (by assumption)]; with_reducible conv => whnf) | (refine ifT rfl ?_; with_reducible conv => whnf) | (refine ifF rfl ?_; with_reducible conv => whnf) | (refine it_at (by assumption) ?_; with_reducible conv => whnf)))
  refine ⟨smallMul' (by decide), ?_⟩
  rw [show (2 : Int) * (1 + (mn : Int) - 1) = ((2 * mn : Nat) : Int) by omega]
  ((with_reducible conv => whnf); repeat (first | (rw [natD_len]; with_reducible conv => whnf) | (rw [intD_len]; with_reducible conv => whnf) | (refine Exists.intro _ (And.intro (rfl : _ = some _) ?_); with_reducible conv => whnf) | (refine And.intro (okII _ _) ?_; rw [eqD_ii]; with_reducible conv => whnf) | (refine And.intro (by first | assumption | exact Exists.intro _ (by assumption) | exact ⟨rfl, rfl, by decide, by decide⟩ | exact Nat.le_of_ble_eq_true rfl | exact rfl) ?_; with_reducible conv => whnf) | (rw [isLst_at (by assumption)]; with_reducible conv => whnf) | (refine ifT rfl ?_; with_reducible conv => whnf) | (refine ifF rfl ?_; with_reducible conv => whnf) | (refine it_at (by assumption) ?_; with_reducible conv => whnf)))
  rw [qD_nat]
  refine ⟨p * (1 - p), ((2 * mn : Nat) : Rat), rfl, hp.sub.2, sm_nat (by omega), fun S4 s4 => ?_⟩
  have hmr : mrQ p (1 + mn) = 1 + p * (1 - p) * ((2 * mn : Nat) : Rat) := by
    unfold mrQ
    rw [if_neg (by omega), show 1 + mn - 1 = mn by omega, Rat.mul_comm]
  have hms := mr_sm hp (n := 1 + mn) (by omega)
  rw [show 1 + mn - 1 = mn by omega, Rat.mul_comm] at hms
  ((with_reducible conv => whnf); repeat (first | (rw [natD_len]; with_reducible conv => whnf) | (rw [intD_len]; with_reducible conv => whnf) | (refine Exists.intro _ (And.intro (rfl : _ = some _) ?_); with_reducible conv => whnf) | (refine And.intro (okII _ _) ?_; rw [eqD_ii]; with_reducible conv => whnf) | (refine And.intro (by first | assumption | exact Exists.intro _ (by assumption) | exact ⟨rfl, rfl, by decide, by decide⟩ | exact Nat.le_of_ble_eq_true rfl | exact rfl) ?_; with_reducible conv => whnf) | (rw [isLst_at (by assumption)]; with_reducible conv => whnf) | (refine ifT rfl ?_; with_reducible conv => whnf) | (refine ifF rfl ?_; with_reducible conv => whnf) | (refine it_at (by assumption) ?_; with_reducible conv => whnf)))
  rw [show (1 : Int) + (mn : Int) = ((1 + mn : Nat) : Int) by omega]
  refine ⟨p, 1 + mn, rfl, hp, by omega, fun S5 s5 => ?_⟩
  ((with_reducible conv => whnf); repeat (first | (rw [natD_len]; with_reducible conv => whnf) | (rw [intD_len]; with_reducible conv => whnf) | (refine Exists.intro _ (And.intro (rfl : _ = some _) ?_); with_reducible conv => whnf) | (refine And.intro (okII _ _) ?_; rw [eqD_ii]; with_reducible conv => whnf) | (refine And.intro (by first | assumption | exact Exists.intro _ (by assumption) | exact ⟨rfl, rfl, by decide, by decide⟩ | exact Nat.le_of_ble_eq_true rfl | exact rfl) ?_; with_reducible conv => whnf) | (rw [isLst_at (by assumption)]; with_reducible conv => whnf) | (refine ifT rfl ?_; with_reducible conv => whnf) | (refine ifF rfl ?_; with_reducible conv => whnf) | (refine it_at (by assumption) ?_; with_reducible conv => whnf)))
  refine ⟨1, p * (1 - p) * ((2 * mn : Nat) : Rat), rfl, sm1, hms, fun S6 s6 => ?_⟩
  rw [hmr]
  ((with_reducible conv => whnf); repeat (first | (rw [natD_len]; with_reducible conv => whnf) | (rw [intD_len]; with_reducible conv => whnf) | (refine Exists.intro _ (And.intro (rfl : _ = some _) ?_); with_reducible conv => whnf) | (refine And.intro (okII _ _) ?_; rw [eqD_ii]; with_reducible conv => whnf) | (refine And.intro (by first | assumption | exact Exists.intro _ (by assumption) | exact ⟨rfl, rfl, by decide, by decide⟩ | exact Nat.le_of_ble_eq_true rfl | exact rfl) ?_; with_reducible conv => whnf) | (rw [isLst_at (by assumption)]; with_reducible conv => whnf) | (refine ifT rfl ?_; with_reducible conv => whnf) | (refine ifF rfl ?_; with_reducible conv => whnf) | (refine it_at (by assumption) ?_; with_reducible conv => whnf)))
  refine ⟨_, rfl, (slq _).1, (slq _).2.1, (slq _).2.2, fun S7 s7 => ?_⟩
  ((with_reducible conv => whnf); repeat (first | (rw [natD_len]; with_reducible conv => whnf) | (rw [intD_len]; with_reducible conv => whnf) | (refine Exists.intro _ (And.intro (rfl : _ = some _) ?_); with_reducible conv => whnf) | (refine And.intro (okII _ _) ?_; rw [eqD_ii]; with_reducible conv => whnf) | (refine And.intro (by first | assumption | exact Exists.intro _ (by assumption) | exact ⟨rfl, rfl, by decide, by decide⟩ | exact Nat.le_of_ble_eq_true rfl | exact rfl) ?_; with_reducible conv => whnf) | (rw [isLst_at (by assumption)]; with_reducible conv => whnf) | (refine ifT rfl ?_; with_reducible conv => whnf) | (refine ifF rfl ?_; with_reducible conv => whnf) | (refine it_at (by assumption) ?_; with_reducible conv => whnf)))
  refine ⟨p, 0, rfl, hp, by omega, fun S8 s8 => ?_⟩
  ((with_reducible conv => whnf); repeat (first | (rw [natD_len]; with_reducible conv => whnf) | (rw [intD_len]; with_reducible conv => whnf) | (refine Exists.intro _ (And.intro (rfl : _ = some _) ?_); with_reducible conv => whnf) | (refine And.intro (okII _ _) ?_; rw [eqD_ii]; with_reducible conv => whnf) | (refine And.intro (by first | assumption | exact Exists.intro _ (by assumption) | exact ⟨rfl, rfl, by decide, by decide⟩ | exact Nat.le_of_ble_eq_true rfl | exact rfl) ?_; with_reducible conv => whnf) | (rw [isLst_at (by assumption)]; with_reducible conv => whnf) | (refine ifT rfl ?_; with_reducible conv => whnf) | (refine ifF rfl ?_; with_reducible conv => whnf) | (refine it_at (by assumption) ?_; with_reducible conv => whnf)))
  refine ⟨qD 0, rfl, (slq _).1, (slq _).2.1, (slq _).2.2, fun S9 s9 => ?_⟩
  ((with_reducible conv => whnf); repeat (first | (rw [natD_len]; with_reducible conv => whnf) | (rw [intD_len]; with_reducible conv => whnf) | (refine Exists.intro _ (And.intro (rfl : _ = some _) ?_); with_reducible conv => whnf) | (refine And.intro (okII _ _) ?_; rw [eqD_ii]; with_reducible conv => whnf) | (refine And.intro (by first | assumption | exact Exists.intro _ (by assumption) | exact ⟨rfl, rfl, by decide, by decide⟩ | exact Nat.le_of_ble_eq_true rfl | exact rfl) ?_; with_reducible conv => whnf) | (rw [isLst_at (by assumption)]; with_reducible conv => whnf) | (refine ifT rfl ?_; with_reducible conv => whnf) | (refine ifF rfl ?_; with_reducible conv => whnf) | (refine it_at (by assumption) ?_; with_reducible conv => whnf)))
  refine ⟨4, 2, rfl, by omega, by omega, by omega, fun S10 s10 => ?_⟩
  rw [show cntW 2 4 = 8 by decide +kernel]
  ((with_reducible conv => whnf); repeat (first | (rw [natD_len]; with_reducible conv => whnf) | (rw [intD_len]; with_reducible conv => whnf) | (refine Exists.intro _ (And.intro (rfl : _ = some _) ?_); with_reducible conv => whnf) | (refine And.intro (okII _ _) ?_; rw [eqD_ii]; with_reducible conv => whnf) | (refine And.intro (by first | assumption | exact Exists.intro _ (by assumption) | exact ⟨rfl, rfl, by decide, by decide⟩ | exact Nat.le_of_ble_eq_true rfl | exact rfl) ?_; with_reducible conv => whnf) | (rw [isLst_at (by assumption)]; with_reducible conv => whnf) | (refine ifT rfl ?_; with_reducible conv => whnf) | (refine ifF rfl ?_; with_reducible conv => whnf) | (refine it_at (by assumption) ?_; with_reducible conv => whnf)))
  refine ⟨.int 8, rfl, rfl, rfl, Nat.zero_le _, fun S11 s11 => ?_⟩
  ((with_reducible conv => whnf); repeat (first | (rw [natD_len]; with_reducible conv => whnf) | (rw [intD_len]; with_reducible conv => whnf) | (refine Exists.intro _ (And.intro (rfl : _ = some _) ?_); with_reducible conv => whnf) | (refine And.intro (okII _ _) ?_; rw [eqD_ii]; with_reducible conv => whnf) | (refine And.intro (by first | assumption | exact Exists.intro _ (by assumption) | exact ⟨rfl, rfl, by decide, by decide⟩ | exact Nat.le_of_ble_eq_true rfl | exact rfl) ?_; with_reducible conv => whnf) | (rw [isLst_at (by assumption)]; with_reducible conv => whnf) | (refine ifT rfl ?_; with_reducible conv => whnf) | (refine ifF rfl ?_; with_reducible conv => whnf) | (refine it_at (by assumption) ?_; with_reducible conv => whnf)))
  rw [half]
  refine ⟨_, 3, rfl, chalf, by decide +kernel, by omega, fun S12 s12 => ?_⟩
  rw [wt3]
  ((with_reducible conv => whnf); repeat (first | (rw [natD_len]; with_reducible conv => whnf) | (rw [intD_len]; with_reducible conv => whnf) | (refine Exists.intro _ (And.intro (rfl : _ = some _) ?_); with_reducible conv => whnf) | (refine And.intro (okII _ _) ?_; rw [eqD_ii]; with_reducible conv => whnf) | (refine And.intro (by first | assumption | exact Exists.intro _ (by assumption) | exact ⟨rfl, rfl, by decide, by decide⟩ | exact Nat.le_of_ble_eq_true rfl | exact rfl) ?_; with_reducible conv => whnf) | (rw [isLst_at (by assumption)]; with_reducible conv => whnf) | (refine ifT rfl ?_; with_reducible conv => whnf) | (refine ifF rfl ?_; with_reducible conv => whnf) | (refine it_at (by assumption) ?_; with_reducible conv => whnf)))
  refine ⟨qD 14, rfl, (slq _).1, (slq _).2.1, (slq _).2.2, fun S13 s13 => ?_⟩
  ((with_reducible conv => whnf); repeat (first | (rw [natD_len]; with_reducible conv => whnf) | (rw [intD_len]; with_reducible conv => whnf) | (refine Exists.intro _ (And.intro (rfl : _ = some _) ?_); with_reducible conv => whnf) | (refine And.intro (okII _ _) ?_; rw [eqD_ii]; with_reducible conv => whnf) | (refine And.intro (by first | assumption | exact Exists.intro _ (by assumption) | exact ⟨rfl, rfl, by decide, by decide⟩ | exact Nat.le_of_ble_eq_true rfl | exact rfl) ?_; with_reducible conv => whnf) | (rw [isLst_at (by assumption)]; with_reducible conv => whnf) | (refine ifT rfl ?_; with_reducible conv => whnf) | (refine ifF rfl ?_; with_reducible conv => whnf) | (refine it_at (by assumption) ?_; with_reducible conv => whnf)))
  refine ⟨2, 1, 2, rfl, by omega, by omega, fun S14 s14 => ?_⟩
  rw [show cbrZ 2 1 2 = 2 by decide +kernel]
  ((with_reducible conv => whnf); repeat (first | (rw [natD_len]; with_reducible conv => whnf) | (rw [intD_len]; with_reducible conv => whnf) | (refine Exists.intro _ (And.intro (rfl : _ = some _) ?_); with_reducible conv => whnf) | (refine And.intro (okII _ _) ?_; rw [eqD_ii]; with_reducible conv => whnf) | (refine And.intro (by first | assumption | exact Exists.intro _ (by assumption) | exact ⟨rfl, rfl, by decide, by decide⟩ | exact Nat.le_of_ble_eq_true rfl | exact rfl) ?_; with_reducible conv => whnf) | (rw [isLst_at (by assumption)]; with_reducible conv => whnf) | (refine ifT rfl ?_; with_reducible conv => whnf) | (refine ifF rfl ?_; with_reducible conv => whnf) | (refine it_at (by assumption) ?_; with_reducible conv => whnf)))
  refine ⟨.int 2, rfl, rfl, rfl, Nat.zero_le _, fun S15 s15 => ?_⟩
  ((with_reducible conv => whnf); repeat (first | (rw [natD_len]; with_reducible conv => whnf) | (rw [intD_len]; with_reducible conv => whnf) | (refine Exists.intro _ (And.intro (rfl : _ = some _) ?_); with_reducible conv => whnf) | (refine And.intro (okII _ _) ?_; rw [eqD_ii]; with_reducible conv => whnf) | (refine And.intro (by first | assumption | exact Exists.intro _ (by assumption) | exact ⟨rfl, rfl, by decide, by decide⟩ | exact Nat.le_of_ble_eq_true rfl | exact rfl) ?_; with_reducible conv => whnf) | (rw [isLst_at (by assumption)]; with_reducible conv => whnf) | (refine ifT rfl ?_; with_reducible conv => whnf) | (refine ifF rfl ?_; with_reducible conv => whnf) | (refine it_at (by assumption) ?_; with_reducible conv => whnf)))
  rw [tx4]
  refine ⟨_, rfl, by decide, fun S16 s16 => ?_⟩
  rw [show natD (lens [true, true, false, true]) = [.int 2, .int 1, .int 1] from rfl]
  ((with_reducible conv => whnf); repeat (first | (rw [natD_len]; with_reducible conv => whnf) | (rw [intD_len]; with_reducible conv => whnf) | (refine Exists.intro _ (And.intro (rfl : _ = some _) ?_); with_reducible conv => whnf) | (refine And.intro (okII _ _) ?_; rw [eqD_ii]; with_reducible conv => whnf) | (refine And.intro (by first | assumption | exact Exists.intro _ (by assumption) | exact ⟨rfl, rfl, by decide, by decide⟩ | exact Nat.le_of_ble_eq_true rfl | exact rfl) ?_; with_reducible conv => whnf) | (rw [isLst_at (by assumption)]; with_reducible conv => whnf) | (refine ifT rfl ?_; with_reducible conv => whnf) | (refine ifF rfl ?_; with_reducible conv => whnf) | (refine it_at (by assumption) ?_; with_reducible conv => whnf)))
  refine ⟨.tup [.int 2, .int 1, .int 1], rfl, rfl, by show (decide (3 ≤ szL) && true) = true; decide, by decide, fun S17 s17 => ?_⟩
  ((with_reducible conv => whnf); repeat (first | (rw [natD_len]; with_reducible conv => whnf) | (rw [intD_len]; with_reducible conv => whnf) | (refine Exists.intro _ (And.intro (rfl : _ = some _) ?_); with_reducible conv => whnf) | (refine And.intro (okII _ _) ?_; rw [eqD_ii]; with_reducible conv => whnf) | (refine And.intro (by first | assumption | exact Exists.intro _ (by assumption) | exact ⟨rfl, rfl, by decide, by decide⟩ | exact Nat.le_of_ble_eq_true rfl | exact rfl) ?_; with_reducible conv => whnf) | (rw [isLst_at (by assumption)]; with_reducible conv => whnf) | (refine ifT rfl ?_; with_reducible conv => whnf) | (refine ifF rfl ?_; with_reducible conv => whnf) | (refine it_at (by assumption) ?_; with_reducible conv => whnf)))
  rw [ofE, ofH]
  refine ⟨[], true, rfl, by decide, fun S18 s18 => ?_⟩
  ((with_reducible conv => whnf); repeat (first | (rw [natD_len]; with_reducible conv => whnf) | (rw [intD_len]; with_reducible conv => whnf) | (refine Exists.intro _ (And.intro (rfl : _ = some _) ?_); with_reducible conv => whnf) | (refine And.intro (okII _ _) ?_; rw [eqD_ii]; with_reducible conv => whnf) | (refine And.intro (by first | assumption | exact Exists.intro _ (by assumption) | exact ⟨rfl, rfl, by decide, by decide⟩ | exact Nat.le_of_ble_eq_true rfl | exact rfl) ?_; with_reducible conv => whnf) | (rw [isLst_at (by assumption)]; with_reducible conv => whnf) | (refine ifT rfl ?_; with_reducible conv => whnf) | (refine ifF rfl ?_; with_reducible conv => whnf) | (refine it_at (by assumption) ?_; with_reducible conv => whnf)))
  refine ⟨.int 0, rfl, rfl, rfl, Nat.zero_le _, fun S19 s19 => ?_⟩
  ((with_reducible conv => whnf); repeat (first | (rw [natD_len]; with_reducible conv => whnf) | (rw [intD_len]; with_reducible conv => whnf) | (refine Exists.intro _ (And.intro (rfl : _ = some _) ?_); with_reducible conv => whnf) | (refine And.intro (okII _ _) ?_; rw [eqD_ii]; with_reducible conv => whnf) | (refine And.intro (by first | assumption | exact Exists.intro _ (by assumption) | exact ⟨rfl, rfl, by decide, by decide⟩ | exact Nat.le_of_ble_eq_true rfl | exact rfl) ?_; with_reducible conv => whnf) | (rw [isLst_at (by assumption)]; with_reducible conv => whnf) | (refine ifT rfl ?_; with_reducible conv => whnf) | (refine ifF rfl ?_; with_reducible conv => whnf) | (refine it_at (by assumption) ?_; with_reducible conv => whnf)))
  refine ⟨p, n, k, rfl, hp, hn, hk1, hk2, hb, fun S20 s20 => ?_⟩
  ((with_reducible conv => whnf); repeat (first | (rw [natD_len]; with_reducible conv => whnf) | (rw [intD_len]; with_reducible conv => whnf) | (refine Exists.intro _ (And.intro (rfl : _ = some _) ?_); with_reducible conv => whnf) | (refine And.intro (okII _ _) ?_; rw [eqD_ii]; with_reducible conv => whnf) | (refine And.intro (by first | assumption | exact Exists.intro _ (by assumption) | exact ⟨rfl, rfl, by decide, by decide⟩ | exact Nat.le_of_ble_eq_true rfl | exact rfl) ?_; with_reducible conv => whnf) | (rw [isLst_at (by assumption)]; with_reducible conv => whnf) | (refine ifT rfl ?_; with_reducible conv => whnf) | (refine ifF rfl ?_; with_reducible conv => whnf) | (refine it_at (by assumption) ?_; with_reducible conv => whnf)))
  exact ⟨_, rfl, (slq _).1, (slq _).2.1, (slq _).2.2, fun S21 s21 => kk _⟩
theorem law_E {Q : VK} {n0 k n : Nat} {p : Rat} {x0 x3 x4 x7 x9 x10 x11 x12 x13 x14 x15 x16 x17 : Option D} {S : Sto} (hp : Chn p) (hk1 : 1 ≤ k) (hk2 : k ≤ 500) (hn : n ≤ 420) (hb : p.den ^ n < 2 ^ 420) (kk : ∀ S', Q (.bl true) S') (d0 : Dr n0 S) :
    w_law_t19 sp_draws sp_chance sp_take sp_row sp_lruns sp_runs (sp_same 2) sp_longest sp_longest sp_few sp_cw sp_cw sp_cwo sp_cwo sp_pow sp_frac sp_par sp_ways sp_cbr (sp_s2 (· + ·)) sp_until (sp_s2 (· - ·)) (sp_s2 (· * ·)) sp_mr { nx := fun _ S' => Q .non S', rt := Q, bk := fun _ _ => False, ct := fun _ _ => False } [x0, some (.ref n0), some (qD p), x3, x4, some (.int k), some (.int n), x7, some (qD (rsum (dpQ p k n))), x9, x10, x11, x12, x13, x14, x15, x16, x17] S := by
  ((with_reducible conv => whnf); repeat (first | (rw [natD_len]; with_reducible conv => whnf) | (rw [intD_len]; with_reducible conv => whnf) | (refine Exists.intro _ (And.intro (rfl : _ = some _) ?_); with_reducible conv => whnf) | (refine And.intro (okII _ _) ?_; rw [eqD_ii]; with_reducible conv => whnf) | (refine And.intro (by first | assumption | exact Exists.intro _ (by assumption) | exact ⟨rfl, rfl, by decide, by decide⟩ | exact Nat.le_of_ble_eq_true rfl | exact rfl) ?_; with_reducible conv => whnf) | (rw [isLst_at (by assumption)]; with_reducible conv => whnf) | (refine ifT rfl ?_; with_reducible conv => whnf) | (refine ifF rfl ?_; with_reducible conv => whnf) | (refine it_at (by assumption) ?_; with_reducible conv => whnf)))
  refine ite_d (fun hc => ?_) fun hc => ?_
  · have h0 : 0 < p := by
      have := hp.lo
      false_or_by_contra
      have h : p = 0 := by grind
      rw [h] at hc; exact absurd hc (by decide)
    obtain ⟨q1, q2⟩ := hp.num h0
    ((with_reducible conv => whnf); repeat (first | (rw [natD_len]; with_reducible conv => whnf) | (rw [intD_len]; with_reducible conv => whnf) | (refine Exists.intro _ (And.intro (rfl : _ = some _) ?_); with_reducible conv => whnf) | (refine And.intro (okII _ _) ?_; rw [eqD_ii]; with_reducible conv => whnf) | (refine And.intro (by first | assumption | exact Exists.intro _ (by assumption) | exact ⟨rfl, rfl, by decide, by decide⟩ | exact Nat.le_of_ble_eq_true rfl | exact rfl) ?_; with_reducible conv => whnf) | (rw [isLst_at (by assumption)]; with_reducible conv => whnf) | (refine ifT rfl ?_; with_reducible conv => whnf) | (refine ifF rfl ?_; with_reducible conv => whnf) | (refine it_at (by assumption) ?_; with_reducible conv => whnf)))
    refine ⟨n0, 9, rfl, by decide, d0, fun m S1 m0 m1 d1 _ => ?_⟩
    obtain ⟨mn, rfl⟩ : ∃ mn : Nat, m = mn := ⟨m.toNat, by omega⟩
    ((with_reducible conv => whnf); repeat (first | (rw [natD_len]; with_reducible conv => whnf) | (rw [intD_len]; with_reducible conv => whnf) | (refine Exists.intro _ (And.intro (rfl : _ = some _) ?_); with_reducible conv => whnf) | (refine And.intro (okII _ _) ?_; rw [eqD_ii]; with_reducible conv => whnf) | (refine And.intro (by first | assumption | exact Exists.intro _ (by assumption) | exact ⟨rfl, rfl, by decide, by decide⟩ | exact Nat.le_of_ble_eq_true rfl | exact rfl) ?_; with_reducible conv => whnf) | (rw [isLst_at (by assumption)]; with_reducible conv => whnf) | (refine ifT rfl ?_; with_reducible conv => whnf) | (refine ifF rfl ?_; with_reducible conv => whnf) | (refine it_at (by assumption) ?_; with_reducible conv => whnf)))
    refine ⟨⟨by omega, by omega⟩, ?_⟩
    refine Loop_mk (fun i ρ S' => ∃ o16, ρ = [x0, some (.ref n0), some (qD p), x3, x4, some (.int k), some (.int n), some (.int mn), some (qD (rsum (dpQ p k n))), x9, x10, x11, x12, x13, x14, some (qD (wtQ p i)), o16, x17] ∧ Dr n0 S') ⟨x16, rfl, d1⟩ (by intros; trivial) ?_ ?_
    · rintro i d ρ' S' hi ⟨o16, rfl, d2⟩
      obtain ⟨hi1, rfl⟩ := rangeD_get hi
      obtain ⟨w1, w2⟩ := wt_sm hp h0 (show i ≤ 20 by omega)
      ((with_reducible conv => whnf); repeat (first | (rw [natD_len]; with_reducible conv => whnf) | (rw [intD_len]; with_reducible conv => whnf) | (refine Exists.intro _ (And.intro (rfl : _ = some _) ?_); with_reducible conv => whnf) | (refine And.intro (okII _ _) ?_; rw [eqD_ii]; with_reducible conv => whnf) | (refine And.intro (by first | assumption | exact Exists.intro _ (by assumption) | exact ⟨rfl, rfl, by decide, by decide⟩ | exact Nat.le_of_ble_eq_true rfl | exact rfl) ?_; with_reducible conv => whnf) | (rw [isLst_at (by assumption)]; with_reducible conv => whnf) | (refine ifT rfl ?_; with_reducible conv => whnf) | (refine ifF rfl ?_; with_reducible conv => whnf) | (refine it_at (by assumption) ?_; with_reducible conv => whnf)))
      refine ⟨wtQ p i, 1, rfl, w1, sm1, fun S2 s2 => ?_⟩
      have nd : 0 < p.den := p.den_pos
      have hd := hp.den
      have s900 : (wtQ p i + 1).den < 2 ^ 900 := w2.1
      ((with_reducible conv => whnf); repeat (first | (rw [natD_len]; with_reducible conv => whnf) | (rw [intD_len]; with_reducible conv => whnf) | (refine Exists.intro _ (And.intro (rfl : _ = some _) ?_); with_reducible conv => whnf) | (refine And.intro (okII _ _) ?_; rw [eqD_ii]; with_reducible conv => whnf) | (refine And.intro (by first | assumption | exact Exists.intro _ (by assumption) | exact ⟨rfl, rfl, by decide, by decide⟩ | exact Nat.le_of_ble_eq_true rfl | exact rfl) ?_; with_reducible conv => whnf) | (rw [isLst_at (by assumption)]; with_reducible conv => whnf) | (refine ifT rfl ?_; with_reducible conv => whnf) | (refine ifF rfl ?_; with_reducible conv => whnf) | (refine it_at (by assumption) ?_; with_reducible conv => whnf)))
      refine ⟨sm_mul (Nat.lt_of_lt_of_le w2.2 (pow_le2 (by decide))) (by rw [Int.natAbs_natCast]; exact Nat.lt_of_lt_of_le (show p.den < 2 ^ 5 by omega) (pow_le2 (by decide))), ?_⟩
      ((with_reducible conv => whnf); repeat (first | (rw [natD_len]; with_reducible conv => whnf) | (rw [intD_len]; with_reducible conv => whnf) | (refine Exists.intro _ (And.intro (rfl : _ = some _) ?_); with_reducible conv => whnf) | (refine And.intro (okII _ _) ?_; rw [eqD_ii]; with_reducible conv => whnf) | (refine And.intro (by first | assumption | exact Exists.intro _ (by assumption) | exact ⟨rfl, rfl, by decide, by decide⟩ | exact Nat.le_of_ble_eq_true rfl | exact rfl) ?_; with_reducible conv => whnf) | (rw [isLst_at (by assumption)]; with_reducible conv => whnf) | (refine ifT rfl ?_; with_reducible conv => whnf) | (refine ifF rfl ?_; with_reducible conv => whnf) | (refine it_at (by assumption) ?_; with_reducible conv => whnf)))
      refine ⟨sm_mul (by rw [Int.natAbs_natCast]; exact Nat.lt_of_lt_of_le s900 (pow_le2 (by decide))) (Nat.lt_of_lt_of_le (show p.num.natAbs < 2 ^ 5 by omega) (pow_le2 (by decide))), ?_⟩
      ((with_reducible conv => whnf); repeat (first | (rw [natD_len]; with_reducible conv => whnf) | (rw [intD_len]; with_reducible conv => whnf) | (refine Exists.intro _ (And.intro (rfl : _ = some _) ?_); with_reducible conv => whnf) | (refine And.intro (okII _ _) ?_; rw [eqD_ii]; with_reducible conv => whnf) | (refine And.intro (by first | assumption | exact Exists.intro _ (by assumption) | exact ⟨rfl, rfl, by decide, by decide⟩ | exact Nat.le_of_ble_eq_true rfl | exact rfl) ?_; with_reducible conv => whnf) | (rw [isLst_at (by assumption)]; with_reducible conv => whnf) | (refine ifT rfl ?_; with_reducible conv => whnf) | (refine ifF rfl ?_; with_reducible conv => whnf) | (refine it_at (by assumption) ?_; with_reducible conv => whnf)))
      refine ⟨_, _, rfl, Int.mul_ne_zero (fun e => (wtQ p i + 1).den_nz (by exact_mod_cast e)) (by omega), ?_, fun S3 s3 => ?_⟩
      · rw [Int.natAbs_mul, Int.natAbs_natCast]
        exact Nat.lt_of_lt_of_le (Nat.mul_lt_mul'' s900 (show p.num.natAbs < 2 ^ 5 by omega)) (by rw [← Nat.pow_add]; exact pow_le2 (by decide))
      · rw [q_over]
        ((with_reducible conv => whnf); repeat (first | (rw [natD_len]; with_reducible conv => whnf) | (rw [intD_len]; with_reducible conv => whnf) | (refine Exists.intro _ (And.intro (rfl : _ = some _) ?_); with_reducible conv => whnf) | (refine And.intro (okII _ _) ?_; rw [eqD_ii]; with_reducible conv => whnf) | (refine And.intro (by first | assumption | exact Exists.intro _ (by assumption) | exact ⟨rfl, rfl, by decide, by decide⟩ | exact Nat.le_of_ble_eq_true rfl | exact rfl) ?_; with_reducible conv => whnf) | (rw [isLst_at (by assumption)]; with_reducible conv => whnf) | (refine ifT rfl ?_; with_reducible conv => whnf) | (refine ifF rfl ?_; with_reducible conv => whnf) | (refine it_at (by assumption) ?_; with_reducible conv => whnf)))
        exact ⟨_, rfl, d2.sub (s2.trans s3)⟩
    · rintro ρ' S' ⟨o16, rfl, d2⟩
      rw [rangeD_len, show ((mn : Int) - 0).toNat = mn by omega]
      ((with_reducible conv => whnf); repeat (first | (rw [natD_len]; with_reducible conv => whnf) | (rw [intD_len]; with_reducible conv => whnf) | (refine Exists.intro _ (And.intro (rfl : _ = some _) ?_); with_reducible conv => whnf) | (refine And.intro (okII _ _) ?_; rw [eqD_ii]; with_reducible conv => whnf) | (refine And.intro (by first | assumption | exact Exists.intro _ (by assumption) | exact ⟨rfl, rfl, by decide, by decide⟩ | exact Nat.le_of_ble_eq_true rfl | exact rfl) ?_; with_reducible conv => whnf) | (rw [isLst_at (by assumption)]; with_reducible conv => whnf) | (refine ifT rfl ?_; with_reducible conv => whnf) | (refine ifF rfl ?_; with_reducible conv => whnf) | (refine it_at (by assumption) ?_; with_reducible conv => whnf)))
      refine ⟨p, mn, rfl, hp, h0, by omega, fun S2 s2 => ?_⟩
      ((with_reducible conv => whnf); repeat (first | (rw [natD_len]; with_reducible conv => whnf) | (rw [intD_len]; with_reducible conv => whnf) | (refine Exists.intro _ (And.intro (rfl : _ = some _) ?_); with_reducible conv => whnf) | (refine And.intro (okII _ _) ?_; rw [eqD_ii]; with_reducible conv => whnf) | (refine And.intro (by first | assumption | exact Exists.intro _ (by assumption) | exact ⟨rfl, rfl, by decide, by decide⟩ | exact Nat.le_of_ble_eq_true rfl | exact rfl) ?_; with_reducible conv => whnf) | (rw [isLst_at (by assumption)]; with_reducible conv => whnf) | (refine ifT rfl ?_; with_reducible conv => whnf) | (refine ifF rfl ?_; with_reducible conv => whnf) | (refine it_at (by assumption) ?_; with_reducible conv => whnf)))
      refine ⟨_, rfl, (slq _).1, (slq _).2.1, (slq _).2.2, fun S3 s3 => ?_⟩
      exact law_F hp hk1 hk2 hn hb kk (d2.sub (s2.trans s3))
  · exact law_F hp hk1 hk2 hn hb kk d0
end K94
set_option linter.all false
set_option maxRecDepth 100000
set_option maxHeartbeats 4000000
namespace K94
open DL
theorem cR_big {n h m : Nat} (hm : n < m) : cR n h m = 0 := by
  unfold cR
  rw [nsm_congr (g := fun _ => 0) fun r hr => by
    have := rl_len r
    rw [allR_mem hr] at this
    rw [if_neg]
    unfold nr
    omega]
  exact nsm_zero _
theorem cbr_nat (h t m : Nat) : cbrZ h t m = ((cR (h + t) h m : Nat) : Int) := by
  rw [cR_cbr (by omega), show ((h + t : Nat) : Int) - h = (t : Int) by omega]
/-- what the law reckons for so many runs -/
def tdZ (h t m : Nat) : Int := parZ h (((m : Int) + 1).fdiv 2) * parZ t ((m : Int).fdiv 2) + parZ t (((m : Int) + 1).fdiv 2) * parZ h ((m : Int).fdiv 2)
theorem tdZ_eq {h t m : Nat} (hh : 0 < h + t) : tdZ h t m = ((cR (h + t) h m : Nat) : Int) := by
  rw [← cbr_nat]
  unfold tdZ cbrZ
  cases m with
  | zero =>
    rw [if_pos (.inr (by omega)), if_neg (by omega)]
    show parZ h 0 * parZ t 0 + parZ t 0 * parZ h 0 = 0
    have e0 : ∀ x : Nat, parZ (x : Int) 0 = if x = 0 then 1 else 0 := fun x => by
      unfold parZ
      rw [if_pos rfl]
      by_cases c : x = 0
      · rw [if_pos (by omega), if_pos c]
      · rw [if_neg (by omega), if_neg c]
    rw [e0, e0]
    by_cases c : h = 0
    · rw [if_pos c, if_neg (show ¬ t = 0 by omega)]; rfl
    · rw [if_neg c]; omega
  | succ m =>
    rw [if_neg (by omega)]
    congr 1
    exact Int.mul_comm _ _
theorem pick7 {a b c d e f g x : Int} {i : Nat} (h : ([a, b, c, d, e, f, g] : List Int)[i]? = some x) : x = a ∨ x = b ∨ x = c ∨ x = d ∨ x = e ∨ x = f ∨ x = g := by
  have := List.mem_of_getElem? h
  simpa using this
theorem law_D {Q : VK} {n0 k n : Nat} {p : Rat} {x0 x3 x4 x7 x9 x10 x11 x12 x13 x14 x15 x16 x17 : Option D} {S : Sto} (hp : Chn p) (hk1 : 1 ≤ k) (hk2 : k ≤ 500) (hn : n ≤ 420) (hb : p.den ^ n < 2 ^ 420) (kk : ∀ S', Q (.bl true) S') (d0 : Dr n0 S) :
    w_law_t12 sp_draws sp_chance sp_take sp_row sp_lruns sp_runs (sp_same 2) sp_longest sp_longest sp_few sp_cw sp_cw sp_cwo sp_cwo sp_pow sp_frac sp_par sp_ways sp_cbr (sp_s2 (· + ·)) sp_until (sp_s2 (· - ·)) (sp_s2 (· * ·)) sp_mr { nx := fun _ S' => Q .non S', rt := Q, bk := fun _ _ => False, ct := fun _ _ => False } [x0, some (.ref n0), some (qD p), x3, x4, some (.int k), some (.int n), x7, some (qD (rsum (dpQ p k n))), x9, x10, x11, x12, x13, x14, x15, x16, x17] S := by
  ((with_reducible conv => whnf); repeat (first | (rw [natD_len]; with_reducible conv => whnf) | (rw [intD_len]; with_reducible conv => whnf) | (refine Exists.intro _ (And.intro (rfl : _ = some _) ?_); with_reducible conv => whnf) | (refine And.intro (okII _ _) ?_; rw [eqD_ii]; with_reducible conv => whnf) | (refine And.intro (by first | assumption | exact Exists.intro _ (by assumption) | exact ⟨rfl, rfl, by decide, by decide⟩ | exact Nat.le_of_ble_eq_true rfl | exact rfl) ?_; with_reducible conv => whnf) | (rw [isLst_at (by assumption)]; with_reducible conv => whnf) | (refine ifT rfl ?_; with_reducible conv => whnf) | (refine ifF rfl ?_; with_reducible conv => whnf) | (refine it_at (by assumption) ?_; with_reducible conv => whnf)))
  refine ⟨n0, 41, rfl, by decide, d0, fun m S1 m0 m1 d1 _ => ?_⟩
  obtain ⟨h, rfl⟩ : ∃ mn : Nat, m = mn := ⟨m.toNat, by omega⟩
  ((with_reducible conv => whnf); repeat (first | (rw [natD_len]; with_reducible conv => whnf) | (rw [intD_len]; with_reducible conv => whnf) | (refine Exists.intro _ (And.intro (rfl : _ = some _) ?_); with_reducible conv => whnf) | (refine And.intro (okII _ _) ?_; rw [eqD_ii]; with_reducible conv => whnf) | (refine And.intro (by first | assumption | exact Exists.intro _ (by assumption) | exact ⟨rfl, rfl, by decide, by decide⟩ | exact Nat.le_of_ble_eq_true rfl | exact rfl) ?_; with_reducible conv => whnf) | (rw [isLst_at (by assumption)]; with_reducible conv => whnf) | (refine ifT rfl ?_; with_reducible conv => whnf) | (refine ifF rfl ?_; with_reducible conv => whnf) | (refine it_at (by assumption) ?_; with_reducible conv => whnf)))
  refine ⟨n0, 41, rfl, by decide, d1, fun m S2 q0 q1 d2 _ => ?_⟩
  obtain ⟨t, rfl⟩ : ∃ mn : Nat, m = mn := ⟨m.toNat, by omega⟩
  -- behind the sums
  have rest : ∀ (told : List Nat) (a : Nat) (S : Sto) x12 x13 x14, S[a]? = some (.lst (natD told)) → a ≠ n0 → Dr n0 S → told = (List.range (h + t + 1)).map (cR (h + t) h) →
      w_law_t17 sp_draws sp_chance sp_take sp_row sp_lruns sp_runs (sp_same 2) sp_longest sp_longest sp_few sp_cw sp_cw sp_cwo sp_cwo sp_pow sp_frac sp_par sp_ways sp_cbr (sp_s2 (· + ·)) sp_until (sp_s2 (· - ·)) (sp_s2 (· * ·)) sp_mr { nx := fun _ S' => Q .non S', rt := Q, bk := fun _ _ => False, ct := fun _ _ => False } [x0, some (.ref n0), some (qD p), x3, x4, some (.int k), some (.int n), x7, some (qD (rsum (dpQ p k n))), some (.int h), some (.int t), some (.ref a), x12, x13, x14, x15, x16, x17] S := by
    intro told a S x12 x13 x14 ea ha0 d0 ht
    have hl : told.length = h + t + 1 := by rw [ht, List.length_map, List.length_range]
    have hsum : told.sum = chs (h + t) h := by rw [ht]; exact cR_sum (h + t) h
    have hbig : (parZ 0 0).natAbs < 2 ^ 64 := by decide +kernel
    ((with_reducible conv => whnf); repeat (first | (rw [natD_len]; with_reducible conv => whnf) | (rw [intD_len]; with_reducible conv => whnf) | (refine Exists.intro _ (And.intro (rfl : _ = some _) ?_); with_reducible conv => whnf) | (refine And.intro (okII _ _) ?_; rw [eqD_ii]; with_reducible conv => whnf) | (refine And.intro (by first | assumption | exact Exists.intro _ (by assumption) | exact ⟨rfl, rfl, by decide, by decide⟩ | exact Nat.le_of_ble_eq_true rfl | exact rfl) ?_; with_reducible conv => whnf) | (rw [isLst_at (by assumption)]; with_reducible conv => whnf) | (refine ifT rfl ?_; with_reducible conv => whnf) | (refine ifF rfl ?_; with_reducible conv => whnf) | (refine it_at (by assumption) ?_; with_reducible conv => whnf)))
    refine ⟨_, itemsR ea, ?_⟩
    (with_reducible conv => whnf)
    rw [sum_cast, hsum]
    ((with_reducible conv => whnf); repeat (first | (rw [natD_len]; with_reducible conv => whnf) | (rw [intD_len]; with_reducible conv => whnf) | (refine Exists.intro _ (And.intro (rfl : _ = some _) ?_); with_reducible conv => whnf) | (refine And.intro (okII _ _) ?_; rw [eqD_ii]; with_reducible conv => whnf) | (refine And.intro (by first | assumption | exact Exists.intro _ (by assumption) | exact ⟨rfl, rfl, by decide, by decide⟩ | exact Nat.le_of_ble_eq_true rfl | exact rfl) ?_; with_reducible conv => whnf) | (rw [isLst_at (by assumption)]; with_reducible conv => whnf) | (refine ifT rfl ?_; with_reducible conv => whnf) | (refine ifF rfl ?_; with_reducible conv => whnf) | (refine it_at (by assumption) ?_; with_reducible conv => whnf)))
    refine ⟨_, _, rfl, by omega, fun S1 s1 => ?_⟩
    rw [show (h : Int) + t = ((h + t : Nat) : Int) by omega, waysZ_nat]
    replace ea := s1 _ _ ea
    have d1 := d0.sub s1
    clear d0 s1
    (with_reducible conv => whnf)
    refine ⟨okII _ _, ?_⟩
    rw [eqD_ii, decide_eq_true (show ((chs (h + t) h : Nat) : Int) = ((chs (h + t) h : Nat) : Int) from rfl)]
    ((with_reducible conv => whnf); repeat (first | (rw [natD_len]; with_reducible conv => whnf) | (rw [intD_len]; with_reducible conv => whnf) | (refine Exists.intro _ (And.intro (rfl : _ = some _) ?_); with_reducible conv => whnf) | (refine And.intro (okII _ _) ?_; rw [eqD_ii]; with_reducible conv => whnf) | (refine And.intro (by first | assumption | exact Exists.intro _ (by assumption) | exact ⟨rfl, rfl, by decide, by decide⟩ | exact Nat.le_of_ble_eq_true rfl | exact rfl) ?_; with_reducible conv => whnf) | (rw [isLst_at (by assumption)]; with_reducible conv => whnf) | (refine ifT rfl ?_; with_reducible conv => whnf) | (refine ifF rfl ?_; with_reducible conv => whnf) | (refine it_at (by assumption) ?_; with_reducible conv => whnf)))
    refine ⟨n0, ((h + t : Nat) : Int) + 1, by rw [show ((h + t : Nat) : Int) = (h : Int) + t by omega], by omega, d1, fun u S3 u0 u1 d3 c3 => ?_⟩
    replace ea := c3 _ _ ha0 ea
    obtain ⟨un, rfl⟩ : ∃ mn : Nat, u = mn := ⟨u.toNat, by omega⟩
    ((with_reducible conv => whnf); repeat (first | (rw [natD_len]; with_reducible conv => whnf) | (rw [intD_len]; with_reducible conv => whnf) | (refine Exists.intro _ (And.intro (rfl : _ = some _) ?_); with_reducible conv => whnf) | (refine And.intro (okII _ _) ?_; rw [eqD_ii]; with_reducible conv => whnf) | (refine And.intro (by first | assumption | exact Exists.intro _ (by assumption) | exact ⟨rfl, rfl, by decide, by decide⟩ | exact Nat.le_of_ble_eq_true rfl | exact rfl) ?_; with_reducible conv => whnf) | (rw [isLst_at (by assumption)]; with_reducible conv => whnf) | (refine ifT rfl ?_; with_reducible conv => whnf) | (refine ifF rfl ?_; with_reducible conv => whnf) | (refine it_at (by assumption) ?_; with_reducible conv => whnf)))
    refine ⟨n0, 20, rfl, by decide, d3, fun v S4 v0 v1 d4 c4 => ?_⟩
    replace ea := c4 _ _ ha0 ea
    obtain ⟨vn, rfl⟩ : ∃ mn : Nat, v = mn := ⟨v.toNat, by omega⟩
    ((with_reducible conv => whnf); repeat (first | (rw [natD_len]; with_reducible conv => whnf) | (rw [intD_len]; with_reducible conv => whnf) | (refine Exists.intro _ (And.intro (rfl : _ = some _) ?_); with_reducible conv => whnf) | (refine And.intro (okII _ _) ?_; rw [eqD_ii]; with_reducible conv => whnf) | (refine And.intro (by first | assumption | exact Exists.intro _ (by assumption) | exact ⟨rfl, rfl, by decide, by decide⟩ | exact Nat.le_of_ble_eq_true rfl | exact rfl) ?_; with_reducible conv => whnf) | (rw [isLst_at (by assumption)]; with_reducible conv => whnf) | (refine ifT rfl ?_; with_reducible conv => whnf) | (refine ifF rfl ?_; with_reducible conv => whnf) | (refine it_at (by assumption) ?_; with_reducible conv => whnf)))
    have hL : [D.int 0, .int 1, .int 2, .int ((h : Int) + t), .int (un : Int), .int (vn : Int), .int ((h : Int) + t + 1)] = natD [0, 1, 2, h + t, un, vn, h + t + 1] := by
      show _ = [D.int ((0 : Nat) : Int), .int ((1 : Nat) : Int), .int ((2 : Nat) : Int), .int ((h + t : Nat) : Int), .int (un : Int), .int (vn : Int), .int ((h + t + 1 : Nat) : Int)]
      rw [show ((h + t : Nat) : Int) = (h : Int) + t by omega, show ((h + t + 1 : Nat) : Int) = (h : Int) + t + 1 by omega]
      rfl
    rw [hL]
    have eb := at_push S4 (.lst (natD [0, 1, 2, h + t, un, vn, h + t + 1]))
    replace ea := push_at ea [.lst (natD [0, 1, 2, h + t, un, vn, h + t + 1])]
    replace d4 := d4.app [.lst (natD [0, 1, 2, h + t, un, vn, h + t + 1])]
    clear c4
    generalize S4 ++ [O.lst (natD [0, 1, 2, h + t, un, vn, h + t + 1])] = S5 at *
    generalize S4.length = pb at *
    have hg : ∀ m, (told ++ List.replicate 25 0).getD m 0 = cR (h + t) h m := fun m => by
      rw [List.getD_eq_getElem?_getD]
      by_cases c : m < h + t + 1
      · rw [List.getElem?_append_left (by omega), ht, List.getElem?_map, List.getElem?_range c]; rfl
      · rw [List.getElem?_append_right (by omega), cR_big (by omega), List.getElem?_replicate]
        split <;> rfl
    refine it_at eb ?_
    (with_reducible conv => whnf)
    refine Loop_mk (fun i ρ S' => ∃ o12, ρ = [x0, some (.ref n0), some (qD p), x3, x4, some (.int k), some (.int n), x7, some (qD (rsum (dpQ p k n))), some (.int h), some (.int t), some (.ref a), o12, x13, x14, x15, x16, x17] ∧ S'[pb]? = some (.lst (natD [0, 1, 2, h + t, un, vn, h + t + 1])) ∧ S'[a]? = some (.lst (natD told)) ∧ Dr n0 S') ⟨_, rfl, eb, ea, d4⟩ (by rintro i ρ' S' ⟨o12, rfl, f1, f2⟩; exact f1) ?_ ?_
    · clear eb ea d4 S5
      rintro i d ρ' S' hi ⟨o12, rfl, eb, ea, d4⟩
      obtain ⟨m, hm, rfl⟩ := natD_get hi
      have hmb : m ≤ h + t + 20 := by
        have := List.mem_of_getElem? hm
        simp only [List.mem_cons, List.not_mem_nil, or_false] at this
        omega
      ((with_reducible conv => whnf); repeat (first | (rw [natD_len]; with_reducible conv => whnf) | (rw [intD_len]; with_reducible conv => whnf) | (refine Exists.intro _ (And.intro (rfl : _ = some _) ?_); with_reducible conv => whnf) | (refine And.intro (okII _ _) ?_; rw [eqD_ii]; with_reducible conv => whnf) | (refine And.intro (by first | assumption | exact Exists.intro _ (by assumption) | exact ⟨rfl, rfl, by decide, by decide⟩ | exact Nat.le_of_ble_eq_true rfl | exact rfl) ?_; with_reducible conv => whnf) | (rw [isLst_at (by assumption)]; with_reducible conv => whnf) | (refine ifT rfl ?_; with_reducible conv => whnf) | (refine ifF rfl ?_; with_reducible conv => whnf) | (refine it_at (by assumption) ?_; with_reducible conv => whnf)))
      refine ⟨h, t, m, rfl, by omega, by omega, fun S2 s2 => ?_⟩
      replace ea := s2 _ _ ea
      replace eb := s2 _ _ eb
      replace d4 := d4.sub s2
      clear s2
      rw [cbr_nat]
      ((with_reducible conv => whnf); repeat (first | (rw [natD_len]; with_reducible conv => whnf) | (rw [intD_len]; with_reducible conv => whnf) | (refine Exists.intro _ (And.intro (rfl : _ = some _) ?_); with_reducible conv => whnf) | (refine And.intro (okII _ _) ?_; rw [eqD_ii]; with_reducible conv => whnf) | (refine And.intro (by first | assumption | exact Exists.intro _ (by assumption) | exact ⟨rfl, rfl, by decide, by decide⟩ | exact Nat.le_of_ble_eq_true rfl | exact rfl) ?_; with_reducible conv => whnf) | (rw [isLst_at (by assumption)]; with_reducible conv => whnf) | (refine ifT rfl ?_; with_reducible conv => whnf) | (refine ifF rfl ?_; with_reducible conv => whnf) | (refine it_at (by assumption) ?_; with_reducible conv => whnf)))
      have ea2 := push_at ea [.lst [.int 0]]
      have g2 := at_push S2 (.lst [.int 0])
      rw [isLst_at g2]
      refine ⟨⟨by decide, by decide⟩, by rw [List.length_singleton]; unfold szL; decide, ?_⟩
      rw [show (25 : Int).toNat = 25 from rfl, show (List.replicate 25 [D.int 0]).flatten = natD (List.replicate 25 0) from natD_rep 25 0]
      (with_reducible conv => whnf)
      have ea3 := push_at ea2 [.lst (natD (List.replicate 25 0))]
      have g3 := at_push (S2 ++ [.lst [.int 0]]) (.lst (natD (List.replicate 25 0)))
      have s3 := ((Sub.refl S2).app [.lst [.int 0]]).app [.lst (natD (List.replicate 25 0))]
      generalize S2 ++ [O.lst [.int 0]] ++ [O.lst (natD (List.replicate 25 0))] = S3 at *
      generalize (S2 ++ [O.lst [.int 0]]).length = p3 at *
      rw [isLst_at ea3]
      (with_reducible conv => whnf)
      rw [isLst_at g3]
      (with_reducible conv => whnf)
      refine ⟨by rw [natD_len, natD_len, List.length_replicate]; unfold szL; omega, ?_⟩
      (with_reducible conv => whnf)
      rw [show natD told ++ natD (List.replicate 25 0) = natD (told ++ List.replicate 25 0) by rw [natD_map, natD_map, natD_map, List.map_append], isLst_at (at_push _ _)]
      refine ⟨_, natD_atZ (by rw [List.length_append, List.length_replicate, hl]; omega), ?_⟩
      rw [hg]
      ((with_reducible conv => whnf); repeat (first | (rw [natD_len]; with_reducible conv => whnf) | (rw [intD_len]; with_reducible conv => whnf) | (refine Exists.intro _ (And.intro (rfl : _ = some _) ?_); with_reducible conv => whnf) | (refine And.intro (okII _ _) ?_; rw [eqD_ii]; with_reducible conv => whnf) | (refine And.intro (by first | assumption | exact Exists.intro _ (by assumption) | exact ⟨rfl, rfl, by decide, by decide⟩ | exact Nat.le_of_ble_eq_true rfl | exact rfl) ?_; with_reducible conv => whnf) | (rw [isLst_at (by assumption)]; with_reducible conv => whnf) | (refine ifT rfl ?_; with_reducible conv => whnf) | (refine ifF rfl ?_; with_reducible conv => whnf) | (refine it_at (by assumption) ?_; with_reducible conv => whnf)))
      refine ⟨.int ((cR (h + t) h m : Nat) : Int), rfl, rfl, rfl, Nat.zero_le _, fun S6 s6 => ?_⟩
      have s7 := (s3.app [.lst (natD (told ++ List.replicate 25 0))]).trans s6
      ((with_reducible conv => whnf); repeat (first | (rw [natD_len]; with_reducible conv => whnf) | (rw [intD_len]; with_reducible conv => whnf) | (refine Exists.intro _ (And.intro (rfl : _ = some _) ?_); with_reducible conv => whnf) | (refine And.intro (okII _ _) ?_; rw [eqD_ii]; with_reducible conv => whnf) | (refine And.intro (by first | assumption | exact Exists.intro _ (by assumption) | exact ⟨rfl, rfl, by decide, by decide⟩ | exact Nat.le_of_ble_eq_true rfl | exact rfl) ?_; with_reducible conv => whnf) | (rw [isLst_at (by assumption)]; with_reducible conv => whnf) | (refine ifT rfl ?_; with_reducible conv => whnf) | (refine ifF rfl ?_; with_reducible conv => whnf) | (refine it_at (by assumption) ?_; with_reducible conv => whnf)))
      exact ⟨_, rfl, s7 _ _ eb, s7 _ _ ea, d4.sub s7⟩
    · clear eb ea d4 S5
      rintro ρ' S' ⟨o12, rfl, eb, ea, d4⟩
      exact law_E hp hk1 hk2 hn hb kk d4
  ((with_reducible conv => whnf); repeat (first | (rw [natD_len]; with_reducible conv => whnf) | (rw [intD_len]; with_reducible conv => whnf) | (refine Exists.intro _ (And.intro (rfl : _ = some _) ?_); with_reducible conv => whnf) | (refine And.intro (okII _ _) ?_; rw [eqD_ii]; with_reducible conv => whnf) | (refine And.intro (by first | assumption | exact Exists.intro _ (by assumption) | exact ⟨rfl, rfl, by decide, by decide⟩ | exact Nat.le_of_ble_eq_true rfl | exact rfl) ?_; with_reducible conv => whnf) | (rw [isLst_at (by assumption)]; with_reducible conv => whnf) | (refine ifT rfl ?_; with_reducible conv => whnf) | (refine ifF rfl ?_; with_reducible conv => whnf) | (refine it_at (by assumption) ?_; with_reducible conv => whnf)))
  have ea := at_push S2 (.lst [])
  have d3 := d2.app [.lst []]
  have ha0 : S2.length ≠ n0 := by have := d2.lt; omega
  generalize S2 ++ [O.lst []] = S3 at *
  generalize S2.length = a at *
  refine ⟨⟨by omega, by omega⟩, ?_⟩
  refine Loop_mk (fun i ρ S' => ∃ o12 o13 o14, ρ = [x0, some (.ref n0), some (qD p), x3, x4, some (.int k), some (.int n), x7, some (qD (rsum (dpQ p k n))), some (.int h), some (.int t), some (.ref a), o12, o13, o14, x15, x16, x17] ∧ S'[a]? = some (.lst ((List.range i).map fun m => D.int (tdZ h t m))) ∧ Dr n0 S') ⟨_, _, _, rfl, ea, d3⟩ (by intros; trivial) ?_ ?_
  · clear ea d3 S3
    rintro m d ρ' S' hi ⟨o12, o13, o14, rfl, ea, d3⟩
    obtain ⟨hi1, rfl⟩ := rangeD_get hi
    rw [Int.zero_add]
    ((with_reducible conv => whnf); repeat (first | (rw [natD_len]; with_reducible conv => whnf) | (rw [intD_len]; with_reducible conv => whnf) | (refine Exists.intro _ (And.intro (rfl : _ = some _) ?_); with_reducible conv => whnf) | (refine And.intro (okII _ _) ?_; rw [eqD_ii]; with_reducible conv => whnf) | (refine And.intro (by first | assumption | exact Exists.intro _ (by assumption) | exact ⟨rfl, rfl, by decide, by decide⟩ | exact Nat.le_of_ble_eq_true rfl | exact rfl) ?_; with_reducible conv => whnf) | (rw [isLst_at (by assumption)]; with_reducible conv => whnf) | (refine ifT rfl ?_; with_reducible conv => whnf) | (refine ifF rfl ?_; with_reducible conv => whnf) | (refine it_at (by assumption) ?_; with_reducible conv => whnf)))
    refine ⟨⟨by decide, by decide⟩, ?_⟩
    ((with_reducible conv => whnf); repeat (first | (rw [natD_len]; with_reducible conv => whnf) | (rw [intD_len]; with_reducible conv => whnf) | (refine Exists.intro _ (And.intro (rfl : _ = some _) ?_); with_reducible conv => whnf) | (refine And.intro (okII _ _) ?_; rw [eqD_ii]; with_reducible conv => whnf) | (refine And.intro (by first | assumption | exact Exists.intro _ (by assumption) | exact ⟨rfl, rfl, by decide, by decide⟩ | exact Nat.le_of_ble_eq_true rfl | exact rfl) ?_; with_reducible conv => whnf) | (rw [isLst_at (by assumption)]; with_reducible conv => whnf) | (refine ifT rfl ?_; with_reducible conv => whnf) | (refine ifF rfl ?_; with_reducible conv => whnf) | (refine it_at (by assumption) ?_; with_reducible conv => whnf)))
    refine ⟨_, _, rfl, by omega, fun S1 s1 => ?_⟩
    ((with_reducible conv => whnf); repeat (first | (rw [natD_len]; with_reducible conv => whnf) | (rw [intD_len]; with_reducible conv => whnf) | (refine Exists.intro _ (And.intro (rfl : _ = some _) ?_); with_reducible conv => whnf) | (refine And.intro (okII _ _) ?_; rw [eqD_ii]; with_reducible conv => whnf) | (refine And.intro (by first | assumption | exact Exists.intro _ (by assumption) | exact ⟨rfl, rfl, by decide, by decide⟩ | exact Nat.le_of_ble_eq_true rfl | exact rfl) ?_; with_reducible conv => whnf) | (rw [isLst_at (by assumption)]; with_reducible conv => whnf) | (refine ifT rfl ?_; with_reducible conv => whnf) | (refine ifF rfl ?_; with_reducible conv => whnf) | (refine it_at (by assumption) ?_; with_reducible conv => whnf)))
    refine ⟨⟨by decide, by decide⟩, ?_⟩
    ((with_reducible conv => whnf); repeat (first | (rw [natD_len]; with_reducible conv => whnf) | (rw [intD_len]; with_reducible conv => whnf) | (refine Exists.intro _ (And.intro (rfl : _ = some _) ?_); with_reducible conv => whnf) | (refine And.intro (okII _ _) ?_; rw [eqD_ii]; with_reducible conv => whnf) | (refine And.intro (by first | assumption | exact Exists.intro _ (by assumption) | exact ⟨rfl, rfl, by decide, by decide⟩ | exact Nat.le_of_ble_eq_true rfl | exact rfl) ?_; with_reducible conv => whnf) | (rw [isLst_at (by assumption)]; with_reducible conv => whnf) | (refine ifT rfl ?_; with_reducible conv => whnf) | (refine ifF rfl ?_; with_reducible conv => whnf) | (refine it_at (by assumption) ?_; with_reducible conv => whnf)))
    refine ⟨_, _, rfl, by omega, fun S2 s2 => ?_⟩
    ((with_reducible conv => whnf); repeat (first | (rw [natD_len]; with_reducible conv => whnf) | (rw [intD_len]; with_reducible conv => whnf) | (refine Exists.intro _ (And.intro (rfl : _ = some _) ?_); with_reducible conv => whnf) | (refine And.intro (okII _ _) ?_; rw [eqD_ii]; with_reducible conv => whnf) | (refine And.intro (by first | assumption | exact Exists.intro _ (by assumption) | exact ⟨rfl, rfl, by decide, by decide⟩ | exact Nat.le_of_ble_eq_true rfl | exact rfl) ?_; with_reducible conv => whnf) | (rw [isLst_at (by assumption)]; with_reducible conv => whnf) | (refine ifT rfl ?_; with_reducible conv => whnf) | (refine ifF rfl ?_; with_reducible conv => whnf) | (refine it_at (by assumption) ?_; with_reducible conv => whnf)))
    refine ⟨smallMul (parZ_big (by omega)), ?_⟩
    ((with_reducible conv => whnf); repeat (first | (rw [natD_len]; with_reducible conv => whnf) | (rw [intD_len]; with_reducible conv => whnf) | (refine Exists.intro _ (And.intro (rfl : _ = some _) ?_); with_reducible conv => whnf) | (refine And.intro (okII _ _) ?_; rw [eqD_ii]; with_reducible conv => whnf) | (refine And.intro (by first | assumption | exact Exists.intro _ (by assumption) | exact ⟨rfl, rfl, by decide, by decide⟩ | exact Nat.le_of_ble_eq_true rfl | exact rfl) ?_; with_reducible conv => whnf) | (rw [isLst_at (by assumption)]; with_reducible conv => whnf) | (refine ifT rfl ?_; with_reducible conv => whnf) | (refine ifF rfl ?_; with_reducible conv => whnf) | (refine it_at (by assumption) ?_; with_reducible conv => whnf)))
    refine ⟨⟨by decide, by decide⟩, ?_⟩
    ((with_reducible conv => whnf); repeat (first | (rw [natD_len]; with_reducible conv => whnf) | (rw [intD_len]; with_reducible conv => whnf) | (refine Exists.intro _ (And.intro (rfl : _ = some _) ?_); with_reducible conv => whnf) | (refine And.intro (okII _ _) ?_; rw [eqD_ii]; with_reducible conv => whnf) | (refine And.intro (by first | assumption | exact Exists.intro _ (by assumption) | exact ⟨rfl, rfl, by decide, by decide⟩ | exact Nat.le_of_ble_eq_true rfl | exact rfl) ?_; with_reducible conv => whnf) | (rw [isLst_at (by assumption)]; with_reducible conv => whnf) | (refine ifT rfl ?_; with_reducible conv => whnf) | (refine ifF rfl ?_; with_reducible conv => whnf) | (refine it_at (by assumption) ?_; with_reducible conv => whnf)))
    refine ⟨_, _, rfl, by omega, fun S3 s3 => ?_⟩
    ((with_reducible conv => whnf); repeat (first | (rw [natD_len]; with_reducible conv => whnf) | (rw [intD_len]; with_reducible conv => whnf) | (refine Exists.intro _ (And.intro (rfl : _ = some _) ?_); with_reducible conv => whnf) | (refine And.intro (okII _ _) ?_; rw [eqD_ii]; with_reducible conv => whnf) | (refine And.intro (by first | assumption | exact Exists.intro _ (by assumption) | exact ⟨rfl, rfl, by decide, by decide⟩ | exact Nat.le_of_ble_eq_true rfl | exact rfl) ?_; with_reducible conv => whnf) | (rw [isLst_at (by assumption)]; with_reducible conv => whnf) | (refine ifT rfl ?_; with_reducible conv => whnf) | (refine ifF rfl ?_; with_reducible conv => whnf) | (refine it_at (by assumption) ?_; with_reducible conv => whnf)))
    refine ⟨⟨by decide, by decide⟩, ?_⟩
    ((with_reducible conv => whnf); repeat (first | (rw [natD_len]; with_reducible conv => whnf) | (rw [intD_len]; with_reducible conv => whnf) | (refine Exists.intro _ (And.intro (rfl : _ = some _) ?_); with_reducible conv => whnf) | (refine And.intro (okII _ _) ?_; rw [eqD_ii]; with_reducible conv => whnf) | (refine And.intro (by first | assumption | exact Exists.intro _ (by assumption) | exact ⟨rfl, rfl, by decide, by decide⟩ | exact Nat.le_of_ble_eq_true rfl | exact rfl) ?_; with_reducible conv => whnf) | (rw [isLst_at (by assumption)]; with_reducible conv => whnf) | (refine ifT rfl ?_; with_reducible conv => whnf) | (refine ifF rfl ?_; with_reducible conv => whnf) | (refine it_at (by assumption) ?_; with_reducible conv => whnf)))
    refine ⟨_, _, rfl, by omega, fun S4 s4 => ?_⟩
    ((with_reducible conv => whnf); repeat (first | (rw [natD_len]; with_reducible conv => whnf) | (rw [intD_len]; with_reducible conv => whnf) | (refine Exists.intro _ (And.intro (rfl : _ = some _) ?_); with_reducible conv => whnf) | (refine And.intro (okII _ _) ?_; rw [eqD_ii]; with_reducible conv => whnf) | (refine And.intro (by first | assumption | exact Exists.intro _ (by assumption) | exact ⟨rfl, rfl, by decide, by decide⟩ | exact Nat.le_of_ble_eq_true rfl | exact rfl) ?_; with_reducible conv => whnf) | (rw [isLst_at (by assumption)]; with_reducible conv => whnf) | (refine ifT rfl ?_; with_reducible conv => whnf) | (refine ifF rfl ?_; with_reducible conv => whnf) | (refine it_at (by assumption) ?_; with_reducible conv => whnf)))
    refine ⟨smallMul (parZ_big (by omega)), ?_⟩
    have s := s1.trans (s2.trans (s3.trans s4))
    replace ea := s _ _ ea
    replace d3 := d3.sub s
    ((with_reducible conv => whnf); repeat (first | (rw [natD_len]; with_reducible conv => whnf) | (rw [intD_len]; with_reducible conv => whnf) | (refine Exists.intro _ (And.intro (rfl : _ = some _) ?_); with_reducible conv => whnf) | (refine And.intro (okII _ _) ?_; rw [eqD_ii]; with_reducible conv => whnf) | (refine And.intro (by first | assumption | exact Exists.intro _ (by assumption) | exact ⟨rfl, rfl, by decide, by decide⟩ | exact Nat.le_of_ble_eq_true rfl | exact rfl) ?_; with_reducible conv => whnf) | (rw [isLst_at (by assumption)]; with_reducible conv => whnf) | (refine ifT rfl ?_; with_reducible conv => whnf) | (refine ifF rfl ?_; with_reducible conv => whnf) | (refine it_at (by assumption) ?_; with_reducible conv => whnf)))
    refine ⟨by rw [List.length_map, List.length_range]; unfold szL; omega, ?_⟩
    (with_reducible conv => whnf)
    refine ⟨_, _, _, rfl, ?_, d3.put (Ne.symm ha0)⟩
    rw [at_set ea, List.range_succ, List.map_append]
    rfl
  · clear ea d3 S3
    rintro ρ' S' ⟨o12, o13, o14, rfl, ea, d3⟩
    rw [rangeD_len, show ((h : Int) + t + 1 - 0).toNat = h + t + 1 by omega] at ea
    ((with_reducible conv => whnf); repeat (first | (rw [natD_len]; with_reducible conv => whnf) | (rw [intD_len]; with_reducible conv => whnf) | (refine Exists.intro _ (And.intro (rfl : _ = some _) ?_); with_reducible conv => whnf) | (refine And.intro (okII _ _) ?_; rw [eqD_ii]; with_reducible conv => whnf) | (refine And.intro (by first | assumption | exact Exists.intro _ (by assumption) | exact ⟨rfl, rfl, by decide, by decide⟩ | exact Nat.le_of_ble_eq_true rfl | exact rfl) ?_; with_reducible conv => whnf) | (rw [isLst_at (by assumption)]; with_reducible conv => whnf) | (refine ifT rfl ?_; with_reducible conv => whnf) | (refine ifF rfl ?_; with_reducible conv => whnf) | (refine it_at (by assumption) ?_; with_reducible conv => whnf)))
    refine ite_d (fun hc => ?_) fun hc => ?_
    · ((with_reducible conv => whnf); repeat (first | (rw [natD_len]; with_reducible conv => whnf) | (rw [intD_len]; with_reducible conv => whnf) | (refine Exists.intro _ (And.intro (rfl : _ = some _) ?_); with_reducible conv => whnf) | (refine And.intro (okII _ _) ?_; rw [eqD_ii]; with_reducible conv => whnf) | (refine And.intro (by first | assumption | exact Exists.intro _ (by assumption) | exact ⟨rfl, rfl, by decide, by decide⟩ | exact Nat.le_of_ble_eq_true rfl | exact rfl) ?_; with_reducible conv => whnf) | (rw [isLst_at (by assumption)]; with_reducible conv => whnf) | (refine ifT rfl ?_; with_reducible conv => whnf) | (refine ifF rfl ?_; with_reducible conv => whnf) | (refine it_at (by assumption) ?_; with_reducible conv => whnf)))
      have h0 : h = 0 := by omega
      have t0 : t = 0 := by omega
      subst h0 t0
      exact rest [1] _ _ _ _ _ (at_push _ _) (by have := d3.lt; omega) (d3.app _) rfl
    · refine rest ((List.range (h + t + 1)).map (cR (h + t) h)) a _ _ _ _ ?_ ha0 d3 rfl
      rw [ea, natD_map, List.map_map]
      congr 2
      apply List.map_congr_left
      intro m _
      rw [tdZ_eq (by omega)]
      rfl
end K94
set_option linter.all false
set_option maxRecDepth 100000
set_option maxHeartbeats 4000000
namespace K94
open DL
theorem two_pow (n : Nat) : (2 : Rat) ^ n = ((2 ^ n : Nat) : Rat) := by
  induction n with
  | zero => rw [Rat.pow_zero]; rfl
  | succ n ih => rw [Rat.pow_succ, ih, Nat.pow_succ, Rat.natCast_mul]; rfl
theorem half_pow (n : Nat) : (Rat.divInt 1 2) ^ n * (2 : Rat) ^ n = 1 := by
  induction n with
  | zero => rw [Rat.pow_zero, Rat.pow_zero]; decide +kernel
  | succ n ih =>
    rw [Rat.pow_succ, Rat.pow_succ]
    have h : Rat.divInt 1 2 * 2 = 1 := by decide +kernel
    grind
theorem dp_half2 (k n : Nat) : rsum (dpQ (Rat.divInt 1 2) k n) = Rat.divInt ((cntW k n : Nat) : Int) ((2 : Rat) ^ n).num := by
  have hn : ((2 : Rat) ^ n).num = ((2 ^ n : Nat) : Int) := by rw [two_pow]; exact Rat.num_natCast _
  rw [hn, dp_half, divInt_eq ((cntW k n : Nat) : Int)]
  have h := half_pow n
  rw [two_pow] at h
  have h0 : (((2 ^ n : Nat) : Int) : Rat) ≠ 0 := by
    intro e
    have : ((2 ^ n : Nat) : Int) = 0 := by exact_mod_cast e
    have := Nat.pow_pos (n := n) (show 0 < 2 by decide)
    omega
  have e1 : (((2 ^ n : Nat) : Int) : Rat) = ((2 ^ n : Nat) : Rat) := rfl
  have e2 : (((cntW k n : Nat) : Int) : Rat) = ((cntW k n : Nat) : Rat) := rfl
  rw [e1] at h0 ⊢
  rw [e2]
  rw [Rat.div_def]
  congr 1
  have := Rat.mul_inv_cancel _ h0
  grind
theorem sm2 {i : Nat} (h : i ≤ 420) : smS ((2 : Rat) ^ i) := by
  rw [two_pow]
  have h0 : (0 : Rat) ≤ ((2 ^ i : Nat) : Rat) := by exact_mod_cast Nat.zero_le _
  exact smS_of (P := 1) (M := 2 ^ i) (by have := Ov_int 1 ((2 ^ i : Nat) : Int); exact this) Nat.one_pos (by grind) (by grind) (Nat.one_lt_two_pow (by decide)) (Nat.pow_lt_pow_right (by decide) (by omega))
theorem den_b {p : Rat} (hp : Chn p) {n : Nat} (h : (p.den ≤ 4 ∧ n ≤ 101) ∨ n ≤ 40) : p.den ^ n < 2 ^ 420 := by
  rcases h with ⟨h1, h2⟩ | h
  · refine Nat.lt_of_le_of_lt (Nat.pow_le_pow_left (show p.den ≤ 2 ^ 2 by omega) n) ?_
    rw [← Nat.pow_mul]
    exact Nat.pow_lt_pow_right (by decide) (by omega)
  · exact Nat.lt_trans (den_pow hp (by omega)) (Nat.pow_lt_pow_right (by decide) (by decide))
theorem law_C {Q : VK} {n0 k : Nat} {p : Rat} {x0 x3 x4 x6 x7 x8 x9 x10 x11 x12 x13 x14 x15 x16 x17 : Option D} {S : Sto} (hp : Chn p) (hk1 : 1 ≤ k) (hk2 : k ≤ 12) (kk : ∀ S', Q (.bl true) S') (d0 : Dr n0 S) :
    w_law_t7 sp_draws sp_chance sp_take sp_row sp_lruns sp_runs (sp_same 2) sp_longest sp_longest sp_few sp_cw sp_cw sp_cwo sp_cwo sp_pow sp_frac sp_par sp_ways sp_cbr (sp_s2 (· + ·)) sp_until (sp_s2 (· - ·)) (sp_s2 (· * ·)) sp_mr { nx := fun _ S' => Q .non S', rt := Q, bk := fun _ _ => False, ct := fun _ _ => False } [x0, some (.ref n0), some (qD p), x3, x4, some (.int k), x6, x7, x8, x9, x10, x11, x12, x13, x14, x15, x16, x17] S := by
  have rest : ∀ (n : Nat) S, Dr n0 S → ((p.den ≤ 4 ∧ n ≤ 101) ∨ n ≤ 40) → w_law_t9 sp_draws sp_chance sp_take sp_row sp_lruns sp_runs (sp_same 2) sp_longest sp_longest sp_few sp_cw sp_cw sp_cwo sp_cwo sp_pow sp_frac sp_par sp_ways sp_cbr (sp_s2 (· + ·)) sp_until (sp_s2 (· - ·)) (sp_s2 (· * ·)) sp_mr { nx := fun _ S' => Q .non S', rt := Q, bk := fun _ _ => False, ct := fun _ _ => False } [x0, some (.ref n0), some (qD p), x3, x4, some (.int k), some (.int n), x7, x8, x9, x10, x11, x12, x13, x14, x15, x16, x17] S := by
    intro n S d0 hn
    have hb := den_b hp hn
    have hn2 : n ≤ 420 := by omega
    ((with_reducible conv => whnf); repeat (first | (rw [natD_len]; with_reducible conv => whnf) | (rw [intD_len]; with_reducible conv => whnf) | (refine Exists.intro _ (And.intro (rfl : _ = some _) ?_); with_reducible conv => whnf) | (refine And.intro (okII _ _) ?_; rw [eqD_ii]; with_reducible conv => whnf) | (refine And.intro (by first | assumption | exact Exists.intro _ (by assumption) | exact ⟨rfl, rfl, by decide, by decide⟩ | exact Nat.le_of_ble_eq_true rfl | exact rfl) ?_; with_reducible conv => whnf) | (rw [isLst_at (by assumption)]; with_reducible conv => whnf) | (refine ifT rfl ?_; with_reducible conv => whnf) | (refine ifF rfl ?_; with_reducible conv => whnf) | (refine it_at (by assumption) ?_; with_reducible conv => whnf)))
    refine ⟨p, n, k, rfl, hp, hn2, hk1, by omega, hb, fun S1 s1 => ?_⟩
    ((with_reducible conv => whnf); repeat (first | (rw [natD_len]; with_reducible conv => whnf) | (rw [intD_len]; with_reducible conv => whnf) | (refine Exists.intro _ (And.intro (rfl : _ = some _) ?_); with_reducible conv => whnf) | (refine And.intro (okII _ _) ?_; rw [eqD_ii]; with_reducible conv => whnf) | (refine And.intro (by first | assumption | exact Exists.intro _ (by assumption) | exact ⟨rfl, rfl, by decide, by decide⟩ | exact Nat.le_of_ble_eq_true rfl | exact rfl) ?_; with_reducible conv => whnf) | (rw [isLst_at (by assumption)]; with_reducible conv => whnf) | (refine ifT rfl ?_; with_reducible conv => whnf) | (refine ifF rfl ?_; with_reducible conv => whnf) | (refine it_at (by assumption) ?_; with_reducible conv => whnf)))
    refine ⟨p, n, k, rfl, hp, hn2, hk1, by omega, hb, fun S2 s2 => ?_⟩
    ((with_reducible conv => whnf); repeat (first | (rw [natD_len]; with_reducible conv => whnf) | (rw [intD_len]; with_reducible conv => whnf) | (refine Exists.intro _ (And.intro (rfl : _ = some _) ?_); with_reducible conv => whnf) | (refine And.intro (okII _ _) ?_; rw [eqD_ii]; with_reducible conv => whnf) | (refine And.intro (by first | assumption | exact Exists.intro _ (by assumption) | exact ⟨rfl, rfl, by decide, by decide⟩ | exact Nat.le_of_ble_eq_true rfl | exact rfl) ?_; with_reducible conv => whnf) | (rw [isLst_at (by assumption)]; with_reducible conv => whnf) | (refine ifT rfl ?_; with_reducible conv => whnf) | (refine ifF rfl ?_; with_reducible conv => whnf) | (refine it_at (by assumption) ?_; with_reducible conv => whnf)))
    refine ⟨_, rfl, (slq _).1, (slq _).2.1, (slq _).2.2, fun S3 s3 => ?_⟩
    have d3 := d0.sub (s1.trans (s2.trans s3))
    ((with_reducible conv => whnf); repeat (first | (rw [natD_len]; with_reducible conv => whnf) | (rw [intD_len]; with_reducible conv => whnf) | (refine Exists.intro _ (And.intro (rfl : _ = some _) ?_); with_reducible conv => whnf) | (refine And.intro (okII _ _) ?_; rw [eqD_ii]; with_reducible conv => whnf) | (refine And.intro (by first | assumption | exact Exists.intro _ (by assumption) | exact ⟨rfl, rfl, by decide, by decide⟩ | exact Nat.le_of_ble_eq_true rfl | exact rfl) ?_; with_reducible conv => whnf) | (rw [isLst_at (by assumption)]; with_reducible conv => whnf) | (refine ifT rfl ?_; with_reducible conv => whnf) | (refine ifF rfl ?_; with_reducible conv => whnf) | (refine it_at (by assumption) ?_; with_reducible conv => whnf)))
    rw [half]
    refine ⟨qD_ok _ _, ?_⟩
    rw [qD_eq]
    (with_reducible conv => whnf)
    refine ite_d (fun hc => ?_) fun hc => ?_
    · ((with_reducible conv => whnf); repeat (first | (rw [natD_len]; with_reducible conv => whnf) | (rw [intD_len]; with_reducible conv => whnf) | (refine Exists.intro _ (And.intro (rfl : _ = some _) ?_); with_reducible conv => whnf) | (refine And.intro (okII _ _) ?_; rw [eqD_ii]; with_reducible conv => whnf) | (refine And.intro (by first | assumption | exact Exists.intro _ (by assumption) | exact ⟨rfl, rfl, by decide, by decide⟩ | exact Nat.le_of_ble_eq_true rfl | exact rfl) ?_; with_reducible conv => whnf) | (rw [isLst_at (by assumption)]; with_reducible conv => whnf) | (refine ifT rfl ?_; with_reducible conv => whnf) | (refine ifF rfl ?_; with_reducible conv => whnf) | (refine it_at (by assumption) ?_; with_reducible conv => whnf)))
      refine ⟨n, k, rfl, hn2, hk1, by omega, fun S4 s4 => ?_⟩
      ((with_reducible conv => whnf); repeat (first | (rw [natD_len]; with_reducible conv => whnf) | (rw [intD_len]; with_reducible conv => whnf) | (refine Exists.intro _ (And.intro (rfl : _ = some _) ?_); with_reducible conv => whnf) | (refine And.intro (okII _ _) ?_; rw [eqD_ii]; with_reducible conv => whnf) | (refine And.intro (by first | assumption | exact Exists.intro _ (by assumption) | exact ⟨rfl, rfl, by decide, by decide⟩ | exact Nat.le_of_ble_eq_true rfl | exact rfl) ?_; with_reducible conv => whnf) | (rw [isLst_at (by assumption)]; with_reducible conv => whnf) | (refine ifT rfl ?_; with_reducible conv => whnf) | (refine ifF rfl ?_; with_reducible conv => whnf) | (refine it_at (by assumption) ?_; with_reducible conv => whnf)))
      refine ⟨2, n, rfl, hn2, fun i hi => sm2 (by omega), fun S5 s5 => ?_⟩
      ((with_reducible conv => whnf); repeat (first | (rw [natD_len]; with_reducible conv => whnf) | (rw [intD_len]; with_reducible conv => whnf) | (refine Exists.intro _ (And.intro (rfl : _ = some _) ?_); with_reducible conv => whnf) | (refine And.intro (okII _ _) ?_; rw [eqD_ii]; with_reducible conv => whnf) | (refine And.intro (by first | assumption | exact Exists.intro _ (by assumption) | exact ⟨rfl, rfl, by decide, by decide⟩ | exact Nat.le_of_ble_eq_true rfl | exact rfl) ?_; with_reducible conv => whnf) | (rw [isLst_at (by assumption)]; with_reducible conv => whnf) | (refine ifT rfl ?_; with_reducible conv => whnf) | (refine ifF rfl ?_; with_reducible conv => whnf) | (refine it_at (by assumption) ?_; with_reducible conv => whnf)))
      have hnum : ((2 : Rat) ^ n).num = ((2 ^ n : Nat) : Int) := by rw [two_pow]; exact Rat.num_natCast _
      have hpos := Nat.pow_pos (n := n) (show 0 < 2 by decide)
      refine ⟨_, _, rfl, by rw [hnum]; omega, by rw [hnum, Int.natAbs_natCast]; exact Nat.pow_lt_pow_right (by decide) (by omega), fun S6 s6 => ?_⟩
      rw [hc, ← dp_half2]
      (with_reducible conv => whnf)
      refine ⟨qD_ok _ _, ?_⟩
      rw [qD_eq, decide_eq_true (show rsum (dpQ (Rat.divInt 1 2) k n) = rsum (dpQ (Rat.divInt 1 2) k n) from rfl), ← hc]
      exact law_D hp hk1 (by omega) hn2 hb kk (d3.sub (s4.trans (s5.trans s6)))
    · exact law_D hp hk1 (by omega) hn2 hb kk d3
  ((with_reducible conv => whnf); repeat (first | (rw [natD_len]; with_reducible conv => whnf) | (rw [intD_len]; with_reducible conv => whnf) | (refine Exists.intro _ (And.intro (rfl : _ = some _) ?_); with_reducible conv => whnf) | (refine And.intro (okII _ _) ?_; rw [eqD_ii]; with_reducible conv => whnf) | (refine And.intro (by first | assumption | exact Exists.intro _ (by assumption) | exact ⟨rfl, rfl, by decide, by decide⟩ | exact Nat.le_of_ble_eq_true rfl | exact rfl) ?_; with_reducible conv => whnf) | (rw [isLst_at (by assumption)]; with_reducible conv => whnf) | (refine ifT rfl ?_; with_reducible conv => whnf) | (refine ifF rfl ?_; with_reducible conv => whnf) | (refine it_at (by assumption) ?_; with_reducible conv => whnf)))
  have ea := at_push S (.lst [.int 16, .int 101])
  have d1 := d0.app [.lst [.int 16, .int 101]]
  have hne : S.length ≠ n0 := by have := d0.lt; omega
  generalize S ++ [O.lst [.int 16, .int 101]] = S1 at *
  generalize S.length = a at *
  refine ⟨n0, 12, rfl, by decide, d1, fun m S2 m0 m1 d2 c2 => ?_⟩
  replace ea := c2 _ _ hne ea
  ((with_reducible conv => whnf); repeat (first | (rw [natD_len]; with_reducible conv => whnf) | (rw [intD_len]; with_reducible conv => whnf) | (refine Exists.intro _ (And.intro (rfl : _ = some _) ?_); with_reducible conv => whnf) | (refine And.intro (okII _ _) ?_; rw [eqD_ii]; with_reducible conv => whnf) | (refine And.intro (by first | assumption | exact Exists.intro _ (by assumption) | exact ⟨rfl, rfl, by decide, by decide⟩ | exact Nat.le_of_ble_eq_true rfl | exact rfl) ?_; with_reducible conv => whnf) | (rw [isLst_at (by assumption)]; with_reducible conv => whnf) | (refine ifT rfl ?_; with_reducible conv => whnf) | (refine ifF rfl ?_; with_reducible conv => whnf) | (refine it_at (by assumption) ?_; with_reducible conv => whnf)))
  rw [b2i]
  refine ⟨.int (if m = 0 then 101 else 16), by split <;> rfl, ?_⟩
  ((with_reducible conv => whnf); repeat (first | (rw [natD_len]; with_reducible conv => whnf) | (rw [intD_len]; with_reducible conv => whnf) | (refine Exists.intro _ (And.intro (rfl : _ = some _) ?_); with_reducible conv => whnf) | (refine And.intro (okII _ _) ?_; rw [eqD_ii]; with_reducible conv => whnf) | (refine And.intro (by first | assumption | exact Exists.intro _ (by assumption) | exact ⟨rfl, rfl, by decide, by decide⟩ | exact Nat.le_of_ble_eq_true rfl | exact rfl) ?_; with_reducible conv => whnf) | (rw [isLst_at (by assumption)]; with_reducible conv => whnf) | (refine ifT rfl ?_; with_reducible conv => whnf) | (refine ifF rfl ?_; with_reducible conv => whnf) | (refine it_at (by assumption) ?_; with_reducible conv => whnf)))
  refine ⟨n0, _, rfl, by split <;> decide, d2, fun n S3 n0' n1 d3 _ => ?_⟩
  obtain ⟨nn, rfl⟩ : ∃ mn : Nat, n = mn := ⟨n.toNat, by omega⟩
  have hnn : nn ≤ 101 := by split at n1 <;> omega
  ((with_reducible conv => whnf); repeat (first | (rw [natD_len]; with_reducible conv => whnf) | (rw [intD_len]; with_reducible conv => whnf) | (refine Exists.intro _ (And.intro (rfl : _ = some _) ?_); with_reducible conv => whnf) | (refine And.intro (okII _ _) ?_; rw [eqD_ii]; with_reducible conv => whnf) | (refine And.intro (by first | assumption | exact Exists.intro _ (by assumption) | exact ⟨rfl, rfl, by decide, by decide⟩ | exact Nat.le_of_ble_eq_true rfl | exact rfl) ?_; with_reducible conv => whnf) | (rw [isLst_at (by assumption)]; with_reducible conv => whnf) | (refine ifT rfl ?_; with_reducible conv => whnf) | (refine ifF rfl ?_; with_reducible conv => whnf) | (refine it_at (by assumption) ?_; with_reducible conv => whnf)))
  refine ite_d (fun hc => ?_) fun hc => ?_
  · have := rest (min nn 40) S3 d3 (.inr (by omega))
    rw [show ((min nn 40 : Nat) : Int) = min (nn : Int) 40 by omega] at this
    exact this
  · exact rest nn S3 d3 (.inl ⟨by omega, hnn⟩)
theorem law_B {Q : VK} {n0 : Nat} {p : Rat} {x0 x3 x4 x5 x6 x7 x8 x9 x10 x11 x12 x13 x14 x15 x16 x17 : Option D} {S : Sto} (hp : Chn p) (kk : ∀ S', Q (.bl true) S') (d0 : Dr n0 S) :
    w_law_t4 sp_draws sp_chance sp_take sp_row sp_lruns sp_runs (sp_same 2) sp_longest sp_longest sp_few sp_cw sp_cw sp_cwo sp_cwo sp_pow sp_frac sp_par sp_ways sp_cbr (sp_s2 (· + ·)) sp_until (sp_s2 (· - ·)) (sp_s2 (· * ·)) sp_mr { nx := fun _ S' => Q .non S', rt := Q, bk := fun _ _ => False, ct := fun _ _ => False } [x0, some (.ref n0), some (qD p), x3, x4, x5, x6, x7, x8, x9, x10, x11, x12, x13, x14, x15, x16, x17] S := by
  ((with_reducible conv => whnf); repeat (first | (rw [natD_len]; with_reducible conv => whnf) | (rw [intD_len]; with_reducible conv => whnf) | (refine Exists.intro _ (And.intro (rfl : _ = some _) ?_); with_reducible conv => whnf) | (refine And.intro (okII _ _) ?_; rw [eqD_ii]; with_reducible conv => whnf) | (refine And.intro (by first | assumption | exact Exists.intro _ (by assumption) | exact ⟨rfl, rfl, by decide, by decide⟩ | exact Nat.le_of_ble_eq_true rfl | exact rfl) ?_; with_reducible conv => whnf) | (rw [isLst_at (by assumption)]; with_reducible conv => whnf) | (refine ifT rfl ?_; with_reducible conv => whnf) | (refine ifF rfl ?_; with_reducible conv => whnf) | (refine it_at (by assumption) ?_; with_reducible conv => whnf)))
  refine ⟨n0, 12, rfl, by decide, d0, fun m S1 m0 m1 d1 c1 => ?_⟩
  obtain ⟨k0, rfl⟩ : ∃ mn : Nat, m = mn := ⟨m.toNat, by omega⟩
  (with_reducible conv => whnf)
  rw [show (1 : Int) + (k0 : Int) = ((k0 + 1 : Nat) : Int) by omega]
  ((with_reducible conv => whnf); repeat (first | (rw [natD_len]; with_reducible conv => whnf) | (rw [intD_len]; with_reducible conv => whnf) | (refine Exists.intro _ (And.intro (rfl : _ = some _) ?_); with_reducible conv => whnf) | (refine And.intro (okII _ _) ?_; rw [eqD_ii]; with_reducible conv => whnf) | (refine And.intro (by first | assumption | exact Exists.intro _ (by assumption) | exact ⟨rfl, rfl, by decide, by decide⟩ | exact Nat.le_of_ble_eq_true rfl | exact rfl) ?_; with_reducible conv => whnf) | (rw [isLst_at (by assumption)]; with_reducible conv => whnf) | (refine ifT rfl ?_; with_reducible conv => whnf) | (refine ifF rfl ?_; with_reducible conv => whnf) | (refine it_at (by assumption) ?_; with_reducible conv => whnf)))
  have ea := at_push S1 (.lst [.int 40, .int 401])
  have d2 := d1.app [.lst [.int 40, .int 401]]
  have hne : S1.length ≠ n0 := by have := d1.lt; omega
  generalize S1 ++ [O.lst [.int 40, .int 401]] = S2 at *
  generalize S1.length = a at *
  refine ⟨n0, 4, rfl, by decide, d2, fun m S3 m0 m1 d3 c3 => ?_⟩
  replace ea := c3 _ _ hne ea
  ((with_reducible conv => whnf); repeat (first | (rw [natD_len]; with_reducible conv => whnf) | (rw [intD_len]; with_reducible conv => whnf) | (refine Exists.intro _ (And.intro (rfl : _ = some _) ?_); with_reducible conv => whnf) | (refine And.intro (okII _ _) ?_; rw [eqD_ii]; with_reducible conv => whnf) | (refine And.intro (by first | assumption | exact Exists.intro _ (by assumption) | exact ⟨rfl, rfl, by decide, by decide⟩ | exact Nat.le_of_ble_eq_true rfl | exact rfl) ?_; with_reducible conv => whnf) | (rw [isLst_at (by assumption)]; with_reducible conv => whnf) | (refine ifT rfl ?_; with_reducible conv => whnf) | (refine ifF rfl ?_; with_reducible conv => whnf) | (refine it_at (by assumption) ?_; with_reducible conv => whnf)))
  rw [b2i]
  refine ⟨.int (if m = 0 then 401 else 40), by split <;> rfl, ?_⟩
  ((with_reducible conv => whnf); repeat (first | (rw [natD_len]; with_reducible conv => whnf) | (rw [intD_len]; with_reducible conv => whnf) | (refine Exists.intro _ (And.intro (rfl : _ = some _) ?_); with_reducible conv => whnf) | (refine And.intro (okII _ _) ?_; rw [eqD_ii]; with_reducible conv => whnf) | (refine And.intro (by first | assumption | exact Exists.intro _ (by assumption) | exact ⟨rfl, rfl, by decide, by decide⟩ | exact Nat.le_of_ble_eq_true rfl | exact rfl) ?_; with_reducible conv => whnf) | (rw [isLst_at (by assumption)]; with_reducible conv => whnf) | (refine ifT rfl ?_; with_reducible conv => whnf) | (refine ifF rfl ?_; with_reducible conv => whnf) | (refine it_at (by assumption) ?_; with_reducible conv => whnf)))
  refine ⟨n0, _, rfl, by split <;> decide, d3, fun n S4 n0' n1 d4 _ => ?_⟩
  obtain ⟨nn, rfl⟩ : ∃ mn : Nat, n = mn := ⟨n.toNat, by omega⟩
  have hnn : nn ≤ 401 := by split at n1 <;> omega
  ((with_reducible conv => whnf); repeat (first | (rw [natD_len]; with_reducible conv => whnf) | (rw [intD_len]; with_reducible conv => whnf) | (refine Exists.intro _ (And.intro (rfl : _ = some _) ?_); with_reducible conv => whnf) | (refine And.intro (okII _ _) ?_; rw [eqD_ii]; with_reducible conv => whnf) | (refine And.intro (by first | assumption | exact Exists.intro _ (by assumption) | exact ⟨rfl, rfl, by decide, by decide⟩ | exact Nat.le_of_ble_eq_true rfl | exact rfl) ?_; with_reducible conv => whnf) | (rw [isLst_at (by assumption)]; with_reducible conv => whnf) | (refine ifT rfl ?_; with_reducible conv => whnf) | (refine ifF rfl ?_; with_reducible conv => whnf) | (refine it_at (by assumption) ?_; with_reducible conv => whnf)))
  rw [show max (nn : Int) 1 = ((max nn 1 : Nat) : Int) by omega, show (nn : Int) + 3 = ((nn + 3 : Nat) : Int) by omega]
  rw [show [D.int ((k0 + 1 : Nat) : Int), .int ((max nn 1 : Nat) : Int), .int ((nn + 3 : Nat) : Int)] = natD [k0 + 1, max nn 1, nn + 3] from rfl]
  have eb := at_push S4 (.lst (natD [k0 + 1, max nn 1, nn + 3]))
  have d5 := d4.app [.lst (natD [k0 + 1, max nn 1, nn + 3])]
  generalize S4 ++ [O.lst (natD [k0 + 1, max nn 1, nn + 3])] = S5 at *
  generalize S4.length = b at *
  refine it_at eb ?_
  (with_reducible conv => whnf)
  refine Loop_mk (fun i ρ S' => ∃ o7, ρ = [x0, some (.ref n0), some (qD p), x3, x4, some (.int ((k0 + 1 : Nat) : Int)), some (.int nn), o7, x8, x9, x10, x11, x12, x13, x14, x15, x16, x17] ∧ S'[b]? = some (.lst (natD [k0 + 1, max nn 1, nn + 3])) ∧ Dr n0 S') ⟨_, rfl, eb, d5⟩ (by rintro i ρ' S' ⟨o12, rfl, f1, f2⟩; exact f1) ?_ ?_
  · clear eb d5 S5
    rintro i d ρ' S' hi ⟨o7, rfl, eb, d5⟩
    obtain ⟨z, hz, rfl⟩ := natD_get hi
    have hzb : 1 ≤ z ∧ z ≤ 500 := by
      have := List.mem_of_getElem? hz
      simp only [List.mem_cons, List.not_mem_nil, or_false] at this
      omega
    ((with_reducible conv => whnf); repeat (first | (rw [natD_len]; with_reducible conv => whnf) | (rw [intD_len]; with_reducible conv => whnf) | (refine Exists.intro _ (And.intro (rfl : _ = some _) ?_); with_reducible conv => whnf) | (refine And.intro (okII _ _) ?_; rw [eqD_ii]; with_reducible conv => whnf) | (refine And.intro (by first | assumption | exact Exists.intro _ (by assumption) | exact ⟨rfl, rfl, by decide, by decide⟩ | exact Nat.le_of_ble_eq_true rfl | exact rfl) ?_; with_reducible conv => whnf) | (rw [isLst_at (by assumption)]; with_reducible conv => whnf) | (refine ifT rfl ?_; with_reducible conv => whnf) | (refine ifF rfl ?_; with_reducible conv => whnf) | (refine it_at (by assumption) ?_; with_reducible conv => whnf)))
    refine ⟨nn, z, rfl, by omega, hzb.1, hzb.2, fun S6 s6 => ?_⟩
    ((with_reducible conv => whnf); repeat (first | (rw [natD_len]; with_reducible conv => whnf) | (rw [intD_len]; with_reducible conv => whnf) | (refine Exists.intro _ (And.intro (rfl : _ = some _) ?_); with_reducible conv => whnf) | (refine And.intro (okII _ _) ?_; rw [eqD_ii]; with_reducible conv => whnf) | (refine And.intro (by first | assumption | exact Exists.intro _ (by assumption) | exact ⟨rfl, rfl, by decide, by decide⟩ | exact Nat.le_of_ble_eq_true rfl | exact rfl) ?_; with_reducible conv => whnf) | (rw [isLst_at (by assumption)]; with_reducible conv => whnf) | (refine ifT rfl ?_; with_reducible conv => whnf) | (refine ifF rfl ?_; with_reducible conv => whnf) | (refine it_at (by assumption) ?_; with_reducible conv => whnf)))
    refine ⟨nn, z, rfl, by omega, hzb.1, hzb.2, fun S7 s7 => ?_⟩
    ((with_reducible conv => whnf); repeat (first | (rw [natD_len]; with_reducible conv => whnf) | (rw [intD_len]; with_reducible conv => whnf) | (refine Exists.intro _ (And.intro (rfl : _ = some _) ?_); with_reducible conv => whnf) | (refine And.intro (okII _ _) ?_; rw [eqD_ii]; with_reducible conv => whnf) | (refine And.intro (by first | assumption | exact Exists.intro _ (by assumption) | exact ⟨rfl, rfl, by decide, by decide⟩ | exact Nat.le_of_ble_eq_true rfl | exact rfl) ?_; with_reducible conv => whnf) | (rw [isLst_at (by assumption)]; with_reducible conv => whnf) | (refine ifT rfl ?_; with_reducible conv => whnf) | (refine ifF rfl ?_; with_reducible conv => whnf) | (refine it_at (by assumption) ?_; with_reducible conv => whnf)))
    refine ⟨_, rfl, rfl, rfl, Nat.zero_le _, fun S8 s8 => ?_⟩
    have s := s6.trans (s7.trans s8)
    ((with_reducible conv => whnf); repeat (first | (rw [natD_len]; with_reducible conv => whnf) | (rw [intD_len]; with_reducible conv => whnf) | (refine Exists.intro _ (And.intro (rfl : _ = some _) ?_); with_reducible conv => whnf) | (refine And.intro (okII _ _) ?_; rw [eqD_ii]; with_reducible conv => whnf) | (refine And.intro (by first | assumption | exact Exists.intro _ (by assumption) | exact ⟨rfl, rfl, by decide, by decide⟩ | exact Nat.le_of_ble_eq_true rfl | exact rfl) ?_; with_reducible conv => whnf) | (rw [isLst_at (by assumption)]; with_reducible conv => whnf) | (refine ifT rfl ?_; with_reducible conv => whnf) | (refine ifF rfl ?_; with_reducible conv => whnf) | (refine it_at (by assumption) ?_; with_reducible conv => whnf)))
    exact ⟨_, rfl, s _ _ eb, d5.sub s⟩
  · clear eb d5 S5
    rintro ρ' S' ⟨o7, rfl, eb, d5⟩
    exact law_C hp (by omega) (by omega) kk d5
@[reducible] def sp_law : Spc := fun ds S Q => ∃ ns, ds = [.rol (intD ns)] ∧ ns.length ≤ 63 ∧ ∀ S', Q (.bl true) S'
theorem law_A {Q : VK} {n0 : Nat} {p : Rat} {x0 x3 x4 x5 x6 x7 x8 x9 x10 x11 x12 x13 x14 x15 x16 x17 : Option D} {S : Sto} (hp : Chn p) (kk : ∀ S', Q (.bl true) S') (d0 : Dr n0 S) :
    w_law_t2 sp_draws sp_chance sp_take sp_row sp_lruns sp_runs (sp_same 2) sp_longest sp_longest sp_few sp_cw sp_cw sp_cwo sp_cwo sp_pow sp_frac sp_par sp_ways sp_cbr (sp_s2 (· + ·)) sp_until (sp_s2 (· - ·)) (sp_s2 (· * ·)) sp_mr { nx := fun _ S' => Q .non S', rt := Q, bk := fun _ _ => False, ct := fun _ _ => False } [x0, some (.ref n0), some (qD p), x3, x4, x5, x6, x7, x8, x9, x10, x11, x12, x13, x14, x15, x16, x17] S := by
  ((with_reducible conv => whnf); repeat (first | (rw [natD_len]; with_reducible conv => whnf) | (rw [intD_len]; with_reducible conv => whnf) | (refine Exists.intro _ (And.intro (rfl : _ = some _) ?_); with_reducible conv => whnf) | (refine And.intro (okII _ _) ?_; rw [eqD_ii]; with_reducible conv => whnf) | (refine And.intro (by first | assumption | exact Exists.intro _ (by assumption) | exact ⟨rfl, rfl, by decide, by decide⟩ | exact Nat.le_of_ble_eq_true rfl | exact rfl) ?_; with_reducible conv => whnf) | (rw [isLst_at (by assumption)]; with_reducible conv => whnf) | (refine ifT rfl ?_; with_reducible conv => whnf) | (refine ifF rfl ?_; with_reducible conv => whnf) | (refine it_at (by assumption) ?_; with_reducible conv => whnf)))
  refine ⟨n0, 41, rfl, by decide, d0, fun m S1 m0 m1 d1 c1 => ?_⟩
  obtain ⟨a, rfl⟩ : ∃ mn : Nat, m = mn := ⟨m.toNat, by omega⟩
  ((with_reducible conv => whnf); repeat (first | (rw [natD_len]; with_reducible conv => whnf) | (rw [intD_len]; with_reducible conv => whnf) | (refine Exists.intro _ (And.intro (rfl : _ = some _) ?_); with_reducible conv => whnf) | (refine And.intro (okII _ _) ?_; rw [eqD_ii]; with_reducible conv => whnf) | (refine And.intro (by first | assumption | exact Exists.intro _ (by assumption) | exact ⟨rfl, rfl, by decide, by decide⟩ | exact Nat.le_of_ble_eq_true rfl | exact rfl) ?_; with_reducible conv => whnf) | (rw [isLst_at (by assumption)]; with_reducible conv => whnf) | (refine ifT rfl ?_; with_reducible conv => whnf) | (refine ifF rfl ?_; with_reducible conv => whnf) | (refine it_at (by assumption) ?_; with_reducible conv => whnf)))
  refine ⟨n0, a, rfl, by omega, d1, fun r S2 hr d2 _ => ?_⟩
  ((with_reducible conv => whnf); repeat (first | (rw [natD_len]; with_reducible conv => whnf) | (rw [intD_len]; with_reducible conv => whnf) | (refine Exists.intro _ (And.intro (rfl : _ = some _) ?_); with_reducible conv => whnf) | (refine And.intro (okII _ _) ?_; rw [eqD_ii]; with_reducible conv => whnf) | (refine And.intro (by first | assumption | exact Exists.intro _ (by assumption) | exact ⟨rfl, rfl, by decide, by decide⟩ | exact Nat.le_of_ble_eq_true rfl | exact rfl) ?_; with_reducible conv => whnf) | (rw [isLst_at (by assumption)]; with_reducible conv => whnf) | (refine ifT rfl ?_; with_reducible conv => whnf) | (refine ifF rfl ?_; with_reducible conv => whnf) | (refine it_at (by assumption) ?_; with_reducible conv => whnf)))
  refine ⟨n0, 6, rfl, by decide, d2, fun m S3 m0 m1 d3 c3 => ?_⟩
  obtain ⟨b, rfl⟩ : ∃ mn : Nat, m = mn := ⟨m.toNat, by omega⟩
  ((with_reducible conv => whnf); repeat (first | (rw [natD_len]; with_reducible conv => whnf) | (rw [intD_len]; with_reducible conv => whnf) | (refine Exists.intro _ (And.intro (rfl : _ = some _) ?_); with_reducible conv => whnf) | (refine And.intro (okII _ _) ?_; rw [eqD_ii]; with_reducible conv => whnf) | (refine And.intro (by first | assumption | exact Exists.intro _ (by assumption) | exact ⟨rfl, rfl, by decide, by decide⟩ | exact Nat.le_of_ble_eq_true rfl | exact rfl) ?_; with_reducible conv => whnf) | (rw [isLst_at (by assumption)]; with_reducible conv => whnf) | (refine ifT rfl ?_; with_reducible conv => whnf) | (refine ifF rfl ?_; with_reducible conv => whnf) | (refine it_at (by assumption) ?_; with_reducible conv => whnf)))
  refine ⟨n0, b, rfl, by omega, d3, fun q S4 hq d4 _ => ?_⟩
  ((with_reducible conv => whnf); repeat (first | (rw [natD_len]; with_reducible conv => whnf) | (rw [intD_len]; with_reducible conv => whnf) | (refine Exists.intro _ (And.intro (rfl : _ = some _) ?_); with_reducible conv => whnf) | (refine And.intro (okII _ _) ?_; rw [eqD_ii]; with_reducible conv => whnf) | (refine And.intro (by first | assumption | exact Exists.intro _ (by assumption) | exact ⟨rfl, rfl, by decide, by decide⟩ | exact Nat.le_of_ble_eq_true rfl | exact rfl) ?_; with_reducible conv => whnf) | (rw [isLst_at (by assumption)]; with_reducible conv => whnf) | (refine ifT rfl ?_; with_reducible conv => whnf) | (refine ifF rfl ?_; with_reducible conv => whnf) | (refine it_at (by assumption) ?_; with_reducible conv => whnf)))
  rw [show [D.str (tx r), .str (tx q)] = [r, q].map fun x => D.str (tx x) from rfl]
  have eb := at_push S4 (.lst ([r, q].map fun x => D.str (tx x)))
  have d5 := d4.app [.lst ([r, q].map fun x => D.str (tx x))]
  generalize S4 ++ [O.lst ([r, q].map fun x => D.str (tx x))] = S5 at *
  generalize S4.length = pb at *
  refine it_at eb ?_
  (with_reducible conv => whnf)
  refine Loop_mk (fun i ρ S' => ∃ o3 o4, ρ = [x0, some (.ref n0), some (qD p), o3, o4, x5, x6, x7, x8, x9, x10, x11, x12, x13, x14, x15, x16, x17] ∧ S'[pb]? = some (.lst ([r, q].map fun x => D.str (tx x))) ∧ Dr n0 S') ⟨_, _, rfl, eb, d5⟩ (by rintro i ρ' S' ⟨o3, o4, rfl, f1, f2⟩; exact f1) ?_ ?_
  · clear eb d5 S5
    rintro i d ρ' S' hi ⟨o3, o4, rfl, eb, d5⟩
    rw [List.getElem?_map] at hi
    obtain ⟨z, hz, rfl⟩ := Option.map_eq_some_iff.mp hi
    have hzl : z.length ≤ 80 := by
      have := List.mem_of_getElem? hz
      simp only [List.mem_cons, List.not_mem_nil, or_false] at this
      rcases this with rfl | rfl <;> assumption
    have hnr := rl_len z
    ((with_reducible conv => whnf); repeat (first | (rw [natD_len]; with_reducible conv => whnf) | (rw [intD_len]; with_reducible conv => whnf) | (refine Exists.intro _ (And.intro (rfl : _ = some _) ?_); with_reducible conv => whnf) | (refine And.intro (okII _ _) ?_; rw [eqD_ii]; with_reducible conv => whnf) | (refine And.intro (by first | assumption | exact Exists.intro _ (by assumption) | exact ⟨rfl, rfl, by decide, by decide⟩ | exact Nat.le_of_ble_eq_true rfl | exact rfl) ?_; with_reducible conv => whnf) | (rw [isLst_at (by assumption)]; with_reducible conv => whnf) | (refine ifT rfl ?_; with_reducible conv => whnf) | (refine ifF rfl ?_; with_reducible conv => whnf) | (refine it_at (by assumption) ?_; with_reducible conv => whnf)))
    refine ⟨z, rfl, by omega, fun S6 s6 => ?_⟩
    ((with_reducible conv => whnf); repeat (first | (rw [natD_len]; with_reducible conv => whnf) | (rw [intD_len]; with_reducible conv => whnf) | (refine Exists.intro _ (And.intro (rfl : _ = some _) ?_); with_reducible conv => whnf) | (refine And.intro (okII _ _) ?_; rw [eqD_ii]; with_reducible conv => whnf) | (refine And.intro (by first | assumption | exact Exists.intro _ (by assumption) | exact ⟨rfl, rfl, by decide, by decide⟩ | exact Nat.le_of_ble_eq_true rfl | exact rfl) ?_; with_reducible conv => whnf) | (rw [isLst_at (by assumption)]; with_reducible conv => whnf) | (refine ifT rfl ?_; with_reducible conv => whnf) | (refine ifF rfl ?_; with_reducible conv => whnf) | (refine it_at (by assumption) ?_; with_reducible conv => whnf)))
    refine ⟨z, rfl, by omega, fun u v S7 _ eu ev s7 => ?_⟩
    ((with_reducible conv => whnf); repeat (first | (rw [natD_len]; with_reducible conv => whnf) | (rw [intD_len]; with_reducible conv => whnf) | (refine Exists.intro _ (And.intro (rfl : _ = some _) ?_); with_reducible conv => whnf) | (refine And.intro (okII _ _) ?_; rw [eqD_ii]; with_reducible conv => whnf) | (refine And.intro (by first | assumption | exact Exists.intro _ (by assumption) | exact ⟨rfl, rfl, by decide, by decide⟩ | exact Nat.le_of_ble_eq_true rfl | exact rfl) ?_; with_reducible conv => whnf) | (rw [isLst_at (by assumption)]; with_reducible conv => whnf) | (refine ifT rfl ?_; with_reducible conv => whnf) | (refine ifF rfl ?_; with_reducible conv => whnf) | (refine it_at (by assumption) ?_; with_reducible conv => whnf)))
    refine ⟨.tup (natD (lens z)), rfl, flats_int _, ?_, ?_, fun S8 s8 => ?_⟩
    · show (decide ((natD (lens z)).length ≤ szL) && slims (natD (lens z))) = true
      rw [slims_int, natD_len, lens_len]
      simp
      unfold szL; omega
    · show deeps (natD (lens z)) + 1 ≤ 2
      rw [deeps_int]; omega
    have s := s6.trans (s7.trans s8)
    replace eb := s _ _ eb
    replace d5 := d5.sub s
    clear s6 s7 s8 s eu ev
    ((with_reducible conv => whnf); repeat (first | (rw [natD_len]; with_reducible conv => whnf) | (rw [intD_len]; with_reducible conv => whnf) | (refine Exists.intro _ (And.intro (rfl : _ = some _) ?_); with_reducible conv => whnf) | (refine And.intro (okII _ _) ?_; rw [eqD_ii]; with_reducible conv => whnf) | (refine And.intro (by first | assumption | exact Exists.intro _ (by assumption) | exact ⟨rfl, rfl, by decide, by decide⟩ | exact Nat.le_of_ble_eq_true rfl | exact rfl) ?_; with_reducible conv => whnf) | (rw [isLst_at (by assumption)]; with_reducible conv => whnf) | (refine ifT rfl ?_; with_reducible conv => whnf) | (refine ifF rfl ?_; with_reducible conv => whnf) | (refine it_at (by assumption) ?_; with_reducible conv => whnf)))
    rw [ofHT, tx_chars]
    refine Loop_mk (fun i ρ S' => ∃ o4, ρ = [x0, some (.ref n0), some (qD p), some (.str (tx z)), o4, x5, x6, x7, x8, x9, x10, x11, x12, x13, x14, x15, x16, x17] ∧ S'[pb]? = some (.lst ([r, q].map fun x => D.str (tx x))) ∧ Dr n0 S') ⟨_, rfl, eb, d5⟩ (by intros; trivial) ?_ ?_
    · clear eb d5
      rintro i d ρ' S' hi ⟨o4, rfl, eb, d5⟩
      rw [List.getElem?_map] at hi
      obtain ⟨b, hb, rfl⟩ := Option.map_eq_some_iff.mp hi
      ((with_reducible conv => whnf); repeat (first | (rw [natD_len]; with_reducible conv => whnf) | (rw [intD_len]; with_reducible conv => whnf) | (refine Exists.intro _ (And.intro (rfl : _ = some _) ?_); with_reducible conv => whnf) | (refine And.intro (okII _ _) ?_; rw [eqD_ii]; with_reducible conv => whnf) | (refine And.intro (by first | assumption | exact Exists.intro _ (by assumption) | exact ⟨rfl, rfl, by decide, by decide⟩ | exact Nat.le_of_ble_eq_true rfl | exact rfl) ?_; with_reducible conv => whnf) | (rw [isLst_at (by assumption)]; with_reducible conv => whnf) | (refine ifT rfl ?_; with_reducible conv => whnf) | (refine ifF rfl ?_; with_reducible conv => whnf) | (refine it_at (by assumption) ?_; with_reducible conv => whnf)))
      refine ⟨z, b, rfl, by omega, fun S6 s6 => ?_⟩
      ((with_reducible conv => whnf); repeat (first | (rw [natD_len]; with_reducible conv => whnf) | (rw [intD_len]; with_reducible conv => whnf) | (refine Exists.intro _ (And.intro (rfl : _ = some _) ?_); with_reducible conv => whnf) | (refine And.intro (okII _ _) ?_; rw [eqD_ii]; with_reducible conv => whnf) | (refine And.intro (by first | assumption | exact Exists.intro _ (by assumption) | exact ⟨rfl, rfl, by decide, by decide⟩ | exact Nat.le_of_ble_eq_true rfl | exact rfl) ?_; with_reducible conv => whnf) | (rw [isLst_at (by assumption)]; with_reducible conv => whnf) | (refine ifT rfl ?_; with_reducible conv => whnf) | (refine ifF rfl ?_; with_reducible conv => whnf) | (refine it_at (by assumption) ?_; with_reducible conv => whnf)))
      refine ⟨z, b, rfl, by omega, fun S7 s7 => ?_⟩
      ((with_reducible conv => whnf); repeat (first | (rw [natD_len]; with_reducible conv => whnf) | (rw [intD_len]; with_reducible conv => whnf) | (refine Exists.intro _ (And.intro (rfl : _ = some _) ?_); with_reducible conv => whnf) | (refine And.intro (okII _ _) ?_; rw [eqD_ii]; with_reducible conv => whnf) | (refine And.intro (by first | assumption | exact Exists.intro _ (by assumption) | exact ⟨rfl, rfl, by decide, by decide⟩ | exact Nat.le_of_ble_eq_true rfl | exact rfl) ?_; with_reducible conv => whnf) | (rw [isLst_at (by assumption)]; with_reducible conv => whnf) | (refine ifT rfl ?_; with_reducible conv => whnf) | (refine ifF rfl ?_; with_reducible conv => whnf) | (refine it_at (by assumption) ?_; with_reducible conv => whnf)))
      refine ⟨_, rfl, rfl, rfl, Nat.zero_le _, fun S8 s8 => ?_⟩
      have s := s6.trans (s7.trans s8)
      ((with_reducible conv => whnf); repeat (first | (rw [natD_len]; with_reducible conv => whnf) | (rw [intD_len]; with_reducible conv => whnf) | (refine Exists.intro _ (And.intro (rfl : _ = some _) ?_); with_reducible conv => whnf) | (refine And.intro (okII _ _) ?_; rw [eqD_ii]; with_reducible conv => whnf) | (refine And.intro (by first | assumption | exact Exists.intro _ (by assumption) | exact ⟨rfl, rfl, by decide, by decide⟩ | exact Nat.le_of_ble_eq_true rfl | exact rfl) ?_; with_reducible conv => whnf) | (rw [isLst_at (by assumption)]; with_reducible conv => whnf) | (refine ifT rfl ?_; with_reducible conv => whnf) | (refine ifF rfl ?_; with_reducible conv => whnf) | (refine it_at (by assumption) ?_; with_reducible conv => whnf)))
      exact ⟨_, rfl, s _ _ eb, d5.sub s⟩
    · clear eb d5
      rintro ρ' S' ⟨o4, rfl, eb, d5⟩
      exact ⟨_, _, rfl, eb, d5⟩
  · clear eb d5 S5
    rintro ρ' S' ⟨o3, o4, rfl, eb, d5⟩
    ((with_reducible conv => whnf); repeat (first | (rw [natD_len]; with_reducible conv => whnf) | (rw [intD_len]; with_reducible conv => whnf) | (refine Exists.intro _ (And.intro (rfl : _ = some _) ?_); with_reducible conv => whnf) | (refine And.intro (okII _ _) ?_; rw [eqD_ii]; with_reducible conv => whnf) | (refine And.intro (by first | assumption | exact Exists.intro _ (by assumption) | exact ⟨rfl, rfl, by decide, by decide⟩ | exact Nat.le_of_ble_eq_true rfl | exact rfl) ?_; with_reducible conv => whnf) | (rw [isLst_at (by assumption)]; with_reducible conv => whnf) | (refine ifT rfl ?_; with_reducible conv => whnf) | (refine ifF rfl ?_; with_reducible conv => whnf) | (refine it_at (by assumption) ?_; with_reducible conv => whnf)))
    refine ⟨n0, 6, rfl, by decide, d5, fun m S6 m0 m1 d6 _ => ?_⟩
    ((with_reducible conv => whnf); repeat (first | (rw [natD_len]; with_reducible conv => whnf) | (rw [intD_len]; with_reducible conv => whnf) | (refine Exists.intro _ (And.intro (rfl : _ = some _) ?_); with_reducible conv => whnf) | (refine And.intro (okII _ _) ?_; rw [eqD_ii]; with_reducible conv => whnf) | (refine And.intro (by first | assumption | exact Exists.intro _ (by assumption) | exact ⟨rfl, rfl, by decide, by decide⟩ | exact Nat.le_of_ble_eq_true rfl | exact rfl) ?_; with_reducible conv => whnf) | (rw [isLst_at (by assumption)]; with_reducible conv => whnf) | (refine ifT rfl ?_; with_reducible conv => whnf) | (refine ifF rfl ?_; with_reducible conv => whnf) | (refine it_at (by assumption) ?_; with_reducible conv => whnf)))
    rw [b2i]
    refine ⟨smallMul' (by decide), ?_⟩
    ((with_reducible conv => whnf); repeat (first | (rw [natD_len]; with_reducible conv => whnf) | (rw [intD_len]; with_reducible conv => whnf) | (refine Exists.intro _ (And.intro (rfl : _ = some _) ?_); with_reducible conv => whnf) | (refine And.intro (okII _ _) ?_; rw [eqD_ii]; with_reducible conv => whnf) | (refine And.intro (by first | assumption | exact Exists.intro _ (by assumption) | exact ⟨rfl, rfl, by decide, by decide⟩ | exact Nat.le_of_ble_eq_true rfl | exact rfl) ?_; with_reducible conv => whnf) | (rw [isLst_at (by assumption)]; with_reducible conv => whnf) | (refine ifT rfl ?_; with_reducible conv => whnf) | (refine ifF rfl ?_; with_reducible conv => whnf) | (refine it_at (by assumption) ?_; with_reducible conv => whnf)))
    refine ⟨n0, _, rfl, by split <;> decide, d6, fun n S7 n0' n1 d7 _ => ?_⟩
    obtain ⟨nn, rfl⟩ : ∃ mn : Nat, n = mn := ⟨n.toNat, by omega⟩
    have hnn : nn ≤ 9 := by split at n1 <;> omega
    ((with_reducible conv => whnf); repeat (first | (rw [natD_len]; with_reducible conv => whnf) | (rw [intD_len]; with_reducible conv => whnf) | (refine Exists.intro _ (And.intro (rfl : _ = some _) ?_); with_reducible conv => whnf) | (refine And.intro (okII _ _) ?_; rw [eqD_ii]; with_reducible conv => whnf) | (refine And.intro (by first | assumption | exact Exists.intro _ (by assumption) | exact ⟨rfl, rfl, by decide, by decide⟩ | exact Nat.le_of_ble_eq_true rfl | exact rfl) ?_; with_reducible conv => whnf) | (rw [isLst_at (by assumption)]; with_reducible conv => whnf) | (refine ifT rfl ?_; with_reducible conv => whnf) | (refine ifF rfl ?_; with_reducible conv => whnf) | (refine it_at (by assumption) ?_; with_reducible conv => whnf)))
    refine ⟨n0, 5, rfl, by decide, d7, fun m S8 m0 m1 d8 _ => ?_⟩
    obtain ⟨k0, rfl⟩ : ∃ mn : Nat, m = mn := ⟨m.toNat, by omega⟩
    (with_reducible conv => whnf)
    rw [show (1 : Int) + (k0 : Int) = ((k0 + 1 : Nat) : Int) by omega]
    ((with_reducible conv => whnf); repeat (first | (rw [natD_len]; with_reducible conv => whnf) | (rw [intD_len]; with_reducible conv => whnf) | (refine Exists.intro _ (And.intro (rfl : _ = some _) ?_); with_reducible conv => whnf) | (refine And.intro (okII _ _) ?_; rw [eqD_ii]; with_reducible conv => whnf) | (refine And.intro (by first | assumption | exact Exists.intro _ (by assumption) | exact ⟨rfl, rfl, by decide, by decide⟩ | exact Nat.le_of_ble_eq_true rfl | exact rfl) ?_; with_reducible conv => whnf) | (rw [isLst_at (by assumption)]; with_reducible conv => whnf) | (refine ifT rfl ?_; with_reducible conv => whnf) | (refine ifF rfl ?_; with_reducible conv => whnf) | (refine it_at (by assumption) ?_; with_reducible conv => whnf)))
    refine ⟨p, nn, k0 + 1, rfl, hp, hnn, by omega, by omega, fun S9 s9 => ?_⟩
    exact law_B hp kk (d8.sub s9)
theorem body_law : Body 18 1 (w_law sp_draws sp_chance sp_take sp_row sp_lruns sp_runs (sp_same 2) sp_longest sp_longest sp_few sp_cw sp_cw sp_cwo sp_cwo sp_pow sp_frac sp_par sp_ways sp_cbr (sp_s2 (· + ·)) sp_until (sp_s2 (· - ·)) (sp_s2 (· * ·)) sp_mr) sp_law := by
  rintro ds S Q _ ⟨ns, rfl, hl, kk⟩
  unfold w_law
  (simp only [start, List.map_cons, List.map_nil, List.length_cons, List.length_nil, Nat.reduceAdd, Nat.reduceSub, List.replicate_succ, List.replicate_zero, List.cons_append, List.nil_append, Nat.sub_self, Nat.zero_add])
  ((with_reducible conv => whnf); repeat (first | (rw [natD_len]; with_reducible conv => whnf) | (rw [intD_len]; with_reducible conv => whnf) | (refine Exists.intro _ (And.intro (rfl : _ = some _) ?_); with_reducible conv => whnf) | (refine And.intro (okII _ _) ?_; rw [eqD_ii]; with_reducible conv => whnf) | (refine And.intro (by first | assumption | exact Exists.intro _ (by assumption) | exact ⟨rfl, rfl, by decide, by decide⟩ | exact Nat.le_of_ble_eq_true rfl | exact rfl) ?_; with_reducible conv => whnf) | (rw [isLst_at (by assumption)]; with_reducible conv => whnf) | (refine ifT rfl ?_; with_reducible conv => whnf) | (refine ifF rfl ?_; with_reducible conv => whnf) | (refine it_at (by assumption) ?_; with_reducible conv => whnf)))
  refine ⟨ns, 220, rfl, hl, by decide, by decide, fun n0 S1 d1 _ _ => ?_⟩
  ((with_reducible conv => whnf); repeat (first | (rw [natD_len]; with_reducible conv => whnf) | (rw [intD_len]; with_reducible conv => whnf) | (refine Exists.intro _ (And.intro (rfl : _ = some _) ?_); with_reducible conv => whnf) | (refine And.intro (okII _ _) ?_; rw [eqD_ii]; with_reducible conv => whnf) | (refine And.intro (by first | assumption | exact Exists.intro _ (by assumption) | exact ⟨rfl, rfl, by decide, by decide⟩ | exact Nat.le_of_ble_eq_true rfl | exact rfl) ?_; with_reducible conv => whnf) | (rw [isLst_at (by assumption)]; with_reducible conv => whnf) | (refine ifT rfl ?_; with_reducible conv => whnf) | (refine ifF rfl ?_; with_reducible conv => whnf) | (refine it_at (by assumption) ?_; with_reducible conv => whnf)))
  refine ⟨n0, rfl, d1, fun p S2 hp d2 _ => ?_⟩
  exact law_A hp kk d2
end K94
set_option Elab.async false
set_option linter.all false
set_option maxRecDepth 100000
set_option maxHeartbeats 8000000
/-! the end: oddsweighed_k94_whole_runs_of_tosses -/
namespace K94
open PySem PySem.Spec DL
theorem all_mk {l : PySem.W.OpenLaw} {w : World} {K : PySem.W.Frag} {h : Heap} {mg : Str → Option Value} {fa f_divisor f_fraction f_plus f_minus f_times f_divided f_runs_of f_longest f_count_without f_chance_without f_mean_runs f_ways f_parted f_count_by_runs f_mean_until f_law_draws f_law_take f_law_same f_law_shared f_law_frac f_law_plus f_law_minus f_law_mul f_law_ways f_law_chance f_law_row f_law_runs f_law_longest f_law_all f_law_power f_law_few f_law_count f_law_without f_law_parted f_law : Addr} (X : K.In h) (G : h.Ns mainGlobals mg) (hfa : mg "law" = some (.ref fa))
    {od_divisor an_divisor : Option Addr} {sl_divisor : Array (Option Value)} {oc_divisor kV_divisor dc_divisor pm_divisor cd_divisor ct_divisor : Value}
    (a_divisor : PySem.W.nsIn K mainGlobals "divisor" = some (some (.ref f_divisor))) (l_divisor : K.lookup f_divisor = some ⟨oc_divisor, od_divisor, .func (PySem.W.fnOf "divisor" "divisor" (L2.defArgs s_divisor) (L2.defBody s_divisor) (L2.defScope s_divisor) .none kV_divisor dc_divisor pm_divisor an_divisor cd_divisor ct_divisor), sl_divisor⟩) (c_divisor : PySem.W.codeIn K cd_divisor "divisor" = true) (k_divisor : PySem.W.keepIn K (.ref f_divisor) = true)
    {od_fraction an_fraction : Option Addr} {sl_fraction : Array (Option Value)} {oc_fraction kV_fraction dc_fraction pm_fraction cd_fraction ct_fraction : Value}
    (a_fraction : PySem.W.nsIn K mainGlobals "fraction" = some (some (.ref f_fraction))) (l_fraction : K.lookup f_fraction = some ⟨oc_fraction, od_fraction, .func (PySem.W.fnOf "fraction" "fraction" (L2.defArgs s_fraction) (L2.defBody s_fraction) (L2.defScope s_fraction) .none kV_fraction dc_fraction pm_fraction an_fraction cd_fraction ct_fraction), sl_fraction⟩) (c_fraction : PySem.W.codeIn K cd_fraction "fraction" = true) (k_fraction : PySem.W.keepIn K (.ref f_fraction) = true)
    {od_plus an_plus : Option Addr} {sl_plus : Array (Option Value)} {oc_plus kV_plus dc_plus pm_plus cd_plus ct_plus : Value}
    (a_plus : PySem.W.nsIn K mainGlobals "plus" = some (some (.ref f_plus))) (l_plus : K.lookup f_plus = some ⟨oc_plus, od_plus, .func (PySem.W.fnOf "plus" "plus" (L2.defArgs s_plus) (L2.defBody s_plus) (L2.defScope s_plus) .none kV_plus dc_plus pm_plus an_plus cd_plus ct_plus), sl_plus⟩) (c_plus : PySem.W.codeIn K cd_plus "plus" = true) (k_plus : PySem.W.keepIn K (.ref f_plus) = true)
    {od_minus an_minus : Option Addr} {sl_minus : Array (Option Value)} {oc_minus kV_minus dc_minus pm_minus cd_minus ct_minus : Value}
    (a_minus : PySem.W.nsIn K mainGlobals "minus" = some (some (.ref f_minus))) (l_minus : K.lookup f_minus = some ⟨oc_minus, od_minus, .func (PySem.W.fnOf "minus" "minus" (L2.defArgs s_minus) (L2.defBody s_minus) (L2.defScope s_minus) .none kV_minus dc_minus pm_minus an_minus cd_minus ct_minus), sl_minus⟩) (c_minus : PySem.W.codeIn K cd_minus "minus" = true) (k_minus : PySem.W.keepIn K (.ref f_minus) = true)
    {od_times an_times : Option Addr} {sl_times : Array (Option Value)} {oc_times kV_times dc_times pm_times cd_times ct_times : Value}
    (a_times : PySem.W.nsIn K mainGlobals "times" = some (some (.ref f_times))) (l_times : K.lookup f_times = some ⟨oc_times, od_times, .func (PySem.W.fnOf "times" "times" (L2.defArgs s_times) (L2.defBody s_times) (L2.defScope s_times) .none kV_times dc_times pm_times an_times cd_times ct_times), sl_times⟩) (c_times : PySem.W.codeIn K cd_times "times" = true) (k_times : PySem.W.keepIn K (.ref f_times) = true)
    {od_divided an_divided : Option Addr} {sl_divided : Array (Option Value)} {oc_divided kV_divided dc_divided pm_divided cd_divided ct_divided : Value}
    (a_divided : PySem.W.nsIn K mainGlobals "divided" = some (some (.ref f_divided))) (l_divided : K.lookup f_divided = some ⟨oc_divided, od_divided, .func (PySem.W.fnOf "divided" "divided" (L2.defArgs s_divided) (L2.defBody s_divided) (L2.defScope s_divided) .none kV_divided dc_divided pm_divided an_divided cd_divided ct_divided), sl_divided⟩) (c_divided : PySem.W.codeIn K cd_divided "divided" = true) (k_divided : PySem.W.keepIn K (.ref f_divided) = true)
    {od_runs_of an_runs_of : Option Addr} {sl_runs_of : Array (Option Value)} {oc_runs_of kV_runs_of dc_runs_of pm_runs_of cd_runs_of ct_runs_of : Value}
    (a_runs_of : PySem.W.nsIn K mainGlobals "runs_of" = some (some (.ref f_runs_of))) (l_runs_of : K.lookup f_runs_of = some ⟨oc_runs_of, od_runs_of, .func (PySem.W.fnOf "runs_of" "runs_of" (L2.defArgs s_runs_of) (L2.defBody s_runs_of) (L2.defScope s_runs_of) .none kV_runs_of dc_runs_of pm_runs_of an_runs_of cd_runs_of ct_runs_of), sl_runs_of⟩) (c_runs_of : PySem.W.codeIn K cd_runs_of "runs_of" = true) (k_runs_of : PySem.W.keepIn K (.ref f_runs_of) = true)
    {od_longest an_longest : Option Addr} {sl_longest : Array (Option Value)} {oc_longest kV_longest dc_longest pm_longest cd_longest ct_longest : Value}
    (a_longest : PySem.W.nsIn K mainGlobals "longest" = some (some (.ref f_longest))) (l_longest : K.lookup f_longest = some ⟨oc_longest, od_longest, .func (PySem.W.fnOf "longest" "longest" (L2.defArgs s_longest) (L2.defBody s_longest) (L2.defScope s_longest) .none kV_longest dc_longest pm_longest an_longest cd_longest ct_longest), sl_longest⟩) (c_longest : PySem.W.codeIn K cd_longest "longest" = true) (k_longest : PySem.W.keepIn K (.ref f_longest) = true)
    {od_count_without an_count_without : Option Addr} {sl_count_without : Array (Option Value)} {oc_count_without kV_count_without dc_count_without pm_count_without cd_count_without ct_count_without : Value}
    (a_count_without : PySem.W.nsIn K mainGlobals "count_without" = some (some (.ref f_count_without))) (l_count_without : K.lookup f_count_without = some ⟨oc_count_without, od_count_without, .func (PySem.W.fnOf "count_without" "count_without" (L2.defArgs s_count_without) (L2.defBody s_count_without) (L2.defScope s_count_without) .none kV_count_without dc_count_without pm_count_without an_count_without cd_count_without ct_count_without), sl_count_without⟩) (c_count_without : PySem.W.codeIn K cd_count_without "count_without" = true) (k_count_without : PySem.W.keepIn K (.ref f_count_without) = true)
    {od_chance_without an_chance_without : Option Addr} {sl_chance_without : Array (Option Value)} {oc_chance_without kV_chance_without dc_chance_without pm_chance_without cd_chance_without ct_chance_without : Value}
    (a_chance_without : PySem.W.nsIn K mainGlobals "chance_without" = some (some (.ref f_chance_without))) (l_chance_without : K.lookup f_chance_without = some ⟨oc_chance_without, od_chance_without, .func (PySem.W.fnOf "chance_without" "chance_without" (L2.defArgs s_chance_without) (L2.defBody s_chance_without) (L2.defScope s_chance_without) .none kV_chance_without dc_chance_without pm_chance_without an_chance_without cd_chance_without ct_chance_without), sl_chance_without⟩) (c_chance_without : PySem.W.codeIn K cd_chance_without "chance_without" = true) (k_chance_without : PySem.W.keepIn K (.ref f_chance_without) = true)
    {od_mean_runs an_mean_runs : Option Addr} {sl_mean_runs : Array (Option Value)} {oc_mean_runs kV_mean_runs dc_mean_runs pm_mean_runs cd_mean_runs ct_mean_runs : Value}
    (a_mean_runs : PySem.W.nsIn K mainGlobals "mean_runs" = some (some (.ref f_mean_runs))) (l_mean_runs : K.lookup f_mean_runs = some ⟨oc_mean_runs, od_mean_runs, .func (PySem.W.fnOf "mean_runs" "mean_runs" (L2.defArgs s_mean_runs) (L2.defBody s_mean_runs) (L2.defScope s_mean_runs) .none kV_mean_runs dc_mean_runs pm_mean_runs an_mean_runs cd_mean_runs ct_mean_runs), sl_mean_runs⟩) (c_mean_runs : PySem.W.codeIn K cd_mean_runs "mean_runs" = true) (k_mean_runs : PySem.W.keepIn K (.ref f_mean_runs) = true)
    {od_ways an_ways : Option Addr} {sl_ways : Array (Option Value)} {oc_ways kV_ways dc_ways pm_ways cd_ways ct_ways : Value}
    (a_ways : PySem.W.nsIn K mainGlobals "ways" = some (some (.ref f_ways))) (l_ways : K.lookup f_ways = some ⟨oc_ways, od_ways, .func (PySem.W.fnOf "ways" "ways" (L2.defArgs s_ways) (L2.defBody s_ways) (L2.defScope s_ways) .none kV_ways dc_ways pm_ways an_ways cd_ways ct_ways), sl_ways⟩) (c_ways : PySem.W.codeIn K cd_ways "ways" = true) (k_ways : PySem.W.keepIn K (.ref f_ways) = true)
    {od_parted an_parted : Option Addr} {sl_parted : Array (Option Value)} {oc_parted kV_parted dc_parted pm_parted cd_parted ct_parted : Value}
    (a_parted : PySem.W.nsIn K mainGlobals "parted" = some (some (.ref f_parted))) (l_parted : K.lookup f_parted = some ⟨oc_parted, od_parted, .func (PySem.W.fnOf "parted" "parted" (L2.defArgs s_parted) (L2.defBody s_parted) (L2.defScope s_parted) .none kV_parted dc_parted pm_parted an_parted cd_parted ct_parted), sl_parted⟩) (c_parted : PySem.W.codeIn K cd_parted "parted" = true) (k_parted : PySem.W.keepIn K (.ref f_parted) = true)
    {od_count_by_runs an_count_by_runs : Option Addr} {sl_count_by_runs : Array (Option Value)} {oc_count_by_runs kV_count_by_runs dc_count_by_runs pm_count_by_runs cd_count_by_runs ct_count_by_runs : Value}
    (a_count_by_runs : PySem.W.nsIn K mainGlobals "count_by_runs" = some (some (.ref f_count_by_runs))) (l_count_by_runs : K.lookup f_count_by_runs = some ⟨oc_count_by_runs, od_count_by_runs, .func (PySem.W.fnOf "count_by_runs" "count_by_runs" (L2.defArgs s_count_by_runs) (L2.defBody s_count_by_runs) (L2.defScope s_count_by_runs) .none kV_count_by_runs dc_count_by_runs pm_count_by_runs an_count_by_runs cd_count_by_runs ct_count_by_runs), sl_count_by_runs⟩) (c_count_by_runs : PySem.W.codeIn K cd_count_by_runs "count_by_runs" = true) (k_count_by_runs : PySem.W.keepIn K (.ref f_count_by_runs) = true)
    {od_mean_until an_mean_until : Option Addr} {sl_mean_until : Array (Option Value)} {oc_mean_until kV_mean_until dc_mean_until pm_mean_until cd_mean_until ct_mean_until : Value}
    (a_mean_until : PySem.W.nsIn K mainGlobals "mean_until" = some (some (.ref f_mean_until))) (l_mean_until : K.lookup f_mean_until = some ⟨oc_mean_until, od_mean_until, .func (PySem.W.fnOf "mean_until" "mean_until" (L2.defArgs s_mean_until) (L2.defBody s_mean_until) (L2.defScope s_mean_until) .none kV_mean_until dc_mean_until pm_mean_until an_mean_until cd_mean_until ct_mean_until), sl_mean_until⟩) (c_mean_until : PySem.W.codeIn K cd_mean_until "mean_until" = true) (k_mean_until : PySem.W.keepIn K (.ref f_mean_until) = true)
    {od_law_draws an_law_draws : Option Addr} {sl_law_draws : Array (Option Value)} {oc_law_draws kV_law_draws dc_law_draws pm_law_draws cd_law_draws ct_law_draws : Value}
    (a_law_draws : PySem.W.nsIn K mainGlobals "_law_draws" = some (some (.ref f_law_draws))) (l_law_draws : K.lookup f_law_draws = some ⟨oc_law_draws, od_law_draws, .func (PySem.W.fnOf "_law_draws" "_law_draws" (L2.defArgs s_law_draws) (L2.defBody s_law_draws) (L2.defScope s_law_draws) .none kV_law_draws dc_law_draws pm_law_draws an_law_draws cd_law_draws ct_law_draws), sl_law_draws⟩) (c_law_draws : PySem.W.codeIn K cd_law_draws "_law_draws" = true) (k_law_draws : PySem.W.keepIn K (.ref f_law_draws) = true)
    {od_law_take an_law_take : Option Addr} {sl_law_take : Array (Option Value)} {oc_law_take kV_law_take dc_law_take pm_law_take cd_law_take ct_law_take : Value}
    (a_law_take : PySem.W.nsIn K mainGlobals "_law_take" = some (some (.ref f_law_take))) (l_law_take : K.lookup f_law_take = some ⟨oc_law_take, od_law_take, .func (PySem.W.fnOf "_law_take" "_law_take" (L2.defArgs s_law_take) (L2.defBody s_law_take) (L2.defScope s_law_take) .none kV_law_take dc_law_take pm_law_take an_law_take cd_law_take ct_law_take), sl_law_take⟩) (c_law_take : PySem.W.codeIn K cd_law_take "_law_take" = true) (k_law_take : PySem.W.keepIn K (.ref f_law_take) = true)
    {od_law_same an_law_same : Option Addr} {sl_law_same : Array (Option Value)} {oc_law_same kV_law_same dc_law_same pm_law_same cd_law_same ct_law_same : Value}
    (a_law_same : PySem.W.nsIn K mainGlobals "_law_same" = some (some (.ref f_law_same))) (l_law_same : K.lookup f_law_same = some ⟨oc_law_same, od_law_same, .func (PySem.W.fnOf "_law_same" "_law_same" (L2.defArgs s_law_same) (L2.defBody s_law_same) (L2.defScope s_law_same) .none kV_law_same dc_law_same pm_law_same an_law_same cd_law_same ct_law_same), sl_law_same⟩) (c_law_same : PySem.W.codeIn K cd_law_same "_law_same" = true) (k_law_same : PySem.W.keepIn K (.ref f_law_same) = true)
    {od_law_shared an_law_shared : Option Addr} {sl_law_shared : Array (Option Value)} {oc_law_shared kV_law_shared dc_law_shared pm_law_shared cd_law_shared ct_law_shared : Value}
    (a_law_shared : PySem.W.nsIn K mainGlobals "_law_shared" = some (some (.ref f_law_shared))) (l_law_shared : K.lookup f_law_shared = some ⟨oc_law_shared, od_law_shared, .func (PySem.W.fnOf "_law_shared" "_law_shared" (L2.defArgs s_law_shared) (L2.defBody s_law_shared) (L2.defScope s_law_shared) .none kV_law_shared dc_law_shared pm_law_shared an_law_shared cd_law_shared ct_law_shared), sl_law_shared⟩) (c_law_shared : PySem.W.codeIn K cd_law_shared "_law_shared" = true) (k_law_shared : PySem.W.keepIn K (.ref f_law_shared) = true)
    {od_law_frac an_law_frac : Option Addr} {sl_law_frac : Array (Option Value)} {oc_law_frac kV_law_frac dc_law_frac pm_law_frac cd_law_frac ct_law_frac : Value}
    (a_law_frac : PySem.W.nsIn K mainGlobals "_law_frac" = some (some (.ref f_law_frac))) (l_law_frac : K.lookup f_law_frac = some ⟨oc_law_frac, od_law_frac, .func (PySem.W.fnOf "_law_frac" "_law_frac" (L2.defArgs s_law_frac) (L2.defBody s_law_frac) (L2.defScope s_law_frac) .none kV_law_frac dc_law_frac pm_law_frac an_law_frac cd_law_frac ct_law_frac), sl_law_frac⟩) (c_law_frac : PySem.W.codeIn K cd_law_frac "_law_frac" = true) (k_law_frac : PySem.W.keepIn K (.ref f_law_frac) = true)
    {od_law_plus an_law_plus : Option Addr} {sl_law_plus : Array (Option Value)} {oc_law_plus kV_law_plus dc_law_plus pm_law_plus cd_law_plus ct_law_plus : Value}
    (a_law_plus : PySem.W.nsIn K mainGlobals "_law_plus" = some (some (.ref f_law_plus))) (l_law_plus : K.lookup f_law_plus = some ⟨oc_law_plus, od_law_plus, .func (PySem.W.fnOf "_law_plus" "_law_plus" (L2.defArgs s_law_plus) (L2.defBody s_law_plus) (L2.defScope s_law_plus) .none kV_law_plus dc_law_plus pm_law_plus an_law_plus cd_law_plus ct_law_plus), sl_law_plus⟩) (c_law_plus : PySem.W.codeIn K cd_law_plus "_law_plus" = true) (k_law_plus : PySem.W.keepIn K (.ref f_law_plus) = true)
    {od_law_minus an_law_minus : Option Addr} {sl_law_minus : Array (Option Value)} {oc_law_minus kV_law_minus dc_law_minus pm_law_minus cd_law_minus ct_law_minus : Value}
    (a_law_minus : PySem.W.nsIn K mainGlobals "_law_minus" = some (some (.ref f_law_minus))) (l_law_minus : K.lookup f_law_minus = some ⟨oc_law_minus, od_law_minus, .func (PySem.W.fnOf "_law_minus" "_law_minus" (L2.defArgs s_law_minus) (L2.defBody s_law_minus) (L2.defScope s_law_minus) .none kV_law_minus dc_law_minus pm_law_minus an_law_minus cd_law_minus ct_law_minus), sl_law_minus⟩) (c_law_minus : PySem.W.codeIn K cd_law_minus "_law_minus" = true) (k_law_minus : PySem.W.keepIn K (.ref f_law_minus) = true)
    {od_law_mul an_law_mul : Option Addr} {sl_law_mul : Array (Option Value)} {oc_law_mul kV_law_mul dc_law_mul pm_law_mul cd_law_mul ct_law_mul : Value}
    (a_law_mul : PySem.W.nsIn K mainGlobals "_law_mul" = some (some (.ref f_law_mul))) (l_law_mul : K.lookup f_law_mul = some ⟨oc_law_mul, od_law_mul, .func (PySem.W.fnOf "_law_mul" "_law_mul" (L2.defArgs s_law_mul) (L2.defBody s_law_mul) (L2.defScope s_law_mul) .none kV_law_mul dc_law_mul pm_law_mul an_law_mul cd_law_mul ct_law_mul), sl_law_mul⟩) (c_law_mul : PySem.W.codeIn K cd_law_mul "_law_mul" = true) (k_law_mul : PySem.W.keepIn K (.ref f_law_mul) = true)
    {od_law_ways an_law_ways : Option Addr} {sl_law_ways : Array (Option Value)} {oc_law_ways kV_law_ways dc_law_ways pm_law_ways cd_law_ways ct_law_ways : Value}
    (a_law_ways : PySem.W.nsIn K mainGlobals "_law_ways" = some (some (.ref f_law_ways))) (l_law_ways : K.lookup f_law_ways = some ⟨oc_law_ways, od_law_ways, .func (PySem.W.fnOf "_law_ways" "_law_ways" (L2.defArgs s_law_ways) (L2.defBody s_law_ways) (L2.defScope s_law_ways) .none kV_law_ways dc_law_ways pm_law_ways an_law_ways cd_law_ways ct_law_ways), sl_law_ways⟩) (c_law_ways : PySem.W.codeIn K cd_law_ways "_law_ways" = true) (k_law_ways : PySem.W.keepIn K (.ref f_law_ways) = true)
    {od_law_chance an_law_chance : Option Addr} {sl_law_chance : Array (Option Value)} {oc_law_chance kV_law_chance dc_law_chance pm_law_chance cd_law_chance ct_law_chance : Value}
    (a_law_chance : PySem.W.nsIn K mainGlobals "_law_chance" = some (some (.ref f_law_chance))) (l_law_chance : K.lookup f_law_chance = some ⟨oc_law_chance, od_law_chance, .func (PySem.W.fnOf "_law_chance" "_law_chance" (L2.defArgs s_law_chance) (L2.defBody s_law_chance) (L2.defScope s_law_chance) .none kV_law_chance dc_law_chance pm_law_chance an_law_chance cd_law_chance ct_law_chance), sl_law_chance⟩) (c_law_chance : PySem.W.codeIn K cd_law_chance "_law_chance" = true) (k_law_chance : PySem.W.keepIn K (.ref f_law_chance) = true)
    {od_law_row an_law_row : Option Addr} {sl_law_row : Array (Option Value)} {oc_law_row kV_law_row dc_law_row pm_law_row cd_law_row ct_law_row : Value}
    (a_law_row : PySem.W.nsIn K mainGlobals "_law_row" = some (some (.ref f_law_row))) (l_law_row : K.lookup f_law_row = some ⟨oc_law_row, od_law_row, .func (PySem.W.fnOf "_law_row" "_law_row" (L2.defArgs s_law_row) (L2.defBody s_law_row) (L2.defScope s_law_row) .none kV_law_row dc_law_row pm_law_row an_law_row cd_law_row ct_law_row), sl_law_row⟩) (c_law_row : PySem.W.codeIn K cd_law_row "_law_row" = true) (k_law_row : PySem.W.keepIn K (.ref f_law_row) = true)
    {od_law_runs an_law_runs : Option Addr} {sl_law_runs : Array (Option Value)} {oc_law_runs kV_law_runs dc_law_runs pm_law_runs cd_law_runs ct_law_runs : Value}
    (a_law_runs : PySem.W.nsIn K mainGlobals "_law_runs" = some (some (.ref f_law_runs))) (l_law_runs : K.lookup f_law_runs = some ⟨oc_law_runs, od_law_runs, .func (PySem.W.fnOf "_law_runs" "_law_runs" (L2.defArgs s_law_runs) (L2.defBody s_law_runs) (L2.defScope s_law_runs) .none kV_law_runs dc_law_runs pm_law_runs an_law_runs cd_law_runs ct_law_runs), sl_law_runs⟩) (c_law_runs : PySem.W.codeIn K cd_law_runs "_law_runs" = true) (k_law_runs : PySem.W.keepIn K (.ref f_law_runs) = true)
    {od_law_longest an_law_longest : Option Addr} {sl_law_longest : Array (Option Value)} {oc_law_longest kV_law_longest dc_law_longest pm_law_longest cd_law_longest ct_law_longest : Value}
    (a_law_longest : PySem.W.nsIn K mainGlobals "_law_longest" = some (some (.ref f_law_longest))) (l_law_longest : K.lookup f_law_longest = some ⟨oc_law_longest, od_law_longest, .func (PySem.W.fnOf "_law_longest" "_law_longest" (L2.defArgs s_law_longest) (L2.defBody s_law_longest) (L2.defScope s_law_longest) .none kV_law_longest dc_law_longest pm_law_longest an_law_longest cd_law_longest ct_law_longest), sl_law_longest⟩) (c_law_longest : PySem.W.codeIn K cd_law_longest "_law_longest" = true) (k_law_longest : PySem.W.keepIn K (.ref f_law_longest) = true)
    {od_law_all an_law_all : Option Addr} {sl_law_all : Array (Option Value)} {oc_law_all kV_law_all dc_law_all pm_law_all cd_law_all ct_law_all : Value}
    (a_law_all : PySem.W.nsIn K mainGlobals "_law_all" = some (some (.ref f_law_all))) (l_law_all : K.lookup f_law_all = some ⟨oc_law_all, od_law_all, .func (PySem.W.fnOf "_law_all" "_law_all" (L2.defArgs s_law_all) (L2.defBody s_law_all) (L2.defScope s_law_all) .none kV_law_all dc_law_all pm_law_all an_law_all cd_law_all ct_law_all), sl_law_all⟩) (c_law_all : PySem.W.codeIn K cd_law_all "_law_all" = true) (k_law_all : PySem.W.keepIn K (.ref f_law_all) = true)
    {od_law_power an_law_power : Option Addr} {sl_law_power : Array (Option Value)} {oc_law_power kV_law_power dc_law_power pm_law_power cd_law_power ct_law_power : Value}
    (a_law_power : PySem.W.nsIn K mainGlobals "_law_power" = some (some (.ref f_law_power))) (l_law_power : K.lookup f_law_power = some ⟨oc_law_power, od_law_power, .func (PySem.W.fnOf "_law_power" "_law_power" (L2.defArgs s_law_power) (L2.defBody s_law_power) (L2.defScope s_law_power) .none kV_law_power dc_law_power pm_law_power an_law_power cd_law_power ct_law_power), sl_law_power⟩) (c_law_power : PySem.W.codeIn K cd_law_power "_law_power" = true) (k_law_power : PySem.W.keepIn K (.ref f_law_power) = true)
    {od_law_few an_law_few : Option Addr} {sl_law_few : Array (Option Value)} {oc_law_few kV_law_few dc_law_few pm_law_few cd_law_few ct_law_few : Value}
    (a_law_few : PySem.W.nsIn K mainGlobals "_law_few" = some (some (.ref f_law_few))) (l_law_few : K.lookup f_law_few = some ⟨oc_law_few, od_law_few, .func (PySem.W.fnOf "_law_few" "_law_few" (L2.defArgs s_law_few) (L2.defBody s_law_few) (L2.defScope s_law_few) .none kV_law_few dc_law_few pm_law_few an_law_few cd_law_few ct_law_few), sl_law_few⟩) (c_law_few : PySem.W.codeIn K cd_law_few "_law_few" = true) (k_law_few : PySem.W.keepIn K (.ref f_law_few) = true)
    {od_law_count an_law_count : Option Addr} {sl_law_count : Array (Option Value)} {oc_law_count kV_law_count dc_law_count pm_law_count cd_law_count ct_law_count : Value}
    (a_law_count : PySem.W.nsIn K mainGlobals "_law_count" = some (some (.ref f_law_count))) (l_law_count : K.lookup f_law_count = some ⟨oc_law_count, od_law_count, .func (PySem.W.fnOf "_law_count" "_law_count" (L2.defArgs s_law_count) (L2.defBody s_law_count) (L2.defScope s_law_count) .none kV_law_count dc_law_count pm_law_count an_law_count cd_law_count ct_law_count), sl_law_count⟩) (c_law_count : PySem.W.codeIn K cd_law_count "_law_count" = true) (k_law_count : PySem.W.keepIn K (.ref f_law_count) = true)
    {od_law_without an_law_without : Option Addr} {sl_law_without : Array (Option Value)} {oc_law_without kV_law_without dc_law_without pm_law_without cd_law_without ct_law_without : Value}
    (a_law_without : PySem.W.nsIn K mainGlobals "_law_without" = some (some (.ref f_law_without))) (l_law_without : K.lookup f_law_without = some ⟨oc_law_without, od_law_without, .func (PySem.W.fnOf "_law_without" "_law_without" (L2.defArgs s_law_without) (L2.defBody s_law_without) (L2.defScope s_law_without) .none kV_law_without dc_law_without pm_law_without an_law_without cd_law_without ct_law_without), sl_law_without⟩) (c_law_without : PySem.W.codeIn K cd_law_without "_law_without" = true) (k_law_without : PySem.W.keepIn K (.ref f_law_without) = true)
    {od_law_parted an_law_parted : Option Addr} {sl_law_parted : Array (Option Value)} {oc_law_parted kV_law_parted dc_law_parted pm_law_parted cd_law_parted ct_law_parted : Value}
    (a_law_parted : PySem.W.nsIn K mainGlobals "_law_parted" = some (some (.ref f_law_parted))) (l_law_parted : K.lookup f_law_parted = some ⟨oc_law_parted, od_law_parted, .func (PySem.W.fnOf "_law_parted" "_law_parted" (L2.defArgs s_law_parted) (L2.defBody s_law_parted) (L2.defScope s_law_parted) .none kV_law_parted dc_law_parted pm_law_parted an_law_parted cd_law_parted ct_law_parted), sl_law_parted⟩) (c_law_parted : PySem.W.codeIn K cd_law_parted "_law_parted" = true) (k_law_parted : PySem.W.keepIn K (.ref f_law_parted) = true)
    {od_law an_law : Option Addr} {sl_law : Array (Option Value)} {oc_law kV_law dc_law pm_law cd_law ct_law : Value}
    (a_law : PySem.W.nsIn K mainGlobals "law" = some (some (.ref f_law))) (l_law : K.lookup f_law = some ⟨oc_law, od_law, .func (PySem.W.fnOf "law" "law" (L2.defArgs s_law) (L2.defBody s_law) (L2.defScope s_law) .none kV_law dc_law pm_law an_law cd_law ct_law), sl_law⟩) (c_law : PySem.W.codeIn K cd_law "law" = true) (k_law : PySem.W.keepIn K (.ref f_law) = true)
    (z_gcd : PySem.W.nsIn K mainGlobals "gcd" = some (some (.builtin "math.gcd")))
    (z_len : PySem.W.nsIn K mainGlobals "len" = some none)
    (z_range : PySem.W.nsIn K mainGlobals "range" = some none)
    (z_tuple : PySem.W.nsIn K mainGlobals "tuple" = some none)
    (z_max : PySem.W.nsIn K mainGlobals "max" = some none)
    (z_sum : PySem.W.nsIn K mainGlobals "sum" = some none)
    (z_min : PySem.W.nsIn K mainGlobals "min" = some none)
    (z_int : PySem.W.nsIn K mainGlobals "int" = some none)
    (z_list : PySem.W.nsIn K mainGlobals "list" = some none)
    (z_bool : PySem.W.nsIn K mainGlobals "bool" = some none)
    (z_isinstance : PySem.W.nsIn K mainGlobals "isinstance" = some none)
    (z_str : PySem.W.nsIn K mainGlobals "str" = some none)
    (z_abs : PySem.W.nsIn K mainGlobals "abs" = some none)
    {t_ONE : Addr} {od_ONE : Option Addr} {its_ONE : Array Value} {n_ONE : Nat} {sl_ONE : Array (Option Value)} (a_ONE : PySem.W.nsIn K mainGlobals "ONE" = some (some (.ref t_ONE))) (l_ONE : K.lookup t_ONE = some ⟨.type "tuple", od_ONE, .seq its_ONE n_ONE, sl_ONE⟩) (w_ONE : L2.Vals ([1, 1].map L2.V.int) its_ONE.toList) (y_ONE : its_ONE.size ≤ sizeLine)
    {t_NOTHING : Addr} {od_NOTHING : Option Addr} {its_NOTHING : Array Value} {n_NOTHING : Nat} {sl_NOTHING : Array (Option Value)} (a_NOTHING : PySem.W.nsIn K mainGlobals "NOTHING" = some (some (.ref t_NOTHING))) (l_NOTHING : K.lookup t_NOTHING = some ⟨.type "tuple", od_NOTHING, .seq its_NOTHING n_NOTHING, sl_NOTHING⟩) (w_NOTHING : L2.Vals ([0, 1].map L2.V.int) its_NOTHING.toList) (y_NOTHING : its_NOTHING.size ≤ sizeLine)
    : ∃ fd : FuncData, (∀ (s : Shared) (v : Value), BindsTo s fd ⟨[v], []⟩ [("script", v)]) ∧ ∀ base : Heap, K.In base → base.Ns mainGlobals mg → L2.FnOk l.prog w K mg base L2.CX0 6 fa fd ["script"] (spOf K 1 (sp_law)) := by
  have e := hfa.symm.trans (PySem.W.mg_of X G a_law)
  cases e
  have F_divisor := L2.fun_mk (st := s_divisor) l_divisor c_divisor k_divisor
  have m_divisor : mg "divisor" = some (.ref f_divisor) := PySem.W.mg_of X G a_divisor
  have F_fraction := L2.fun_mk (st := s_fraction) l_fraction c_fraction k_fraction
  have m_fraction : mg "fraction" = some (.ref f_fraction) := PySem.W.mg_of X G a_fraction
  have F_plus := L2.fun_mk (st := s_plus) l_plus c_plus k_plus
  have m_plus : mg "plus" = some (.ref f_plus) := PySem.W.mg_of X G a_plus
  have F_minus := L2.fun_mk (st := s_minus) l_minus c_minus k_minus
  have m_minus : mg "minus" = some (.ref f_minus) := PySem.W.mg_of X G a_minus
  have F_times := L2.fun_mk (st := s_times) l_times c_times k_times
  have m_times : mg "times" = some (.ref f_times) := PySem.W.mg_of X G a_times
  have F_divided := L2.fun_mk (st := s_divided) l_divided c_divided k_divided
  have m_divided : mg "divided" = some (.ref f_divided) := PySem.W.mg_of X G a_divided
  have F_runs_of := L2.fun_mk (st := s_runs_of) l_runs_of c_runs_of k_runs_of
  have m_runs_of : mg "runs_of" = some (.ref f_runs_of) := PySem.W.mg_of X G a_runs_of
  have F_longest := L2.fun_mk (st := s_longest) l_longest c_longest k_longest
  have m_longest : mg "longest" = some (.ref f_longest) := PySem.W.mg_of X G a_longest
  have F_count_without := L2.fun_mk (st := s_count_without) l_count_without c_count_without k_count_without
  have m_count_without : mg "count_without" = some (.ref f_count_without) := PySem.W.mg_of X G a_count_without
  have F_chance_without := L2.fun_mk (st := s_chance_without) l_chance_without c_chance_without k_chance_without
  have m_chance_without : mg "chance_without" = some (.ref f_chance_without) := PySem.W.mg_of X G a_chance_without
  have F_mean_runs := L2.fun_mk (st := s_mean_runs) l_mean_runs c_mean_runs k_mean_runs
  have m_mean_runs : mg "mean_runs" = some (.ref f_mean_runs) := PySem.W.mg_of X G a_mean_runs
  have F_ways := L2.fun_mk (st := s_ways) l_ways c_ways k_ways
  have m_ways : mg "ways" = some (.ref f_ways) := PySem.W.mg_of X G a_ways
  have F_parted := L2.fun_mk (st := s_parted) l_parted c_parted k_parted
  have m_parted : mg "parted" = some (.ref f_parted) := PySem.W.mg_of X G a_parted
  have F_count_by_runs := L2.fun_mk (st := s_count_by_runs) l_count_by_runs c_count_by_runs k_count_by_runs
  have m_count_by_runs : mg "count_by_runs" = some (.ref f_count_by_runs) := PySem.W.mg_of X G a_count_by_runs
  have F_mean_until := L2.fun_mk (st := s_mean_until) l_mean_until c_mean_until k_mean_until
  have m_mean_until : mg "mean_until" = some (.ref f_mean_until) := PySem.W.mg_of X G a_mean_until
  have F_law_draws := L2.fun_mk (st := s_law_draws) l_law_draws c_law_draws k_law_draws
  have m_law_draws : mg "_law_draws" = some (.ref f_law_draws) := PySem.W.mg_of X G a_law_draws
  have F_law_take := L2.fun_mk (st := s_law_take) l_law_take c_law_take k_law_take
  have m_law_take : mg "_law_take" = some (.ref f_law_take) := PySem.W.mg_of X G a_law_take
  have F_law_same := L2.fun_mk (st := s_law_same) l_law_same c_law_same k_law_same
  have m_law_same : mg "_law_same" = some (.ref f_law_same) := PySem.W.mg_of X G a_law_same
  have F_law_shared := L2.fun_mk (st := s_law_shared) l_law_shared c_law_shared k_law_shared
  have m_law_shared : mg "_law_shared" = some (.ref f_law_shared) := PySem.W.mg_of X G a_law_shared
  have F_law_frac := L2.fun_mk (st := s_law_frac) l_law_frac c_law_frac k_law_frac
  have m_law_frac : mg "_law_frac" = some (.ref f_law_frac) := PySem.W.mg_of X G a_law_frac
  have F_law_plus := L2.fun_mk (st := s_law_plus) l_law_plus c_law_plus k_law_plus
  have m_law_plus : mg "_law_plus" = some (.ref f_law_plus) := PySem.W.mg_of X G a_law_plus
  have F_law_minus := L2.fun_mk (st := s_law_minus) l_law_minus c_law_minus k_law_minus
  have m_law_minus : mg "_law_minus" = some (.ref f_law_minus) := PySem.W.mg_of X G a_law_minus
  have F_law_mul := L2.fun_mk (st := s_law_mul) l_law_mul c_law_mul k_law_mul
  have m_law_mul : mg "_law_mul" = some (.ref f_law_mul) := PySem.W.mg_of X G a_law_mul
  have F_law_ways := L2.fun_mk (st := s_law_ways) l_law_ways c_law_ways k_law_ways
  have m_law_ways : mg "_law_ways" = some (.ref f_law_ways) := PySem.W.mg_of X G a_law_ways
  have F_law_chance := L2.fun_mk (st := s_law_chance) l_law_chance c_law_chance k_law_chance
  have m_law_chance : mg "_law_chance" = some (.ref f_law_chance) := PySem.W.mg_of X G a_law_chance
  have F_law_row := L2.fun_mk (st := s_law_row) l_law_row c_law_row k_law_row
  have m_law_row : mg "_law_row" = some (.ref f_law_row) := PySem.W.mg_of X G a_law_row
  have F_law_runs := L2.fun_mk (st := s_law_runs) l_law_runs c_law_runs k_law_runs
  have m_law_runs : mg "_law_runs" = some (.ref f_law_runs) := PySem.W.mg_of X G a_law_runs
  have F_law_longest := L2.fun_mk (st := s_law_longest) l_law_longest c_law_longest k_law_longest
  have m_law_longest : mg "_law_longest" = some (.ref f_law_longest) := PySem.W.mg_of X G a_law_longest
  have F_law_all := L2.fun_mk (st := s_law_all) l_law_all c_law_all k_law_all
  have m_law_all : mg "_law_all" = some (.ref f_law_all) := PySem.W.mg_of X G a_law_all
  have F_law_power := L2.fun_mk (st := s_law_power) l_law_power c_law_power k_law_power
  have m_law_power : mg "_law_power" = some (.ref f_law_power) := PySem.W.mg_of X G a_law_power
  have F_law_few := L2.fun_mk (st := s_law_few) l_law_few c_law_few k_law_few
  have m_law_few : mg "_law_few" = some (.ref f_law_few) := PySem.W.mg_of X G a_law_few
  have F_law_count := L2.fun_mk (st := s_law_count) l_law_count c_law_count k_law_count
  have m_law_count : mg "_law_count" = some (.ref f_law_count) := PySem.W.mg_of X G a_law_count
  have F_law_without := L2.fun_mk (st := s_law_without) l_law_without c_law_without k_law_without
  have m_law_without : mg "_law_without" = some (.ref f_law_without) := PySem.W.mg_of X G a_law_without
  have F_law_parted := L2.fun_mk (st := s_law_parted) l_law_parted c_law_parted k_law_parted
  have m_law_parted : mg "_law_parted" = some (.ref f_law_parted) := PySem.W.mg_of X G a_law_parted
  have F_law := L2.fun_mk (st := s_law) l_law c_law k_law
  have m_law : mg "law" = some (.ref _) := PySem.W.mg_of X G a_law
  have g_ONE := PySem.W.mg_of X G a_ONE
  have h_ONE := rep_ints (hc := rfl) (ns := [1, 1]) l_ONE y_ONE w_ONE
  have g_NOTHING := PySem.W.mg_of X G a_NOTHING
  have h_NOTHING := rep_ints (hc := rfl) (ns := [0, 1]) l_NOTHING y_NOTHING w_NOTHING
  have z_gcd := PySem.W.mg_of X G z_gcd
  have z_len := PySem.W.mg_none_of X G z_len
  have z_range := PySem.W.mg_none_of X G z_range
  have z_tuple := PySem.W.mg_none_of X G z_tuple
  have z_max := PySem.W.mg_none_of X G z_max
  have z_sum := PySem.W.mg_none_of X G z_sum
  have z_min := PySem.W.mg_none_of X G z_min
  have z_int := PySem.W.mg_none_of X G z_int
  have z_list := PySem.W.mg_none_of X G z_list
  have z_bool := PySem.W.mg_none_of X G z_bool
  have z_isinstance := PySem.W.mg_none_of X G z_isinstance
  have z_str := PySem.W.mg_none_of X G z_str
  have z_abs := PySem.W.mg_none_of X G z_abs
  refine ⟨PySem.W.fnOf "law" "law" (L2.defArgs s_law) (L2.defBody s_law) (L2.defScope s_law) .none kV_law dc_law pm_law an_law cd_law ct_law, fun s v => .of_eq rfl, fun base _ _ => ?_⟩
  have C_law_draws : Callee l.prog w K mg base "_law_draws" 1 2 (sp_draws) := ok_law_draws (k := 0) F_law_draws m_law_draws z_int z_len z_list z_range  body_law_draws
  have C_law_take : Callee l.prog w K mg base "_law_take" 1 2 (sp_take) := ok_law_take (k := 0) F_law_take m_law_take z_len z_int  body_law_take
  have C_law_shared : Callee l.prog w K mg base "_law_shared" 1 2 (sp_shared) := ok_law_shared (k := 0) F_law_shared m_law_shared z_abs z_range z_int  body_law_shared
  have C_law_frac : Callee l.prog w K mg base "_law_frac" 2 2 (sp_frac) := ok_law_frac (k := 1) F_law_frac m_law_frac  C_law_shared (by decide) body_law_frac
  have C_law_chance : Callee l.prog w K mg base "_law_chance" 3 1 (sp_chance) := ok_law_chance (k := 2) F_law_chance m_law_chance  C_law_take (by decide) C_law_frac (by decide) body_law_chance
  have C_law_row : Callee l.prog w K mg base "_law_row" 2 2 (sp_row) := ok_law_row (k := 1) F_law_row m_law_row z_range C_law_take (by decide) body_law_row
  have C_law_runs : Callee l.prog w K mg base "_law_runs" 1 1 (sp_lruns) := ok_law_runs (k := 0) F_law_runs m_law_runs z_len  body_law_runs
  have C_runs_of : Callee l.prog w K mg base "runs_of" 1 1 (sp_runs) := ok_runs_of (k := 0) F_runs_of m_runs_of z_len z_range z_tuple  body_runs_of
  have N_law_same : Callee l.prog w K mg base "_law_same" 0 2 spNo := callee_none F_law_same m_law_same (F_law_same.binds (ps := ["actual", "due"]) fun _ _ _ _ _ _ us hl => match us, hl with | [_, _], _ => rfl) (fun _ _ _ h => h)
  have C_law_same_0 : Callee l.prog w K mg base "_law_same" 1 2 (sp_same 0) := ok_law_same (k := 0) F_law_same m_law_same z_bool z_isinstance z_int z_str z_tuple z_len z_range N_law_same (by decide) (body_law_same _ 0 (by decide) (.inl rfl))
  have C_law_same_1 : Callee l.prog w K mg base "_law_same" 2 2 (sp_same 1) := ok_law_same (k := 1) F_law_same m_law_same z_bool z_isinstance z_int z_str z_tuple z_len z_range C_law_same_0 (by decide) (body_law_same _ 1 (by decide) (.inr ⟨_, rfl, rfl⟩))
  have C_law_same : Callee l.prog w K mg base "_law_same" 3 2 (sp_same 2) := ok_law_same (k := 2) F_law_same m_law_same z_bool z_isinstance z_int z_str z_tuple z_len z_range C_law_same_1 (by decide) (body_law_same _ 2 (by decide) (.inr ⟨_, rfl, rfl⟩))
  have C_law_longest : Callee l.prog w K mg base "_law_longest" 2 2 (sp_longest) := ok_law_longest (k := 1) F_law_longest m_law_longest z_len z_range z_max C_law_runs (by decide) body_law_longest
  have C_longest : Callee l.prog w K mg base "longest" 1 2 (sp_longest) := ok_longest (k := 0) F_longest m_longest z_max  body_longest
  have C_law_minus : Callee l.prog w K mg base "_law_minus" 3 2 (sp_s2 (· - ·)) := ok_law_minus (k := 2) F_law_minus m_law_minus  C_law_frac (by decide) body_law_minus
  have C_law_mul : Callee l.prog w K mg base "_law_mul" 3 2 (sp_s2 (· * ·)) := ok_law_mul (k := 2) F_law_mul m_law_mul  C_law_frac (by decide) body_law_mul
  have C_law_power : Callee l.prog w K mg base "_law_power" 4 2 (sp_pow) := ok_law_power (k := 3) F_law_power m_law_power z_range C_law_mul (by decide) body_law_power
  have C_law_all : Callee l.prog w K mg base "_law_all" 1 1 (sp_all) := ok_law_all (k := 0) F_law_all m_law_all z_range  body_law_all
  have C_law_plus : Callee l.prog w K mg base "_law_plus" 3 2 (sp_s2 (· + ·)) := ok_law_plus (k := 2) F_law_plus m_law_plus  C_law_frac (by decide) body_law_plus
  have C_ways : Callee l.prog w K mg base "ways" 1 2 (sp_ways) := ok_ways (k := 0) F_ways m_ways z_min z_range  body_ways
  have C_parted : Callee l.prog w K mg base "parted" 2 2 (sp_par) := ok_parted (k := 1) F_parted m_parted  C_ways (by decide) body_parted
  have C_count_by_runs : Callee l.prog w K mg base "count_by_runs" 3 3 (sp_cbr) := ok_count_by_runs (k := 2) F_count_by_runs m_count_by_runs  C_parted (by decide) body_count_by_runs
  have C_count_without : Callee l.prog w K mg base "count_without" 1 2 (sp_cw) := ok_count_without (k := 0) F_count_without m_count_without z_range z_max z_sum  body_count_without
  have C_divisor : Callee l.prog w K mg base "divisor" 1 2 (sp_gcd) := ok_divisor (k := 0) F_divisor m_divisor z_gcd  body_divisor
  have C_fraction : Callee l.prog w K mg base "fraction" 2 2 (sp_ratio) := ok_fraction (k := 1) F_fraction m_fraction  C_divisor (by decide) body_fraction
  have C_minus : Callee l.prog w K mg base "minus" 3 2 (sp_s2 (· - ·)) := ok_minus (k := 2) F_minus m_minus  C_fraction (by decide) body_minus
  have C_times : Callee l.prog w K mg base "times" 3 2 (sp_s2 (· * ·)) := ok_times (k := 2) F_times m_times  C_fraction (by decide) body_times
  have C_plus : Callee l.prog w K mg base "plus" 3 2 (sp_s2 (· + ·)) := ok_plus (k := 2) F_plus m_plus  C_fraction (by decide) body_plus
  have C_chance_without : Callee l.prog w K mg base "chance_without" 4 3 (sp_cwo) := ok_chance_without (k := 3) F_chance_without m_chance_without z_range g_ONE (show L2.RelV (.ref t_ONE) (.ref t_ONE) from rfl) h_ONE g_NOTHING (show L2.RelV (.ref t_NOTHING) (.ref t_NOTHING) from rfl) h_NOTHING C_minus (by decide) C_times (by decide) C_plus (by decide) body_chance_without
  have C_mean_runs : Callee l.prog w K mg base "mean_runs" 4 2 (sp_mr) := ok_mean_runs (k := 3) F_mean_runs m_mean_runs  g_NOTHING (show L2.RelV (.ref t_NOTHING) (.ref t_NOTHING) from rfl) h_NOTHING g_ONE (show L2.RelV (.ref t_ONE) (.ref t_ONE) from rfl) h_ONE C_minus (by decide) C_times (by decide) C_plus (by decide) body_mean_runs
  have C_law_few : Callee l.prog w K mg base "_law_few" 5 3 (sp_few) := ok_law_few (k := 4) F_law_few m_law_few z_range z_len z_sum C_law_minus (by decide) C_law_power (by decide) C_law_mul (by decide) C_law_all (by decide) C_law_longest (by decide) C_law_runs (by decide) C_law_plus (by decide) C_count_by_runs (by decide) C_law_same (by decide) C_count_without (by decide) C_chance_without (by decide) C_mean_runs (by decide) body_law_few
  have C_law_count : Callee l.prog w K mg base "_law_count" 1 2 (sp_cw) := ok_law_count (k := 0) F_law_count m_law_count z_range z_sum  body_law_count
  have C_law_without : Callee l.prog w K mg base "_law_without" 4 3 (sp_cwo) := ok_law_without (k := 3) F_law_without m_law_without z_range C_law_minus (by decide) C_law_plus (by decide) C_law_mul (by decide) body_law_without
  have C_law_ways : Callee l.prog w K mg base "_law_ways" 1 2 (sp_ways) := ok_law_ways (k := 0) F_law_ways m_law_ways z_range  body_law_ways
  have C_law_parted : Callee l.prog w K mg base "_law_parted" 2 2 (sp_par) := ok_law_parted (k := 1) F_law_parted m_law_parted z_int C_law_ways (by decide) body_law_parted
  have C_divided : Callee l.prog w K mg base "divided" 3 2 (sp_div) := ok_divided (k := 2) F_divided m_divided  C_fraction (by decide) body_divided
  have C_mean_until : Callee l.prog w K mg base "mean_until" 4 2 (sp_until) := ok_mean_until (k := 3) F_mean_until m_mean_until z_range g_NOTHING (show L2.RelV (.ref t_NOTHING) (.ref t_NOTHING) from rfl) h_NOTHING g_ONE (show L2.RelV (.ref t_ONE) (.ref t_ONE) from rfl) h_ONE C_plus (by decide) C_divided (by decide) body_mean_until
  exact ok_law (k := 5) F_law m_law z_tuple z_int z_max z_min z_range z_sum C_law_draws (by decide) C_law_chance (by decide) C_law_take (by decide) C_law_row (by decide) C_law_runs (by decide) C_runs_of (by decide) C_law_same (by decide) C_law_longest (by decide) C_longest (by decide) C_law_few (by decide) C_law_count (by decide) C_count_without (by decide) C_law_without (by decide) C_chance_without (by decide) C_law_power (by decide) C_law_frac (by decide) C_law_parted (by decide) C_law_ways (by decide) C_count_by_runs (by decide) C_law_plus (by decide) C_mean_until (by decide) C_law_minus (by decide) C_law_mul (by decide) C_mean_runs (by decide) body_law
end K94
open PySem PySem.W PyProof.Rows in
set_option maxRecDepth 100000 in
set_option maxHeartbeats 0 in
theorem PySem.Challenge.cw_oddsweighed_k94_whole_runs_of_tosses_holds : PySem.Challenge.rw_oddsweighed_k94_whole_runs_of_tosses.Holds := by
  w_on; o_law; k_head; (case hw => w_witness2)
  k_fill
  refine L2.walk_of (l := PySem.Challenge.rw_oddsweighed_k94_whole_runs_of_tosses) (n := 63) (k := 6) (x := "script") (CX := fun _ => L2.CX0) (sp := fun w => DL.spOf _ 1 (K94.sp_law)) rfl (by decide) rfl ⟨rfl, by decide, by decide⟩ (fun w h Y => PySem.W.kIn_of Y) ?F (fun _ _ a ns hl hO hS => DL.law_sp hO hS ⟨ns, rfl, hl, fun _ => rfl⟩) (fun _ _ _ _ _ h => h)
  case F =>
    intro w mg fa h KX G hmg
    refine' K94.all_mk KX G hmg ?a_divisor ?l_divisor ?c_divisor ?k_divisor ?a_fraction ?l_fraction ?c_fraction ?k_fraction ?a_plus ?l_plus ?c_plus ?k_plus ?a_minus ?l_minus ?c_minus ?k_minus ?a_times ?l_times ?c_times ?k_times ?a_divided ?l_divided ?c_divided ?k_divided ?a_runs_of ?l_runs_of ?c_runs_of ?k_runs_of ?a_longest ?l_longest ?c_longest ?k_longest ?a_count_without ?l_count_without ?c_count_without ?k_count_without ?a_chance_without ?l_chance_without ?c_chance_without ?k_chance_without ?a_mean_runs ?l_mean_runs ?c_mean_runs ?k_mean_runs ?a_ways ?l_ways ?c_ways ?k_ways ?a_parted ?l_parted ?c_parted ?k_parted ?a_count_by_runs ?l_count_by_runs ?c_count_by_runs ?k_count_by_runs ?a_mean_until ?l_mean_until ?c_mean_until ?k_mean_until ?a_law_draws ?l_law_draws ?c_law_draws ?k_law_draws ?a_law_take ?l_law_take ?c_law_take ?k_law_take ?a_law_same ?l_law_same ?c_law_same ?k_law_same ?a_law_shared ?l_law_shared ?c_law_shared ?k_law_shared ?a_law_frac ?l_law_frac ?c_law_frac ?k_law_frac ?a_law_plus ?l_law_plus ?c_law_plus ?k_law_plus ?a_law_minus ?l_law_minus ?c_law_minus ?k_law_minus ?a_law_mul ?l_law_mul ?c_law_mul ?k_law_mul ?a_law_ways ?l_law_ways ?c_law_ways ?k_law_ways ?a_law_chance ?l_law_chance ?c_law_chance ?k_law_chance ?a_law_row ?l_law_row ?c_law_row ?k_law_row ?a_law_runs ?l_law_runs ?c_law_runs ?k_law_runs ?a_law_longest ?l_law_longest ?c_law_longest ?k_law_longest ?a_law_all ?l_law_all ?c_law_all ?k_law_all ?a_law_power ?l_law_power ?c_law_power ?k_law_power ?a_law_few ?l_law_few ?c_law_few ?k_law_few ?a_law_count ?l_law_count ?c_law_count ?k_law_count ?a_law_without ?l_law_without ?c_law_without ?k_law_without ?a_law_parted ?l_law_parted ?c_law_parted ?k_law_parted ?a_law ?l_law ?c_law ?k_law ?z_gcd ?z_len ?z_range ?z_tuple ?z_max ?z_sum ?z_min ?z_int ?z_list ?z_bool ?z_isinstance ?z_str ?z_abs ?a_ONE ?l_ONE ?w_ONE ?y_ONE ?a_NOTHING ?l_NOTHING ?w_NOTHING ?y_NOTHING
    (case a_divisor => k_is)
    (case l_divisor => k_is)
    (case c_divisor => k_is)
    (case k_divisor => k_is)
    (case a_fraction => k_is)
    (case l_fraction => k_is)
    (case c_fraction => k_is)
    (case k_fraction => k_is)
    (case a_plus => k_is)
    (case l_plus => k_is)
    (case c_plus => k_is)
    (case k_plus => k_is)
    (case a_minus => k_is)
    (case l_minus => k_is)
    (case c_minus => k_is)
    (case k_minus => k_is)
    (case a_times => k_is)
    (case l_times => k_is)
    (case c_times => k_is)
    (case k_times => k_is)
    (case a_divided => k_is)
    (case l_divided => k_is)
    (case c_divided => k_is)
    (case k_divided => k_is)
    (case a_runs_of => k_is)
    (case l_runs_of => k_is)
    (case c_runs_of => k_is)
    (case k_runs_of => k_is)
    (case a_longest => k_is)
    (case l_longest => k_is)
    (case c_longest => k_is)
    (case k_longest => k_is)
    (case a_count_without => k_is)
    (case l_count_without => k_is)
    (case c_count_without => k_is)
    (case k_count_without => k_is)
    (case a_chance_without => k_is)
    (case l_chance_without => k_is)
    (case c_chance_without => k_is)
    (case k_chance_without => k_is)
    (case a_mean_runs => k_is)
    (case l_mean_runs => k_is)
    (case c_mean_runs => k_is)
    (case k_mean_runs => k_is)
    (case a_ways => k_is)
    (case l_ways => k_is)
    (case c_ways => k_is)
    (case k_ways => k_is)
    (case a_parted => k_is)
    (case l_parted => k_is)
    (case c_parted => k_is)
    (case k_parted => k_is)
    (case a_count_by_runs => k_is)
    (case l_count_by_runs => k_is)
    (case c_count_by_runs => k_is)
    (case k_count_by_runs => k_is)
    (case a_mean_until => k_is)
    (case l_mean_until => k_is)
    (case c_mean_until => k_is)
    (case k_mean_until => k_is)
    (case a_law_draws => k_is)
    (case l_law_draws => k_is)
    (case c_law_draws => k_is)
    (case k_law_draws => k_is)
    (case a_law_take => k_is)
    (case l_law_take => k_is)
    (case c_law_take => k_is)
    (case k_law_take => k_is)
    (case a_law_same => k_is)
    (case l_law_same => k_is)
    (case c_law_same => k_is)
    (case k_law_same => k_is)
    (case a_law_shared => k_is)
    (case l_law_shared => k_is)
    (case c_law_shared => k_is)
    (case k_law_shared => k_is)
    (case a_law_frac => k_is)
    (case l_law_frac => k_is)
    (case c_law_frac => k_is)
    (case k_law_frac => k_is)
    (case a_law_plus => k_is)
    (case l_law_plus => k_is)
    (case c_law_plus => k_is)
    (case k_law_plus => k_is)
    (case a_law_minus => k_is)
    (case l_law_minus => k_is)
    (case c_law_minus => k_is)
    (case k_law_minus => k_is)
    (case a_law_mul => k_is)
    (case l_law_mul => k_is)
    (case c_law_mul => k_is)
    (case k_law_mul => k_is)
    (case a_law_ways => k_is)
    (case l_law_ways => k_is)
    (case c_law_ways => k_is)
    (case k_law_ways => k_is)
    (case a_law_chance => k_is)
    (case l_law_chance => k_is)
    (case c_law_chance => k_is)
    (case k_law_chance => k_is)
    (case a_law_row => k_is)
    (case l_law_row => k_is)
    (case c_law_row => k_is)
    (case k_law_row => k_is)
    (case a_law_runs => k_is)
    (case l_law_runs => k_is)
    (case c_law_runs => k_is)
    (case k_law_runs => k_is)
    (case a_law_longest => k_is)
    (case l_law_longest => k_is)
    (case c_law_longest => k_is)
    (case k_law_longest => k_is)
    (case a_law_all => k_is)
    (case l_law_all => k_is)
    (case c_law_all => k_is)
    (case k_law_all => k_is)
    (case a_law_power => k_is)
    (case l_law_power => k_is)
    (case c_law_power => k_is)
    (case k_law_power => k_is)
    (case a_law_few => k_is)
    (case l_law_few => k_is)
    (case c_law_few => k_is)
    (case k_law_few => k_is)
    (case a_law_count => k_is)
    (case l_law_count => k_is)
    (case c_law_count => k_is)
    (case k_law_count => k_is)
    (case a_law_without => k_is)
    (case l_law_without => k_is)
    (case c_law_without => k_is)
    (case k_law_without => k_is)
    (case a_law_parted => k_is)
    (case l_law_parted => k_is)
    (case c_law_parted => k_is)
    (case k_law_parted => k_is)
    (case a_law => k_is)
    (case l_law => k_is)
    (case c_law => k_is)
    (case k_law => k_is)
    (case z_gcd => k_is)
    (case z_len => k_is)
    (case z_range => k_is)
    (case z_tuple => k_is)
    (case z_max => k_is)
    (case z_sum => k_is)
    (case z_min => k_is)
    (case z_int => k_is)
    (case z_list => k_is)
    (case z_bool => k_is)
    (case z_isinstance => k_is)
    (case z_str => k_is)
    (case z_abs => k_is)
    (case a_ONE => k_is)
    (case l_ONE => k_is)
    (case w_ONE => exact (.cons ⟨_, rfl⟩ (.cons ⟨_, rfl⟩ .nil)))
    (case y_ONE => decide)
    (case a_NOTHING => k_is)
    (case l_NOTHING => k_is)
    (case w_NOTHING => exact (.cons ⟨_, rfl⟩ (.cons ⟨_, rfl⟩ .nil)))
    (case y_NOTHING => decide)
