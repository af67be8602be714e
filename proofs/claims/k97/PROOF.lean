import PyProof.Rows.All
import PySem.Str
import PySem.PyData
import Wide.All
import OpenK.AllK
import Wide.FinOn
import HandS.ForMost
import HandS.Wide
import HandS.Gcd
import HandS.IsInst
import HandS.TupAny
import HandS.TupLe
import HandS.Style
import HandS.Flow
import HandS.Deep
import KE.SortData
import HandS.SortInts
import KE.DataMinMax
import KE.KTupSum
import HandS.Steps
import HandS.More
import HandS.SetFor
import HandS.Strs
import HandS.SetKeys
import PySem.Challenge.RW_oddsweighed_k97_whole_sales_by_bids
set_option linter.all false
/-! DL0: plain data, a store of lists, and what a piece of a program asks of them (weakest preconditions by parts). No model in sight. -/
namespace DL
open PySem (Str)

/-- a value: tuples by value, a list of one's own by its place in the store, rol: a list that is only read -/
inductive D where
  | non | bl (b : Bool) | int (i : Int) | str (x : Str) | tup (xs : List D) | rol (xs : List D) | ref (n : Nat) | ty (n : String)

inductive O where
  | lst (xs : List D)
  | dic (kvs : List (D × D))

abbrev Sto := List O
abbrev Env := List (Option D)
abbrev VK := D → Sto → Prop
abbrev WE := Env → Sto → VK → Prop
abbrev WT := Env → Sto → (Bool → Sto → Prop) → Prop
abbrev WA := Env → Sto → (List D → Sto → Prop) → Prop
abbrev WG := D → Env → Sto → (Env → Sto → Prop) → Prop
abbrev WI := Env → Sto → (List D → (Sto → Prop) → Sto → Prop) → Prop
abbrev WP := Env → Sto → (Option Int → Sto → Prop) → Prop
structure Ends where
  nx : Env → Sto → Prop
  rt : VK
  bk : Env → Sto → Prop
  ct : Env → Sto → Prop
abbrev WS := Ends → Env → Sto → Prop
abbrev R1 := D → Sto → VK → Prop
abbrev R2 := D → D → Sto → VK → Prop
abbrev RL := List D → Sto → VK → Prop
abbrev RM := D → List D → Sto → VK → Prop
abbrev Spc := List D → Sto → VK → Prop

def szL : Nat := 16777216

/-! ### equality, order of plain data -/
mutual
def eqD : D → D → Bool
  | .non, .non => true
  | .bl a, .bl b => a == b
  | .bl a, .int j => (if a then 1 else 0) == j
  | .int i, .bl b => i == (if b then 1 else 0)
  | .int i, .int j => decide (i = j)
  | .str x, .str y => decide (x = y)
  | .tup xs, .tup ys => eqDs xs ys
  | _, _ => false
def eqDs : List D → List D → Bool
  | [], [] => true
  | x :: xs, y :: ys => eqD x y && eqDs xs ys
  | [], _ :: _ => false
  | _ :: _, [] => false
end
/-! without lists -/
mutual
def flat : D → Bool
  | .non | .bl _ | .int _ => true
  | .str x => x.cps.all (· < 0x110000)
  | .tup xs => flats xs
  | .rol _ | .ref _ | .ty _ => false
def flats : List D → Bool
  | [] => true
  | x :: xs => flat x && flats xs
end
mutual
def deep : D → Nat
  | .tup xs => deeps xs + 1
  | _ => 0
def deeps : List D → Nat
  | [] => 0
  | x :: xs => max (deep x) (deeps xs)
end
mutual
def toPy : D → PySem.PyData
  | .non => .none
  | .bl b => .bool b
  | .int i => .int i
  | .str x => .str x
  | .tup xs => .tuple (toPys xs)
  | .rol _ => .none
  | .ref _ => .none
  | .ty _ => .none
def toPys : List D → List PySem.PyData
  | [] => []
  | x :: xs => toPy x :: toPys xs
end
/-- intD all through, as tuples of one length or single -/
abbrev intD (ns : List Int) : List D := ns.map D.int

/-! ### the environment -/
@[reducible] def lk : Env → Nat → Option D
  | [], _ => none
  | x :: _, 0 => x
  | _ :: r, n + 1 => lk r n
@[reducible] def up : Env → Nat → Option D → Env
  | [], _, _ => []
  | _ :: r, 0, d => d :: r
  | x :: r, n + 1, d => x :: up r n d
@[reducible] def wipe (ρ : Env) : List Nat → Env
  | [] => ρ
  | i :: r => up (wipe ρ r) i none
def start (n : Nat) (ds : List D) : Env := ds.map some ++ List.replicate (n - ds.length) none

/-! ### expressions -/
@[reducible] def wVar (i : Nat) : WE := fun ρ S Q => match lk ρ i with
  | some d => Q d S
  | none => False
@[reducible] def wC (d : D) : WE := fun _ S Q => Q d S
@[reducible] def wOp (r : R2) (a b : WE) : WE := fun ρ S Q => a ρ S fun x S1 => b ρ S1 fun y S2 => r x y S2 Q
@[reducible] def wUn (r : R1) (a : WE) : WE := fun ρ S Q => a ρ S fun x S1 => r x S1 Q
@[reducible] def wNil : WA := fun _ S Q => Q [] S
@[reducible] def wCons (a : WE) (r : WA) : WA := fun ρ S Q => a ρ S fun x S1 => r ρ S1 fun xs S2 => Q (x :: xs) S2
@[reducible] def wTup (a : WA) : WE := fun ρ S Q => a ρ S fun xs S1 => xs.length ≤ szL ∧ Q (.tup xs) S1
@[reducible] def wLst (a : WA) : WE := fun ρ S Q => a ρ S fun xs S1 => xs.length ≤ szL ∧ Q (.ref S1.length) (S1 ++ [.lst xs])
@[reducible] def wCall (n : Nat) (sp : Spc) (a : WA) : WE := fun ρ S Q => a ρ S fun ds S1 => ds.length = n ∧ sp ds S1 Q
@[reducible] def wB (r : RL) (a : WA) : WE := fun ρ S Q => a ρ S fun ds S1 => r ds S1 Q
/-- a list there -/
@[reducible] def isL : D → Sto → Prop
  | .ref n, S => ∃ xs, S[n]? = some (.lst xs)
  | _, _ => False
/-- o.m(..), o a list of one's own -/
@[reducible] def wM (r : RM) (o : WE) (a : WA) : WE := fun ρ S Q => o ρ S fun x S1 => isL x S1 ∧ a ρ S1 fun ds S2 => r x ds S2 Q
@[reducible] def wM0 (r : RM) (o : WE) : WE := fun ρ S Q => o ρ S fun x S1 => isL x S1 ∧ r x [] S1 Q
@[reducible] def wPNo : WP := fun _ S Q => Q none S
@[reducible] def wPAt (a : WE) : WP := fun ρ S Q => a ρ S fun x S1 => match x with
  | .int i => Q (some i) S1
  | _ => False
@[reducible] def wSl (r : D → Option Int → Option Int → Sto → VK → Prop) (o : WE) (l u : WP) : WE := fun ρ S Q => o ρ S fun x S1 => l ρ S1 fun i S2 => u ρ S2 fun j S3 => r x i j S3 Q
/-! tests -/
@[reducible] def wtVal (a : WE) : WT := fun ρ S Q => a ρ S fun x S1 => match x with
  | .bl b => Q b S1
  | _ => False
@[reducible] def wtAnd (a b : WT) : WT := fun ρ S Q => a ρ S fun c S1 => if c = true then b ρ S1 Q else Q false S1
@[reducible] def wtOr (a b : WT) : WT := fun ρ S Q => a ρ S fun c S1 => if c = true then Q true S1 else b ρ S1 Q
@[reducible] def wtNot (a : WT) : WT := fun ρ S Q => a ρ S fun c S1 => Q (!c) S1
@[reducible] def wAnd (a b : WE) : WE := fun ρ S Q => a ρ S fun x S1 => match x with
  | .bl c => if c = true then b ρ S1 Q else Q (.bl false) S1
  | _ => False
@[reducible] def wOr (a b : WE) : WE := fun ρ S Q => a ρ S fun x S1 => match x with
  | .bl c => if c = true then Q (.bl true) S1 else b ρ S1 Q
  | _ => False
@[reducible] def wNot (a : WE) : WE := fun ρ S Q => a ρ S fun x S1 => match x with
  | .bl c => Q (.bl (!c)) S1
  | _ => False
@[reducible] def wIf (c : WT) (a b : WE) : WE := fun ρ S Q => c ρ S fun k S1 => if k = true then a ρ S1 Q else b ρ S1 Q
@[reducible] def wChain (r r' : R2) (a b c : WE) : WE := fun ρ S Q => a ρ S fun x S1 => b ρ S1 fun y S2 => r x y S2 fun z S3 => match z with
  | .bl k => if k = true then c ρ S3 fun u S4 => r' y u S4 Q else Q (.bl false) S3
  | _ => False

/-! ### what is walked -/
@[reducible] def wIt (a : WE) : WI := fun ρ S R => a ρ S fun x S1 => match x with
  | .tup xs => R xs (fun _ => True) S1
  | .rol xs => R xs (fun _ => True) S1
  | .ref n => match S1[n]? with
    | some (.lst xs) => R xs (fun S' => S'[n]? = some (.lst xs)) S1
    | _ => False
  | _ => False
/-- lo, lo + 1, .. below hi -/
def rangeD (lo hi : Int) : List D := (List.range (hi - lo).toNat).map fun (i : Nat) => D.int (lo + i)
def smallI (i : Int) : Prop := -(2 ^ 62) ≤ i ∧ i < 2 ^ 62
@[reducible] def wR1 (a : WE) : WI := fun ρ S R => a ρ S fun x S1 => match x with
  | .int j => smallI j ∧ R (rangeD 0 j) (fun _ => True) S1
  | _ => False
@[reducible] def wR2 (a b : WE) : WI := fun ρ S R => a ρ S fun x S1 => b ρ S1 fun y S2 => match x, y with
  | .int i, .int j => smallI i ∧ smallI j ∧ R (rangeD i j) (fun _ => True) S2
  | _, _ => False

/-! ### targets: a name, a tuple of names -/
@[reducible] def gN (i : Nat) : WG := fun d ρ S Q => Q (up ρ i (some d)) S
@[reducible] def gNs : List Nat → List D → Env → Option Env
  | [], [], ρ => some ρ
  | i :: r, d :: ds, ρ => gNs r ds (up ρ i (some d))
  | _, _, _ => none
@[reducible] def gT (is : List Nat) : WG := fun d ρ S Q => match d with
  | .tup ds => match gNs is ds ρ with
    | some ρ' => Q ρ' S
    | none => False
  | _ => False

/-! ### comprehensions: one clause, at most one test -/
@[reducible] def wtYes : WT := fun _ S Q => Q true S
/-- I: by the turn, what is made so far, the store; a step tells what it adds -/
def Lc (items : List D) (guard : Sto → Prop) (S1 : Sto) (step : D → Sto → (Option D → Sto → Prop) → Prop) (Q : VK) : Prop := items.length ≤ szL ∧ ∃ I : Nat → List D → Sto → Prop,
  I 0 [] S1 ∧ (∀ i acc S', I i acc S' → guard S') ∧
  (∀ i d acc S', items[i]? = some d → I i acc S' → step d S' fun o S2 => I (i + 1) (acc ++ o.toList) S2) ∧
  ∀ acc S', I items.length acc S' → Q (.ref S'.length) (S' ++ [.lst acc])
@[reducible] def wLc (wi : WI) (g : WG) (tt : WT) (te : WE) (vs : List Nat) : WE := fun ρ S Q => wi ρ S fun items guard S1 =>
  Lc items guard S1 (fun d S' R => g d (wipe ρ vs) S' fun ρ2 S2 => tt ρ2 S2 fun b S3 => if b = true then te ρ2 S3 fun y S4 => R (some y) S4 else R none S3) Q

/-! ### statements -/
@[reducible] def sNext : WS := fun E ρ S => E.nx ρ S
@[reducible] def sSeq (a b : WS) : WS := fun E ρ S => a { E with nx := b E } ρ S
@[reducible] def sBreak : WS := fun E ρ S => E.bk ρ S
@[reducible] def sCont : WS := fun E ρ S => E.ct ρ S
@[reducible] def sDrop (a : WE) : WS := fun E ρ S => a ρ S fun _ S1 => E.nx ρ S1
@[reducible] def sRet (a : WE) : WS := fun E ρ S => a ρ S E.rt
@[reducible] def sRetN : WS := fun E _ S => E.rt .non S
@[reducible] def sIf (c : WT) (a b : WS) : WS := fun E ρ S => c ρ S fun k S1 => if k = true then a E ρ S1 else b E ρ S1
@[reducible] def sNever : WS := fun _ _ _ => False
@[reducible] def sAsg (a : WE) (g : WG) : WS := fun E ρ S => a ρ S fun d S1 => g d ρ S1 E.nx
/-- a, b = x, y by names -/
@[reducible] def sPar (i j : Nat) (a b : WE) : WS := fun E ρ S => a ρ S fun x S1 => b ρ S1 fun y S2 => E.nx (up (up ρ i (some x)) j (some y)) S2
@[reducible] def sAug (i : Nat) (a : WE) (r : R2) : WS := fun E ρ S => match lk ρ i with
  | some x => a ρ S fun y S1 => r x y S1 fun z S2 => E.nx (up ρ i (some z)) S2
  | none => False
/-- o[i] = e -/
@[reducible] def sSub (r : D → D → D → Sto → (Sto → Prop) → Prop) (e o i : WE) : WS := fun E ρ S => e ρ S fun d S1 => o ρ S1 fun x S2 => i ρ S2 fun k S3 => r x k d S3 fun S4 => E.nx ρ S4
/-- o[i] op= e -/
@[reducible] def sAugSub (rg : R2) (rop : R2) (rs : D → D → D → Sto → (Sto → Prop) → Prop) (o i e : WE) : WS := fun E ρ S => o ρ S fun x S1 => i ρ S1 fun k S2 => rg x k S2 fun v S3 => e ρ S3 fun y S4 => rop v y S4 fun z S5 => rs x k z S5 fun S6 => E.nx ρ S6
/-- for: I by the turn -/
def Loop (items : List D) (guard : Sto → Prop) (step : D → Env → Sto → (Env → Sto → Prop) → Prop) (done : Env → Sto → Prop) (ρ : Env) (S : Sto) : Prop := ∃ I : Nat → Env → Sto → Prop,
  I 0 ρ S ∧ (∀ i ρ' S', I i ρ' S' → guard S') ∧ (∀ i d ρ' S', items[i]? = some d → I i ρ' S' → step d ρ' S' (I (i + 1))) ∧ ∀ ρ' S', I items.length ρ' S' → done ρ' S'
@[reducible] def sFor (wi : WI) (g : WG) (b : WS) : WS := fun E ρ S => wi ρ S fun items guard S1 =>
  Loop items guard (fun d ρ' S' N => g d ρ' S' fun ρ2 S2 => b { nx := N, rt := E.rt, bk := E.nx, ct := N } ρ2 S2) E.nx ρ S1
/-- while: I by a measure -/
@[reducible] def sWhile (c : WT) (b : WS) : WS := fun E ρ S => ∃ I : Nat → Env → Sto → Prop, (∃ m, I m ρ S) ∧
  ∀ m ρ' S', I m ρ' S' → c ρ' S' fun k S2 => if k = true then b { nx := fun ρ3 S3 => ∃ m', m' < m ∧ I m' ρ3 S3, rt := E.rt, bk := E.nx, ct := fun ρ3 S3 => ∃ m', m' < m ∧ I m' ρ3 S3 } ρ' S2 else E.nx ρ' S2
/-- a def's body keeps what is asked of it -/
def Body (n k : Nat) (w : WS) (sp : Spc) : Prop := ∀ ds S Q, ds.length = k → sp ds S Q → w { nx := fun _ S' => Q .non S', rt := Q, bk := fun _ _ => False, ct := fun _ _ => False } (start n ds) S

/-! ### operations by values -/
def MulOk (i j : Int) : Prop := (i.natAbs < 2 ^ 64 ∨ j.natAbs < 2 ^ 64) ∨ ∃ a b : Nat, i.natAbs < 2 ^ a ∧ j.natAbs < 2 ^ b ∧ a + b ≤ 1000000
def DivOk (j : Int) : Prop := j ≠ 0 ∧ j.natAbs < 2 ^ 9000
def PowOk (i j : Int) : Prop := 0 ≤ j ∧ j ≤ 1000000 ∧ i.natAbs < 2 ^ 64
def isLst (S : Sto) (n : Nat) (P : List D → Prop) : Prop := match S[n]? with
  | some (.lst xs) => P xs
  | _ => False
@[reducible] def rAdd : R2
  | .int i, .int j, S, Q => Q (.int (i + j)) S
  | .tup xs, .tup ys, S, Q => xs.length + ys.length ≤ szL ∧ Q (.tup (xs ++ ys)) S
  | .str x, .str y, S, Q => x.length + y.length ≤ szL ∧ Q (.str (x ++ y)) S
  | .ref m, .ref n, S, Q => isLst S m fun xs => isLst S n fun ys => xs.length + ys.length ≤ szL ∧ Q (.ref S.length) (S ++ [.lst (xs ++ ys)])
  | _, _, _, _ => False
@[reducible] def rSub : R2
  | .int i, .int j, S, Q => Q (.int (i - j)) S
  | _, _, _, _ => False
@[reducible] def rMul : R2
  | .int i, .int j, S, Q => MulOk i j ∧ Q (.int (i * j)) S
  | .ref m, .int k, S, Q => isLst S m fun xs => (-(2 ^ 63) ≤ k ∧ k < 2 ^ 63) ∧ xs.length * k.toNat ≤ szL ∧ Q (.ref S.length) (S ++ [.lst (List.replicate k.toNat xs).flatten])
  | _, _, _, _ => False
@[reducible] def rMul' : R2
  | .int i, .int j, S, Q => MulOk i j ∧ Q (.int (i * j)) S
  | _, _, _, _ => False
@[reducible] def rDiv : R2
  | .int i, .int j, S, Q => DivOk j ∧ Q (.int (i.fdiv j)) S
  | _, _, _, _ => False
@[reducible] def rMod : R2
  | .int i, .int j, S, Q => j ≠ 0 ∧ Q (.int (i.fmod j)) S
  | _, _, _, _ => False
@[reducible] def rPow : R2
  | .int i, .int j, S, Q => PowOk i j ∧ Q (.int (i ^ j.toNat)) S
  | _, _, _, _ => False
@[reducible] def rNeg : R1
  | .int i, S, Q => Q (.int (-i)) S
  | _, _, _ => False
@[reducible] def rCmp (f : Int → Int → Bool) : R2
  | .int i, .int j, S, Q => Q (.bl (f i j)) S
  | _, _, _, _ => False
abbrev rLt : R2 := rCmp fun i j => decide (i < j)
abbrev rLe : R2 := rCmp fun i j => decide (i ≤ j)
abbrev rGt : R2 := rCmp fun i j => decide (j < i)
abbrev rGe : R2 := rCmp fun i j => decide (j ≤ i)
@[reducible] def rEq : R2 := fun x y S Q => (flat x = true ∧ flat y = true ∧ deep x ≤ 64 ∧ deep y ≤ 64) ∧ Q (.bl (eqD x y)) S
@[reducible] def rNe : R2 := fun x y S Q => (flat x = true ∧ flat y = true ∧ deep x ≤ 64 ∧ deep y ≤ 64) ∧ Q (.bl (!eqD x y)) S
def isNon : D → Bool
  | .non => true
  | _ => false
@[reducible] def rIs : R2
  | x, .non, S, Q => Q (.bl (isNon x)) S
  | .bl a, .bl b, S, Q => Q (.bl (decide (a = b))) S
  | _, _, _, _ => False
@[reducible] def rIsNot : R2
  | x, .non, S, Q => Q (.bl (!isNon x)) S
  | .bl a, .bl b, S, Q => Q (.bl (!decide (a = b))) S
  | _, _, _, _ => False
/-- place i, from the end if negative -/
def ixZ (n : Nat) (i : Int) : Option Nat := if 0 ≤ i then (if i < n then some i.toNat else none) else if -(n : Int) ≤ i then some (i + n).toNat else none
def atZ {α : Type} (xs : List α) (i : Int) : Option α := (ixZ xs.length i).bind fun j => xs[j]?
@[reducible] def rIx : R2
  | .tup xs, .int i, S, Q => ∃ d, atZ xs i = some d ∧ Q d S
  | .rol xs, .int i, S, Q => ∃ d, atZ xs i = some d ∧ Q d S
  | .ref n, .int i, S, Q => isLst S n fun xs => ∃ d, atZ xs i = some d ∧ Q d S
  | .str z, .int i, S, Q => z.length ≤ szL ∧ ∃ c, atZ z.cps.toList i = some c ∧ Q (.str ⟨#[c]⟩) S
  | _, _, _, _ => False
def sIx (n d : Nat) : Option Int → Nat
  | none => d
  | some i => if i < 0 then (i + n).toNat else min i.toNat n
def cut {α : Type} (xs : List α) (lo hi : Option Int) : List α := (xs.drop (sIx xs.length 0 lo)).take (sIx xs.length xs.length hi - sIx xs.length 0 lo)
@[reducible] def rSl : D → Option Int → Option Int → Sto → VK → Prop
  | .tup xs, lo, hi, S, Q => Q (.tup (cut xs lo hi)) S
  | .ref n, lo, hi, S, Q => isLst S n fun xs => Q (.ref S.length) (S ++ [.lst (cut xs lo hi)])
  | _, _, _, _, _ => False
@[reducible] def rRev : R1
  | .tup xs, S, Q => Q (.tup xs.reverse) S
  | .ref n, S, Q => isLst S n fun xs => Q (.ref S.length) (S ++ [.lst xs.reverse])
  | _, _, _ => False
/-- plain things, for in -/
def flat0 : D → Bool
  | .non | .bl _ | .int _ | .str _ => true
  | _ => false
@[reducible] def rIn (neg : Bool) : R2
  | x, .tup ys, S, Q => (flat0 x = true ∧ ys.all flat0 = true) ∧ Q (.bl (if neg then !ys.any fun y => eqD y x else ys.any fun y => eqD y x)) S
  | x, .ref n, S, Q => isLst S n fun ys => (flat x = true ∧ flats ys = true ∧ deep x ≤ 63 ∧ deeps ys ≤ 63) ∧ Q (.bl (if neg then !ys.any fun y => eqD y x else ys.any fun y => eqD y x)) S
  | _, _, _, _ => False
/-! built-ins -/
@[reducible] def rLen : RL
  | [.tup xs], S, Q => Q (.int xs.length) S
  | [.rol xs], S, Q => Q (.int xs.length) S
  | [.str z], S, Q => z.length ≤ szL ∧ Q (.int z.length) S
  | [.ref n], S, Q => isLst S n fun xs => Q (.int xs.length) S
  | _, _, _ => False
@[reducible] def rAbs : RL
  | [.int i], S, Q => Q (.int i.natAbs) S
  | _, _, _ => False
@[reducible] def rInt : RL
  | [.int i], S, Q => Q (.int i) S
  | [.bl b], S, Q => Q (.int (if b = true then 1 else 0)) S
  | _, _, _ => False
@[reducible] def rMax2 : RL
  | [.int i, .int j], S, Q => Q (.int (max i j)) S
  | _, _, _ => False
@[reducible] def rMin2 : RL
  | [.int i, .int j], S, Q => Q (.int (min i j)) S
  | _, _, _ => False
@[reducible] def rList : RL
  | [.tup xs], S, Q => Q (.ref S.length) (S ++ [.lst xs])
  | [.rol xs], S, Q => Q (.ref S.length) (S ++ [.lst xs])
  | [.ref n], S, Q => isLst S n fun xs => Q (.ref S.length) (S ++ [.lst xs])
  | _, _, _ => False
@[reducible] def rTuple : RL
  | [.tup xs], S, Q => Q (.tup xs) S
  | [.rol xs], S, Q => Q (.tup xs) S
  | [.ref n], S, Q => isLst S n fun xs => Q (.tup xs) S
  | _, _, _ => False
/-- intD all through -/
def intsOf : List D → Option (List Int)
  | [] => some []
  | .int i :: r => (intsOf r).map (i :: ·)
  | _ => none
def bsOf : List D → Option (List Bool)
  | [] => some []
  | .bl i :: r => (bsOf r).map (i :: ·)
  | _ => none
/-- the list behind a list of one's own or a tuple -/
def itemsAt : D → Sto → Option (List D)
  | .tup xs, _ => some xs
  | .ref n, S => match S[n]? with
    | some (.lst xs) => some xs
    | _ => none
  | _, _ => none
@[reducible] def withInts (d : D) (S : Sto) (P : List Int → Prop) : Prop := ∃ ns, itemsAt d S = some (intD ns) ∧ P ns
@[reducible] def rSum : RL
  | [d], S, Q => withInts d S fun ns => Q (.int ns.sum) S
  | _, _, _ => False
@[reducible] def rMax : RL
  | [d], S, Q => withInts d S fun ns => 0 < ns.length ∧ ∀ m, m ∈ ns → (∀ y, y ∈ ns → y ≤ m) → Q (.int m) S
  | _, _, _ => False
@[reducible] def rMin : RL
  | [d], S, Q => withInts d S fun ns => 0 < ns.length ∧ ∀ m, m ∈ ns → (∀ y, y ∈ ns → m ≤ y) → Q (.int m) S
  | _, _, _ => False
@[reducible] def rAll : RL
  | [.ref n], S, Q => ∃ bs : List Bool, S[n]? = some (.lst (bs.map .bl)) ∧ Q (.bl (bs.all id)) S
  | _, _, _ => False
@[reducible] def rAny : RL
  | [.ref n], S, Q => ∃ bs : List Bool, S[n]? = some (.lst (bs.map .bl)) ∧ Q (.bl (bs.any id)) S
  | _, _, _ => False
@[reducible] def rGcd : RL
  | [.int a, .int b], S, Q => Q (.int (Nat.gcd a.natAbs b.natAbs : Nat)) S
  | _, _, _ => False
/-- isinstance(x, T): T one of bool, int, str, tuple, list -/
def isT : D → String → Option Bool
  | .non, t => if t ∈ ["bool", "int", "str", "tuple", "list"] then some false else none
  | .bl _, t => if t ∈ ["bool", "int"] then some true else if t ∈ ["str", "tuple", "list"] then some false else none
  | .int _, t => if t = "int" then some true else if t ∈ ["bool", "str", "tuple", "list"] then some false else none
  | .str _, t => if t = "str" then some true else if t ∈ ["bool", "int", "tuple", "list"] then some false else none
  | .tup _, t => if t = "tuple" then some true else if t ∈ ["bool", "int", "str", "list"] then some false else none
  | .ref _, t => if t = "list" then some true else if t ∈ ["bool", "int", "str", "tuple"] then some false else none
  | _, _ => none
@[reducible] def rIsi : RL
  | [d, .ty t], S, Q => ∃ b, isT d t = some b ∧ Q (.bl b) S
  | _, _, _ => False
/-! sorting -/
mutual
def ltD : D → D → Bool
  | .int i, .int j => decide (i < j)
  | .str x, .str y => decide (x.cps.toList < y.cps.toList)
  | .tup xs, .tup ys => ltDs xs ys
  | _, _ => false
def ltDs : List D → List D → Bool
  | [], [] => false
  | [], _ :: _ => true
  | _ :: _, [] => false
  | x :: xs, y :: ys => if eqD x y = true then ltDs xs ys else ltD x y
end
mutual
def akin : D → D → Bool
  | .int _, .int _ => true
  | .str _, .str _ => true
  | .tup xs, .tup ys => akins xs ys
  | _, _ => false
def akins : List D → List D → Bool
  | x :: xs, y :: ys => akin x y && akins xs ys
  | _, _ => true
end
/-- all ints, all texts, or all tuples with an item -/
def sortOk (xs : List D) : Prop := flats xs = true ∧ deeps xs ≤ 60 ∧ (∀ a ∈ xs, ∀ b ∈ xs, akin a b = true) ∧ ((∀ a ∈ xs, ∃ x r, a = .tup (x :: r)) ∨ ∀ a ∈ xs, a ≠ .non ∧ ∀ ys, a ≠ .tup ys)
@[reducible] def rSorted : RL
  | [.ref n], S, Q => isLst S n fun xs => sortOk xs ∧ ∀ ys, ys.Perm xs → ys.Pairwise (fun a b => ltD b a = false) → Q (.ref S.length) (S ++ [.lst ys])
  | _, _, _ => False
/-- sorted(set(a)) of ints -/
@[reducible] def wSortedSet (a : WE) : WE := fun ρ S Q => a ρ S fun d S1 => withInts d S1 fun ns => ns.length < 60 ∧ ∀ ms : List Int, ms.Pairwise (· < ·) → (∀ k, k ∈ ms ↔ k ∈ ns) → Q (.ref S1.length) (S1 ++ [.lst (intD ms)])
/-! methods of lists -/
@[reducible] def rAppend : RM
  | .ref n, [d], S, Q => isLst S n fun xs => xs.length < szL ∧ Q .non (S.set n (.lst (xs ++ [d])))
  | _, _, _, _ => False
@[reducible] def rPop : RM
  | .ref n, [], S, Q => isLst S n fun xs => ∃ d, xs[xs.length - 1]? = some d ∧ Q d (S.set n (.lst xs.dropLast))
  | _, _, _, _ => False
@[reducible] def rPopAt : RM
  | .ref n, [.int i], S, Q => isLst S n fun xs => (-(2 ^ 63) ≤ i ∧ i < 2 ^ 63) ∧ ∃ j d, ixZ xs.length i = some j ∧ xs[j]? = some d ∧ Q d (S.set n (.lst (xs.eraseIdx j)))
  | _, _, _, _ => False
@[reducible] def rReverse : RM
  | .ref n, [], S, Q => isLst S n fun xs => Q .non (S.set n (.lst xs.reverse))
  | _, _, _, _ => False
@[reducible] def rInsert : RM
  | .ref n, [.int i, d], S, Q => isLst S n fun xs => xs.length < szL ∧ (0 ≤ i ∧ i < 2 ^ 63) ∧ Q .non (S.set n (.lst (xs.take i.toNat ++ [d] ++ xs.drop i.toNat)))
  | _, _, _, _ => False
/-- o[i] = d -/
@[reducible] def rPut : D → D → D → Sto → (Sto → Prop) → Prop
  | .ref n, .int i, d, S, Q => isLst S n fun xs => ∃ j, ixZ xs.length i = some j ∧ Q (S.set n (.lst (xs.set j d)))
  | _, _, _, _, _ => False
end DL
set_option Elab.async false
set_option linter.all false
set_option maxRecDepth 100000
set_option maxHeartbeats 4000000
/-! DL1: the parts of DL0 hold of the model, rule by rule. -/
namespace DL
open PySem PySem.Spec
open L2 (V Hp HO St TE TT TA TS TG TI TO PE PT PW PA PS PSs PG PI PO Cx Inv RelV Vals SqL SqT Rd upd upd_same upd_ne ne_of ne_of_none OpR UnR CallR MtR IxR SlR It thn)

/-! ### how plain data lies in the heap -/
/-- a list that is only read -/
def RoL (K : PySem.W.Frag) (H : Hp) (a : Addr) (vs : List V) : Prop := (∃ o, H a = some (.frz o (.lst vs))) ∨
    ∃ (o : Obj) (its : Array Value) (n : Nat), K.lookup a = some o ∧ o.cls = .type "list" ∧ o.dict = none ∧ o.data = .seq its n ∧ its.size ≤ sizeLine ∧ Vals vs its.toList
theorem RoL.seq {K : PySem.W.Frag} {H : Hp} {a : Addr} {vs : List V} (h : RoL K H a vs) : SqL K H a vs := by
  rcases h with h | h
  · exact .inl (.inr h)
  · exact .inr h
mutual
def Rep (K : PySem.W.Frag) (H : Hp) (m : List Addr) : D → V → Prop
  | .non, v => v = .non
  | .bl b, v => v = .bl b
  | .int i, v => v = .int i
  | .str x, v => v = .str x
  | .ty n, v => v = .ty n
  | .ref n, v => ∃ a, m[n]? = some a ∧ v = .ref a
  | .tup ds, v => ∃ a vs, v = .ref a ∧ SqT K H a vs ∧ Reps K H m ds vs
  | .rol ds, v => ∃ a vs, v = .ref a ∧ RoL K H a vs ∧ Reps K H m ds vs
def Reps (K : PySem.W.Frag) (H : Hp) (m : List Addr) : List D → List V → Prop
  | [], vs => vs = []
  | d :: ds, vs => ∃ v r, vs = v :: r ∧ Rep K H m d v ∧ Reps K H m ds r
end
/-- from one heap to a later one: what is not ours stands, what is ours may have grown -/
structure Ext (m : List Addr) (H : Hp) (m' : List Addr) (H' : Hp) : Prop where
  pre : ∀ (n : Nat) (a : Addr), m[n]? = some a → m'[n]? = some a
  keep : ∀ (b : Addr) (o : HO), H b = some o → b ∉ m → H' b = some o
  new : ∀ b : Addr, b ∈ m' → b ∈ m ∨ H b = none
  lst : ∀ (b : Addr) (o : HO), H b = some o → (∀ xs, o ≠ .lst xs) → H' b = some o
theorem Ext.refl (m : List Addr) (H : Hp) : Ext m H m H := ⟨fun _ _ h => h, fun _ _ h _ => h, fun _ h => .inl h, fun _ _ h _ => h⟩
theorem Ext.trans {m m1 m2 : List Addr} {H H1 H2 : Hp} (a : Ext m H m1 H1) (b : Ext m1 H1 m2 H2) : Ext m H m2 H2 where
  pre := fun n x h => b.pre n x (a.pre n x h)
  keep := fun c o h hn => b.keep c o (a.keep c o h hn) fun z => by
    rcases a.new c z with z | z
    · exact hn z
    · rw [z] at h; cases h
  new := fun c h => by
    rcases b.new c h with z | z
    · exact a.new c z
    · by_cases hc : c ∈ m
      · exact .inl hc
      · refine .inr ?_
        cases e : H c with
        | none => rfl
        | some o => rw [a.keep c o e hc] at z; cases z
  lst := fun c o h hn => b.lst c o (a.lst c o h hn) hn
theorem Ext.sqT {m m' : List Addr} {H H' : Hp} (e : Ext m H m' H') {K : PySem.W.Frag} {a : Addr} {vs : List V} (h : SqT K H a vs) : SqT K H' a vs := by
  rcases h with (h | ⟨o, h⟩) | h
  · exact .inl (.inl (e.lst _ _ h fun _ z => nomatch z))
  · exact .inl (.inr ⟨o, e.lst _ _ h fun _ z => nomatch z⟩)
  · exact .inr h
theorem Ext.ro {m m' : List Addr} {H H' : Hp} (e : Ext m H m' H') {K : PySem.W.Frag} {a : Addr} {vs : List V} (h : RoL K H a vs) : RoL K H' a vs := by
  rcases h with ⟨o, h⟩ | h
  · exact .inl ⟨o, e.lst _ _ h fun _ z => nomatch z⟩
  · exact .inr h
section
variable {K : PySem.W.Frag} {m m' m1 : List Addr} {H H' H1 : Hp} {S S' : Sto}
mutual
theorem Rep.ext (e : Ext m H m' H') : ∀ (d : D) (v : V), Rep K H m d v → Rep K H' m' d v
  | .non, _, h => h
  | .bl _, _, h => h
  | .int _, _, h => h
  | .str _, _, h => h
  | .ty _, _, h => h
  | .ref _, _, ⟨a, h1, h2⟩ => ⟨a, e.pre _ _ h1, h2⟩
  | .tup ds, _, ⟨a, vs, h1, h2, h3⟩ => ⟨a, vs, h1, e.sqT h2, Reps.ext e ds vs h3⟩
  | .rol ds, _, ⟨a, vs, h1, h2, h3⟩ => ⟨a, vs, h1, e.ro h2, Reps.ext e ds vs h3⟩
theorem Reps.ext (e : Ext m H m' H') : ∀ (ds : List D) (vs : List V), Reps K H m ds vs → Reps K H' m' ds vs
  | [], _, h => h
  | d :: ds, _, ⟨v, r, h1, h2, h3⟩ => ⟨v, r, h1, Rep.ext e d v h2, Reps.ext e ds r h3⟩
end
theorem Reps.len : ∀ {ds : List D} {vs : List V}, Reps K H m ds vs → vs.length = ds.length
  | [], _, h => by rw [show _ = ([] : List V) from h]; rfl
  | d :: ds, _, ⟨v, r, h1, h2, h3⟩ => by rw [h1, List.length_cons, List.length_cons, Reps.len h3]
theorem Reps.get : ∀ {ds : List D} {vs : List V}, Reps K H m ds vs → ∀ (i : Nat) (d : D), ds[i]? = some d → ∃ v, vs[i]? = some v ∧ Rep K H m d v
  | [], _, h, i, d, e => by simp at e
  | d :: ds, _, ⟨v, r, h1, h2, h3⟩, 0, d', e => by
    simp at e
    subst e
    exact ⟨v, by rw [h1]; rfl, h2⟩
  | d :: ds, _, ⟨v, r, h1, h2, h3⟩, i + 1, d', e => by
    obtain ⟨w, e1, e2⟩ := Reps.get h3 i d' (by simpa using e)
    exact ⟨w, by rw [h1]; simpa using e1, e2⟩
theorem Reps.get' : ∀ {ds : List D} {vs : List V}, Reps K H m ds vs → ∀ (i : Nat) (v : V), vs[i]? = some v → ∃ d, ds[i]? = some d ∧ Rep K H m d v
  | [], _, h, i, d, e => by
    rw [show _ = ([] : List V) from h] at e
    simp at e
  | d :: ds, _, ⟨v, r, h1, h2, h3⟩, 0, d', e => by
    rw [h1] at e
    simp at e
    subst e
    exact ⟨d, rfl, h2⟩
  | d :: ds, _, ⟨v, r, h1, h2, h3⟩, i + 1, d', e => by
    rw [h1] at e
    obtain ⟨w, e1, e2⟩ := Reps.get' h3 i d' (by simpa using e)
    exact ⟨w, by simpa using e1, e2⟩
theorem Reps.app : ∀ {ds es : List D} {vs us : List V}, Reps K H m ds vs → Reps K H m es us → Reps K H m (ds ++ es) (vs ++ us)
  | [], _, _, _, h, q => by rw [show _ = ([] : List V) from h]; exact q
  | d :: ds, _, _, _, ⟨v, r, h1, h2, h3⟩, q => ⟨v, r ++ _, by rw [h1]; rfl, h2, Reps.app h3 q⟩
theorem Reps.one {d : D} {v : V} (h : Rep K H m d v) : Reps K H m [d] [v] := ⟨v, [], rfl, h, rfl⟩
theorem Reps.drop : ∀ {ds : List D} {vs : List V} (n : Nat), Reps K H m ds vs → Reps K H m (ds.drop n) (vs.drop n)
  | _, _, 0, h => h
  | [], _, n + 1, h => by rw [show _ = ([] : List V) from h]; rfl
  | d :: ds, _, n + 1, ⟨v, r, h1, h2, h3⟩ => by rw [h1]; exact Reps.drop n h3
theorem Reps.take : ∀ {ds : List D} {vs : List V} (n : Nat), Reps K H m ds vs → Reps K H m (ds.take n) (vs.take n)
  | _, _, 0, h => rfl
  | [], _, n + 1, h => by rw [show _ = ([] : List V) from h]; rfl
  | d :: ds, _, n + 1, ⟨v, r, h1, h2, h3⟩ => by rw [h1]; exact ⟨v, _, rfl, h2, Reps.take n h3⟩
theorem Reps.rev : ∀ {ds : List D} {vs : List V}, Reps K H m ds vs → Reps K H m ds.reverse vs.reverse
  | [], _, h => by rw [show _ = ([] : List V) from h]; rfl
  | d :: ds, _, ⟨v, r, h1, h2, h3⟩ => by
    rw [h1, List.reverse_cons, List.reverse_cons]
    exact Reps.app (Reps.rev h3) (Reps.one h2)
theorem Reps.set : ∀ {ds : List D} {vs : List V} {d : D} {v : V} (i : Nat), Reps K H m ds vs → Rep K H m d v → Reps K H m (ds.set i d) (vs.set i v)
  | [], _, _, _, i, h, q => by rw [show _ = ([] : List V) from h]; rfl
  | d :: ds, _, _, _, 0, ⟨v, r, h1, h2, h3⟩, q => by rw [h1]; exact ⟨_, _, rfl, q, h3⟩
  | d :: ds, _, _, _, i + 1, ⟨v, r, h1, h2, h3⟩, q => by rw [h1]; exact ⟨_, _, rfl, h2, Reps.set i h3 q⟩
theorem Reps.erase : ∀ {ds : List D} {vs : List V} (i : Nat), Reps K H m ds vs → Reps K H m (ds.eraseIdx i) (vs.eraseIdx i)
  | [], _, i, h => by rw [show _ = ([] : List V) from h]; cases i <;> rfl
  | d :: ds, _, 0, ⟨v, r, h1, h2, h3⟩ => by rw [h1]; exact h3
  | d :: ds, _, i + 1, ⟨v, r, h1, h2, h3⟩ => by rw [h1]; exact ⟨_, _, rfl, h2, Reps.erase i h3⟩
theorem Reps.dropLast {ds : List D} {vs : List V} (h : Reps K H m ds vs) : Reps K H m ds.dropLast vs.dropLast := by
  rw [List.dropLast_eq_take, List.dropLast_eq_take, h.len]
  exact h.take _
theorem Reps.rep {ds : List D} {vs : List V} (h : Reps K H m ds vs) : ∀ k : Nat, Reps K H m (List.replicate k ds).flatten (List.replicate k vs).flatten
  | 0 => rfl
  | k + 1 => by
    rw [List.replicate_succ, List.replicate_succ, List.flatten_cons, List.flatten_cons]
    exact Reps.app h (Reps.rep h k)
theorem Reps.ints : ∀ {ns : List Int} {vs : List V}, Reps K H m (intD ns) vs → vs = ns.map V.int
  | [], _, h => h
  | n :: ns, _, ⟨v, r, h1, h2, h3⟩ => by rw [h1, show v = V.int n from h2, Reps.ints h3]; rfl
theorem Reps.bls : ∀ {ns : List Bool} {vs : List V}, Reps K H m (ns.map D.bl) vs → vs = ns.map V.bl
  | [], _, h => h
  | n :: ns, _, ⟨v, r, h1, h2, h3⟩ => by rw [h1, show v = V.bl n from h2, Reps.bls h3]; rfl
theorem Reps.of_ints : ∀ {ns : List Int}, Reps K H m (DL.intD ns) (ns.map V.int)
  | [] => rfl
  | n :: ns => ⟨_, _, rfl, rfl, Reps.of_ints⟩

/-- one object of the store -/
def RepO (K : PySem.W.Frag) (H : Hp) (m : List Addr) : O → Addr → Prop
  | .lst ds, a => ∃ vs, H a = some (.lst vs) ∧ Reps K H m ds vs
  | .dic _, _ => False
structure RepS (K : PySem.W.Frag) (H : Hp) (m : List Addr) (S : Sto) : Prop where
  len : m.length = S.length
  nd : ∀ (i j : Nat) (a : Addr), m[i]? = some a → m[j]? = some a → i = j
  obj : ∀ (n : Nat) (o : O), S[n]? = some o → ∃ a, m[n]? = some a ∧ RepO K H m o a
theorem RepS.lst (h : RepS K H m S) {n : Nat} {ds : List D} (e : S[n]? = some (.lst ds)) : ∃ a vs, m[n]? = some a ∧ H a = some (.lst vs) ∧ Reps K H m ds vs := by
  obtain ⟨a, h1, vs, h2, h3⟩ := h.obj n _ e
  exact ⟨a, vs, h1, h2, h3⟩
theorem RepS.mem (h : RepS K H m S) {b : Addr} (hb : b ∈ m) : ∃ vs, H b = some (.lst vs) := by
  obtain ⟨n, hn, e⟩ := List.getElem_of_mem hb
  have e' : m[n]? = some b := by rw [List.getElem?_eq_getElem hn, e]
  have hs : n < S.length := by rw [← h.len]; exact hn
  obtain ⟨a, h1, h2⟩ := h.obj n S[n] (List.getElem?_eq_getElem hs)
  rw [e'] at h1
  cases h1
  cases hq : S[n] with
  | lst ds => rw [hq] at h2; obtain ⟨vs, h2, _⟩ := h2; exact ⟨vs, h2⟩
  | dic _ => rw [hq] at h2; exact h2.elim
theorem RepS.notin (h : RepS K H m S) {p : Addr} (hp : H p = none) : p ∉ m := fun z => by
  obtain ⟨vs, e⟩ := h.mem z
  rw [hp] at e; cases e
/-- a new thing that is not a list of ours -/
theorem Ext.fresh (hp : H p = none) (o : HO) : Ext m H m (upd H p o) where
  pre := fun _ _ h => h
  keep := fun b u h _ => by rw [upd_ne (ne_of_none h hp)]; exact h
  new := fun _ h => .inl h
  lst := fun b u h _ => by rw [upd_ne (ne_of_none h hp)]; exact h
theorem Ext.pushed (hp : H p = none) (o : HO) : Ext m H (m ++ [p]) (upd H p o) where
  pre := fun n a h => by
    rw [List.getElem?_append_left]
    · exact h
    · exact (List.getElem?_eq_some_iff.mp h).1
  keep := fun b u h _ => by rw [upd_ne (ne_of_none h hp)]; exact h
  new := fun b h => by
    rcases List.mem_append.mp h with z | z
    · exact .inl z
    · refine .inr ?_
      rw [List.mem_singleton.mp z]
      exact hp
  lst := fun b u h _ => by rw [upd_ne (ne_of_none h hp)]; exact h
theorem Ext.wrote {a : Addr} {vs us : List V} (ha : a ∈ m) (h : H a = some (.lst vs)) : Ext m H m (upd H a (.lst us)) where
  pre := fun _ _ h => h
  keep := fun b u q hn => by
    rw [upd_ne (a := a) (b := b) (fun z => hn (by rw [z]; exact ha))]
    exact q
  new := fun _ h => .inl h
  lst := fun b u q hl => by
    have hne : b ≠ a := fun z => by
      rw [z, h] at q
      exact hl vs (Option.some.inj q).symm
    rw [upd_ne hne]
    exact q
theorem RepS.fresh (h : RepS K H m S) (hp : H p = none) (o : HO) : RepS K (upd H p o) m S where
  len := h.len
  nd := h.nd
  obj := fun n u e => by
    obtain ⟨a, h1, h2⟩ := h.obj n u e
    refine ⟨a, h1, ?_⟩
    cases u with
    | lst ds =>
      obtain ⟨vs, h2, h3⟩ := h2
      exact ⟨vs, by rw [upd_ne (ne_of_none h2 hp)]; exact h2, Reps.ext (Ext.fresh hp o) _ _ h3⟩
    | dic _ => exact h2.elim
theorem RepS.push (h : RepS K H m S) (hp : H p = none) {ds : List D} {vs : List V} (r : Reps K H m ds vs) : RepS K (upd H p (.lst vs)) (m ++ [p]) (S ++ [.lst ds]) where
  len := by rw [List.length_append, List.length_append, h.len]; rfl
  nd := fun i j a h1 h2 => by
    have hn := h.notin hp
    have pos : ∀ (i : Nat) (a : Addr), (m ++ [p])[i]? = some a → (m[i]? = some a ∧ a ≠ p) ∨ (i = m.length ∧ a = p) := fun i a e => by
      by_cases hi : i < m.length
      · rw [List.getElem?_append_left hi] at e
        exact .inl ⟨e, fun z => hn (z ▸ List.mem_of_getElem? e)⟩
      · have hi' := (List.getElem?_eq_some_iff.mp e).1
        rw [List.length_append] at hi'
        have : i = m.length := by simp at hi'; omega
        subst this
        simp at e
        exact .inr ⟨rfl, e.symm⟩
    rcases pos i a h1 with ⟨e1, n1⟩ | ⟨e1, n1⟩ <;> rcases pos j a h2 with ⟨e2, n2⟩ | ⟨e2, n2⟩
    · exact h.nd i j a e1 e2
    · exact absurd n2 n1
    · exact absurd n1 n2
    · rw [e1, e2]
  obj := fun n u e => by
    by_cases hn : n < S.length
    · rw [List.getElem?_append_left hn] at e
      obtain ⟨a, h1, h2⟩ := h.obj n u e
      refine ⟨a, (Ext.pushed (m := m) hp (.lst vs)).pre _ _ h1, ?_⟩
      cases u with
      | lst ds =>
        obtain ⟨ws, h2, h3⟩ := h2
        exact ⟨ws, by rw [upd_ne (ne_of_none h2 hp)]; exact h2, Reps.ext (Ext.pushed hp _) _ _ h3⟩
      | dic _ => exact h2.elim
    · have hi' := (List.getElem?_eq_some_iff.mp e).1
      rw [List.length_append] at hi'
      have : n = S.length := by simp at hi'; omega
      subst this
      simp at e
      subst e
      exact ⟨p, by rw [← h.len]; simp, vs, upd_same, Reps.ext (Ext.pushed hp _) _ _ r⟩
theorem RepS.set (h : RepS K H m S) {n : Nat} {a : Addr} {ds ds' : List D} {vs' : List V} (e : S[n]? = some (.lst ds)) (ha : m[n]? = some a) (r : Reps K H m ds' vs') :
    RepS K (upd H a (.lst vs')) m (S.set n (.lst ds')) := by
  obtain ⟨a', vs, h1, h2, h3⟩ := h.lst e
  rw [ha] at h1
  cases h1
  have ext : Ext m H m (upd H a (.lst vs')) := Ext.wrote (List.mem_of_getElem? ha) h2
  have hn : n < S.length := (List.getElem?_eq_some_iff.mp e).1
  refine ⟨by rw [List.length_set]; exact h.len, h.nd, fun i u q => ?_⟩
  by_cases hi : i = n
  · subst hi
    rw [List.getElem?_set_self hn] at q
    cases q
    exact ⟨a, ha, vs', upd_same, Reps.ext ext _ _ r⟩
  · rw [List.getElem?_set_ne (Ne.symm hi)] at q
    obtain ⟨b, g1, g2⟩ := h.obj i u q
    refine ⟨b, g1, ?_⟩
    cases u with
    | lst es =>
      obtain ⟨ws, g2, g3⟩ := g2
      refine ⟨ws, ?_, Reps.ext ext _ _ g3⟩
      have hne : b ≠ a := fun z => hi (h.nd i n a (by rw [← z]; exact g1) ha)
      rw [upd_ne hne]
      exact g2
    | dic _ => exact g2.elim

/-! ### slots -/
structure RepE (K : PySem.W.Frag) (H : Hp) (m : List Addr) (ρ : Env) (σ : St) : Prop where
  len : ρ.length = σ.length
  get : ∀ (i : Nat) (d : D), lk ρ i = some d → ∃ v, σ[i]? = some (some v) ∧ Rep K H m d v
theorem RepE.ext {ρ : Env} {σ : St} (r : RepE K H m ρ σ) (e : Ext m H m' H') : RepE K H' m' ρ σ := ⟨r.len, fun i d h => let ⟨v, h1, h2⟩ := r.get i d h; ⟨v, h1, Rep.ext e _ _ h2⟩⟩
theorem lk_up : ∀ (ρ : Env) (i j : Nat) (d : Option D), lk (up ρ i d) j = if j = i ∧ i < ρ.length then d else lk ρ j
  | [], i, j, d => by simp [up, lk]
  | x :: r, 0, 0, d => by simp [up, lk]
  | x :: r, 0, j + 1, d => by simp [up, lk]
  | x :: r, i + 1, 0, d => by simp [up, lk]
  | x :: r, i + 1, j + 1, d => by simp [up, lk, lk_up r i j d]
theorem up_len : ∀ (ρ : Env) (i : Nat) (d : Option D), (up ρ i d).length = ρ.length
  | [], _, _ => rfl
  | x :: r, 0, _ => rfl
  | x :: r, i + 1, d => by simp [up, up_len r i d]
theorem RepE.set {ρ : Env} {σ : St} (r : RepE K H m ρ σ) {d : D} {v : V} (q : Rep K H m d v) (i : Nat) : RepE K H m (up ρ i (some d)) (σ.set i (some v)) := by
  refine ⟨by rw [up_len, List.length_set]; exact r.len, fun j e h => ?_⟩
  rw [lk_up] at h
  by_cases hj : j = i ∧ i < ρ.length
  · rw [if_pos hj] at h
    cases h
    obtain ⟨rfl, hl⟩ := hj
    exact ⟨v, by rw [List.getElem?_set_self (by rw [← r.len]; exact hl)], q⟩
  · rw [if_neg hj] at h
    obtain ⟨w, h1, h2⟩ := r.get j e h
    refine ⟨w, ?_, h2⟩
    have hlt := (List.getElem?_eq_some_iff.mp h1).1
    by_cases hji : j = i
    · exact absurd ⟨hji, by rw [r.len, ← hji]; exact hlt⟩ hj
    · rw [List.getElem?_set_ne (Ne.symm hji)]
      exact h1
theorem RepE.drop1 {ρ : Env} {σ : St} (r : RepE K H m ρ σ) (i : Nat) : RepE K H m (up ρ i none) (σ.set i none) := by
  refine ⟨by rw [up_len, List.length_set]; exact r.len, fun j e h => ?_⟩
  rw [lk_up] at h
  by_cases hj : j = i ∧ i < ρ.length
  · rw [if_pos hj] at h; cases h
  · rw [if_neg hj] at h
    obtain ⟨w, h1, h2⟩ := r.get j e h
    have hlt := (List.getElem?_eq_some_iff.mp h1).1
    refine ⟨w, ?_, h2⟩
    by_cases hji : j = i
    · exact absurd ⟨hji, by rw [r.len, ← hji]; exact hlt⟩ hj
    · rw [List.getElem?_set_ne (Ne.symm hji)]
      exact h1
end
end DL
set_option Elab.async false
set_option linter.all false
set_option maxRecDepth 100000
set_option maxHeartbeats 4000000
/-! DL2: the parts as rules of the layer: tests, calls, displays, blocks, loops, comprehensions. -/
namespace DL
open PySem PySem.Spec
open L2 (V Hp HO St TE TT TA TS TG TI TO PE PT PW PA PS PSs PG PI PO Cx Inv RelV Vals SqL SqT Rd upd upd_same upd_ne ne_of ne_of_none OpR UnR CallR MtR IxR SlR It thn)

/-! ### from a part to the layer's reading -/
abbrev Kont (K : PySem.W.Frag) (m : List Addr) (H : Hp) (R : D → Sto → Prop) (Q : V → Hp → Prop) : Prop :=
  ∀ v d H' S' m', Ext m H m' H' → RepS K H' m' S' → Rep K H' m' d v → R d S' → Q v H'
def teOf (K : PySem.W.Frag) (w : WE) : TE := fun σ H Q => ∃ ρ S m R, RepE K H m ρ σ ∧ RepS K H m S ∧ w ρ S R ∧ Kont K m H R Q
def ttOf (K : PySem.W.Frag) (w : WT) : TT := fun σ H Q => ∃ ρ S m R, RepE K H m ρ σ ∧ RepS K H m S ∧ w ρ S R ∧ ∀ b H' S' m', Ext m H m' H' → RepS K H' m' S' → R b S' → Q b H'
def taOf (K : PySem.W.Frag) (w : WA) : TA := fun σ H Q => ∃ ρ S m R, RepE K H m ρ σ ∧ RepS K H m S ∧ w ρ S R ∧ ∀ vs ds H' S' m', Ext m H m' H' → RepS K H' m' S' → Reps K H' m' ds vs → R ds S' → Q vs H'
def toOf (K : PySem.W.Frag) (w : WP) : TO := fun σ H Q => ∃ ρ S m R, RepE K H m ρ σ ∧ RepS K H m S ∧ w ρ S R ∧ ∀ b H' S' m', Ext m H m' H' → RepS K H' m' S' → R b S' → Q b H'
/-- slots but those at vs as they were -/
def tgOf (K : PySem.W.Frag) (vs : List Nat) (g : WG) : TG := fun v σ H Q => ∃ d ρ S m R, RepE K H m ρ σ ∧ RepS K H m S ∧ Rep K H m d v ∧ g d ρ S R ∧
  ∀ σ' ρ' S' m' H', L2.wipe σ' vs = L2.wipe σ vs → Ext m H m' H' → RepS K H' m' S' → RepE K H' m' ρ' σ' → R ρ' S' → Q σ' H'
def tsOf (K : PySem.W.Frag) (w : WS) : TS := fun D σ H => ∃ ρ S m E, RepE K H m ρ σ ∧ RepS K H m S ∧ w E ρ S ∧
  (∀ σ' ρ' H' S' m', Ext m H m' H' → RepS K H' m' S' → RepE K H' m' ρ' σ' → E.nx ρ' S' → D.nx σ' H') ∧ Kont K m H E.rt D.rt ∧
  (∀ σ' ρ' H' S' m', Ext m H m' H' → RepS K H' m' S' → RepE K H' m' ρ' σ' → E.bk ρ' S' → D.bk σ' H') ∧
  (∀ σ' ρ' H' S' m', Ext m H m' H' → RepS K H' m' S' → RepE K H' m' ρ' σ' → E.ct ρ' S' → D.ct σ' H')
/-- the items that an iterator yields -/
def Yields (K : PySem.W.Frag) (J : It) (items : List D) (guard : Sto → Prop) (m0 : List Addr) (H0 : Hp) : Prop :=
  ∀ m H S, Ext m0 H0 m H → RepS K H m S → guard S → (∀ (i : Nat) (d : D), items[i]? = some d → J.go i H ∧ ∀ x H', J.yld i H x H' → ∃ m', Ext m H m' H' ∧ RepS K H' m' S ∧ Rep K H' m' d x) ∧ (∀ i : Nat, items.length ≤ i → J.stop i H)
def tiOf (K : PySem.W.Frag) (w : WI) : TI := fun σ H R => ∃ ρ S m Rd, RepE K H m ρ σ ∧ RepS K H m S ∧ w ρ S Rd ∧
  ∀ J items guard S' m' H', Ext m H m' H' → RepS K H' m' S' → Yields K J items guard m' H' → Rd items guard S' → R J H'
def r2Of (K : PySem.W.Frag) (r : R2) : L2.R2 := fun x y H Q => ∃ m S dx dy R, RepS K H m S ∧ Rep K H m dx x ∧ Rep K H m dy y ∧ r dx dy S R ∧ Kont K m H R Q
def r1Of (K : PySem.W.Frag) (r : R1) : V → Hp → L2.VK → Prop := fun x H Q => ∃ m S dx R, RepS K H m S ∧ Rep K H m dx x ∧ r dx S R ∧ Kont K m H R Q
def rlOf (K : PySem.W.Frag) (r : RL) : List V → Hp → L2.VK → Prop := fun xs H Q => ∃ m S ds R, RepS K H m S ∧ Reps K H m ds xs ∧ r ds S R ∧ Kont K m H R Q
def rmOf (K : PySem.W.Frag) (r : RM) : V → List V → Hp → L2.VK → Prop := fun x xs H Q => ∃ m S dx ds R, RepS K H m S ∧ Rep K H m dx x ∧ Reps K H m ds xs ∧ r dx ds S R ∧ Kont K m H R Q
def rsOf (K : PySem.W.Frag) (r : D → Option Int → Option Int → Sto → VK → Prop) : V → Option Int → Option Int → Hp → L2.VK → Prop := fun x lo hi H Q => ∃ m S dx R, RepS K H m S ∧ Rep K H m dx x ∧ r dx lo hi S R ∧ Kont K m H R Q
/-- a def's promise -/
def spOf (K : PySem.W.Frag) (n : Nat) (sp : Spc) : L2.Sp := fun vs H Q _ => ∃ m S ds R, RepS K H m S ∧ Reps K H m ds vs ∧ ds.length = n ∧ sp ds S R ∧ Kont K m H R Q

theorem Kont.ext {K : PySem.W.Frag} {m m1 : List Addr} {H H1 : Hp} {R : D → Sto → Prop} {Q : V → Hp → Prop} (k : Kont K m H R Q) (e : Ext m H m1 H1) : Kont K m1 H1 R Q :=
  fun v d H' S' m' e' s r q => k v d H' S' m' (e.trans e') s r q

section
variable {X : Cx} {e : Expr} {es : List Expr} {a b c : Expr} {pos : Pos}
theorem peI {t t' : TE} (h : PE X e t) (hi : ∀ σ H Q, t' σ H Q → t σ H Q) : PE X e t' := ⟨fun pins s σ H Q I q => h.run pins s σ H Q I (hi _ _ _ q)⟩
theorem ptI {t t' : TT} (h : PT X e t) (hi : ∀ σ H Q, t' σ H Q → t σ H Q) : PT X e t' := ⟨fun pins s σ H Q I q => h.run pins s σ H Q I (hi _ _ _ q)⟩
theorem pwI {t t' : TT} (h : PW X e t) (hi : ∀ σ H Q, t' σ H Q → t σ H Q) : PW X e t' := ⟨fun wh pins s σ H Q I q => h.run wh pins s σ H Q I (hi _ _ _ q)⟩
theorem paI {t t' : TA} (h : PA X es t) (hi : ∀ σ H Q, t' σ H Q → t σ H Q) : PA X es t' := ⟨fun p pins s σ H Q I q => h.run p pins s σ H Q I (hi _ _ _ q)⟩
theorem psI {st : Stmt} {t t' : TS} (h : PS X st t) (hi : ∀ D σ H, t' D σ H → t D σ H) : PS X st t' := ⟨fun pins s σ H D I q => h.run pins s σ H D I (hi _ _ _ q)⟩
theorem pssI {st : List Stmt} {t t' : TS} (h : PSs X st t) (hi : ∀ D σ H, t' D σ H → t D σ H) : PSs X st t' := ⟨fun pins s σ H D I q => h.run pins s σ H D I (hi _ _ _ q)⟩
theorem pgI {tg : Expr} {t t' : TG} (h : PG X tg t) (hi : ∀ v σ H Q, t' v σ H Q → t v σ H Q) : PG X tg t' := ⟨fun pins s σ H v u Q I r q => h.run pins s σ H v u Q I r (hi _ _ _ _ q)⟩
theorem piI {tg it : Expr} {t t' : TI} (h : PI X tg it t) (hi : ∀ σ H Q, t' σ H Q → t σ H Q) : PI X tg it t' := ⟨fun pins s σ H R I q => h.run pins s σ H R I (hi _ _ _ q)⟩

variable {wa wb wc : WE}
/-- the first part's end, the second part begun -/
theorem and2 {K : PySem.W.Frag} {σ : St} {H : Hp} {ρ : Env} {S : Sto} {m : List Addr} {R : D → D → Sto → Prop} {T : V → V → Hp → Prop} (hE : RepE K H m ρ σ) (hS : RepS K H m S)
    (h : wa ρ S fun x S1 => wb ρ S1 fun y S2 => R x y S2)
    (k : ∀ m2 H2 S2 v u x y, Ext m H m2 H2 → RepS K H2 m2 S2 → Rep K H2 m2 x v → Rep K H2 m2 y u → R x y S2 → T v u H2) :
    teOf K wa σ H fun v H1 => teOf K wb σ H1 fun u H2 => T v u H2 :=
  ⟨ρ, S, m, _, hE, hS, h, fun v x H1 S1 m1 e1 s1 r1 q1 => ⟨ρ, S1, m1, _, hE.ext e1, s1, q1, fun u y H2 S2 m2 e2 s2 r2 q2 => k m2 H2 S2 v u x y (e1.trans e2) s2 (Rep.ext e2 _ _ r1) r2 q2⟩⟩

/-! ### names, constants -/
theorem d_var (i : Nat) {x : Str} (hN : X.N[i]? = some x := by rfl) (hv : L2.Vis X.env.scope x := by first | exact Or.inl rfl | exact Or.inr (Or.inl rfl) | exact Or.inr (Or.inr rfl)) (hd : (x == ("__debug__" : Str)) = false := by decide)
    (hcd : (x == ("__classdict__" : Str)) = false := by decide) : PE X (.Name x pos) (teOf X.K (wVar i)) := peI (L2.pe_var (i := i) hN hv hd hcd) fun σ H Q ⟨ρ, S, m, R, hE, hS, h, k⟩ => by
  unfold wVar at h
  cases e : lk ρ i with
  | none => rw [e] at h; exact h.elim
  | some d =>
    rw [e] at h
    obtain ⟨v, h1, h2⟩ := hE.get i d e
    exact ⟨v, h1, k v d H S m (Ext.refl _ _) hS h2 h⟩
theorem d_int {i j} : PE X (.Constant (.int i) j pos) (teOf X.K (wC (.int i))) := peI L2.pe_int fun σ H Q ⟨ρ, S, m, R, hE, hS, h, k⟩ => k _ (.int i) H S m (Ext.refl _ _) hS rfl h
theorem d_bl {b j} : PE X (.Constant (.bool b) j pos) (teOf X.K (wC (.bl b))) := peI L2.pe_bl fun σ H Q ⟨ρ, S, m, R, hE, hS, h, k⟩ => k _ (.bl b) H S m (Ext.refl _ _) hS rfl h
theorem d_non {j} : PE X (.Constant .none j pos) (teOf X.K (wC .non)) := peI L2.pe_non fun σ H Q ⟨ρ, S, m, R, hE, hS, h, k⟩ => k _ .non H S m (Ext.refl _ _) hS rfl h
theorem d_str {x j} : PE X (.Constant (.str x) j pos) (teOf X.K (wC (.str x))) := peI L2.pe_str fun σ H Q ⟨ρ, S, m, R, hE, hS, h, k⟩ => k _ (.str x) H S m (Ext.refl _ _) hS rfl h
/-- a built-in type as a value -/
theorem d_ty {x : Str} {n : String} (hg : L2.Gl X x) (hm : X.mg x = none) (hv : bootBuiltins x = some (.type n)) (hn : x ≠ "__name__" := by decide) (hd : (x == ("__debug__" : Str)) = false := by decide) : PE X (.Name x pos) (teOf X.K (wC (.ty n))) :=
  peI (L2.pe_bltn (v := .ty n) hg hm hv rfl hn hd) fun σ H Q ⟨ρ, S, m, R, hE, hS, h, k⟩ => k _ (.ty n) H S m (Ext.refl _ _) hS rfl h
/-- a constant of the module -/
theorem d_glob {x : Str} {v : V} {u : Value} {d : D} (hg : L2.Gl X x) (hm : X.mg x = some u) (r : RelV v u) (hr : ∀ H m, Rep X.K H m d v) (hd : (x == ("__debug__" : Str)) = false := by decide) : PE X (.Name x pos) (teOf X.K (wC d)) :=
  peI (L2.pe_glob hg hm r hd) fun σ H Q ⟨ρ, S, m, R, hE, hS, h, k⟩ => k _ _ H S m (Ext.refl _ _) hS (hr H m) h

/-! ### operators -/
theorem d_op {op : Operator} {r : R2} (ho : OpR X (binaryOp op) (r2Of X.K r)) (ha : PE X a (teOf X.K wa)) (hb : PE X b (teOf X.K wb)) : PE X (.BinOp a op b pos) (teOf X.K (wOp r wa wb)) :=
  peI (L2.pe_op ho ha hb) fun σ H Q ⟨ρ, S, m, R, hE, hS, h, k⟩ => and2 hE hS h fun m2 H2 S2 v u x y e s rx ry q => ⟨m2, S2, x, y, R, s, rx, ry, q, k.ext e⟩
theorem d_un {op : UnaryOp} {r : R1} (ho : UnR X (unaryOp op) (r1Of X.K r)) (ha : PE X a (teOf X.K wa)) : PE X (.UnaryOp op a pos) (teOf X.K (wUn r wa)) :=
  peI (L2.pe_un ho ha) fun σ H Q ⟨ρ, S, m, R, hE, hS, h, k⟩ => ⟨ρ, S, m, _, hE, hS, h, fun v x H1 S1 m1 e1 s1 r1 q1 => ⟨m1, S1, x, R, s1, r1, q1, k.ext e1⟩⟩
theorem d_cmp {op : CmpOp} {r : R2} (ho : OpR X (compareOp op) (r2Of X.K r)) (ha : PE X a (teOf X.K wa)) (hb : PE X b (teOf X.K wb)) (hm : behindInMarks op b = false := by first | exact L2.nobehind _ (by decide) (by decide) | rfl) : PE X (.Compare a [op] [b] pos) (teOf X.K (wOp r wa wb)) :=
  peI (L2.pe_cmpR ho ha hb hm) fun σ H Q ⟨ρ, S, m, R, hE, hS, h, k⟩ => and2 hE hS h fun m2 H2 S2 v u x y e s rx ry q => ⟨m2, S2, x, y, R, s, rx, ry, q, k.ext e⟩
theorem d_ix {r : R2} (ho : IxR X (r2Of X.K r)) (ha : PE X a (teOf X.K wa)) (hb : PE X b (teOf X.K wb)) (hs : L2.PlainIx b := by intro _ _; rfl) : PE X (.Subscript a b pos) (teOf X.K (wOp r wa wb)) :=
  peI (L2.pe_ix ho ha hb hs) fun σ H Q ⟨ρ, S, m, R, hE, hS, h, k⟩ => and2 hE hS h fun m2 H2 S2 v u x y e s rx ry q => ⟨m2, S2, x, y, R, s, rx, ry, q, k.ext e⟩
theorem d_chain {op op' : CmpOp} {r r' : R2} (ho : OpR X (compareOp op) (r2Of X.K r)) (ho' : OpR X (compareOp op') (r2Of X.K r')) (ha : PE X a (teOf X.K wa)) (hb : PE X b (teOf X.K wb)) (hc : PE X c (teOf X.K wc)) (hm : lastMarks [op, op'] [b, c] = false := by rfl) :
    PE X (.Compare a [op, op'] [b, c] pos) (teOf X.K (wChain r r' wa wb wc)) :=
  peI (L2.pe_chain ho ho' ha hb hc (hm := hm)) fun σ H Q ⟨ρ, S, m, R, hE, hS, h, k⟩ => and2 hE hS h fun m2 H2 S2 v u x y e s rx ry q => ⟨m2, S2, x, y, _, s, rx, ry, q, fun z d H3 S3 m3 e3 s3 r3 q3 => by
    cases d with
    | bl kk =>
      refine ⟨kk, r3, ?_⟩
      have q3 : if kk = true then wc ρ S3 fun u S4 => r' y u S4 R else R (.bl false) S3 := q3
      by_cases hk : kk = true
      · rw [if_pos hk] at q3 ⊢
        exact ⟨ρ, S3, m3, _, hE.ext (e.trans e3), s3, q3, fun w d4 H4 S4 m4 e4 s4 r4 q4 => ⟨m4, S4, y, d4, R, s4, Rep.ext (e3.trans e4) _ _ ry, r4, q4, k.ext (e.trans (e3.trans e4))⟩⟩
      · rw [if_neg hk] at q3 ⊢
        exact k _ (.bl false) H3 S3 m3 (e.trans e3) s3 rfl q3
    | _ => exact (show False from q3).elim⟩

/-! ### tests -/
theorem dt_val (h : PE X e (teOf X.K wa)) (he : ∀ whole, isTrue e X.env whole = (do let v ← whole; standAt e.pos; holding [v] (truthy v)) := by intro _; rfl) : PT X e (ttOf X.K (wtVal wa)) :=
  ptI (L2.pt_val h he) fun σ H Q ⟨ρ, S, m, R, hE, hS, h, k⟩ => ⟨ρ, S, m, _, hE, hS, h, fun v d H' S' m' e s r q => by
    cases d with
    | bl b => exact ⟨b, r, k b H' S' m' e s q⟩
    | _ => exact (show False from q).elim⟩
theorem dt_cmp {op : CmpOp} {r : R2} (ho : OpR X (compareOp op) (r2Of X.K r)) (ha : PE X a (teOf X.K wa)) (hb : PE X b (teOf X.K wb)) (hm : behindInMarks op b = false := by first | exact L2.nobehind _ (by decide) (by decide) | rfl) : PT X (.Compare a [op] [b] pos) (ttOf X.K (wtVal (wOp r wa wb))) :=
  ptI (L2.pt_cmpR ho ha hb hm) fun σ H Q ⟨ρ, S, m, R, hE, hS, h, k⟩ => and2 hE hS h fun m2 H2 S2 v u x y e s rx ry q => ⟨m2, S2, x, y, _, s, rx, ry, q, fun z d H3 S3 m3 e3 s3 r3 q3 => by
    cases d with
    | bl kk => exact ⟨kk, r3, k kk H3 S3 m3 (e.trans e3) s3 q3⟩
    | _ => exact (show False from q3).elim⟩
theorem dt_chain {op op' : CmpOp} {r r' : R2} (ho : OpR X (compareOp op) (r2Of X.K r)) (ho' : OpR X (compareOp op') (r2Of X.K r')) (ha : PE X a (teOf X.K wa)) (hb : PE X b (teOf X.K wb)) (hc : PE X c (teOf X.K wc)) (hm : lastMarks [op, op'] [b, c] = false := by rfl) :
    PT X (.Compare a [op, op'] [b, c] pos) (ttOf X.K (wtVal (wChain r r' wa wb wc))) :=
  ptI (L2.pt_chain ho ho' ha hb hc (hm := hm)) fun σ H Q ⟨ρ, S, m, R, hE, hS, h, k⟩ => and2 hE hS h fun m2 H2 S2 v u x y e s rx ry q => ⟨m2, S2, x, y, _, s, rx, ry, q, fun z d H3 S3 m3 e3 s3 r3 q3 => by
    cases d with
    | bl kk =>
      refine ⟨kk, r3, ?_⟩
      have q3 : if kk = true then wc ρ S3 fun u S4 => r' y u S4 _ else _ := q3
      by_cases hk : kk = true
      · rw [if_pos hk] at q3 ⊢
        exact ⟨ρ, S3, m3, _, hE.ext (e.trans e3), s3, q3, fun w d4 H4 S4 m4 e4 s4 r4 q4 => ⟨m4, S4, y, d4, _, s4, Rep.ext (e3.trans e4) _ _ ry, r4, q4, fun v5 d5 H5 S5 m5 e5 s5 r5 q5 => by
          cases d5 with
          | bl k5 => exact ⟨k5, r5, k k5 H5 S5 m5 (e.trans (e3.trans (e4.trans e5))) s5 q5⟩
          | _ => exact (show False from q5).elim⟩⟩
      · rw [if_neg hk] at q3 ⊢
        exact ⟨false, rfl, k false H3 S3 m3 (e.trans e3) s3 q3⟩
    | _ => exact (show False from q3).elim⟩
variable {ta tb : WT} {rest : List Expr}
theorem dt_not (ha : PT X a (ttOf X.K ta)) : PT X (.UnaryOp .Not a pos) (ttOf X.K (wtNot ta)) :=
  ptI (L2.pt_not ha) fun σ H Q ⟨ρ, S, m, R, hE, hS, h, k⟩ => ⟨ρ, S, m, _, hE, hS, h, fun b H' S' m' e s q => k _ H' S' m' e s q⟩
theorem dw_and1 (ha : PT X a (ttOf X.K ta)) : PW X (.BoolOp .And [a] pos) (ttOf X.K ta) := L2.pw_and1 ha
theorem dw_or1 (ha : PT X a (ttOf X.K ta)) : PW X (.BoolOp .Or [a] pos) (ttOf X.K ta) := L2.pw_or1 ha
theorem dw_and (ha : PT X a (ttOf X.K ta)) (hb : PW X (.BoolOp .And (b :: rest) pos) (ttOf X.K tb)) : PW X (.BoolOp .And (a :: b :: rest) pos) (ttOf X.K (wtAnd ta tb)) :=
  pwI (L2.pw_and ha hb) fun σ H Q ⟨ρ, S, m, R, hE, hS, h, k⟩ => ⟨ρ, S, m, _, hE, hS, h, fun b H' S' m' e s q => by
    have q : if b = true then tb ρ S' R else R false S' := q
    show if b = true then ttOf X.K tb σ H' Q else Q false H'
    by_cases hb : b = true
    · rw [if_pos hb] at q ⊢
      exact ⟨ρ, S', m', R, hE.ext e, s, q, fun b2 H2 S2 m2 e2 s2 q2 => k b2 H2 S2 m2 (e.trans e2) s2 q2⟩
    · rw [if_neg hb] at q ⊢
      exact k _ H' S' m' e s q⟩
theorem dw_or (ha : PT X a (ttOf X.K ta)) (hb : PW X (.BoolOp .Or (b :: rest) pos) (ttOf X.K tb)) : PW X (.BoolOp .Or (a :: b :: rest) pos) (ttOf X.K (wtOr ta tb)) :=
  pwI (L2.pw_or ha hb) fun σ H Q ⟨ρ, S, m, R, hE, hS, h, k⟩ => ⟨ρ, S, m, _, hE, hS, h, fun b H' S' m' e s q => by
    have q : if b = true then R true S' else tb ρ S' R := q
    show if b = true then Q true H' else ttOf X.K tb σ H' Q
    by_cases hb : b = true
    · rw [if_pos hb] at q ⊢
      exact k _ H' S' m' e s q
    · rw [if_neg hb] at q ⊢
      exact ⟨ρ, S', m', R, hE.ext e, s, q, fun b2 H2 S2 m2 e2 s2 q2 => k b2 H2 S2 m2 (e.trans e2) s2 q2⟩⟩
/-! as values -/
theorem d_one {op} (h : PE X a (teOf X.K wa)) : PE X (.BoolOp op [a] pos) (teOf X.K wa) := L2.pe_one h
theorem d_and (ha : PE X a (teOf X.K wa)) (hb : PE X (.BoolOp .And (b :: rest) pos) (teOf X.K wb)) : PE X (.BoolOp .And (a :: b :: rest) pos) (teOf X.K (wAnd wa wb)) :=
  peI (L2.pe_and ha hb) fun σ H Q ⟨ρ, S, m, R, hE, hS, h, k⟩ => ⟨ρ, S, m, _, hE, hS, h, fun v d H' S' m' e s r q => by
    cases d with
    | bl c =>
      refine ⟨c, r, ?_⟩
      have q : if c = true then wb ρ S' R else R (.bl false) S' := q
      by_cases hb : c = true
      · rw [if_pos hb] at q ⊢
        exact ⟨ρ, S', m', R, hE.ext e, s, q, k.ext e⟩
      · rw [if_neg hb] at q ⊢
        exact k _ (.bl false) H' S' m' e s rfl q
    | _ => exact (show False from q).elim⟩
theorem d_or (ha : PE X a (teOf X.K wa)) (hb : PE X (.BoolOp .Or (b :: rest) pos) (teOf X.K wb)) : PE X (.BoolOp .Or (a :: b :: rest) pos) (teOf X.K (wOr wa wb)) :=
  peI (L2.pe_or ha hb) fun σ H Q ⟨ρ, S, m, R, hE, hS, h, k⟩ => ⟨ρ, S, m, _, hE, hS, h, fun v d H' S' m' e s r q => by
    cases d with
    | bl c =>
      refine ⟨c, r, ?_⟩
      have q : if c = true then R (.bl true) S' else wb ρ S' R := q
      by_cases hb : c = true
      · rw [if_pos hb] at q ⊢
        exact k _ (.bl true) H' S' m' e s rfl q
      · rw [if_neg hb] at q ⊢
        exact ⟨ρ, S', m', R, hE.ext e, s, q, k.ext e⟩
    | _ => exact (show False from q).elim⟩
theorem d_not (ha : PE X a (teOf X.K wa)) : PE X (.UnaryOp .Not a pos) (teOf X.K (wNot wa)) :=
  peI (L2.pe_not ha) fun σ H Q ⟨ρ, S, m, R, hE, hS, h, k⟩ => ⟨ρ, S, m, _, hE, hS, h, fun v d H' S' m' e s r q => by
    cases d with
    | bl c => exact ⟨c, r, k _ (.bl (!c)) H' S' m' e s rfl q⟩
    | _ => exact (show False from q).elim⟩
theorem d_if (hc : PT X c (ttOf X.K ta)) (ha : PE X a (teOf X.K wa)) (hb : PE X b (teOf X.K wb)) : PE X (.IfExp c a b pos) (teOf X.K (wIf ta wa wb)) :=
  peI (L2.pe_ifExp hc ha hb) fun σ H Q ⟨ρ, S, m, R, hE, hS, h, k⟩ => ⟨ρ, S, m, _, hE, hS, h, fun c H' S' m' e s q => by
    have q : if c = true then wa ρ S' R else wb ρ S' R := q
    show if c = true then teOf X.K wa σ H' Q else teOf X.K wb σ H' Q
    by_cases hb : c = true
    · rw [if_pos hb] at q ⊢
      exact ⟨ρ, S', m', R, hE.ext e, s, q, k.ext e⟩
    · rw [if_neg hb] at q ⊢
      exact ⟨ρ, S', m', R, hE.ext e, s, q, k.ext e⟩⟩

/-! ### displays, calls -/
variable {va : WA}
theorem da_nil : PA X [] (taOf X.K wNil) := paI L2.pa_nil fun σ H Q ⟨ρ, S, m, R, hE, hS, h, k⟩ => k [] [] H S m (Ext.refl _ _) hS rfl h
theorem da_cons (ha : PE X e (teOf X.K wa)) (hr : PA X es (taOf X.K va)) (hs : starEach (e :: es) X.env = (false, eval e X.env) :: starEach es X.env := by rfl) : PA X (e :: es) (taOf X.K (wCons wa va)) :=
  paI (L2.pa_cons ha hr hs) fun σ H Q ⟨ρ, S, m, R, hE, hS, h, k⟩ => ⟨ρ, S, m, _, hE, hS, h, fun v x H1 S1 m1 e1 s1 r1 q1 => ⟨ρ, S1, m1, _, hE.ext e1, s1, q1, fun vs xs H2 S2 m2 e2 s2 r2 q2 =>
    k (v :: vs) (x :: xs) H2 S2 m2 (e1.trans e2) s2 ⟨_, _, rfl, Rep.ext e2 _ _ r1, r2⟩ q2⟩⟩
theorem d_tup {x1} (h : PA X es (taOf X.K va)) : PE X (.Tuple es x1 pos) (teOf X.K (wTup va)) :=
  peI (L2.pe_tup h) fun σ H Q ⟨ρ, S, m, R, hE, hS, h, k⟩ => ⟨ρ, S, m, _, hE, hS, h, fun vs ds H1 S1 m1 e1 s1 r1 ⟨z, q1⟩ => ⟨by rw [r1.len]; exact z, fun p hp =>
    k _ (.tup ds) _ S1 m1 (e1.trans (Ext.fresh hp _)) (s1.fresh hp _) ⟨p, vs, rfl, L2.SqT.of upd_same, Reps.ext (Ext.fresh hp _) _ _ r1⟩ q1⟩⟩
theorem d_lst (h : PA X es (taOf X.K va)) : PE X (.List es pos) (teOf X.K (wLst va)) :=
  peI (L2.pe_lst h) fun σ H Q ⟨ρ, S, m, R, hE, hS, h, k⟩ => ⟨ρ, S, m, _, hE, hS, h, fun vs ds H1 S1 m1 e1 s1 r1 ⟨z, q1⟩ => ⟨by rw [r1.len]; exact z, fun p hp =>
    k _ (.ref S1.length) _ _ (m1 ++ [p]) (e1.trans (Ext.pushed hp _)) (s1.push hp r1) ⟨p, by rw [← s1.len]; simp, rfl⟩ q1⟩⟩
theorem d_call {n kk : Nat} {f : Addr} {fd : FuncData} {ps : List Str} {sp : Spc} {x : Str} {p : Pos} (F : L2.FnOk X.prog X.w X.K X.mg X.base L2.CX0 kk f fd ps (spOf X.K n sp)) (hr : L2.Room kk X.A) (hg : L2.Gl X x) (hm : X.mg x = some (.ref f))
    (hk : PySem.W.keepIn X.K (.ref f) = true) (hb : L2.Binds X.K fd ps []) (ha : PA X (e :: es) (taOf X.K va)) (hd : (x == ("__debug__" : Str)) = false := by decide)
    (he : starEach (e :: es) X.env = (false, eval e X.env) :: starEach es X.env := by rfl) (hpl : (backTo pos (starEach es X.env)).any (·.1) = false := by rfl) :
    PE X (.Call (.Name x p) (e :: es) [] pos) (teOf X.K (wCall n sp va)) :=
  peI (L2.pe_call (dvs := []) (ds := []) (E := L2.E0) F hr hg hm hk hb .nil L2.pass0 ha hd he hpl) fun σ H Q ⟨ρ, S, m, R, hE, hS, h, k⟩ => ⟨ρ, S, m, _, hE, hS, h, fun vs ds H1 S1 m1 e1 s1 r1 ⟨z, q1⟩ =>
    ⟨m1, S1, ds, R, s1, by rw [List.append_nil]; exact r1, z, q1, k.ext e1⟩⟩
theorem d_callB {id : String} {r : RL} {x : Str} {p : Pos} (hc : CallR X (.builtin id) (rlOf X.K r)) (hg : L2.Gl X x) (hm : X.mg x = none) (hv : bootBuiltins x = some (.builtin id)) (ha : PA X (e :: es) (taOf X.K va)) (hn : x ≠ "__name__" := by decide) (hdb : (x == ("__debug__" : Str)) = false := by decide)
    (he : starEach (e :: es) X.env = (false, eval e X.env) :: starEach es X.env := by rfl) (hpl : (backTo pos (starEach es X.env)).any (·.1) = false := by rfl) : PE X (.Call (.Name x p) (e :: es) [] pos) (teOf X.K (wB r va)) :=
  peI (L2.pe_callB hc hg hm hv ha hn hdb he hpl) fun σ H Q ⟨ρ, S, m, R, hE, hS, h, k⟩ => ⟨ρ, S, m, _, hE, hS, h, fun vs ds H1 S1 m1 e1 s1 r1 q1 => ⟨m1, S1, ds, R, s1, r1, q1, k.ext e1⟩⟩
theorem d_callT {id : String} {r : RL} {x : Str} {p : Pos} (hc : CallR X (.type id) (rlOf X.K r)) (hg : L2.Gl X x) (hm : X.mg x = none) (hv : bootBuiltins x = some (.type id)) (ha : PA X (e :: es) (taOf X.K va)) (hn : x ≠ "__name__" := by decide) (hdb : (x == ("__debug__" : Str)) = false := by decide)
    (he : starEach (e :: es) X.env = (false, eval e X.env) :: starEach es X.env := by rfl) (hpl : (backTo pos (starEach es X.env)).any (·.1) = false := by rfl) : PE X (.Call (.Name x p) (e :: es) [] pos) (teOf X.K (wB r va)) :=
  peI (L2.pe_callTy hc hg hm hv ha hn hdb he hpl) fun σ H Q ⟨ρ, S, m, R, hE, hS, h, k⟩ => ⟨ρ, S, m, _, hE, hS, h, fun vs ds H1 S1 m1 e1 s1 r1 q1 => ⟨m1, S1, ds, R, s1, r1, q1, k.ext e1⟩⟩
/-- a name of the module that holds a built-in function (math.gcd) -/
theorem d_callF {id : String} {r : RL} {x : Str} {p : Pos} (hc : CallR X (.builtin id) (rlOf X.K r)) (hg : L2.Gl X x) (hm : X.mg x = some (.builtin id)) (ha : PA X (e :: es) (taOf X.K va)) (hdb : (x == ("__debug__" : Str)) = false := by decide)
    (he : starEach (e :: es) X.env = (false, eval e X.env) :: starEach es X.env := by rfl) (hpl : (backTo pos (starEach es X.env)).any (·.1) = false := by rfl) : PE X (.Call (.Name x p) (e :: es) [] pos) (teOf X.K (wB r va)) :=
  peI (L2.pe_callBfun hc hg hm ha hdb he hpl) fun σ H Q ⟨ρ, S, m, R, hE, hS, h, k⟩ => ⟨ρ, S, m, _, hE, hS, h, fun vs ds H1 S1 m1 e1 s1 r1 q1 => ⟨m1, S1, ds, R, s1, r1, q1, k.ext e1⟩⟩
theorem isL_ty {K : PySem.W.Frag} {H : Hp} {m : List Addr} {S : Sto} {x : D} {v : V} (s : RepS K H m S) (r : Rep K H m x v) (h : isL x S) : L2.tyV K "list" v H := by
  cases x with
  | ref n =>
    obtain ⟨xs, h⟩ := h
    obtain ⟨a, vs, h1, h2, h3⟩ := s.lst h
    obtain ⟨b, g1, rfl⟩ := r
    rw [h1] at g1
    cases g1
    exact .inl ⟨rfl, vs, L2.SqL.of h2⟩
  | _ => exact (show False from h).elim
variable {o : Expr} {wo : WE}
theorem d_m {name : Str} {id : String} {r : RM} {apos cpos : Pos} (slot : Slot "list" name id) (hty : typeOf (.builtin id) = pure (.type "method_descriptor")) (hm : MtR X id (rmOf X.K r)) (ho : PE X o (teOf X.K wo)) (ha : PA X (e :: es) (taOf X.K va))
    (hbase : attributeBase o name X.env (eval o X.env) = eval o X.env := by rfl)
    (hfew : ((backTo cpos (starEach (e :: es) X.env)).all (fun x => !x.1) && (backToKw cpos (keywordEach [] X.env)).all (fun x => x.1.isSome)
      && decide ((e :: es).length + ([] : List Keyword).length + (if ([] : List Keyword).isEmpty then 0 else 1) < 30)) = true := by rfl)
    (hline : (apos.endLine == cpos.line) = true := by rfl) (hs : starEach (e :: es) X.env = (false, eval e X.env) :: starEach es X.env := by rfl) (hplain : (backTo cpos (starEach es X.env)).any (·.1) = false := by rfl) :
    PE X (.Call (.Attribute o name apos) (e :: es) [] cpos) (teOf X.K (wM r wo va)) :=
  peI (L2.pe_bm PySem.F.plainAttrs_list slot hty hm ho ha hbase hfew hline hs hplain) fun σ H Q ⟨ρ, S, m, R, hE, hS, h, k⟩ => ⟨ρ, S, m, _, hE, hS, h, fun v x H1 S1 m1 e1 s1 r1 ⟨z, q1⟩ =>
    ⟨isL_ty s1 r1 z, ρ, S1, m1, _, hE.ext e1, s1, q1, fun vs ds H2 S2 m2 e2 s2 r2 q2 => ⟨m2, S2, x, ds, R, s2, Rep.ext e2 _ _ r1, r2, q2, k.ext (e1.trans e2)⟩⟩⟩
theorem d_m0 {name : Str} {id : String} {r : RM} {apos cpos : Pos} (slot : Slot "list" name id) (hty : typeOf (.builtin id) = pure (.type "method_descriptor")) (hm : MtR X id (rmOf X.K r)) (ho : PE X o (teOf X.K wo))
    (hbase : attributeBase o name X.env (eval o X.env) = eval o X.env := by rfl) (hline : (apos.endLine == cpos.line) = true := by rfl) :
    PE X (.Call (.Attribute o name apos) [] [] cpos) (teOf X.K (wM0 r wo)) :=
  peI (L2.pe_bm0 PySem.F.plainAttrs_list slot hty hm ho hbase hline) fun σ H Q ⟨ρ, S, m, R, hE, hS, h, k⟩ => ⟨ρ, S, m, _, hE, hS, h, fun v x H1 S1 m1 e1 s1 r1 ⟨z, q1⟩ =>
    ⟨isL_ty s1 r1 z, m1, S1, x, [], R, s1, r1, rfl, q1, k.ext e1⟩⟩
/-! slices -/
theorem dp_no : PO X none (toOf X.K wPNo) := ⟨fun pins s σ H Q I ⟨ρ, S, m, R, hE, hS, h, k⟩ => L2.po_none.run pins s σ H Q I (k none H S m (Ext.refl _ _) hS h)⟩
theorem dp_at (h : PE X e (teOf X.K wa)) : PO X (some e) (toOf X.K (wPAt wa)) := ⟨fun pins s σ H Q I ⟨ρ, S, m, R, hE, hS, hw, k⟩ => (L2.po_some h).run pins s σ H Q I ⟨ρ, S, m, _, hE, hS, hw, fun v d H1 S1 m1 e1 s1 r1 q1 => by
    cases d with
    | int i => exact ⟨i, r1, k _ H1 S1 m1 e1 s1 q1⟩
    | _ => exact (show False from q1).elim⟩⟩
theorem d_sl {r : D → Option Int → Option Int → Sto → VK → Prop} {lo hi : Option Expr} {wl wh : WP} {p2 : Pos} (hr : SlR X (rsOf X.K r)) (ho : PE X o (teOf X.K wo)) (hl : PO X lo (toOf X.K wl)) (hh : PO X hi (toOf X.K wh)) :
    PE X (.Subscript o (.Slice lo hi none p2) pos) (teOf X.K (wSl r wo wl wh)) :=
  peI (L2.pe_slice hr ho hl hh) fun σ H Q ⟨ρ, S, m, R, hE, hS, h, k⟩ => ⟨ρ, S, m, _, hE, hS, h, fun v x H1 S1 m1 e1 s1 r1 q1 => ⟨ρ, S1, m1, _, hE.ext e1, s1, q1, fun i H2 S2 m2 e2 s2 q2 => ⟨ρ, S2, m2, _, hE.ext (e1.trans e2), s2, q2, fun j H3 S3 m3 e3 s3 q3 =>
    ⟨m3, S3, x, R, s3, Rep.ext (e2.trans e3) _ _ r1, q3, k.ext (e1.trans (e2.trans e3))⟩⟩⟩⟩
end
end DL
set_option Elab.async false
set_option linter.all false
set_option maxRecDepth 100000
set_option maxHeartbeats 4000000
/-! DL3: what is walked, targets, statements, loops, comprehensions, defs. -/
namespace DL
open PySem PySem.Spec
open L2 (V Hp HO St TE TT TA TS TG TI TO PE PT PW PA PS PSs PG PI PO Cx Inv RelV Vals SqL SqT Rd upd upd_same upd_ne ne_of ne_of_none OpR UnR CallR MtR IxR SlR It thn)

/-! ### what is walked -/
theorem yields_list {K : PySem.W.Frag} {m : List Addr} {H : Hp} {S : Sto} {n : Nat} {a : Addr} {xs : List D} (ha : m[n]? = some a) : Yields K (L2.Itl K a) xs (fun S' => S'[n]? = some (.lst xs)) m H := by
  intro m1 H1 S1 e s g
  obtain ⟨b, vs, h1, h2, h3⟩ := s.lst g
  have hb := e.pre n a ha
  rw [h1] at hb
  cases hb
  refine ⟨fun i d hd => ?_, fun i hi => ⟨vs, SqL.of h2, by rw [h3.len]; exact hi⟩⟩
  obtain ⟨v, g1, g2⟩ := h3.get i d hd
  exact ⟨⟨vs, v, SqL.of h2, g1⟩, fun x H' ⟨q1, q2⟩ => by
    subst q1
    have ex := q2 vs (SqL.of h2)
    rw [g1] at ex
    cases ex
    exact ⟨m1, Ext.refl _ _, s, g2⟩⟩
theorem yields_tup {K : PySem.W.Frag} {m : List Addr} {H : Hp} {a : Addr} {xs : List D} {vs : List V} (hT : SqT K H a vs) (r : Reps K H m xs vs) : Yields K (L2.Itt K a) xs (fun _ => True) m H := by
  intro m1 H1 S1 e s g
  have h3 := Reps.ext e _ _ r
  refine ⟨fun i d hd => ?_, fun i hi => ⟨vs, e.sqT hT, by rw [h3.len]; exact hi⟩⟩
  obtain ⟨v, g1, g2⟩ := h3.get i d hd
  exact ⟨⟨vs, v, e.sqT hT, g1⟩, fun x H' ⟨q1, q2⟩ => by
    subst q1
    have ex := q2 vs (e.sqT hT)
    rw [g1] at ex
    cases ex
    exact ⟨m1, Ext.refl _ _, s, g2⟩⟩
theorem yields_rol {K : PySem.W.Frag} {m : List Addr} {H : Hp} {a : Addr} {xs : List D} {vs : List V} (hT : RoL K H a vs) (r : Reps K H m xs vs) : Yields K (L2.Itl K a) xs (fun _ => True) m H := by
  intro m1 H1 S1 e s g
  have h3 := Reps.ext e _ _ r
  refine ⟨fun i d hd => ?_, fun i hi => ⟨vs, (e.ro hT).seq, by rw [h3.len]; exact hi⟩⟩
  obtain ⟨v, g1, g2⟩ := h3.get i d hd
  exact ⟨⟨vs, v, (e.ro hT).seq, g1⟩, fun x H' ⟨q1, q2⟩ => by
    subst q1
    have ex := q2 vs (e.ro hT).seq
    rw [g1] at ex
    cases ex
    exact ⟨m1, Ext.refl _ _, s, g2⟩⟩
theorem rangeD_getM {lo hi : Int} {i : Nat} {d : D} (h : (rangeD lo hi)[i]? = some d) : i < (hi - lo).toNat ∧ d = .int (lo + i) := by
  unfold rangeD at h
  rw [List.getElem?_map] at h
  by_cases hi : i < (hi - lo).toNat
  · rw [List.getElem?_range hi] at h
    exact ⟨hi, (Option.some.inj h).symm⟩
  · rw [List.getElem?_eq_none (by simpa using hi)] at h
    cases h
theorem rangeD_lenM (lo hi : Int) : (rangeD lo hi).length = (hi - lo).toNat := by simp [rangeD]
theorem yields_rng {K : PySem.W.Frag} {m : List Addr} {H : Hp} {lo hi : Int} : Yields K (L2.Itr lo (hi - lo).toNat) (rangeD lo hi) (fun _ => True) m H := by
  intro m1 H1 S1 e s g
  refine ⟨fun i d hd => ?_, fun i hi => by rw [rangeD_lenM] at hi; exact hi⟩
  obtain ⟨h1, h2⟩ := rangeD_getM hd
  exact ⟨h1, fun x H' ⟨q1, q2⟩ => ⟨m1, by rw [q1]; exact Ext.refl _ _, by rw [q1]; exact s, by rw [q2, h2]; rfl⟩⟩
section
variable {X : Cx} {tg : Expr} {wa wb : WE} {a b : Expr} {p pos : Pos}
theorem di_it {l : Expr} (hl : PE X l (teOf X.K wa)) : PI X tg l (tiOf X.K (wIt wa)) := by
  refine ⟨fun pins s σ H R I ⟨ρ, S, m, Rd, hE, hS, hw, k⟩ => ?_⟩
  refine thn (hl.run pins s σ H (fun v H1 => ∃ d S1 m1, Ext m H m1 H1 ∧ RepS X.K H1 m1 S1 ∧ Rep X.K H1 m1 d v ∧ (match d with
    | .tup xs => Rd xs (fun _ => True) S1
    | .rol xs => Rd xs (fun _ => True) S1
    | .ref n => match S1[n]? with
      | some (.lst xs) => Rd xs (fun S' => S'[n]? = some (.lst xs)) S1
      | _ => False
    | _ => False)) I ⟨ρ, S, m, _, hE, hS, hw, fun v d H1 S1 m1 e1 s1 r1 q1 => ⟨d, S1, m1, e1, s1, r1, q1⟩⟩) fun u s1 ⟨v, H1, I1, ru, d, S1, m1, e1, hs, rd, q⟩ => ?_
  have new : ∀ b ∈ [s1.heap.objs.size], L2.FpOk X pins H1 b := fun b hb => by
    rw [List.mem_singleton.mp hb]
    exact I1.fpOk (Nat.le_refl _) (I1.hok.fresh (Nat.le_refl _))
  cases d with
  | tup xs =>
    obtain ⟨a, vs, rfl, hT, rs⟩ := rd
    cases ru
    obtain ⟨its, rv, pt, _⟩ := I1.tuple hT
    refine wpAny_pyIter_tuple (show s1.heap.IsTuple a its.toArray from pt) ?_
    exact ⟨_, [s1.heap.objs.size], _, _, H1, rfl, I1.kept (t' := s1.toks) fun _ _ e => Heap.get?_push_of_some _ e, L2.turn_tuple a _, ⟨_, Heap.get?_push_size _ rfl, rfl, rfl⟩, new, k _ _ _ _ _ _ e1 hs (yields_tup hT rs) q⟩
  | rol xs =>
    obtain ⟨a, vs, rfl, hT, rs⟩ := rd
    cases ru
    obtain ⟨its, rv, pl, _⟩ := I1.list hT.seq
    refine wpAny_pyIter_list pl.isList ?_
    exact ⟨_, [s1.heap.objs.size], _, _, H1, rfl, I1.kept (t' := s1.toks) fun _ _ e => Heap.get?_push_of_some _ e, L2.turn_list a _, ⟨_, Heap.get?_push_size _ rfl, rfl, rfl⟩, new, k _ _ _ _ _ _ e1 hs (yields_rol hT rs) q⟩
  | ref n =>
    obtain ⟨a, ha, rfl⟩ := rd
    have q : (match S1[n]? with
      | some (.lst xs) => Rd xs (fun S' => S'[n]? = some (.lst xs)) S1
      | _ => False) := q
    split at q
    · rename_i xs hx
      obtain ⟨b, vs, h1, h2, h3⟩ := hs.lst hx
      rw [ha] at h1
      cases h1
      cases ru
      obtain ⟨its, rv, pl, _⟩ := I1.list (SqL.of h2)
      refine wpAny_pyIter_list pl.isList ?_
      exact ⟨_, [s1.heap.objs.size], _, _, H1, rfl, I1.kept (t' := s1.toks) fun _ _ e => Heap.get?_push_of_some _ e, L2.turn_list a _, ⟨_, Heap.get?_push_size _ rfl, rfl, rfl⟩, new, k _ _ _ _ _ _ e1 hs (yields_list (S := S1) ha) q⟩
    · exact q.elim
  | _ => exact (show False from q).elim
theorem di_r1 (hg : L2.Gl X "range") (hm : X.mg "range" = none) (ha : PE X a (teOf X.K wa)) (h1 : starEach [a] X.env = [(false, eval a X.env)] := by rfl) : PI X tg (.Call (.Name "range" p) [a] [] pos) (tiOf X.K (wR1 wa)) :=
  piI (L2.pi_range1 hg hm (da_cons ha da_nil h1) h1) fun σ H Q ⟨ρ, S, m, R, hE, hS, h, k⟩ => ⟨ρ, S, m, fun ds S1 => match ds with
    | [.int j] => smallI j ∧ R (rangeD 0 j) (fun _ => True) S1
    | _ => False, hE, hS, (by
      show wa ρ S _
      refine cast (congrArg (wa ρ S) ?_) h
      funext x S1
      cases x <;> rfl), fun vs ds H' S' m' e s r q => by
      match ds, q, r with
      | [.int j], ⟨⟨q1, q2⟩, q3⟩, ⟨v, r', hv, rv, rn⟩ =>
        rw [show r' = [] from rn] at hv
        refine ⟨j, by rw [hv, show v = V.int j from rv], q1, q2, ?_⟩
        have y := yields_rng (K := X.K) (m := m') (H := H') (lo := 0) (hi := j)
        rw [show j - 0 = j by omega] at y
        exact k _ _ _ _ _ _ e s y q3⟩
theorem di_r2 (hg : L2.Gl X "range") (hm : X.mg "range" = none) (ha : PE X a (teOf X.K wa)) (hb : PE X b (teOf X.K wb)) (h1 : starEach [a, b] X.env = [(false, eval a X.env), (false, eval b X.env)] := by rfl) (h2 : starEach [b] X.env = [(false, eval b X.env)] := by rfl) : PI X tg (.Call (.Name "range" p) [a, b] [] pos) (tiOf X.K (wR2 wa wb)) :=
  piI (L2.pi_range2 hg hm (da_cons ha (da_cons hb da_nil h2) (by rw [h1, h2])) h1 h2) fun σ H Q ⟨ρ, S, m, R, hE, hS, h, k⟩ => ⟨ρ, S, m, fun ds S1 => match ds with
    | [.int i, .int j] => smallI i ∧ smallI j ∧ R (rangeD i j) (fun _ => True) S1
    | _ => False, hE, hS, (by
      show wa ρ S _
      refine cast (congrArg (wa ρ S) ?_) h
      funext x S1
      show wb ρ S1 _ = wb ρ S1 _
      refine congrArg (wb ρ S1) ?_
      funext y S2
      cases x <;> cases y <;> rfl), fun vs ds H' S' m' e s r q => by
      match ds, q, r with
      | [.int i, .int j], ⟨⟨q1, q2⟩, ⟨q3, q4⟩, q5⟩, ⟨v, r', hv, rv, ⟨v2, r2, hv2, rv2, rn⟩⟩ =>
        rw [show r2 = [] from rn] at hv2
        rw [hv2] at hv
        exact ⟨i, j, by rw [hv, show v = V.int i from rv, show v2 = V.int j from rv2], ⟨q1, q2, q3, q4⟩, k _ _ _ _ _ _ e s yields_rng q5⟩⟩

/-! ### targets -/
theorem wipe_get (σ : St) : ∀ (vs : List Nat) (j : Nat), (L2.wipe σ vs)[j]? = if j ∈ vs then (if j < σ.length then some none else none) else σ[j]?
  | [], j => by simp [L2.wipe]
  | v :: vs, j => by
    unfold L2.wipe
    by_cases h : j = v
    · subst h
      rw [List.getElem?_set]
      simp [L2.wipe_length]
    · rw [List.getElem?_set_ne (Ne.symm h), wipe_get σ vs j]
      simp [h]
theorem wipe_set {σ : St} {i : Nat} {x : Option V} {vs : List Nat} (h : i ∈ vs) : L2.wipe (σ.set i x) vs = L2.wipe σ vs := by
  apply List.ext_getElem?
  intro j
  rw [wipe_get, wipe_get, List.length_set]
  by_cases hj : j ∈ vs
  · rw [if_pos hj, if_pos hj]
  · rw [if_neg hj, if_neg hj, List.getElem?_set_ne]
    intro z
    exact hj (z ▸ h)
theorem RepE.wipe {K : PySem.W.Frag} {H : Hp} {m : List Addr} {ρ : Env} {σ : St} (r : RepE K H m ρ σ) : ∀ vs : List Nat, RepE K H m (wipe ρ vs) (L2.wipe σ vs)
  | [] => r
  | v :: vs => (RepE.wipe r vs).drop1 v
theorem dg_name (i : Nat) {x : Str} (hN : X.N.Nodup) (hi : X.N[i]? = some x := by rfl) (hx : L2.Loc X.env.scope x := by first | exact Or.inl rfl | exact Or.inr rfl) (hf : X.fn x = true ∨ X.env.scope.names.lookup x = some .local := by first | exact .inl rfl | exact .inr rfl | assumption) : PG X (.Name x pos) (tgOf X.K [i] (gN i)) :=
  pgI (L2.pg_name hN hi hx hf) fun v σ H Q ⟨d, ρ, S, m, R, hE, hS, r, h, k⟩ => k _ _ _ _ _ (wipe_set (List.mem_singleton.mpr rfl)) (Ext.refl _ _) hS (hE.set r i) h
/-- several names -/
inductive Gs (X : Cx) : List Expr → List Nat → Prop where
  | nil : Gs X [] []
  | cons {e : Expr} {es : List Expr} {i : Nat} {is : List Nat} : PG X e (L2.gName i) → (assignEach (e :: es) X.env).map (·.2) = assign e X.env :: (assignEach es X.env).map (·.2) → Gs X es is → Gs X (e :: es) (i :: is)
theorem dgs_one (i : Nat) {x : Str} {es : List Expr} {is : List Nat} (hN : X.N.Nodup) (r : Gs X es is) (hi : X.N[i]? = some x := by rfl) (hx : L2.Loc X.env.scope x := by first | exact Or.inl rfl | exact Or.inr rfl) (hf : X.fn x = true ∨ X.env.scope.names.lookup x = some .local := by first | exact .inl rfl | exact .inr rfl | assumption)
    (hs : (assignEach (.Name x pos :: es) X.env).map (·.2) = assign (.Name x pos) X.env :: (assignEach es X.env).map (·.2) := by rfl) : Gs X (.Name x pos :: es) (i :: is) := .cons (L2.pg_name hN hi hx hf) hs r
/-- the layer's reading of several names -/
def tgs : List Nat → L2.TGs
  | [] => L2.gNil
  | i :: is => L2.gCons (L2.gName i) (tgs is)
theorem pgs_of {es : List Expr} {is : List Nat} (g : Gs X es is) : L2.PGs X es (tgs is) := by
  induction g with
  | nil => exact L2.pgs_nil
  | cons h hs _ ih => exact L2.pgs_cons h ih hs
theorem tgs_run {K : PySem.W.Frag} {H : Hp} {m : List Addr} {vs0 : List Nat} : ∀ (is : List Nat) (ds : List D) (vs : List V) (ρ ρ' : Env) (σ : St) (Q : St → Hp → Prop), Reps K H m ds vs → RepE K H m ρ σ → gNs is ds ρ = some ρ' → (∀ i ∈ is, i ∈ vs0) →
    (∀ σ', L2.wipe σ' vs0 = L2.wipe σ vs0 → RepE K H m ρ' σ' → Q σ' H) → tgs is vs σ H Q
  | [], [], vs, ρ, ρ', σ, Q, r, hE, h, _, k => by
    have h : some ρ = some ρ' := h
    cases h
    exact ⟨r, k σ rfl hE⟩
  | i :: is, d :: ds, vs, ρ, ρ', σ, Q, ⟨v, rr, hv, r1, r2⟩, hE, h, hi, k =>
    ⟨v, rr, hv, tgs_run is ds rr (up ρ i (some d)) ρ' (σ.set i (some v)) Q r2 (hE.set r1 i) h (fun j hj => hi j (List.mem_cons_of_mem _ hj)) fun σ' w e => k σ' (by rw [w, wipe_set (hi i List.mem_cons_self)]) e⟩
  | [], d :: ds, _, _, _, _, _, _, _, h, _, _ => by cases (show (none : Option Env) = some _ from h)
  | i :: is, [], _, _, _, _, _, _, _, h, _, _ => by cases (show (none : Option Env) = some _ from h)
theorem gNs_len : ∀ (is : List Nat) (ds : List D) (ρ ρ' : Env), gNs is ds ρ = some ρ' → ds.length = is.length
  | [], [], _, _, _ => rfl
  | _ :: is, _ :: ds, ρ, ρ', h => by rw [List.length_cons, List.length_cons, gNs_len is ds _ ρ' h]
  | [], _ :: _, _, _, h => by cases (show (none : Option Env) = some _ from h)
  | _ :: _, [], _, _, h => by cases (show (none : Option Env) = some _ from h)
theorem dg_tup {es : List Expr} {k : Nat} {is : List Nat} (hc : X.calm = true) (g : Gs X es is) (hn : (assignEach es X.env).length = is.length := by rfl) (hst : (assignEach es X.env).findIdx? (·.1) = none := by rfl) : PG X (.Tuple es k pos) (tgOf X.K is (gT is)) :=
  pgI (L2.pg_tup hc (pgs_of g) hn hst) fun v σ H Q ⟨d, ρ, S, m, R, hE, hS, r, h, kk⟩ => by
    cases d with
    | tup ds =>
      obtain ⟨a, vs, rfl, hT, rs⟩ := r
      have h : (match gNs is ds ρ with
        | some ρ' => R ρ' S
        | none => False) := h
      split at h
      · rename_i ρ' hg
        exact ⟨a, vs, rfl, hT, by rw [rs.len, gNs_len _ _ _ _ hg], tgs_run is ds vs ρ ρ' σ Q rs hE hg (fun _ h => h) fun σ' w e => kk σ' ρ' S m H w (Ext.refl _ _) hS e h⟩
      · exact h.elim
    | _ => exact (show False from h).elim

/-! ### statements -/
variable {e : Expr} {st : Stmt} {rest : List Stmt} {ws wu : WS}
theorem dss_nil : PSs X [] (tsOf X.K sNext) := pssI L2.pss_nil fun D σ H ⟨ρ, S, m, E, hE, hS, h, k, _⟩ => k σ ρ H S m (Ext.refl _ _) hS hE h
theorem dss_cons (h1 : PS X st (tsOf X.K ws)) (h2 : PSs X rest (tsOf X.K wu)) : PSs X (st :: rest) (tsOf X.K (sSeq ws wu)) :=
  pssI (L2.pss_cons h1 h2) fun D σ H ⟨ρ, S, m, E, hE, hS, h, k1, k2, k3, k4⟩ => ⟨ρ, S, m, { E with nx := wu E }, hE, hS, h, fun σ' ρ' H' S' m' e s r q =>
    ⟨ρ', S', m', E, r, s, q, fun σ2 ρ2 H2 S2 m2 e2 s2 r2 q2 => k1 σ2 ρ2 H2 S2 m2 (e.trans e2) s2 r2 q2, k2.ext e, fun σ2 ρ2 H2 S2 m2 e2 s2 r2 q2 => k3 σ2 ρ2 H2 S2 m2 (e.trans e2) s2 r2 q2, fun σ2 ρ2 H2 S2 m2 e2 s2 r2 q2 => k4 σ2 ρ2 H2 S2 m2 (e.trans e2) s2 r2 q2⟩, k2, k3, k4⟩
theorem dss_one (h1 : PS X st (tsOf X.K ws)) : PSs X [st] (tsOf X.K ws) := L2.pss_one h1
theorem ds_pass : PS X (.Pass pos) (tsOf X.K sNext) := psI L2.ps_pass fun D σ H ⟨ρ, S, m, E, hE, hS, h, k, _⟩ => k σ ρ H S m (Ext.refl _ _) hS hE h
theorem ds_break : PS X (.Break pos) (tsOf X.K sBreak) := psI L2.ps_break fun D σ H ⟨ρ, S, m, E, hE, hS, h, _, _, k, _⟩ => k σ ρ H S m (Ext.refl _ _) hS hE h
theorem ds_continue : PS X (.Continue pos) (tsOf X.K sCont) := psI L2.ps_continue fun D σ H ⟨ρ, S, m, E, hE, hS, h, _, _, _, k⟩ => k σ ρ H S m (Ext.refl _ _) hS hE h
theorem ds_expr (he : PE X e (teOf X.K wa)) (hs : swapsWith e none pos.line X.env = pure false := by rfl) : PS X (.Expr e pos) (tsOf X.K (sDrop wa)) :=
  psI (L2.ps_expr he hs) fun D σ H ⟨ρ, S, m, E, hE, hS, h, k, _⟩ => ⟨ρ, S, m, _, hE, hS, h, fun v d H1 S1 m1 e1 s1 r1 q1 => k σ ρ H1 S1 m1 e1 s1 (hE.ext e1) q1⟩
theorem ds_ret (he : PE X e (teOf X.K wa)) : PS X (.Return (some e) pos) (tsOf X.K (sRet wa)) :=
  psI (L2.ps_ret he) fun D σ H ⟨ρ, S, m, E, hE, hS, h, _, k, _⟩ => ⟨ρ, S, m, E.rt, hE, hS, h, k⟩
theorem ds_retN : PS X (.Return none pos) (tsOf X.K sRetN) :=
  psI L2.ps_retN fun D σ H ⟨ρ, S, m, E, hE, hS, h, _, k, _⟩ => k _ .non H S m (Ext.refl _ _) hS rfl h
theorem ds_if {c : Expr} {a b : List Stmt} {tc : WT} (hc : PT X c (ttOf X.K tc)) (ha : PSs X a (tsOf X.K ws)) (hb : PSs X b (tsOf X.K wu)) : PS X (.If c a b pos) (tsOf X.K (sIf tc ws wu)) :=
  psI (L2.ps_if hc ha hb) fun D σ H ⟨ρ, S, m, E, hE, hS, h, k1, k2, k3, k4⟩ => ⟨ρ, S, m, _, hE, hS, h, fun c H1 S1 m1 e1 s1 q => by
    have q : if c = true then ws E ρ S1 else wu E ρ S1 := q
    have go : ∀ w : WS, w E ρ S1 → tsOf X.K w D σ H1 := fun w q => ⟨ρ, S1, m1, E, hE.ext e1, s1, q, fun σ2 ρ2 H2 S2 m2 e2 s2 r2 q2 => k1 σ2 ρ2 H2 S2 m2 (e1.trans e2) s2 r2 q2, k2.ext e1, fun σ2 ρ2 H2 S2 m2 e2 s2 r2 q2 => k3 σ2 ρ2 H2 S2 m2 (e1.trans e2) s2 r2 q2, fun σ2 ρ2 H2 S2 m2 e2 s2 r2 q2 => k4 σ2 ρ2 H2 S2 m2 (e1.trans e2) s2 r2 q2⟩
    show if c = true then tsOf X.K ws D σ H1 else tsOf X.K wu D σ H1
    by_cases hb : c = true
    · rw [if_pos hb] at q ⊢
      exact go _ q
    · rw [if_neg hb] at q ⊢
      exact go _ q⟩
theorem ds_never : PS X st (tsOf X.K sNever) := psI L2.ps_never fun D σ H ⟨ρ, S, m, E, hE, hS, h, _⟩ => h
theorem dss_never {sts : List Stmt} : PSs X sts (tsOf X.K sNever) := pssI L2.pss_never fun D σ H ⟨ρ, S, m, E, hE, hS, h, _⟩ => h
theorem ds_asg {tg : Expr} {vs : List Nat} {g : WG} (he : PE X e (teOf X.K wa)) (hg : PG X tg (tgOf X.K vs g)) (hs : swapsWithSole [tg] e pos.line X.env = pure false := by rfl) (hw : swappedStores [tg] e X.env = pure none := by rfl)
    (h1 : (assignEach [tg] X.env).map (·.2) = [assign tg X.env] := by rfl) : PS X (.Assign [tg] e pos) (tsOf X.K (sAsg wa g)) :=
  psI (L2.ps_asg he hg hs hw h1) fun D σ H ⟨ρ, S, m, E, hE, hS, h, k, _⟩ => ⟨ρ, S, m, _, hE, hS, h, fun v d H1 S1 m1 e1 s1 r1 q1 => ⟨d, ρ, S1, m1, E.nx, hE.ext e1, s1, r1, q1, fun σ' ρ' S' m' H' _ e2 s2 r2 q2 => k σ' ρ' H' S' m' (e1.trans e2) s2 r2 q2⟩⟩
theorem ds_set (i : Nat) {x : Str} {pos' : Pos} (hN : X.N.Nodup) (he : PE X e (teOf X.K wa)) (hi : X.N[i]? = some x := by rfl) (hx : L2.Loc X.env.scope x := by first | exact Or.inl rfl | exact Or.inr rfl) (hs : swapsWith e (some (.Name x pos')) pos.line X.env = pure false := by rfl)
    (hf : X.fn x = true ∨ X.env.scope.names.lookup x = some .local := by first | exact .inl rfl | exact .inr rfl | assumption) : PS X (.Assign [.Name x pos'] e pos) (tsOf X.K (sAsg wa (gN i))) :=
  psI (L2.ps_set hN hi hx he hs hf) fun D σ H ⟨ρ, S, m, E, hE, hS, h, k, _⟩ => ⟨ρ, S, m, _, hE, hS, h, fun v d H1 S1 m1 e1 s1 r1 q1 => k _ _ H1 S1 m1 e1 s1 ((hE.ext e1).set r1 i) q1⟩
theorem ds_par (i j : Nat) {x y : Str} {px py pt : Pos} {kt k2 pt2} (hc : X.calm = true) (hN : X.N.Nodup) (ha : PE X a (teOf X.K wa)) (hb : PE X b (teOf X.K wb)) (hi : X.N[i]? = some x := by rfl) (hj : X.N[j]? = some y := by rfl) (hij : i ≠ j := by decide)
    (hx : X.env.scope.names.lookup x = some .local := by rfl) (hy : X.env.scope.names.lookup y = some .local := by rfl)
    (hw : swappedStores [.Tuple [.Name x px, .Name y py] kt pt] (.Tuple [a, b] k2 pt2) X.env = pure (some [x, y]) := by rfl)
    (hs : swapsWithSole [.Tuple [.Name x px, .Name y py] kt pt] (.Tuple [a, b] k2 pt2) pos.line X.env = pure false := by rfl)
    (e1 : starEach [a, b] X.env = (false, eval a X.env) :: starEach [b] X.env := by rfl) (e2 : starEach [b] X.env = (false, eval b X.env) :: starEach [] X.env := by rfl) :
    PS X (.Assign [.Tuple [.Name x px, .Name y py] kt pt] (.Tuple [a, b] k2 pt2) pos) (tsOf X.K (sPar i j wa wb)) :=
  psI (L2.ps_par hc hN hi hj hij hx hy (da_cons ha (da_cons hb da_nil e2) e1) hw hs) fun D σ H ⟨ρ, S, m, E, hE, hS, h, k, _⟩ =>
    ⟨ρ, S, m, fun ds S2 => match ds with
      | [d, d2] => E.nx (up (up ρ i (some d)) j (some d2)) S2
      | _ => False, hE, hS, h, fun vs ds H2 S2 m2 e s r q => by
      match ds, q, r with
      | [d, d2], q, ⟨v, r', hv, rv, ⟨v2, r2, hv2, rv2, rn⟩⟩ =>
        rw [show r2 = [] from rn] at hv2
        rw [hv2] at hv
        exact ⟨v, v2, hv, k _ _ H2 S2 m2 e s (((hE.ext e).set rv i).set rv2 j) q⟩⟩
theorem ds_aug (i : Nat) {x : Str} {op : Operator} {r : R2} {pos' : Pos} (hN : X.N.Nodup) (ho : OpR X (inplaceOp op) (r2Of X.K r)) (he : PE X e (teOf X.K wa)) (hi : X.N[i]? = some x := by rfl) (hx : L2.Loc X.env.scope x := by first | exact Or.inl rfl | exact Or.inr rfl)
    (hf : X.fn x = true ∨ X.env.scope.names.lookup x = some .local := by first | exact .inl rfl | exact .inr rfl | assumption) : PS X (.AugAssign (.Name x pos') op e pos) (tsOf X.K (sAug i wa r)) :=
  psI (L2.ps_aug hN hi hx he ho hf) fun D σ H ⟨ρ, S, m, E, hE, hS, h, k, _⟩ => by
    unfold sAug at h
    cases el : lk ρ i with
    | none => rw [el] at h; exact h.elim
    | some d =>
      rw [el] at h
      obtain ⟨v, h1, h2⟩ := hE.get i d el
      exact ⟨v, h1, ρ, S, m, _, hE, hS, h, fun u y H1 S1 m1 e1 s1 r1 q1 => ⟨m1, S1, d, y, _, s1, Rep.ext e1 _ _ h2, r1, q1, fun w z H2 S2 m2 e2 s2 r2 q2 => k _ _ H2 S2 m2 (e1.trans e2) s2 ((hE.ext (e1.trans e2)).set r2 i) q2⟩⟩
def rpOf (K : PySem.W.Frag) (r : D → D → D → Sto → (Sto → Prop) → Prop) : V → V → V → Hp → (Hp → Prop) → Prop := fun o i v H Q => ∃ m S x k d R, RepS K H m S ∧ Rep K H m x o ∧ Rep K H m k i ∧ Rep K H m d v ∧ r x k d S R ∧
  ∀ H' S' m', Ext m H m' H' → RepS K H' m' S' → R S' → Q H'
theorem ds_sub {o i : Expr} {wo wi : WE} {r : D → D → D → Sto → (Sto → Prop) → Prop} {spos : Pos} (hp : L2.PSet X (rpOf X.K r)) (he : PE X e (teOf X.K wa)) (ho : PE X o (teOf X.K wo)) (hi : PE X i (teOf X.K wi))
    (ha : ∀ v, assign (.Subscript o i spos) X.env v = (do
      let ov ← holding [v] (eval o X.env)
      let iv ← holding [v, ov] (eval i X.env)
      standAt spos
      holding [v, ov, iv] (setItem ov iv v)
      release [v, ov, iv] []) := by intro _; rfl)
    (hs : swapsWithSole [.Subscript o i spos] e pos.line X.env = pure false := by rfl) (hw : swappedStores [.Subscript o i spos] e X.env = pure none := by rfl)
    (h1 : (assignEach [.Subscript o i spos] X.env).map (·.2) = [assign (.Subscript o i spos) X.env] := by rfl) : PS X (.Assign [.Subscript o i spos] e pos) (tsOf X.K (sSub r wa wo wi)) :=
  psI (L2.ps_asg he (L2.pg_sub ho hi hp ha) hs hw h1) fun D σ H ⟨ρ, S, m, E, hE, hS, h, k, _⟩ => ⟨ρ, S, m, _, hE, hS, h, fun v d H1 S1 m1 e1 s1 r1 q1 => ⟨ρ, S1, m1, _, hE.ext e1, s1, q1, fun v2 x H2 S2 m2 e2 s2 r2 q2 =>
    ⟨ρ, S2, m2, _, hE.ext (e1.trans e2), s2, q2, fun v3 j H3 S3 m3 e3 s3 r3 q3 => ⟨m3, S3, x, j, d, _, s3, Rep.ext e3 _ _ r2, r3, Rep.ext (e2.trans e3) _ _ r1, q3, fun H4 S4 m4 e4 s4 q4 =>
      k σ ρ H4 S4 m4 (e1.trans (e2.trans (e3.trans e4))) s4 (hE.ext (e1.trans (e2.trans (e3.trans e4)))) q4⟩⟩⟩⟩
def rgOf (K : PySem.W.Frag) (r : R2) : V → V → Hp → L2.VK → Prop := r2Of K r
theorem ds_augSub {o i : Expr} {wo wi : WE} {rg ro : R2} {rs : D → D → D → Sto → (Sto → Prop) → Prop} {op : Operator} {spos : Pos} (hg : L2.PGet X (r2Of X.K rg)) (hop : OpR X (inplaceOp op) (r2Of X.K ro)) (hp : L2.PSet X (rpOf X.K rs))
    (ho : PE X o (teOf X.K wo)) (hi : PE X i (teOf X.K wi)) (he : PE X e (teOf X.K wa))
    (ha : ∀ ov iv new, augStore i ov iv new = (do holding [new, ov, iv] (setItem ov iv new); release [new, ov, iv] []; pure .next) := by intros; rfl) :
    PS X (.AugAssign (.Subscript o i spos) op e pos) (tsOf X.K (sAugSub rg ro rs wo wi wa)) :=
  psI (L2.ps_augS ho hi hg he hop hp ha) fun D σ H ⟨ρ, S, m, E, hE, hS, h, k, _⟩ => ⟨ρ, S, m, _, hE, hS, h, fun v x H1 S1 m1 e1 s1 r1 q1 => ⟨ρ, S1, m1, _, hE.ext e1, s1, q1, fun v2 j H2 S2 m2 e2 s2 r2 q2 =>
    ⟨m2, S2, x, j, _, s2, Rep.ext e2 _ _ r1, r2, q2, fun v3 z H3 S3 m3 e3 s3 r3 q3 => ⟨ρ, S3, m3, _, hE.ext (e1.trans (e2.trans e3)), s3, q3, fun v4 y H4 S4 m4 e4 s4 r4 q4 => ⟨m4, S4, z, y, _, s4, Rep.ext e4 _ _ r3, r4, q4, fun v5 u H5 S5 m5 e5 s5 r5 q5 =>
      ⟨m5, S5, x, j, u, _, s5, Rep.ext (e2.trans (e3.trans (e4.trans e5))) _ _ r1, Rep.ext (e3.trans (e4.trans e5)) _ _ r2, r5, q5, fun H6 S6 m6 e6 s6 q6 =>
        k σ ρ H6 S6 m6 (e1.trans (e2.trans (e3.trans (e4.trans (e5.trans e6))))) s6 (hE.ext (e1.trans (e2.trans (e3.trans (e4.trans (e5.trans e6)))))) q6⟩⟩⟩⟩⟩⟩

/-! ### loops -/
theorem ds_for {iter : Expr} {body : List Stmt} {wi : WI} {vs : List Nat} {g : WG} (hc : X.calm = true) (hp : PassesOwn (model X.prog X.w) X.A X.env X.xe) (hi : PI X tg iter (tiOf X.K wi)) (hg : PG X tg (tgOf X.K vs g)) (hb : PSs X body (tsOf X.K ws))
    (hs : ∀ x, foldedSetIterable iter X.env x = pure x := by intro _; rfl) : PS X (.For tg iter body [] pos) (tsOf X.K (sFor wi g ws)) :=
  psI (L2.ps_for hp hc hi hg hb hs) fun D σ H ⟨ρ, S, m, E, hE, hS, h, k1, k2, k3, k4⟩ => ⟨ρ, S, m, _, hE, hS, h, fun J items guard S1 m1 H1 e1 s1 y ⟨I, i0, ig, it, ie⟩ => by
    refine ⟨fun i n σ' H' => n = items.length - i ∧ ∃ ρ' S' m', Ext m1 H1 m' H' ∧ RepS X.K H' m' S' ∧ RepE X.K H' m' ρ' σ' ∧ I i ρ' S' ∧ i ≤ items.length, ⟨_, rfl, ρ, S1, m1, Ext.refl _ _, s1, hE.ext e1, i0, Nat.zero_le _⟩, ?_⟩
    rintro i n σ2 H2 ⟨hn, ρ2, S2, m2, e2, s2, r2, hI, hle⟩
    obtain ⟨yg, ys⟩ := y m2 H2 S2 e2 s2 (ig _ _ _ hI)
    by_cases hlt : i < items.length
    · obtain ⟨go, yd⟩ := yg i items[i] (List.getElem?_eq_getElem hlt)
      refine .inr ⟨go, fun σ' H' => ∃ ρ' S' m', Ext m1 H1 m' H' ∧ RepS X.K H' m' S' ∧ RepE X.K H' m' ρ' σ' ∧ I (i + 1) ρ' S', fun σ' H' ⟨ρ', S', m', e', s', r', hI'⟩ => ⟨_, by omega, rfl, ρ', S', m', e', s', r', hI', hlt⟩, fun x H' hy => ?_⟩
      obtain ⟨m3, e3, s3, rx⟩ := yd x H' hy
      refine ⟨items[i], ρ2, S2, m3, _, r2.ext e3, s3, rx, it i _ ρ2 S2 (List.getElem?_eq_getElem hlt) hI, fun σ4 ρ4 S4 m4 H4 _ e4 s4 r4 q4 => ⟨ρ4, S4, m4, _, r4, s4, q4, fun σ5 ρ5 H5 S5 m5 e5 s5 r5 q5 => ⟨ρ5, S5, m5, e2.trans (e3.trans (e4.trans e5)), s5, r5, q5⟩,
        (k2.ext (e1.trans (e2.trans (e3.trans e4)))), fun σ5 ρ5 H5 S5 m5 e5 s5 r5 q5 => k1 σ5 ρ5 H5 S5 m5 (e1.trans (e2.trans (e3.trans (e4.trans e5)))) s5 r5 q5, fun σ5 ρ5 H5 S5 m5 e5 s5 r5 q5 => ⟨ρ5, S5, m5, e2.trans (e3.trans (e4.trans e5)), s5, r5, q5⟩⟩⟩
    · have ei : i = items.length := by omega
      subst ei
      exact .inl ⟨ys _ (Nat.le_refl _), k1 σ2 ρ2 H2 S2 m2 (e1.trans e2) s2 r2 (ie _ _ hI)⟩⟩
theorem ds_while {c : Expr} {body : List Stmt} {tc : WT} (hp : PassesOwn (model X.prog X.w) X.A X.env X.xe) (hc : PT X c (ttOf X.K tc)) (hb : PSs X body (tsOf X.K ws)) : PS X (.While c body [] pos) (tsOf X.K (sWhile tc ws)) :=
  psI (L2.ps_while hp hc hb) fun D σ H ⟨ρ, S, m, E, hE, hS, ⟨I, ⟨n0, i0⟩, it⟩, k1, k2, k3, k4⟩ => by
    refine ⟨fun n σ' H' => ∃ ρ' S' m', Ext m H m' H' ∧ RepS X.K H' m' S' ∧ RepE X.K H' m' ρ' σ' ∧ I n ρ' S', ⟨n0, ρ, S, m, Ext.refl _ _, hS, hE, i0⟩, ?_⟩
    rintro n σ2 H2 ⟨ρ2, S2, m2, e2, s2, r2, hI⟩
    refine ⟨ρ2, S2, m2, _, r2, s2, it n ρ2 S2 hI, fun b H3 S3 m3 e3 s3 q => ?_⟩
    by_cases hbt : b = true
    · rw [if_pos hbt] at q ⊢
      refine ⟨fun σ' H' => ∃ n', n' < n ∧ ∃ ρ' S' m', Ext m H m' H' ∧ RepS X.K H' m' S' ∧ RepE X.K H' m' ρ' σ' ∧ I n' ρ' S', fun σ' H' h => h, ρ2, S3, m3, _, r2.ext e3, s3, q, fun σ5 ρ5 H5 S5 m5 e5 s5 r5 ⟨n', hn, q5⟩ => ⟨n', hn, ρ5, S5, m5, e2.trans (e3.trans e5), s5, r5, q5⟩,
        k2.ext (e2.trans e3), fun σ5 ρ5 H5 S5 m5 e5 s5 r5 q5 => k1 σ5 ρ5 H5 S5 m5 (e2.trans (e3.trans e5)) s5 r5 q5, fun σ5 ρ5 H5 S5 m5 e5 s5 r5 ⟨n', hn, q5⟩ => ⟨n', hn, ρ5, S5, m5, e2.trans (e3.trans e5), s5, r5, q5⟩⟩
    · rw [if_neg hbt] at q ⊢
      exact k1 σ2 ρ2 H3 S3 m3 (e2.trans e3) s3 (r2.ext e3) q
end
end DL
set_option Elab.async false
set_option linter.all false
set_option maxRecDepth 100000
set_option maxHeartbeats 4000000
/-! DL4: comprehensions, defs, the script. -/
namespace DL
open PySem PySem.Spec
open L2 (V Hp HO St TE TT TA TS TG TI TO PE PT PW PA PS PSs PG PI PO Cx Inv RelV Vals SqL SqT Rd upd upd_same upd_ne ne_of ne_of_none OpR UnR CallR MtR IxR SlR It thn)
section
variable {K : PySem.W.Frag} {m m' m1 : List Addr} {H H' H1 : Hp} {S S' : Sto}
/-- places stay, all but lists stay -/
structure Ex0 (m : List Addr) (H : Hp) (m' : List Addr) (H' : Hp) : Prop where
  pre : ∀ (n : Nat) (a : Addr), m[n]? = some a → m'[n]? = some a
  lst : ∀ (b : Addr) (o : HO), H b = some o → (∀ xs, o ≠ .lst xs) → H' b = some o
theorem Ex0.sqT (e : Ex0 m H m' H') {a : Addr} {vs : List V} (h : SqT K H a vs) : SqT K H' a vs := by
  rcases h with (h | ⟨o, h⟩) | h
  · exact .inl (.inl (e.lst _ _ h fun _ z => nomatch z))
  · exact .inl (.inr ⟨o, e.lst _ _ h fun _ z => nomatch z⟩)
  · exact .inr h
theorem Ex0.ro (e : Ex0 m H m' H') {a : Addr} {vs : List V} (h : RoL K H a vs) : RoL K H' a vs := by
  rcases h with ⟨o, h⟩ | h
  · exact .inl ⟨o, e.lst _ _ h fun _ z => nomatch z⟩
  · exact .inr h
mutual
theorem Rep.ext0 (e : Ex0 m H m' H') : ∀ (d : D) (v : V), Rep K H m d v → Rep K H' m' d v
  | .non, _, h => h
  | .bl _, _, h => h
  | .int _, _, h => h
  | .str _, _, h => h
  | .ty _, _, h => h
  | .ref _, _, ⟨a, h1, h2⟩ => ⟨a, e.pre _ _ h1, h2⟩
  | .tup ds, _, ⟨a, vs, h1, h2, h3⟩ => ⟨a, vs, h1, e.sqT h2, Reps.ext0 e ds vs h3⟩
  | .rol ds, _, ⟨a, vs, h1, h2, h3⟩ => ⟨a, vs, h1, e.ro h2, Reps.ext0 e ds vs h3⟩
theorem Reps.ext0 (e : Ex0 m H m' H') : ∀ (ds : List D) (vs : List V), Reps K H m ds vs → Reps K H' m' ds vs
  | [], _, h => h
  | d :: ds, _, ⟨v, r, h1, h2, h3⟩ => ⟨v, r, h1, Rep.ext0 e d v h2, Reps.ext0 e ds r h3⟩
end
/-- a list beside the store is written -/
theorem Ex0.side {a : Addr} {vs us : List V} (h : H a = some (.lst vs)) : Ex0 m H m (upd H a (.lst us)) where
  pre := fun _ _ h => h
  lst := fun b o q hl => by
    have hne : b ≠ a := fun z => by
      rw [z, h] at q
      exact hl vs (Option.some.inj q).symm
    rw [upd_ne hne]
    exact q
theorem RepS.side {a : Addr} {vs us : List V} (s : RepS K H m S) (h : H a = some (.lst vs)) (hn : a ∉ m) : RepS K (upd H a (.lst us)) m S where
  len := s.len
  nd := s.nd
  obj := fun n o e => by
    obtain ⟨b, h1, h2⟩ := s.obj n o e
    refine ⟨b, h1, ?_⟩
    have hne : b ≠ a := fun z => hn (by rw [← z]; exact List.mem_of_getElem? h1)
    cases o with
    | lst ds =>
      obtain ⟨ws, g1, g2⟩ := h2
      exact ⟨ws, by rw [upd_ne hne]; exact g1, Reps.ext0 (Ex0.side h) _ _ g2⟩
    | dic _ => exact h2.elim
theorem Ext.side {a : Addr} {o : HO} (e : Ext m H m' H') (h : H a = none) (hn : a ∉ m') : Ext m H m' (upd H' a o) where
  pre := e.pre
  keep := fun b u q hb => by rw [upd_ne (ne_of_none q h)]; exact e.keep b u q hb
  new := e.new
  lst := fun b u q hl => by rw [upd_ne (ne_of_none q h)]; exact e.lst b u q hl
/-- a list beside the store stands -/
theorem Ext.own {a : Addr} {o : HO} (e : Ext m H m' H') (h : H a = some o) (hn : a ∉ m) : H' a = some o ∧ a ∉ m' :=
  ⟨e.keep a o h hn, fun z => by
    rcases e.new a z with q | q
    · exact hn q
    · rw [h] at q; cases q⟩
theorem Ext.adopt {a : Addr} (e : Ext m H m' H') (h : H a = none) : Ext m H (m' ++ [a]) H' where
  pre := fun n b q => by
    have z := e.pre n b q
    rw [List.getElem?_append_left (List.getElem?_eq_some_iff.mp z).1]
    exact z
  keep := e.keep
  new := fun b hb => by
    rcases List.mem_append.mp hb with z | z
    · exact e.new b z
    · rw [List.mem_singleton.mp z]; exact .inr h
  lst := e.lst
theorem RepS.adopt {a : Addr} {ds : List D} {vs : List V} (s : RepS K H m S) (h : H a = some (.lst vs)) (hn : a ∉ m) (r : Reps K H m ds vs) : RepS K H (m ++ [a]) (S ++ [.lst ds]) where
  len := by rw [List.length_append, List.length_append, s.len]; rfl
  nd := fun i j b h1 h2 => by
    have pos : ∀ (i : Nat) (b : Addr), (m ++ [a])[i]? = some b → (m[i]? = some b ∧ b ≠ a) ∨ (i = m.length ∧ b = a) := fun i b e => by
      by_cases hi : i < m.length
      · rw [List.getElem?_append_left hi] at e
        exact .inl ⟨e, fun z => hn (by rw [← z]; exact List.mem_of_getElem? e)⟩
      · have hi' := (List.getElem?_eq_some_iff.mp e).1
        rw [List.length_append] at hi'
        have : i = m.length := by simp at hi'; omega
        subst this
        simp at e
        exact .inr ⟨rfl, e.symm⟩
    rcases pos i b h1 with ⟨e1, n1⟩ | ⟨e1, n1⟩ <;> rcases pos j b h2 with ⟨e2, n2⟩ | ⟨e2, n2⟩
    · exact s.nd i j b e1 e2
    · exact absurd n2 n1
    · exact absurd n1 n2
    · rw [e1, e2]
  obj := fun n u e => by
    have ex : Ex0 m H (m ++ [a]) H := ⟨fun n b q => by rw [List.getElem?_append_left (List.getElem?_eq_some_iff.mp q).1]; exact q, fun _ _ q _ => q⟩
    by_cases hl : n < S.length
    · rw [List.getElem?_append_left hl] at e
      obtain ⟨b, h1, h2⟩ := s.obj n u e
      refine ⟨b, ex.pre _ _ h1, ?_⟩
      cases u with
      | lst ds =>
        obtain ⟨ws, h2, h3⟩ := h2
        exact ⟨ws, h2, Reps.ext0 ex _ _ h3⟩
      | dic _ => exact h2.elim
    · have hi' := (List.getElem?_eq_some_iff.mp e).1
      rw [List.length_append] at hi'
      have : n = S.length := by simp at hi'; omega
      subst this
      simp at e
      subst e
      exact ⟨a, by rw [← s.len]; simp, vs, h, Reps.ext0 ex _ _ r⟩
end
theorem wipe_idem (σ : St) (vs : List Nat) : L2.wipe (L2.wipe σ vs) vs = L2.wipe σ vs := by
  apply List.ext_getElem?
  intro j
  rw [wipe_get, wipe_get, L2.wipe_length]
  by_cases hj : j ∈ vs
  · rw [if_pos hj, if_pos hj]
  · rw [if_neg hj, if_neg hj]
theorem szL_eq : szL = sizeLine := by rfl
section
variable {X : Cx}
theorem dts_nil : L2.PTs X [] (ttOf X.K wtYes) := ⟨fun pins s σ H Q I ⟨ρ, S, m, R, hE, hS, h, k⟩ => L2.pts_nil.run pins s σ H Q I (k true H S m (Ext.refl _ _) hS h)⟩
theorem dts_one {c : Expr} {t : WT} (h : PT X c (ttOf X.K t)) : L2.PTs X [c] (ttOf X.K t) := L2.pts_one h
theorem lc_read {wi : WI} {g : WG} {tt : WT} {te : WE} {vs : List Nat} (K : PySem.W.Frag) (σ : St) (H : Hp) (Q : L2.VK) (h : teOf K (wLc wi g tt te vs) σ H Q) : L2.tLc (tiOf K wi) (tgOf K vs g) (ttOf K tt) (teOf K te) vs σ H Q := by
  obtain ⟨ρ, S, m, R, hE, hS, h, k⟩ := h
  refine ⟨ρ, S, m, _, hE, hS, h, fun J items guard S1 m1 H1 e1 s1 y ⟨hz, I, i0, ig, it, ie⟩ D hD => ?_⟩
  have nD := s1.notin hD
  refine ⟨fun i n H' => n = items.length - i ∧ ∃ S' m' acc av, Ext m1 H1 m' H' ∧ RepS K H' m' S' ∧ D ∉ m' ∧ H' D = some (.lst av) ∧ Reps K H' m' acc av ∧ acc.length ≤ i ∧ I i acc S' ∧ i ≤ items.length,
    ⟨_, rfl, S1, m1, [], [], Ext.fresh hD _, s1.fresh hD _, nD, upd_same, rfl, Nat.le_refl _, i0, Nat.zero_le _⟩, ?_⟩
  rintro i n H2 ⟨hn, S2, m2, acc, av, e2, s2, n2, a2, r2, hl, hI, hle⟩
  obtain ⟨yg, ys⟩ := y m2 H2 S2 e2 s2 (ig _ _ _ hI)
  by_cases hlt : i < items.length
  · obtain ⟨go, yd⟩ := yg i items[i] (List.getElem?_eq_getElem hlt)
    refine .inr ⟨go, fun H' => ∃ S' m' acc av, Ext m1 H1 m' H' ∧ RepS K H' m' S' ∧ D ∉ m' ∧ H' D = some (.lst av) ∧ Reps K H' m' acc av ∧ acc.length ≤ i + 1 ∧ I (i + 1) acc S', fun H' ⟨S', m', acc', av', q1, q2, q3, q4, q5, q6, q7⟩ => ⟨_, by omega, rfl, S', m', acc', av', q1, q2, q3, q4, q5, q6, q7, hlt⟩, fun x H' hy => ?_⟩
    obtain ⟨m3, e3, s3, rx⟩ := yd x H' hy
    obtain ⟨a3, n3⟩ := e3.own a2 n2
    refine ⟨items[i], wipe ρ vs, S2, m3, _, (hE.ext (e1.trans (e2.trans e3))).wipe vs, s3, rx, it i _ acc S2 (List.getElem?_eq_getElem hlt) hI, fun σ4 ρ4 S4 m4 H4 w4 e4 s4 r4 q4 => ⟨by rw [w4, wipe_idem], ρ4, S4, m4, _, r4, s4, q4, fun b H5 S5 m5 e5 s5 q5 => ?_⟩⟩
    obtain ⟨a4, n4⟩ := e4.own a3 n3
    obtain ⟨a5, n5⟩ := e5.own a4 n4
    by_cases hb : b = true
    · rw [if_pos hb] at q5 ⊢
      refine ⟨ρ4, S5, m5, _, r4.ext e5, s5, q5, fun v d H6 S6 m6 e6 s6 r6 q6 => ?_⟩
      obtain ⟨a6, n6⟩ := e6.own a5 n5
      have racc := Reps.ext (e3.trans (e4.trans (e5.trans e6))) _ _ r2
      refine ⟨av, a6, by rw [racc.len, ← szL_eq]; omega, S6, m6, acc ++ [d], av ++ [v], (e2.trans (e3.trans (e4.trans (e5.trans e6)))).side hD n6, s6.side a6 n6, n6, upd_same, ?_, by rw [List.length_append]; simp; omega, q6⟩
      exact Reps.app (Reps.ext0 (Ex0.side a6) _ _ racc) (Reps.one (Rep.ext0 (Ex0.side a6) _ _ r6))
    · rw [if_neg hb] at q5 ⊢
      exact ⟨S5, m5, acc, av, e2.trans (e3.trans (e4.trans e5)), s5, n5, a5, Reps.ext (e3.trans (e4.trans e5)) _ _ r2, by omega, by simpa using q5⟩
  · have ei : i = items.length := by omega
    subst ei
    refine .inl ⟨ys _ (Nat.le_refl _), k _ (.ref S2.length) H2 (S2 ++ [.lst acc]) (m2 ++ [D]) (e1.trans (e2.adopt hD)) (s2.adopt a2 n2 r2) ⟨D, by rw [← s2.len]; simp, rfl⟩ (ie _ _ hI)⟩
theorem d_lc {elt tg iter : Expr} {ifs : List Expr} {scope : Scope} {own : List (Str × Nat)} {pos : Pos} {wi : WI} {g : WG} {tt : WT} {te : WE} (hc : X.calm = true) (hN : X.N.Nodup) (hi : PI X tg iter (tiOf X.K wi)) (ok : L2.BlkOk X.N X.env.scope scope own)
    (hg : ∀ (s : Shared) (H : Hp) (C : Addr) (cl : List (Str × Addr)) (fp : List Addr), PG (X.blk s H scope (compEnvC scope cl C X.env) fp) tg (tgOf X.K (own.map (·.2)) g))
    (ht : ∀ (s : Shared) (H : Hp) (C : Addr) (cl : List (Str × Addr)) (fp : List Addr), L2.PTs (X.blk s H scope (compEnvC scope cl C X.env) fp) ifs (ttOf X.K tt))
    (he : ∀ (s : Shared) (H : Hp) (C : Addr) (cl : List (Str × Addr)) (fp : List Addr), PE (X.blk s H scope (compEnvC scope cl C X.env) fp) elt (teOf X.K te)) (hs : ∀ x, foldedSetIterable iter X.env x = pure x := by intro _; rfl) :
    PE X (.ListComp elt [⟨tg, iter, ifs, 0⟩] scope pos) (teOf X.K (wLc wi g tt te (own.map (·.2)))) :=
  peI (L2.pe_lc hc hN hi ok hg ht he hs) fun σ H Q h => lc_read X.K σ H Q h
/-- name = [..] on one line, the name a local -/
theorem ds_setLc (i : Nat) {y : Str} {py : Pos} {elt tg iter : Expr} {ifs : List Expr} {scope : Scope} {own : List (Str × Nat)} {pos spos : Pos} {wi : WI} {g : WG} {tt : WT} {te : WE} (hc : X.calm = true) (hN : X.N.Nodup) (hi : PI X tg iter (tiOf X.K wi)) (ok : L2.BlkOk X.N X.env.scope scope own)
    (hg : ∀ (s : Shared) (H : Hp) (C : Addr) (cl : List (Str × Addr)) (fp : List Addr), PG (X.blk s H scope (compEnvC scope cl C X.env) fp) tg (tgOf X.K (own.map (·.2)) g))
    (ht : ∀ (s : Shared) (H : Hp) (C : Addr) (cl : List (Str × Addr)) (fp : List Addr), L2.PTs (X.blk s H scope (compEnvC scope cl C X.env) fp) ifs (ttOf X.K tt))
    (he : ∀ (s : Shared) (H : Hp) (C : Addr) (cl : List (Str × Addr)) (fp : List Addr), PE (X.blk s H scope (compEnvC scope cl C X.env) fp) elt (teOf X.K te))
    (hsw : swapsWith (.ListComp elt [⟨tg, iter, ifs, 0⟩] scope pos) (some (.Name y py)) spos.line X.env = pure true) (hy : X.N[i]? = some y := by rfl) (hyl : X.env.scope.names.lookup y = some .local := by rfl)
    (hs : ∀ x, foldedSetIterable iter X.env x = pure x := by intro _; rfl) :
    PS X (.Assign [.Name y py] (.ListComp elt [⟨tg, iter, ifs, 0⟩] scope pos) spos) (tsOf X.K (sAsg (wLc wi g tt te (own.map (·.2))) (gN i))) :=
  psI (L2.ps_setLc hc hN hy hyl hsw hi ok hg ht he hs) fun Dd σ H ⟨ρ, S, m, E, hE, hS, h, k, _⟩ => lc_read X.K σ H _ ⟨ρ, S, m, _, hE, hS, h, fun v d H1 S1 m1 e1 s1 r1 q1 => k _ _ H1 S1 m1 e1 s1 ((hE.ext e1).set r1 i) q1⟩
end

/-! ### defs -/
theorem lk_start : ∀ (ds : List D) (n i : Nat) (d : D), lk (ds.map some ++ List.replicate n none) i = some d → ds[i]? = some d
  | [], n, i, d, h => by
    exfalso
    rw [List.map_nil, List.nil_append] at h
    induction n generalizing i with
    | zero => cases (show (none : Option D) = some d from h)
    | succ n ih =>
      rw [List.replicate_succ] at h
      cases i with
      | zero => cases (show (none : Option D) = some d from h)
      | succ i => exact ih i h
  | x :: ds, n, 0, d, h => by
    have h : some x = some d := h
    cases h
    rfl
  | x :: ds, n, i + 1, d, h => by
    have := lk_start ds n i d h
    simpa using this
theorem rep_start {K : PySem.W.Frag} {H : Hp} {m : List Addr} {ds : List D} {vs : List V} {N : List Str} (r : Reps K H m ds vs) : RepE K H m (start N.length ds) (L2.start N vs) := by
  refine ⟨by simp [start, L2.start, r.len], fun i d h => ?_⟩
  obtain ⟨v, h1, h2⟩ := r.get i d (lk_start _ _ _ _ h)
  refine ⟨v, ?_, h2⟩
  unfold L2.start
  rw [List.getElem?_append_left (by rw [List.length_map]; exact (List.getElem?_eq_some_iff.mp h1).1), List.getElem?_map, h1]
  rfl
section
variable {P : Program} {w : World} {K : PySem.W.Frag} {mg : Str → Option Value} {base : Heap}
/-- THE RULE for a def -/
theorem fn_body {x qual : Str} {st : Stmt} {f : Addr} {fd : FuncData} {N ps : List Str} {k n a : Nat} {sp : Spc} {ws : WS} (F : L2.Fun K x qual st f fd) (Sc : L2.FnScope N ps (L2.defScope st)) (hn : N.length = n) (ha : ps.length = a)
    (hw : ∀ (cdv : Value) (A : Around) (outer : List PySem.Env) (s : Shared) (H : Hp) (E : L2.XK), L2.Room k (A.deeper (PyProof.Rows.envOfC qual (L2.defScope st) s.heap.objs.size f cdv)) →
      PSs (L2.cxOf L2.CX0 P w K mg base N qual (L2.defScope st) f cdv A outer s H E).nox (L2.defBody st) (tsOf K ws)) (hb : Body n a ws sp) : L2.FnOk P w K mg base L2.CX0 (k + 1) f fd ps (spOf K a sp) := by
  refine F.ok Sc (fun vs H Q E ⟨m, S, ds, R, s, r, l, _⟩ => by rw [r.len, l, ha]) (fun cdv A outer s H vs Q E hr ⟨m, S, ds, R, hS, r, l, h, kk⟩ => ⟨_, hw cdv A outer s H E hr, ?_⟩)
  refine ⟨start N.length ds, S, m, { nx := fun _ S' => R .non S', rt := R, bk := fun _ _ => False, ct := fun _ _ => False }, rep_start r, hS, ?_, fun σ' ρ' H' S' m' e s r q => kk .non .non H' S' m' e s rfl q, kk, fun σ' ρ' H' S' m' e s r q => q.elim, fun σ' ρ' H' S' m' e s r q => q.elim⟩
  rw [hn]
  exact hb ds S R l h
/-- a law's promise from that of its def -/
theorem law_sp {sp : Spc} {H : Hp} {a : Addr} {ns : List Int} (hO : L2.Only H) (hS : SqL K H a (ns.map V.int)) (h : sp [.rol (intD ns)] [] fun d _ => d = .bl true) : spOf K 1 sp [.ref a] H (fun v _ => v = .bl true) fun _ _ _ => False := by
  refine ⟨[], [], [.rol (intD ns)], _, ⟨rfl, fun i j a h => by simp at h, fun n o h => by simp at h⟩, ⟨_, [], rfl, ⟨a, _, rfl, ?_, Reps.of_ints⟩, rfl⟩, rfl, h, fun v d H' S' m' e s r q => ?_⟩
  · rcases hS with (h | h) | h
    · rcases hO a with z | ⟨o, xs, z⟩
      · rw [h] at z; cases z
      · rw [h] at z; cases z
    · exact .inl h
    · exact .inr h
  · rw [q] at r
    exact r
end
end DL
set_option Elab.async false
set_option linter.all false
set_option maxRecDepth 100000
set_option maxHeartbeats 4000000
/-! DL5: operations by values. -/
namespace DL
open PySem PySem.Spec
open L2 (V Hp HO St TE TT TA TS TG TI TO PE PT PW PA PS PSs PG PI PO Cx Inv RelV Vals SqL SqT Rd upd upd_same upd_ne ne_of ne_of_none OpR UnR CallR MtR IxR SlR It thn)
section
variable {X : Cx}
/-- a rule between values, from one by the layer -/
theorem r2I {f : Value → Value → Sem Value} {r : L2.R2} {q : R2} (h : OpR X f r) (hi : ∀ x y H Q, r2Of X.K q x y H Q → r x y H Q) : OpR X f (r2Of X.K q) := fun pins s σ H x y v u Q I rx ry hq => h pins s σ H x y v u Q I rx ry (hi _ _ _ _ hq)
theorem r1I {f : Value → Sem Value} {r : V → Hp → L2.VK → Prop} {q : R1} (h : UnR X f r) (hi : ∀ x H Q, r1Of X.K q x H Q → r x H Q) : UnR X f (r1Of X.K q) := fun pins s σ H x v Q I rx hq => h pins s σ H x v Q I rx (hi _ _ _ hq)
theorem rlI {f : Value} {r : List V → Hp → L2.VK → Prop} {q : RL} (h : CallR X f r) (hi : ∀ x H Q, rlOf X.K q x H Q → r x H Q) : CallR X f (rlOf X.K q) := fun pins s σ H x v Q I rx hq => h pins s σ H x v Q I rx (hi _ _ _ hq)
theorem rmI {id : String} {r : V → List V → Hp → L2.VK → Prop} {q : RM} (h : MtR X id r) (hi : ∀ x xs H Q, rmOf X.K q x xs H Q → r x xs H Q) : MtR X id (rmOf X.K q) := fun pins s σ H x xs v us Q I rx rxs hq => h pins s σ H x xs v us Q I rx rxs (hi _ _ _ _ hq)
theorem rix {r : L2.R2} {q : R2} (h : IxR X r) (hi : ∀ x y H Q, r2Of X.K q x y H Q → r x y H Q) : IxR X (r2Of X.K q) := fun e1 e2 pins s σ H x y v u Q I rx ry hq hs => h e1 e2 pins s σ H x y v u Q I rx ry (hi _ _ _ _ hq) hs
theorem rsl {r : V → Option Int → Option Int → Hp → L2.VK → Prop} {q : D → Option Int → Option Int → Sto → VK → Prop} (h : SlR X r) (hi : ∀ x l u H Q, rsOf X.K q x l u H Q → r x l u H Q) : SlR X (rsOf X.K q) := fun pins s σ H x v vl vu lo hi' sl Q I rx hs p1 p2 hq => h pins s σ H x v vl vu lo hi' sl Q I rx hs p1 p2 (hi _ _ _ _ _ hq)
theorem isLst_iff {S : Sto} {n : Nat} {P : List D → Prop} : isLst S n P ↔ ∃ xs, S[n]? = some (.lst xs) ∧ P xs := by
  unfold isLst
  constructor
  · intro h
    split at h
    · rename_i xs e
      exact ⟨xs, e, h⟩
    · exact h.elim
  · rintro ⟨xs, e, h⟩
    rw [e]
    exact h
/-- a new tuple, a new list -/
theorem Kont.tup {K : PySem.W.Frag} {m : List Addr} {H : Hp} {S : Sto} {R : D → Sto → Prop} {Q : V → Hp → Prop} (k : Kont K m H R Q) (s : RepS K H m S) {ds : List D} {vs : List V} (r : Reps K H m ds vs) (q : R (.tup ds) S) : ∀ p, H p = none → Q (.ref p) (upd H p (.tup vs)) :=
  fun p hp => k _ (.tup ds) _ S m (Ext.fresh hp _) (s.fresh hp _) ⟨p, vs, rfl, SqT.of upd_same, Reps.ext (Ext.fresh hp _) _ _ r⟩ q
theorem Kont.lst {K : PySem.W.Frag} {m : List Addr} {H : Hp} {S : Sto} {R : D → Sto → Prop} {Q : V → Hp → Prop} (k : Kont K m H R Q) (s : RepS K H m S) {ds : List D} {vs : List V} (r : Reps K H m ds vs) (q : R (.ref S.length) (S ++ [.lst ds])) : ∀ p, H p = none → Q (.ref p) (upd H p (.lst vs)) :=
  fun p hp => k _ (.ref S.length) _ _ (m ++ [p]) (Ext.pushed hp _) (s.push hp r) ⟨p, by rw [← s.len]; simp, rfl⟩ q
/-- a list written -/
theorem Kont.put {K : PySem.W.Frag} {m : List Addr} {H : Hp} {S : Sto} {R : D → Sto → Prop} {Q : V → Hp → Prop} (k : Kont K m H R Q) (s : RepS K H m S) {n : Nat} {a : Addr} {ds ds' : List D} {vs vs' : List V} {d : D} {v : V} (e : S[n]? = some (.lst ds)) (ha : m[n]? = some a) (hv : H a = some (.lst vs)) (r : Reps K H m ds' vs')
    (rd : Rep K H m d v) (q : R d (S.set n (.lst ds'))) : Q v (upd H a (.lst vs')) :=
  k v d _ _ m (Ext.wrote (List.mem_of_getElem? ha) hv) (s.set e ha r) (Rep.ext (Ext.wrote (List.mem_of_getElem? ha) hv) _ _ rd) q

theorem szL' : szL = sizeLine := szL_eq
theorem o_add : OpR X (binaryOp .Add) (r2Of X.K rAdd) :=
  r2I ((((L2.op_add (X := X)).or L2.op_catA).or L2.op_add_str).or L2.op_cat) fun x y H Q ⟨m, S, d, e, R, s, rx, ry, h, k⟩ => by
    cases d with
    | int i => cases e with
      | int j => exact .inl (.inl (.inl ⟨i, j, rx, ry, k _ (.int (i + j)) H S m (Ext.refl _ _) s rfl h⟩))
      | _ => exact (show False from h).elim
    | tup xs => cases e with
      | tup ys =>
        obtain ⟨a, vs, rfl, hT, r1⟩ := rx
        obtain ⟨b, us, rfl, hU, r2⟩ := ry
        obtain ⟨hz, q⟩ := h
        refine .inl (.inl (.inr ⟨a, b, vs, us, rfl, rfl, hT, hU, by rw [r1.len, r2.len, ← szL']; exact hz, fun e => ?_, fun _ e => ?_, fun _ _ => k.tup s (r1.app r2) q⟩))
        · subst e
          have : xs = [] := List.eq_nil_of_length_eq_zero (by rw [← r1.len]; rfl)
          subst this
          exact k _ (.tup ys) H S m (Ext.refl _ _) s ⟨b, us, rfl, hU, r2⟩ q
        · subst e
          have : ys = [] := List.eq_nil_of_length_eq_zero (by rw [← r2.len]; rfl)
          subst this
          rw [List.append_nil] at q
          exact k _ (.tup xs) H S m (Ext.refl _ _) s ⟨a, vs, rfl, hT, r1⟩ q
      | _ => exact (show False from h).elim
    | str z => cases e with
      | str z' =>
        obtain ⟨hz, q⟩ := h
        exact .inl (.inr ⟨z, z', rx, ry, by rw [← szL']; exact hz, k _ (.str (z ++ z')) H S m (Ext.refl _ _) s rfl q⟩)
      | _ => exact (show False from h).elim
    | ref n => cases e with
      | ref n' =>
        obtain ⟨xs, e1, h⟩ := isLst_iff.mp h
        obtain ⟨ys, e2, hz, q⟩ := isLst_iff.mp h
        obtain ⟨a, vs, h1, h2, h3⟩ := s.lst e1
        obtain ⟨b, us, g1, g2, g3⟩ := s.lst e2
        obtain ⟨a', q1, rfl⟩ := rx
        obtain ⟨b', q2, rfl⟩ := ry
        rw [h1] at q1
        rw [g1] at q2
        cases q1
        cases q2
        exact .inr ⟨a, b, vs, us, rfl, rfl, h2, g2, by rw [h3.len, g3.len, ← szL']; exact hz, k.lst s (h3.app g3) q⟩
      | _ => exact (show False from h).elim
    | _ => exact (show False from h).elim
theorem o_sub : OpR X (binaryOp .Sub) (r2Of X.K rSub) := r2I L2.op_sub fun x y H Q ⟨m, S, d, e, R, s, rx, ry, h, k⟩ => by
  cases d with
  | int i => cases e with
    | int j => exact ⟨i, j, rx, ry, k _ (.int (i - j)) H S m (Ext.refl _ _) s rfl h⟩
    | _ => exact (show False from h).elim
  | _ => exact (show False from h).elim
theorem CMul_or {i j : Int} (h : MulOk i j) : IntMulOk i j := by
  rcases h with (h | h) | ⟨a, b, h1, h2, h3⟩
  · exact L2.CMul.ok (.inl (by have : (2 : Nat) ^ 64 = 18446744073709551616 := by decide
                               have : (2 : Int) ^ 64 = 18446744073709551616 := by decide
                               omega))
  · exact L2.CMul.ok (.inr (by have : (2 : Nat) ^ 64 = 18446744073709551616 := by decide
                               have : (2 : Int) ^ 64 = 18446744073709551616 := by decide
                               omega))
  · have w1 : i.natAbs < 2 ^ (a + 1) := Nat.lt_trans h1 (Nat.pow_lt_pow_right (by decide) (by omega))
    have w2 : j.natAbs < 2 ^ (b + 1) := Nat.lt_trans h2 (Nat.pow_lt_pow_right (by decide) (by omega))
    have x := PySem.Flt.log2_lt_of (by omega) w1
    have y := PySem.Flt.log2_lt_of (by omega) w2
    by_cases hc : i.natAbs.log2 + j.natAbs.log2 < 1000000
    · exact L2.CMulW.ok hc
    · have e1 : i.natAbs.log2 ≤ a := by omega
      have e2 : j.natAbs.log2 ≤ b := by omega
      exfalso
      have ha : a = i.natAbs.log2 := by omega
      have hb : b = j.natAbs.log2 := by omega
      by_cases h0 : i.natAbs = 0
      · rw [h0] at ha
        have : Nat.log2 0 = 0 := by decide
        rw [this] at ha
        have hb1 : 0 < b := by omega
        have := PySem.Flt.log2_lt_of hb1 h2
        omega
      · by_cases ha0 : a = 0
        · subst ha0
          have hb1 : 0 < b := by omega
          have := PySem.Flt.log2_lt_of hb1 h2
          omega
        · have := PySem.Flt.log2_lt_of (by omega : 0 < a) h1
          omega
theorem op_mulAny : OpR X (binaryOp .Mult) (L2.rI (fun i j => IntMulOk i j) fun i j => .int (i * j)) := L2.opI fun _ _ _ _ _ _ _ hc q => PyProof.Rows.mul_int q hc
theorem iop_mulAny : OpR X (inplaceOp .Mult) (L2.rI (fun i j => IntMulOk i j) fun i j => .int (i * j)) := L2.opI fun _ _ _ _ _ _ _ hc q => PyProof.Rows.imul_int q hc

/-- ints alone -/
theorem ii {K : PySem.W.Frag} {x y : V} {H : Hp} {Q : L2.VK} {C : Int → Int → Prop} {g : Int → Int → D} {gv : Int → Int → V} {r : R2} (hg : ∀ i j H m, Rep K H m (g i j) (gv i j)) (hr : ∀ d e S R, r d e S R → ∃ i j, d = .int i ∧ e = .int j ∧ C i j ∧ R (g i j) S) (h : r2Of K r x y H Q) : L2.rI C gv x y H Q := by
  obtain ⟨m, S, d, e, R, s, rx, ry, h, k⟩ := h
  obtain ⟨i, j, rfl, rfl, hc, q⟩ := hr d e S R h
  exact ⟨i, j, rx, ry, hc, k _ _ H S m (Ext.refl _ _) s (hg i j H m) q⟩
theorem o_mul : OpR X (binaryOp .Mult) (r2Of X.K rMul) := r2I ((op_mulAny (X := X)).or L2.op_rep) fun x y H Q ⟨m, S, d, e, R, s, rx, ry, h, k⟩ => by
  cases d with
  | int i => cases e with
    | int j => exact .inl ⟨i, j, rx, ry, CMul_or h.1, k _ (.int (i * j)) H S m (Ext.refl _ _) s rfl h.2⟩
    | _ => exact (show False from h).elim
  | ref n => cases e with
    | int j =>
      obtain ⟨xs, e1, ⟨h1, h2⟩, hz, q⟩ := isLst_iff.mp h
      obtain ⟨a, vs, g1, g2, g3⟩ := s.lst e1
      obtain ⟨a', q1, rfl⟩ := rx
      rw [g1] at q1
      cases q1
      exact .inr ⟨a, j, vs, rfl, ry, g2, h1, h2, by rw [g3.len, ← szL']; exact hz, k.lst s (g3.rep _) q⟩
    | _ => exact (show False from h).elim
  | _ => exact (show False from h).elim
theorem int_of {r : R2} {C : Int → Int → Prop} {g : Int → Int → D} {d e : D} {S : Sto} {R : D → Sto → Prop} (h : r d e S R) (h1 : ∀ i j, r (.int i) (.int j) S R → C i j ∧ R (g i j) S) (h2 : ∀ d e, r d e S R → ∃ i j, d = .int i ∧ e = .int j) : ∃ i j, d = .int i ∧ e = .int j ∧ C i j ∧ R (g i j) S := by
  obtain ⟨i, j, rfl, rfl⟩ := h2 d e h
  exact ⟨i, j, rfl, rfl, h1 i j h⟩
theorem only_ii {r : R2} {S : Sto} {R : D → Sto → Prop} (h0 : ∀ d e, (∀ i j, ¬ (d = .int i ∧ e = .int j)) → ¬ r d e S R) : ∀ d e, r d e S R → ∃ i j, d = .int i ∧ e = .int j := fun d e h => by
  cases d with
  | int i => cases e with
    | int j => exact ⟨i, j, rfl, rfl⟩
    | _ => exact absurd h (h0 _ _ fun _ _ z => nomatch z.2)
  | _ => exact absurd h (h0 _ _ fun _ _ z => nomatch z.1)
theorem i_mul : OpR X (inplaceOp .Mult) (r2Of X.K rMul') := r2I (iop_mulAny (X := X)) fun x y H Q h => ii (g := fun i j => .int (i * j)) (fun _ _ _ _ => rfl) (fun d e S R h => by
  cases d with
  | int i => cases e with
    | int j => exact ⟨i, j, rfl, rfl, CMul_or h.1, h.2⟩
    | _ => exact (show False from h).elim
  | _ => exact (show False from h).elim) h
theorem div_ok {j : Int} (h : DivOk j) (i : Int) : Builtin.divisionGoesByPylong i j = false := by
  refine PyProof.noPylong_of_log2 ?_
  exact PySem.Flt.log2_lt_of (by decide) h.2
theorem op_divAny : OpR X (binaryOp .FloorDiv) (L2.rI (fun _ j => DivOk j) fun i j => .int (i.fdiv j)) := L2.opI fun i j _ _ _ _ _ hc q => PyProof.Rows.floordiv_int hc.1 q (.inl (div_ok hc i))
theorem iop_divAny : OpR X (inplaceOp .FloorDiv) (L2.rI (fun _ j => DivOk j) fun i j => .int (i.fdiv j)) := L2.opI fun i j _ _ _ _ _ hc q => PyProof.Rows.ifloordiv_int hc.1 q (.inl (div_ok hc i))
theorem o_div : OpR X (binaryOp .FloorDiv) (r2Of X.K rDiv) := r2I (op_divAny (X := X)) fun x y H Q h => ii (g := fun i j => .int (i.fdiv j)) (fun _ _ _ _ => rfl) (fun d e S R h => by
  cases d with
  | int i => cases e with
    | int j => exact ⟨i, j, rfl, rfl, h.1, h.2⟩
    | _ => exact (show False from h).elim
  | _ => exact (show False from h).elim) h
theorem i_div : OpR X (inplaceOp .FloorDiv) (r2Of X.K rDiv) := r2I (iop_divAny (X := X)) fun x y H Q h => ii (g := fun i j => .int (i.fdiv j)) (fun _ _ _ _ => rfl) (fun d e S R h => by
  cases d with
  | int i => cases e with
    | int j => exact ⟨i, j, rfl, rfl, h.1, h.2⟩
    | _ => exact (show False from h).elim
  | _ => exact (show False from h).elim) h
theorem o_mod : OpR X (binaryOp .Mod) (r2Of X.K rMod) := r2I (L2.op_modN (X := X)) fun x y H Q h => ii (g := fun i j => .int (i.fmod j)) (fun _ _ _ _ => rfl) (fun d e S R h => by
  cases d with
  | int i => cases e with
    | int j => exact ⟨i, j, rfl, rfl, h.1, h.2⟩
    | _ => exact (show False from h).elim
  | _ => exact (show False from h).elim) h
theorem o_pow : OpR X (binaryOp .Pow) (r2Of X.K rPow) := r2I (L2.op_pow (X := X)) fun x y H Q h => ii (g := fun i j => .int (i ^ j.toNat)) (fun _ _ _ _ => rfl) (fun d e S R h => by
  cases d with
  | int i => cases e with
    | int j => exact ⟨i, j, rfl, rfl, h.1, h.2⟩
    | _ => exact (show False from h).elim
  | _ => exact (show False from h).elim) h
theorem u_neg : UnR X (unaryOp .USub) (r1Of X.K rNeg) := r1I L2.un_neg fun x H Q ⟨m, S, d, R, s, rx, h, k⟩ => by
  cases d with
  | int i => exact ⟨i, rx, k _ (.int (-i)) H S m (Ext.refl _ _) s rfl h⟩
  | _ => exact (show False from h).elim
theorem cmp_of {f : Value → Value → Sem Value} {g : Int → Int → Bool} (h : OpR X f (L2.rI0 fun i j => .bl (g i j))) : OpR X f (r2Of X.K (rCmp g)) := r2I h fun x y H Q ⟨m, S, d, e, R, s, rx, ry, h, k⟩ => by
  cases d with
  | int i => cases e with
    | int j => exact ⟨i, j, rx, ry, k _ (.bl (g i j)) H S m (Ext.refl _ _) s rfl h⟩
    | _ => exact (show False from h).elim
  | _ => exact (show False from h).elim
theorem c_lt : OpR X (compareOp .Lt) (r2Of X.K rLt) := cmp_of L2.op_lt
theorem c_le : OpR X (compareOp .LtE) (r2Of X.K rLe) := cmp_of L2.op_le
theorem c_gt : OpR X (compareOp .Gt) (r2Of X.K rGt) := cmp_of L2.op_gt
theorem c_ge : OpR X (compareOp .GtE) (r2Of X.K rGe) := cmp_of L2.op_ge
/-! equality of plain data -/
mutual
theorem toPy_dp {K : PySem.W.Frag} {H : Hp} {m : List Addr} : ∀ (d : D) (v : V), flat d = true → Rep K H m d v → L2.Dp K H v (toPy d)
  | .non, v, _, h => by rw [show v = .non from h]; exact .non
  | .bl b, v, _, h => by rw [show v = .bl b from h]; exact .bl b
  | .int b, v, _, h => by rw [show v = .int b from h]; exact .int b
  | .str b, v, _, h => by rw [show v = .str b from h]; exact .str b
  | .tup ds, v, f, ⟨a, vs, hv, hT, r⟩ => by rw [hv]; exact .tup hT (toPys_dp ds vs f r)
  | .rol _, _, f, _ => by cases (show false = true from f)
  | .ref _, _, f, _ => by cases (show false = true from f)
  | .ty _, _, f, _ => by cases (show false = true from f)
theorem toPys_dp {K : PySem.W.Frag} {H : Hp} {m : List Addr} : ∀ (ds : List D) (vs : List V), flats ds = true → Reps K H m ds vs → L2.DpAll K H vs (toPys ds)
  | [], vs, _, h => by rw [show vs = [] from h]; exact .nil
  | d :: ds, vs, f, ⟨v, r, hv, h1, h2⟩ => by
    rw [hv]
    have f := Bool.and_eq_true_iff.mp (show (flat d && flats ds) = true from f)
    exact .cons (toPy_dp d v f.1 h1) (toPys_dp ds r f.2 h2)
end
theorem strOk_of {K : PySem.W.Frag} : True := trivial
mutual
theorem eqv_eq : ∀ (d e : D), flat d = true → flat e = true → PyData.eqv (toPy d) (toPy e) = eqD d e
  | .non, .non, _, _ => rfl
  | .non, .bl _, _, _ => rfl
  | .non, .int _, _, _ => rfl
  | .non, .str _, _, _ => rfl
  | .non, .tup _, _, _ => rfl
  | .bl _, .non, _, _ => rfl
  | .bl _, .bl _, _, _ => rfl
  | .bl _, .int _, _, _ => rfl
  | .bl _, .str _, _, _ => rfl
  | .bl _, .tup _, _, _ => rfl
  | .int _, .non, _, _ => rfl
  | .int _, .bl _, _, _ => rfl
  | .int i, .int j, _, _ => by
    show (i == j) = decide (i = j)
    rw [Bool.beq_eq_decide_eq]
  | .int _, .str _, _, _ => rfl
  | .int _, .tup _, _, _ => rfl
  | .str _, .non, _, _ => rfl
  | .str _, .bl _, _, _ => rfl
  | .str _, .int _, _, _ => rfl
  | .str i, .str j, _, _ => by
    show (i == j) = decide (i = j)
    rw [Bool.beq_eq_decide_eq]
  | .str _, .tup _, _, _ => rfl
  | .tup _, .non, _, _ => rfl
  | .tup _, .bl _, _, _ => rfl
  | .tup _, .int _, _, _ => rfl
  | .tup _, .str _, _, _ => rfl
  | .tup xs, .tup ys, f, g => eqvs_eq xs ys f g
  | .rol _, _, f, _ => by cases (show false = true from f)
  | .ref _, _, f, _ => by cases (show false = true from f)
  | .ty _, _, f, _ => by cases (show false = true from f)
  | _, .rol _, _, f => by cases (show false = true from f)
  | _, .ref _, _, f => by cases (show false = true from f)
  | _, .ty _, _, f => by cases (show false = true from f)
theorem eqvs_eq : ∀ (ds es : List D), flats ds = true → flats es = true → PyData.eqvAll (toPys ds) (toPys es) = eqDs ds es
  | [], [], _, _ => rfl
  | [], _ :: _, _, _ => rfl
  | _ :: _, [], _, _ => rfl
  | d :: ds, e :: es, f, g => by
    have f := Bool.and_eq_true_iff.mp (show (flat d && flats ds) = true from f)
    have g := Bool.and_eq_true_iff.mp (show (flat e && flats es) = true from g)
    show (PyData.eqv (toPy d) (toPy e) && PyData.eqvAll (toPys ds) (toPys es)) = (eqD d e && eqDs ds es)
    rw [eqv_eq d e f.1 g.1, eqvs_eq ds es f.2 g.2]
end
mutual
theorem deep_eq : ∀ d : D, PyData.depth (toPy d) = deep d
  | .non => rfl
  | .bl _ => rfl
  | .int _ => rfl
  | .str _ => rfl
  | .tup ds => by
    show PyData.depthAll (toPys ds) + 1 = deeps ds + 1
    rw [deeps_eq ds]
  | .rol _ => rfl
  | .ref _ => rfl
  | .ty _ => rfl
theorem deeps_eq : ∀ ds : List D, PyData.depthAll (toPys ds) = deeps ds
  | [] => rfl
  | d :: ds => by
    show max (PyData.depth (toPy d)) (PyData.depthAll (toPys ds)) = max (deep d) (deeps ds)
    rw [deep_eq d, deeps_eq ds]
end

end
end DL
set_option Elab.async false
set_option linter.all false
set_option maxRecDepth 100000
set_option maxHeartbeats 4000000
/-! DL6: comparisons of data, subscripts, slices, built-ins, methods, stores. -/
namespace DL
open PySem PySem.Spec
open L2 (V Hp HO St TE TT TA TS TG TI TO PE PT PW PA PS PSs PG PI PO Cx Inv RelV Vals SqL SqT Rd upd upd_same upd_ne ne_of ne_of_none OpR UnR CallR MtR IxR SlR It thn)
section
variable {X : Cx}
mutual
theorem lay_of : ∀ d : D, flat d = true → PyData.canLay0 (toPy d) = true
  | .non, _ => rfl
  | .bl _, _ => rfl
  | .int _, _ => rfl
  | .str x, h => h
  | .tup ds, h => lays_of ds h
  | .rol _, h => by cases (show false = true from h)
  | .ref _, h => by cases (show false = true from h)
  | .ty _, h => by cases (show false = true from h)
theorem lays_of : ∀ ds : List D, flats ds = true → PyData.canLayAll0 (toPys ds) = true
  | [], _ => rfl
  | d :: ds, h => by
    have h := Bool.and_eq_true_iff.mp (show (flat d && flats ds) = true from h)
    show (PyData.canLay0 (toPy d) && PyData.canLayAll0 (toPys ds)) = true
    rw [lay_of d h.1, lays_of ds h.2]
    rfl
end
theorem shaped_of {d : D} (h : flat d = true) (h2 : deep d ≤ 64) : SeqAt.shaped (toPy d) = true := by
  unfold SeqAt.shaped
  rw [lay_of d h, deep_eq, Bool.true_and]
  exact decide_eq_true h2
theorem shapeds_of {ds : List D} (h : flats ds = true) (h2 : deeps ds ≤ 63) : SeqAt.shaped (.list (toPys ds)) = true := by
  unfold SeqAt.shaped
  have e : PyData.canLay0 (.list (toPys ds)) = true := lays_of ds h
  rw [e, Bool.true_and]
  refine decide_eq_true ?_
  show PyData.depthAll (toPys ds) + 1 ≤ 64
  rw [deeps_eq]
  omega
theorem c_eq {kk : Nat} (hr : L2.Room kk X.A) : OpR X (compareOp .Eq) (r2Of X.K rEq) := r2I (L2.op_eqD hr.units) fun x y H Q ⟨m, S, d, e, R, s, rx, ry, ⟨⟨f1, f2, g1, g2⟩, q⟩, k⟩ =>
  ⟨toPy d, toPy e, toPy_dp d x f1 rx, toPy_dp e y f2 ry, shaped_of f1 g1, shaped_of f2 g2, by rw [eqv_eq d e f1 f2]; exact k _ (.bl (eqD d e)) H S m (Ext.refl _ _) s rfl q⟩
theorem c_ne {kk : Nat} (hr : L2.Room kk X.A) : OpR X (compareOp .NotEq) (r2Of X.K rNe) := r2I (L2.op_neD hr.units) fun x y H Q ⟨m, S, d, e, R, s, rx, ry, ⟨⟨f1, f2, g1, g2⟩, q⟩, k⟩ =>
  ⟨toPy d, toPy e, toPy_dp d x f1 rx, toPy_dp e y f2 ry, shaped_of f1 g1, shaped_of f2 g2, by rw [eqv_eq d e f1 f2]; exact k _ (.bl (!eqD d e)) H S m (Ext.refl _ _) s rfl q⟩
theorem isNon_eq {K : PySem.W.Frag} {H : Hp} {m : List Addr} {d : D} {x : V} (r : Rep K H m d x) : isNon d = decide (x = .non) := by
  cases d with
  | non => rw [show x = .non from r]; rfl
  | bl b => rw [show x = .bl b from r]; rfl
  | int b => rw [show x = .int b from r]; rfl
  | str b => rw [show x = .str b from r]; rfl
  | ty b => rw [show x = .ty b from r]; rfl
  | tup b => obtain ⟨a, vs, rfl, _⟩ := r; rfl
  | rol b => obtain ⟨a, vs, rfl, _⟩ := r; rfl
  | ref b => obtain ⟨a, _, rfl⟩ := r; rfl
theorem c_is : OpR X (compareOp .Is) (r2Of X.K rIs) := r2I ((L2.op_isN (X := X)).or L2.op_is_bl) fun x y H Q ⟨m, S, d, e, R, s, rx, ry, h, k⟩ => by
  cases e with
  | non =>
    have h : R (.bl (isNon d)) S := by cases d <;> exact h
    exact .inl ⟨ry, by rw [← isNon_eq rx]; exact k _ (.bl (isNon d)) H S m (Ext.refl _ _) s rfl h⟩
  | bl b => cases d with
    | bl a => exact .inr ⟨a, b, rx, ry, k _ (.bl (decide (a = b))) H S m (Ext.refl _ _) s rfl h⟩
    | _ => exact (show False from h).elim
  | _ => cases d <;> exact (show False from h).elim
theorem c_isnot : OpR X (compareOp .IsNot) (r2Of X.K rIsNot) := r2I ((L2.op_notN (X := X)).or L2.op_isnot_bl) fun x y H Q ⟨m, S, d, e, R, s, rx, ry, h, k⟩ => by
  cases e with
  | non =>
    have h : R (.bl (!isNon d)) S := by cases d <;> exact h
    exact .inl ⟨ry, by rw [← isNon_eq rx]; exact k _ (.bl (!isNon d)) H S m (Ext.refl _ _) s rfl h⟩
  | bl b => cases d with
    | bl a => exact .inr ⟨a, b, rx, ry, k _ (.bl (!decide (a = b))) H S m (Ext.refl _ _) s rfl h⟩
    | _ => exact (show False from h).elim
  | _ => cases d <;> exact (show False from h).elim
/-! in -/
theorem flat0_V {K : PySem.W.Frag} {H : Hp} {m : List Addr} {d : D} {x : V} (r : Rep K H m d x) (h : flat0 d = true) : L2.flatV x = true := by
  cases d with
  | non => rw [show x = .non from r]; rfl
  | bl b => rw [show x = .bl b from r]; rfl
  | int b => rw [show x = .int b from r]; rfl
  | str b => rw [show x = .str b from r]; rfl
  | _ => cases (show false = true from h)
theorem eqV_eq {K : PySem.W.Frag} {H : Hp} {m : List Addr} {d e : D} {x y : V} (r : Rep K H m d x) (r' : Rep K H m e y) (h : flat0 d = true) (h' : flat0 e = true) : L2.eqV x y = eqD d e := by
  cases d with
  | non => cases e with
    | non => rw [show x = .non from r, show y = .non from r']; rfl
    | bl b => rw [show x = .non from r, show y = .bl b from r']; rfl
    | int b => rw [show x = .non from r, show y = .int b from r']; rfl
    | str b => rw [show x = .non from r, show y = .str b from r']; rfl
    | _ => cases (show false = true from h')
  | bl a => cases e with
    | non => rw [show x = .bl a from r, show y = .non from r']; rfl
    | bl b => rw [show x = .bl a from r, show y = .bl b from r']; rfl
    | int b => rw [show x = .bl a from r, show y = .int b from r']; rfl
    | str b => rw [show x = .bl a from r, show y = .str b from r']; rfl
    | _ => cases (show false = true from h')
  | int a => cases e with
    | non => rw [show x = .int a from r, show y = .non from r']; rfl
    | bl b => rw [show x = .int a from r, show y = .bl b from r']; rfl
    | int b =>
      rw [show x = .int a from r, show y = .int b from r']
      show (a == b) = decide (a = b)
      rw [Bool.beq_eq_decide_eq]
    | str b => rw [show x = .int a from r, show y = .str b from r']; rfl
    | _ => cases (show false = true from h')
  | str a => cases e with
    | non => rw [show x = .str a from r, show y = .non from r']; rfl
    | bl b => rw [show x = .str a from r, show y = .bl b from r']; rfl
    | int b => rw [show x = .str a from r, show y = .int b from r']; rfl
    | str b =>
      rw [show x = .str a from r, show y = .str b from r']
      show (a == b) = decide (a = b)
      rw [Bool.beq_eq_decide_eq]
    | _ => cases (show false = true from h')
  | _ => cases (show false = true from h)
theorem inV_eq {K : PySem.W.Frag} {H : Hp} {m : List Addr} {d : D} {x : V} (r : Rep K H m d x) (h : flat0 d = true) : ∀ (ds : List D) (vs : List V), Reps K H m ds vs → ds.all flat0 = true → L2.inV x vs = (ds.any fun y => eqD y d) ∧ vs.all L2.flatV = true
  | [], vs, rs, _ => by rw [show vs = [] from rs]; exact ⟨rfl, rfl⟩
  | e :: ds, vs, ⟨v, us, hv, r1, r2⟩, f => by
    rw [hv]
    have f := Bool.and_eq_true_iff.mp (show (flat0 e && ds.all flat0) = true from f)
    obtain ⟨h1, h2⟩ := inV_eq r h ds us r2 f.2
    refine ⟨?_, ?_⟩
    · show (L2.eqV v x || us.any fun y => L2.eqV y x) = (eqD e d || ds.any fun y => eqD y d)
      rw [eqV_eq r1 r f.1 h]
      exact congrArg (eqD e d || ·) h1
    · show (L2.flatV v && us.all L2.flatV) = true
      rw [flat0_V r1 f.1, h2]
      rfl
theorem any_py {d : D} (h : flat d = true) : ∀ ds : List D, flats ds = true → ((toPys ds).any fun z => PyData.eqv z (toPy d)) = ds.any fun y => eqD y d
  | [], _ => rfl
  | e :: ds, f => by
    have f := Bool.and_eq_true_iff.mp (show (flat e && flats ds) = true from f)
    show (PyData.eqv (toPy e) (toPy d) || (toPys ds).any fun z => PyData.eqv z (toPy d)) = (eqD e d || ds.any fun y => eqD y d)
    rw [eqv_eq e d f.1 h, any_py h ds f.2]
theorem room65 {kk : Nat} (hr : L2.Room kk X.A) : X.A.units + 65 < cLine := by
  have := hr.un
  omega
theorem c_in {kk : Nat} (hr : L2.Room kk X.A) : OpR X (compareOp .In) (r2Of X.K (rIn false)) := r2I (L2.op_in_seq.or (L2.op_inD (room65 hr))) fun x y H Q ⟨m, S, d, e, R, s, rx, ry, h, k⟩ => by
  cases e with
  | tup ys =>
    have h : (flat0 d = true ∧ ys.all flat0 = true) ∧ R (.bl (ys.any fun y => eqD y d)) S := by cases d <;> exact h
    obtain ⟨⟨f, g⟩, q⟩ := h
    obtain ⟨a, vs, rfl, hT, rs⟩ := ry
    obtain ⟨h1, h2⟩ := inV_eq rx f ys vs rs g
    refine .inl ⟨a, vs, rfl, .inr hT, flat0_V rx f, h2, ?_⟩
    show Q (.bl (L2.inV x vs)) H
    rw [h1]
    exact k _ (.bl (ys.any fun y => eqD y d)) H S m (Ext.refl _ _) s rfl q
  | ref n =>
    have h : isLst S n fun ys => (flat d = true ∧ flats ys = true ∧ deep d ≤ 63 ∧ deeps ys ≤ 63) ∧ R (.bl (ys.any fun y => eqD y d)) S := by cases d <;> exact h
    obtain ⟨ys, e1, ⟨f1, f2, g1, g2⟩, q⟩ := isLst_iff.mp h
    obtain ⟨a, vs, h1, h2, h3⟩ := s.lst e1
    obtain ⟨b, q1, rfl⟩ := ry
    rw [h1] at q1
    cases q1
    exact .inr ⟨toPy d, toPys ys, toPy_dp d x f1 rx, .lst (SqL.of h2) (toPys_dp ys vs f2 h3), shaped_of f1 (by omega), shapeds_of f2 g2, by rw [any_py f1 ys f2]; exact k _ (.bl (ys.any fun y => eqD y d)) H S m (Ext.refl _ _) s rfl q⟩
  | _ => cases d <;> exact (show False from h).elim
theorem c_notin {kk : Nat} (hr : L2.Room kk X.A) : OpR X (compareOp .NotIn) (r2Of X.K (rIn true)) := r2I (L2.op_notIn_seq.or (L2.op_notInD (room65 hr))) fun x y H Q ⟨m, S, d, e, R, s, rx, ry, h, k⟩ => by
  cases e with
  | tup ys =>
    have h : (flat0 d = true ∧ ys.all flat0 = true) ∧ R (.bl (!ys.any fun y => eqD y d)) S := by cases d <;> exact h
    obtain ⟨⟨f, g⟩, q⟩ := h
    obtain ⟨a, vs, rfl, hT, rs⟩ := ry
    obtain ⟨h1, h2⟩ := inV_eq rx f ys vs rs g
    refine .inl ⟨a, vs, rfl, .inr hT, flat0_V rx f, h2, ?_⟩
    show Q (.bl (!L2.inV x vs)) H
    rw [h1]
    exact k _ (.bl (!ys.any fun y => eqD y d)) H S m (Ext.refl _ _) s rfl q
  | ref n =>
    have h : isLst S n fun ys => (flat d = true ∧ flats ys = true ∧ deep d ≤ 63 ∧ deeps ys ≤ 63) ∧ R (.bl (!ys.any fun y => eqD y d)) S := by cases d <;> exact h
    obtain ⟨ys, e1, ⟨f1, f2, g1, g2⟩, q⟩ := isLst_iff.mp h
    obtain ⟨a, vs, h1, h2, h3⟩ := s.lst e1
    obtain ⟨b, q1, rfl⟩ := ry
    rw [h1] at q1
    cases q1
    exact .inr ⟨toPy d, toPys ys, toPy_dp d x f1 rx, .lst (SqL.of h2) (toPys_dp ys vs f2 h3), shaped_of f1 (by omega), shapeds_of f2 g2, by rw [any_py f1 ys f2]; exact k _ (.bl (!ys.any fun y => eqD y d)) H S m (Ext.refl _ _) s rfl q⟩
  | _ => cases d <;> exact (show False from h).elim
/-! subscripts -/
theorem atZ_rep {K : PySem.W.Frag} {H : Hp} {m : List Addr} {ds : List D} {vs : List V} (r : Reps K H m ds vs) {i : Int} {d : D} (h : atZ ds i = some d) : ∃ v, L2.atI vs i = some v ∧ Rep K H m d v := by
  unfold atZ at h
  unfold L2.atI
  rw [r.len]
  cases e : ixZ ds.length i with
  | none => rw [e] at h; cases h
  | some j =>
    rw [e] at h
    obtain ⟨v, h1, h2⟩ := r.get j d h
    have e' : L2.ixN ds.length i = some j := e
    exact ⟨v, by rw [e']; exact h1, h2⟩
theorem i_ix : IxR X (r2Of X.K rIx) := rix L2.ix_seq fun x y H Q ⟨m, S, d, e, R, s, rx, ry, h, k⟩ => by
  cases d with
  | tup xs => cases e with
    | int i =>
      obtain ⟨d, hd, q⟩ := h
      obtain ⟨a, vs, rfl, hT, rs⟩ := rx
      obtain ⟨v, h1, h2⟩ := atZ_rep rs hd
      exact .inr (.inl ⟨a, vs, i, v, rfl, ry, hT, h1, k _ _ H S m (Ext.refl _ _) s h2 q⟩)
    | _ => exact (show False from h).elim
  | rol xs => cases e with
    | int i =>
      obtain ⟨d, hd, q⟩ := h
      obtain ⟨a, vs, rfl, hT, rs⟩ := rx
      obtain ⟨v, h1, h2⟩ := atZ_rep rs hd
      exact .inl ⟨a, vs, i, v, rfl, ry, hT.seq, h1, k _ _ H S m (Ext.refl _ _) s h2 q⟩
    | _ => exact (show False from h).elim
  | ref n => cases e with
    | int i =>
      obtain ⟨xs, e1, d, hd, q⟩ := isLst_iff.mp h
      obtain ⟨a, vs, h1, h2, h3⟩ := s.lst e1
      obtain ⟨b, q1, rfl⟩ := rx
      rw [h1] at q1
      cases q1
      obtain ⟨v, g1, g2⟩ := atZ_rep h3 hd
      exact .inl ⟨a, vs, i, v, rfl, ry, SqL.of h2, g1, k _ _ H S m (Ext.refl _ _) s g2 q⟩
    | _ => exact (show False from h).elim
  | str z => cases e with
    | int i =>
      obtain ⟨hz, c, hc, q⟩ := h
      exact .inr (.inr ⟨z, i, c, rx, ry, by rw [← szL']; exact hz, hc, k _ (.str ⟨#[c]⟩) H S m (Ext.refl _ _) s rfl q⟩)
    | _ => exact (show False from h).elim
  | _ => cases e <;> exact (show False from h).elim
theorem sIx_eq (n d : Nat) (o : Option Int) : sIx n d o = HT.sIx n d o := by
  cases o with
  | none => rfl
  | some v =>
    show (if v < 0 then (v + n).toNat else min v.toNat n) = _
    rfl

theorem cut_rep {K : PySem.W.Frag} {H : Hp} {m : List Addr} {ds : List D} {vs : List V} (r : Reps K H m ds vs) (lo hi : Option Int) : Reps K H m (cut ds lo hi) (L2.cutV vs lo hi) := by
  unfold cut L2.cutV
  rw [r.len, sIx_eq, sIx_eq]
  exact (r.drop _).take _
theorem cut_full {K : PySem.W.Frag} {H : Hp} {m : List Addr} {ds : List D} {vs : List V} (r : Reps K H m ds vs) (lo hi : Option Int) (h : HT.sIx vs.length 0 lo = 0 ∧ HT.sIx vs.length vs.length hi = vs.length) : cut ds lo hi = ds := by
  unfold cut
  rw [sIx_eq, sIx_eq, ← r.len, h.1, h.2, List.drop_zero, Nat.sub_zero, r.len, List.take_length]
theorem s_cut : SlR X (rsOf X.K rSl) := rsl ((L2.sl_tupA (X := X)).or L2.sl_list) fun x l u H Q ⟨m, S, d, R, s, rx, h, k⟩ => by
  cases d with
  | tup xs =>
    obtain ⟨a, vs, rfl, hT, rs⟩ := rx
    refine .inl ⟨a, vs, rfl, hT, fun hf => ?_, fun _ => k.tup s (cut_rep rs l u) h⟩
    have h : R (.tup (cut xs l u)) S := h
    rw [cut_full rs l u hf] at h
    exact k _ (.tup xs) H S m (Ext.refl _ _) s ⟨a, vs, rfl, hT, rs⟩ h
  | ref n =>
    obtain ⟨xs, e1, q⟩ := isLst_iff.mp h
    obtain ⟨a, vs, h1, h2, h3⟩ := s.lst e1
    obtain ⟨b, q1, rfl⟩ := rx
    rw [h1] at q1
    cases q1
    exact .inr ⟨a, vs, rfl, SqL.of h2, k.lst s (cut_rep h3 l u) q⟩
  | _ => exact (show False from h).elim

/-! ### built-ins -/
theorem reps1 {K : PySem.W.Frag} {H : Hp} {m : List Addr} {d : D} {vs : List V} (r : Reps K H m [d] vs) : ∃ v, vs = [v] ∧ Rep K H m d v := by
  obtain ⟨v, us, hv, h1, h2⟩ := r
  exact ⟨v, by rw [hv, show us = [] from h2], h1⟩
theorem reps2 {K : PySem.W.Frag} {H : Hp} {m : List Addr} {d e : D} {vs : List V} (r : Reps K H m [d, e] vs) : ∃ v u, vs = [v, u] ∧ Rep K H m d v ∧ Rep K H m e u := by
  obtain ⟨v, us, hv, h1, h2⟩ := r
  obtain ⟨u, rfl, h3⟩ := reps1 h2
  exact ⟨v, u, hv, h1, h3⟩
theorem b_len : CallR X (.builtin "len") (rlOf X.K rLen) := rlI L2.call_len fun xs H Q ⟨m, S, ds, R, s, rx, h, k⟩ => by
  match ds, h, rx with
  | [.tup ys], h, rx =>
    obtain ⟨v, rfl, a, vs, rfl, hT, rs⟩ := reps1 rx
    exact ⟨_, vs.length, rfl, .inr ⟨vs, hT, rfl⟩, by rw [rs.len]; exact k _ (.int ys.length) H S m (Ext.refl _ _) s rfl h⟩
  | [.rol ys], h, rx =>
    obtain ⟨v, rfl, a, vs, rfl, hT, rs⟩ := reps1 rx
    exact ⟨_, vs.length, rfl, .inl ⟨vs, hT.seq, rfl⟩, by rw [rs.len]; exact k _ (.int ys.length) H S m (Ext.refl _ _) s rfl h⟩
  | [.str z], h, rx =>
    obtain ⟨v, rfl, hv⟩ := reps1 rx
    have hv : v = .str z := hv
    subst hv
    exact ⟨_, z.length, rfl, ⟨by rw [← szL']; exact h.1, rfl⟩, k _ (.int z.length) H S m (Ext.refl _ _) s rfl h.2⟩
  | [.ref n], h, rx =>
    obtain ⟨v, rfl, b, q1, rfl⟩ := reps1 rx
    obtain ⟨ys, e1, q⟩ := isLst_iff.mp h
    obtain ⟨a, vs, h1, h2, h3⟩ := s.lst e1
    rw [h1] at q1
    cases q1
    exact ⟨_, vs.length, rfl, .inl ⟨vs, SqL.of h2, rfl⟩, by rw [h3.len]; exact k _ (.int ys.length) H S m (Ext.refl _ _) s rfl q⟩
theorem b_abs : CallR X (.builtin "abs") (rlOf X.K rAbs) := rlI L2.call_abs fun xs H Q ⟨m, S, ds, R, s, rx, h, k⟩ => by
  match ds, h, rx with
  | [.int i], h, rx =>
    obtain ⟨v, rfl, hv⟩ := reps1 rx
    have hv : v = .int i := hv
    subst hv
    refine ⟨i, rfl, ?_⟩
    have e : (if i < 0 then -i else i) = (i.natAbs : Int) := by split <;> omega
    rw [e]
    exact k _ (.int i.natAbs) H S m (Ext.refl _ _) s rfl h
theorem b_int : CallR X (.type "int") (rlOf X.K rInt) := rlI L2.call_int1 fun xs H Q ⟨m, S, ds, R, s, rx, h, k⟩ => by
  match ds, h, rx with
  | [.int i], h, rx =>
    obtain ⟨v, rfl, hv⟩ := reps1 rx
    have hv : v = .int i := hv
    subst hv
    exact .inl ⟨i, rfl, k _ (.int i) H S m (Ext.refl _ _) s rfl h⟩
  | [.bl i], h, rx =>
    obtain ⟨v, rfl, hv⟩ := reps1 rx
    have hv : v = .bl i := hv
    subst hv
    exact .inr ⟨i, rfl, k _ (.int (if i = true then 1 else 0)) H S m (Ext.refl _ _) s rfl h⟩
theorem b_max2 (hc : X.calm = true) : CallR X (.builtin "max") (rlOf X.K rMax2) := rlI (L2.call_max2 hc) fun xs H Q ⟨m, S, ds, R, s, rx, h, k⟩ => by
  match ds, h, rx with
  | [.int i, .int j], h, rx =>
    obtain ⟨v, u, rfl, hv, hu⟩ := reps2 rx
    have hv : v = .int i := hv
    have hu : u = .int j := hu
    subst hv hu
    refine ⟨i, j, rfl, ?_⟩
    have e : (if j > i then j else i) = max i j := by split <;> omega
    rw [e]
    exact k _ (.int (max i j)) H S m (Ext.refl _ _) s rfl h
theorem b_min2 (hc : X.calm = true) : CallR X (.builtin "min") (rlOf X.K rMin2) := rlI (L2.call_min2 hc) fun xs H Q ⟨m, S, ds, R, s, rx, h, k⟩ => by
  match ds, h, rx with
  | [.int i, .int j], h, rx =>
    obtain ⟨v, u, rfl, hv, hu⟩ := reps2 rx
    have hv : v = .int i := hv
    have hu : u = .int j := hu
    subst hv hu
    refine ⟨i, j, rfl, ?_⟩
    have e : (if j < i then j else i) = min i j := by split <;> omega
    rw [e]
    exact k _ (.int (min i j)) H S m (Ext.refl _ _) s rfl h
theorem b_list : CallR X (.type "list") (rlOf X.K rList) := rlI L2.call_list_of fun xs H Q ⟨m, S, ds, R, s, rx, h, k⟩ => by
  match ds, h, rx with
  | [.tup ys], h, rx =>
    obtain ⟨v, rfl, a, vs, rfl, hT, rs⟩ := reps1 rx
    exact ⟨a, vs, rfl, .inr hT, k.lst s rs h⟩
  | [.rol ys], h, rx =>
    obtain ⟨v, rfl, a, vs, rfl, hT, rs⟩ := reps1 rx
    exact ⟨a, vs, rfl, .inl hT.seq, k.lst s rs h⟩
  | [.ref n], h, rx =>
    obtain ⟨v, rfl, b, q1, rfl⟩ := reps1 rx
    obtain ⟨ys, e1, q⟩ := isLst_iff.mp h
    obtain ⟨a, vs, h1, h2, h3⟩ := s.lst e1
    rw [h1] at q1
    cases q1
    exact ⟨b, vs, rfl, .inl (SqL.of h2), k.lst s h3 q⟩
theorem b_tuple : CallR X (.type "tuple") (rlOf X.K rTuple) := rlI L2.call_tuple_of fun xs H Q ⟨m, S, ds, R, s, rx, h, k⟩ => by
  match ds, h, rx with
  | [.tup ys], h, rx =>
    obtain ⟨v, rfl, a, vs, rfl, hT, rs⟩ := reps1 rx
    exact ⟨a, vs, rfl, .inr ⟨hT, k _ (.tup ys) H S m (Ext.refl _ _) s ⟨a, vs, rfl, hT, rs⟩ h⟩⟩
  | [.rol ys], h, rx =>
    obtain ⟨v, rfl, a, vs, rfl, hT, rs⟩ := reps1 rx
    exact ⟨a, vs, rfl, .inl ⟨hT.seq, k.tup s rs h⟩⟩
  | [.ref n], h, rx =>
    obtain ⟨v, rfl, b, q1, rfl⟩ := reps1 rx
    obtain ⟨ys, e1, q⟩ := isLst_iff.mp h
    obtain ⟨a, vs, h1, h2, h3⟩ := s.lst e1
    rw [h1] at q1
    cases q1
    exact ⟨b, vs, rfl, .inl ⟨SqL.of h2, k.tup s h3 q⟩⟩
theorem b_all (hc : X.calm = true) : CallR X (.builtin "all") (rlOf X.K rAll) := rlI (L2.cr_all hc) fun xs H Q ⟨m, S, ds, R, s, rx, h, k⟩ => by
  match ds, h, rx with
  | [.ref n], h, rx =>
    obtain ⟨v, rfl, b, q1, rfl⟩ := reps1 rx
    obtain ⟨bs, e1, q⟩ := h
    obtain ⟨a, vs, h1, h2, h3⟩ := s.lst e1
    rw [h1] at q1
    cases q1
    exact ⟨b, bs, rfl, by rw [← h3.bls]; exact SqL.of h2, k _ (.bl (bs.all id)) H S m (Ext.refl _ _) s rfl q⟩
theorem b_any (hc : X.calm = true) : CallR X (.builtin "any") (rlOf X.K rAny) := rlI (L2.cr_any hc) fun xs H Q ⟨m, S, ds, R, s, rx, h, k⟩ => by
  match ds, h, rx with
  | [.ref n], h, rx =>
    obtain ⟨v, rfl, b, q1, rfl⟩ := reps1 rx
    obtain ⟨bs, e1, q⟩ := h
    obtain ⟨a, vs, h1, h2, h3⟩ := s.lst e1
    rw [h1] at q1
    cases q1
    exact ⟨b, bs, rfl, by rw [← h3.bls]; exact SqL.of h2, k _ (.bl (bs.any id)) H S m (Ext.refl _ _) s rfl q⟩
theorem b_gcd : CallR X (.builtin "math.gcd") (rlOf X.K rGcd) := rlI L2.cr_gcd fun xs H Q ⟨m, S, ds, R, s, rx, h, k⟩ => by
  match ds, h, rx with
  | [.int i, .int j], h, rx =>
    obtain ⟨v, u, rfl, hv, hu⟩ := reps2 rx
    have hv : v = .int i := hv
    have hu : u = .int j := hu
    subst hv hu
    exact ⟨i, j, rfl, k _ (.int (Nat.gcd i.natAbs j.natAbs : Nat)) H S m (Ext.refl _ _) s rfl h⟩
theorem kit5 {K : PySem.W.Frag} {a t : String} {b : Bool} (h : (["bool", "int", "str", "tuple", "list"].all fun t => decide (L2.kitB a t = some (if t = a then true else if (a, t) = ("bool", "int") then true else false))) = true) (ht : t ∈ ["bool", "int", "str", "tuple", "list"])
    (hb : b = (if t = a then true else if (a, t) = ("bool", "int") then true else false)) : PySem.W.kitOne K (.type a) (.type t) = some b := by
  refine L2.kit_ty ?_
  rw [hb]
  exact of_decide_eq_true (List.all_eq_true.mp h t ht)
theorem b_isi : CallR X (.builtin "isinstance") (rlOf X.K rIsi) := rlI L2.call_isi fun xs H Q ⟨m, S, ds, R, s, rx, h, k⟩ => by
  match ds, h, rx with
  | [d, .ty t], ⟨b, hb, q⟩, rx =>
    obtain ⟨v, u, rfl, hv, hu⟩ := reps2 rx
    have hu : u = .ty t := hu
    subst hu
    have fin : ∀ {T : String}, L2.TyX X.K H v (.type T) → PySem.W.kitOne X.K (.type T) (.type t) = some b → L2.rIsi X.K [v, .ty t] H Q := fun ty e => ⟨v, .ty t, _, _, b, rfl, .ty t, ty, e, k _ (.bl b) H S m (Ext.refl _ _) s rfl q⟩
    cases d with
    | non =>
      have hv : v = .non := hv
      subst hv
      have hb : (if t ∈ ["bool", "int", "str", "tuple", "list"] then some false else none) = some b := hb
      split at hb
      · rename_i ht
        cases hb
        refine fin (.base .non) ?_
        simp at ht
        rcases ht with rfl | rfl | rfl | rfl | rfl
        · exact kit5 (by decide +kernel) (by decide) (by decide)
        · exact kit5 (by decide +kernel) (by decide) (by decide)
        · exact kit5 (by decide +kernel) (by decide) (by decide)
        · exact kit5 (by decide +kernel) (by decide) (by decide)
        · exact kit5 (by decide +kernel) (by decide) (by decide)
      · cases hb
    | bl c =>
      have hv : v = .bl c := hv
      subst hv
      have hb : (if t ∈ ["bool", "int"] then some true else if t ∈ ["str", "tuple", "list"] then some false else none) = some b := hb
      refine fin (.base (.bl c)) ?_
      split at hb
      · rename_i ht
        cases hb
        simp at ht
        rcases ht with rfl | rfl
        · exact kit5 (by decide +kernel) (by decide) (by decide)
        · exact kit5 (by decide +kernel) (by decide) (by decide)
      · split at hb
        · rename_i ht
          cases hb
          simp at ht
          rcases ht with rfl | rfl | rfl
          · exact kit5 (by decide +kernel) (by decide) (by decide)
          · exact kit5 (by decide +kernel) (by decide) (by decide)
          · exact kit5 (by decide +kernel) (by decide) (by decide)
        · cases hb
    | int c =>
      have hv : v = .int c := hv
      subst hv
      have hb : (if t = "int" then some true else if t ∈ ["bool", "str", "tuple", "list"] then some false else none) = some b := hb
      refine fin (.base (.int c)) ?_
      split at hb
      · rename_i ht
        cases hb
        subst ht
        exact kit5 (by decide +kernel) (by decide) (by decide)
      · split at hb
        · rename_i ht
          cases hb
          simp at ht
          rcases ht with rfl | rfl | rfl | rfl
          · exact kit5 (by decide +kernel) (by decide) (by decide)
          · exact kit5 (by decide +kernel) (by decide) (by decide)
          · exact kit5 (by decide +kernel) (by decide) (by decide)
          · exact kit5 (by decide +kernel) (by decide) (by decide)
        · cases hb
    | str c =>
      have hv : v = .str c := hv
      subst hv
      have hb : (if t = "str" then some true else if t ∈ ["bool", "int", "tuple", "list"] then some false else none) = some b := hb
      refine fin (.base (.str c)) ?_
      split at hb
      · rename_i ht
        cases hb
        subst ht
        exact kit5 (by decide +kernel) (by decide) (by decide)
      · split at hb
        · rename_i ht
          cases hb
          simp at ht
          rcases ht with rfl | rfl | rfl | rfl
          · exact kit5 (by decide +kernel) (by decide) (by decide)
          · exact kit5 (by decide +kernel) (by decide) (by decide)
          · exact kit5 (by decide +kernel) (by decide) (by decide)
          · exact kit5 (by decide +kernel) (by decide) (by decide)
        · cases hb
    | tup c =>
      obtain ⟨a, vs, rfl, hT, rs⟩ := hv
      have hb : (if t = "tuple" then some true else if t ∈ ["bool", "int", "str", "list"] then some false else none) = some b := hb
      have ty : L2.TyX X.K H (.ref a) (.type "tuple") := by
        rcases hT with (hT | ⟨o, hT⟩) | ⟨o, its, n, h1, h2, _⟩
        · exact .base (.tup hT)
        · exact .fTuple hT
        · exact .kTuple h1 h2
      refine fin ty ?_
      split at hb
      · rename_i ht
        cases hb
        subst ht
        exact kit5 (by decide +kernel) (by decide) (by decide)
      · split at hb
        · rename_i ht
          cases hb
          simp at ht
          rcases ht with rfl | rfl | rfl | rfl
          · exact kit5 (by decide +kernel) (by decide) (by decide)
          · exact kit5 (by decide +kernel) (by decide) (by decide)
          · exact kit5 (by decide +kernel) (by decide) (by decide)
          · exact kit5 (by decide +kernel) (by decide) (by decide)
        · cases hb
    | ref n =>
      obtain ⟨a, ha, rfl⟩ := hv
      have hb : (if t = "list" then some true else if t ∈ ["bool", "int", "str", "tuple"] then some false else none) = some b := hb
      obtain ⟨vs, hl⟩ := s.mem (List.mem_of_getElem? ha)
      refine fin (.base (.lst hl)) ?_
      split at hb
      · rename_i ht
        cases hb
        subst ht
        exact kit5 (by decide +kernel) (by decide) (by decide)
      · split at hb
        · rename_i ht
          cases hb
          simp at ht
          rcases ht with rfl | rfl | rfl | rfl
          · exact kit5 (by decide +kernel) (by decide) (by decide)
          · exact kit5 (by decide +kernel) (by decide) (by decide)
          · exact kit5 (by decide +kernel) (by decide) (by decide)
          · exact kit5 (by decide +kernel) (by decide) (by decide)
        · cases hb
    | _ => cases (show (none : Option Bool) = some b from hb)
end
end DL
set_option Elab.async false
set_option linter.all false
set_option maxRecDepth 100000
set_option maxHeartbeats 8000000
/-! DL7: sums, greatest and least, sorting, sorted sets of ints, methods of lists, stores. -/
namespace L2
open PySem PySem.Spec PyProof.Rows
section
variable {P : Program} {w : World} {A : Around} {E : Value → Shared → Prop} {s : Shared}
theorem set_ints_list {l : Addr} {items : Array Value} (ns : List Int) {Q : Value → Shared → Prop} (hh : A.handled = none) (hl : s.heap.IsList l items) (hit : IntsAre items.toList ns) (hb : ns.length + 1 < scanBound)
    (h : ∀ (h' : Heap) (tk c : Nat), SetR w h' s.heap.objs.size (fun j => decide (j ∈ ns)) c → c ≤ ns.length → (∀ b o, s.heap.get? b = some o → h'.get? b = some o) → Q (.ref s.heap.objs.size) { s with heap := h', toks := tk }) :
    wpAny (model P w) A (call (.type "set") [.ref l]) Q E s := by
  have hisz : items.size = ns.length := by
    have q := IntsAre.length hit
    rw [Array.length_toList] at q
    exact q
  obtain ⟨c, tl, hmro⟩ := F.called_set.mro
  have hmade := F.called_set.made
  have hsub := F.called_set.sub
  refine wpAny_call (codeAny_of_tree ?_)
  show wpAny _ _ (callAny (.type "set") _) _ _ _
  refine wpAny_pure ⟨Code.quiet_builtin _ (by decide +kernel), codeAny_builtin F.entry_type_call ?_⟩
  rw [Around.under_plain (weight_type_call_type "set" [.ref l] []) rfl]
  have h1 := F.called_set.notType
  have h2 := F.called_set.canCreate
  have hct := F.typeCall_set_1 (.ref l)
  repeat (any_goals (first | assumption | wp_step))

  refine codeAny_mono (code_set_led1 (.ref l) (E := E) (Q₁ := fun obj s₁ => obj = .ref s.heap.objs.size ∧ s₁ = { s with heap := s.heap.push { cls := .type "set", dict := none, data := .set #[] 0 (.fresh 0 0 (!w.params.followText "set-order")) } }) ⟨rfl, rfl⟩) fun r s₁ hr => ?_
  cases r with
  | error e => exact hr
  | ok fl =>
    cases fl with
    | ret obj =>
      obtain ⟨rfl, rfl⟩ := hr
      have hS : (s.heap.push { cls := .type "set", dict := none, data := .set #[] 0 (.fresh 0 0 (!w.params.followText "set-order")) }).get? s.heap.objs.size = some { cls := .type "set", dict := none, data := .set #[] 0 (.fresh 0 0 (!w.params.followText "set-order")) } := Heap.get?_push_size _ rfl
      have hT : Shared.TypeIs { s with heap := s.heap.push { cls := .type "set", dict := none, data := .set #[] 0 (.fresh 0 0 (!w.params.followText "set-order")) } } (.ref s.heap.objs.size) "set" := ⟨_, hS, rfl⟩
      have hli := F.called_set.init.lookup
      have hbi := F.called_set.init.bind (.ref s.heap.objs.size)
      repeat (any_goals (first | assumption | wp_step))

      refine codeAny_mono (codeAny_call_builtin (R := wants (fun r s₂ => r = .none ∧ ∃ h' tk c, s₂ = { s with heap := h', toks := tk } ∧ SetR w h' s.heap.objs.size (fun j => decide (j ∈ ns)) c ∧ c ≤ ns.length ∧
          (∀ b o, s.heap.get? b = some o → h'.get? b = some o)) E) F.called_set.init.plain F.entry_set_init (check_set_init_1 hT ?_)) fun r₂ s₂ hr₂ => ?_
      · obtain ⟨ol, hol, hcl, nl, hdl⟩ := hl
        obtain ⟨ocls, odict, odata, oslots⟩ := ol
        simp only at hcl hdl
        subst hcl; subst hdl
        have hol' : (s.heap.push { cls := .type "set", dict := none, data := .set #[] 0 (.fresh 0 0 (!w.params.followText "set-order")) }).get? l = some { cls := .type "list", dict := odict, data := .seq items nl, slots := oslots } := Heap.get?_push_of_some _ hol
        have hsls := F.sub_list_set
        have hslf := F.sub_list_frozenset
        have hne : (Value.type "list" == Value.type "dict") = false := by decide
        have hl1 : (s.heap.push { cls := .type "set", dict := none, data := .set #[] 0 (.fresh 0 0 (!w.params.followText "set-order")) }).IsList l items := ⟨_, hol', rfl, nl, rfl⟩
        unfold Builtin.«set.__init__» noKeywords Builtin.Frozenset.updateFrom
        generalize hPI : pyIter = PI
        wp_walk
        subst hPI

        refine wpAny_pyIter_list hl1 ?_
        refine wpAny_bind (wpAny_runValue ?_)
        have hlS : l < s.heap.objs.size := Heap.lt_size hol
        have hh3 : A.in1.in1.in1.handled = none := by simp [hh]
        have hz1 : (s.heap.push { cls := .type "set", dict := none, data := .set #[] 0 (.fresh 0 0 (!w.params.followText "set-order")) }).objs.size = s.heap.objs.size + 1 := Heap.size_push ..
        have hneI : l ≠ (s.heap.push { cls := .type "set", dict := none, data := .set #[] 0 (.fresh 0 0 (!w.params.followText "set-order")) }).objs.size := by
          rw [Heap.size_push]; exact Nat.ne_of_lt (Nat.lt_succ_of_lt hlS)
        have hSf : s.heap.objs.size ∉ [(s.heap.push { cls := .type "set", dict := none, data := .set #[] 0 (.fresh 0 0 (!w.params.followText "set-order")) }).objs.size, l] := by
          rw [Heap.size_push]; simp only [List.mem_cons, List.mem_singleton, List.not_mem_nil, or_false, not_or]
          exact ⟨Nat.ne_of_lt (Nat.lt_succ_self _), Nat.ne_of_gt hlS⟩
        have hval : ∀ (i : Nat) (v : Value), items[i]? = some v → ∃ k t, ns[i]? = some k ∧ v = .int k t := fun i v hv => by
          have hi : i < ns.length := by rw [← hisz]; exact (Array.getElem?_eq_some_iff.mp hv).1
          obtain ⟨t, e⟩ := PyProof.Rows.IntsAre.int_at hit i v (by rw [Array.getElem?_toList]; exact hv)
          refine ⟨ns[i], t, List.getElem?_eq_getElem hi, ?_⟩
          rw [e, List.getD_eq_getElem?_getD, List.getElem?_eq_getElem hi] <;> rfl
        refine set_update_ints ((Walks.list hh3 _ l hneI items).toS) s.heap.objs.size
          hSf ns hisz hb hval (items.size - 0) 0 _ (by omega) (Nat.zero_le _)
          ⟨⟨_, Heap.get?_push_size _ rfl, rfl, rfl⟩, (hl1.push _)⟩ ?hS0 ?hR
        case hS0 =>
          have hget : ((s.heap.push { cls := .type "set", dict := none, data := .set #[] 0 (.fresh 0 0 (!w.params.followText "set-order")) }).push { cls := .type "list_iterator", data := .fields #[.ref l, .int 0 0] }).get? s.heap.objs.size
              = some { cls := .type "set", dict := none, data := .set #[] 0 (.fresh 0 0 (!w.params.followText "set-order")) } := Heap.get?_push_of_some _ hS
          exact ⟨0, Nat.le_refl 0, setR_new_at hget⟩
        case hR =>
          intro s' c' hm hc' hS'
          obtain ⟨h', g2, d', tk', os'⟩ := s'
          have eg : g2 = s.gens := hm.gens
          have ed : d' = s.drawn := hm.drawn
          have eo : os' = s.os := hm.os
          subst eg; subst ed; subst eo
          show wpAny _ _ _ _ _ _
          refine wpAny_pure ?_
          show wpAny _ _ (ret Value.none) _ _ _
          rw [hisz] at hc'
          refine wpAny_pure ⟨rfl, h', tk', c', rfl, hS', hc', fun b o e => ?_⟩
          have hb0 : b < s.heap.objs.size := Heap.lt_size e
          have hb1 : b ≠ s.heap.objs.size := Nat.ne_of_lt hb0
          have hb2 : b ≠ (s.heap.push { cls := .type "set", dict := none, data := .set #[] 0 (.fresh 0 0 (!w.params.followText "set-order")) }).objs.size := by
            rw [Heap.size_push]; exact Nat.ne_of_lt (Nat.lt_succ_of_lt hb0)
          exact hm.heap b o (by simp only [List.mem_cons, List.mem_singleton, List.not_mem_nil, or_false, not_or]; exact ⟨hb1, hb2⟩) (Heap.get?_push_of_some _ (Heap.get?_push_of_some _ e))

      · cases r₂ with
        | error e => exact hr₂
        | ok fl₂ =>
          cases fl₂ with
          | ret r =>
            obtain ⟨rfl, h', tk, c', rfl, hS', hc', hk'⟩ := hr₂
            repeat (any_goals (first | assumption | wp_step))
            exact h _ _ _ hS' hc' hk'
          | _ => exact hr₂.elim
    | _ => exact hr.elim

end
end L2
namespace DL
open PySem PySem.Spec
open L2 (V Hp HO St TE TT TA TS TG TI TO PE PT PW PA PS PSs PG PI PO Cx Inv RelV Vals SqL SqT Rd upd upd_same upd_ne ne_of ne_of_none OpR UnR CallR MtR IxR SlR It thn)
section
variable {X : Cx}
theorem sum_tup (hc : X.calm = true) : CallR X (.builtin "sum") (fun xs H Q => ∃ (a : Addr) (ns : List Int), xs = [V.ref a] ∧ SqT X.K H a (ns.map V.int) ∧ Q (.int ns.sum) H) := by
  intro pins s σ H xs us Q I r h
  obtain ⟨a, ns, rfl, hT, q⟩ := h
  rw [L2.Vals.ref1 r]
  obtain ⟨its, rv, pt, _⟩ := I.tuple hT
  have hi := L2.Vals.ints rv
  obtain ⟨zs, e⟩ := hi.allInts.items
  have hn : numsOf (intItems zs).toList = ns := by rw [← e]; exact hi.numsOf
  rw [nums_intItems] at hn
  have pt' : s.heap.IsTuple a (intItems zs) := by rw [← e]; exact pt
  refine PySem.W.ktm_sumG (I.ok.hd hc) pt' fun h' tk t' hk => ?_
  have e2 : preSum (numAt zs) zs.size = ns.sum := by rw [preSum_eq, List.take_of_length_le (by simp), hn]
  rw [e2]
  exact ⟨.int ns.sum, H, I.kept (h' := h') (t' := tk) hk, ⟨t', rfl⟩, q⟩
theorem itemsAt_rep {K : PySem.W.Frag} {H : Hp} {m : List Addr} {S : Sto} {d : D} {v : V} {xs : List D} (s : RepS K H m S) (r : Rep K H m d v) (h : itemsAt d S = some xs) : (∃ a vs, v = .ref a ∧ SqL K H a vs ∧ Reps K H m xs vs) ∨ ∃ a vs, v = .ref a ∧ SqT K H a vs ∧ Reps K H m xs vs := by
  cases d with
  | tup ys =>
    have h : some ys = some xs := h
    cases h
    obtain ⟨a, vs, rfl, hT, rs⟩ := r
    exact .inr ⟨a, vs, rfl, hT, rs⟩
  | ref n =>
    obtain ⟨a, ha, rfl⟩ := r
    have h : (match S[n]? with
      | some (.lst xs) => some xs
      | _ => none) = some xs := h
    split at h
    · rename_i ys hy
      cases h
      obtain ⟨b, vs, h1, h2, h3⟩ := s.lst hy
      rw [ha] at h1
      cases h1
      exact .inl ⟨a, vs, rfl, SqL.of h2, h3⟩
    · cases h
  | _ => cases (show (none : Option (List D)) = some xs from h)
theorem b_sum (hc : X.calm = true) : CallR X (.builtin "sum") (rlOf X.K rSum) := rlI ((L2.cr_sum hc).or (sum_tup hc)) fun xs H Q ⟨m, S, ds, R, s, rx, h, k⟩ => by
  match ds, h, rx with
  | [d], ⟨ns, h1, q⟩, rx =>
    obtain ⟨v, rfl, hv⟩ := reps1 rx
    rcases itemsAt_rep s hv h1 with ⟨a, vs, rfl, hL, rs⟩ | ⟨a, vs, rfl, hL, rs⟩
    · exact .inl ⟨a, ns, rfl, by rw [← rs.ints]; exact hL, k _ (.int ns.sum) H S m (Ext.refl _ _) s rfl q⟩
    · exact .inr ⟨a, ns, rfl, by rw [← rs.ints]; exact hL, k _ (.int ns.sum) H S m (Ext.refl _ _) s rfl q⟩

theorem readsI {h : Heap} : ∀ {us : List Value} {ns : List Int}, PyProof.Rows.IntsAre us ns → ReadsAll h us (ns.map PyData.int) []
  | _, _, .nil => .nil
  | _, _, .cons n t r => by
    have := ReadsAll.cons (h := h) (Reads.int n t) (readsI r)
    simpa using this
theorem alike_all_ints (ns : List Int) : PySem.W.AlikeAll (ns.map PyData.int) := by
  refine ⟨fun x hx y hy => ?_, fun x hx z => ?_⟩
  · obtain ⟨a, _, rfl⟩ := List.mem_map.mp hx
    obtain ⟨b, _, rfl⟩ := List.mem_map.mp hy
    simp [PySem.W.alike]
  · obtain ⟨a, _, rfl⟩ := List.mem_map.mp hx
    cases z
theorem fold_max : ∀ (ns : List Int) (n : Int), (ns.foldl max n = n ∨ ns.foldl max n ∈ ns) ∧ n ≤ ns.foldl max n ∧ ∀ y ∈ ns, y ≤ ns.foldl max n
  | [], n => ⟨.inl rfl, Int.le_refl _, fun y hy => nomatch hy⟩
  | a :: ns, n => by
    obtain ⟨h1, h2, h3⟩ := fold_max ns (max n a)
    rw [List.foldl_cons]
    refine ⟨?_, by omega, fun y hy => ?_⟩
    · rcases h1 with h1 | h1
      · rw [h1]
        by_cases c : n ≤ a
        · exact .inr (by rw [Int.max_eq_right c]; exact List.mem_cons_self)
        · exact .inl (Int.max_eq_left (by omega))
      · exact .inr (List.mem_cons_of_mem _ h1)
    · rcases List.mem_cons.mp hy with rfl | hy
      · omega
      · exact h3 y hy
theorem fold_min : ∀ (ns : List Int) (n : Int), (ns.foldl min n = n ∨ ns.foldl min n ∈ ns) ∧ ns.foldl min n ≤ n ∧ ∀ y ∈ ns, ns.foldl min n ≤ y
  | [], n => ⟨.inl rfl, Int.le_refl _, fun y hy => nomatch hy⟩
  | a :: ns, n => by
    obtain ⟨h1, h2, h3⟩ := fold_min ns (min n a)
    rw [List.foldl_cons]
    refine ⟨?_, by omega, fun y hy => ?_⟩
    · rcases h1 with h1 | h1
      · rw [h1]
        by_cases c : a ≤ n
        · exact .inr (by rw [Int.min_eq_right c]; exact List.mem_cons_self)
        · exact .inl (Int.min_eq_left (by omega))
      · exact .inr (List.mem_cons_of_mem _ h1)
    · rcases List.mem_cons.mp hy with rfl | hy
      · omega
      · exact h3 y hy
theorem depth_ints : ∀ ns : List Int, PyData.depthAll (ns.map PyData.int) = 0
  | [] => rfl
  | n :: ns => by
    show max 0 (PyData.depthAll (ns.map PyData.int)) = 0
    rw [depth_ints ns]
    rfl
theorem max_tup {kk : Nat} (hc : X.calm = true) (hr : L2.Room kk X.A) : CallR X (.builtin "max") (fun xs H Q => ∃ (a : Addr) (ns : List Int), xs = [V.ref a] ∧ SqT X.K H a (ns.map V.int) ∧ 0 < ns.length ∧ ∀ m, m ∈ ns → (∀ y, y ∈ ns → y ≤ m) → Q (.int m) H) := by
  intro pins s σ H xs us Q I r h
  obtain ⟨a, ns, rfl, hT, hn, q⟩ := h
  rw [L2.Vals.ref1 r]
  obtain ⟨its, rv, pt, _⟩ := I.tuple hT
  have hi := L2.Vals.ints rv
  cases ns with
  | nil => exact absurd hn (Nat.lt_irrefl 0)
  | cons n ns =>
    refine PySem.W.max_tuple_data (I.ok.hd hc) (show s.heap.IsTuple a its.toArray from pt) (x := .int n) (xs := ns.map PyData.int) (as := []) (by simpa using readsI hi) (alike_all_ints (n :: ns)) ?_ fun i v h' tk bs _ rd hk => ?_
    · have e := depth_ints (n :: ns)
      rw [List.map_cons] at e
      rw [e]
      have := hr.un
      omega
    · rw [PySem.W.maxD_ints] at rd
      obtain ⟨h1, h2, h3⟩ := fold_max ns n
      cases rd with
      | int _ t =>
        refine ⟨.int (ns.foldl max n), H, I.kept (h' := h') (t' := tk) hk, ⟨t, rfl⟩, q _ ?_ fun y hy => ?_⟩
        · rcases h1 with h1 | h1
          · rw [h1]; exact List.mem_cons_self
          · exact List.mem_cons_of_mem _ h1
        · rcases List.mem_cons.mp hy with rfl | hy
          · exact h2
          · exact h3 y hy
theorem min_tup {kk : Nat} (hc : X.calm = true) (hr : L2.Room kk X.A) : CallR X (.builtin "min") (fun xs H Q => ∃ (a : Addr) (ns : List Int), xs = [V.ref a] ∧ SqT X.K H a (ns.map V.int) ∧ 0 < ns.length ∧ ∀ m, m ∈ ns → (∀ y, y ∈ ns → m ≤ y) → Q (.int m) H) := by
  intro pins s σ H xs us Q I r h
  obtain ⟨a, ns, rfl, hT, hn, q⟩ := h
  rw [L2.Vals.ref1 r]
  obtain ⟨its, rv, pt, _⟩ := I.tuple hT
  have hi := L2.Vals.ints rv
  cases ns with
  | nil => exact absurd hn (Nat.lt_irrefl 0)
  | cons n ns =>
    refine PySem.W.min_tuple_data (I.ok.hd hc) (show s.heap.IsTuple a its.toArray from pt) (x := .int n) (xs := ns.map PyData.int) (as := []) (by simpa using readsI hi) (alike_all_ints (n :: ns)) ?_ fun i v h' tk bs _ rd hk => ?_
    · have e := depth_ints (n :: ns)
      rw [List.map_cons] at e
      rw [e]
      have := hr.un
      omega
    · rw [PySem.W.minD_ints] at rd
      obtain ⟨h1, h2, h3⟩ := fold_min ns n
      cases rd with
      | int _ t =>
        refine ⟨.int (ns.foldl min n), H, I.kept (h' := h') (t' := tk) hk, ⟨t, rfl⟩, q _ ?_ fun y hy => ?_⟩
        · rcases h1 with h1 | h1
          · rw [h1]; exact List.mem_cons_self
          · exact List.mem_cons_of_mem _ h1
        · rcases List.mem_cons.mp hy with rfl | hy
          · exact h2
          · exact h3 y hy
theorem b_max {kk : Nat} (hc : X.calm = true) (hr : L2.Room kk X.A) : CallR X (.builtin "max") (rlOf X.K rMax) := rlI ((L2.cr_max hc).or (max_tup hc hr)) fun xs H Q ⟨m, S, ds, R, s, rx, h, k⟩ => by
  match ds, h, rx with
  | [d], ⟨ns, h1, h2, q⟩, rx =>
    obtain ⟨v, rfl, hv⟩ := reps1 rx
    rcases itemsAt_rep s hv h1 with ⟨a, vs, rfl, hL, rs⟩ | ⟨a, vs, rfl, hL, rs⟩
    · exact .inl ⟨a, ns, rfl, by rw [← rs.ints]; exact hL, h2, fun n hn hy => k _ (.int n) H S m (Ext.refl _ _) s rfl (q n hn hy)⟩
    · exact .inr ⟨a, ns, rfl, by rw [← rs.ints]; exact hL, h2, fun n hn hy => k _ (.int n) H S m (Ext.refl _ _) s rfl (q n hn hy)⟩
theorem b_min {kk : Nat} (hc : X.calm = true) (hr : L2.Room kk X.A) : CallR X (.builtin "min") (rlOf X.K rMin) := rlI ((L2.cr_min hc).or (min_tup hc hr)) fun xs H Q ⟨m, S, ds, R, s, rx, h, k⟩ => by
  match ds, h, rx with
  | [d], ⟨ns, h1, h2, q⟩, rx =>
    obtain ⟨v, rfl, hv⟩ := reps1 rx
    rcases itemsAt_rep s hv h1 with ⟨a, vs, rfl, hL, rs⟩ | ⟨a, vs, rfl, hL, rs⟩
    · exact .inl ⟨a, ns, rfl, by rw [← rs.ints]; exact hL, h2, fun n hn hy => k _ (.int n) H S m (Ext.refl _ _) s rfl (q n hn hy)⟩
    · exact .inr ⟨a, ns, rfl, by rw [← rs.ints]; exact hL, h2, fun n hn hy => k _ (.int n) H S m (Ext.refl _ _) s rfl (q n hn hy)⟩
/-! methods, stores -/
theorem refL {K : PySem.W.Frag} {H : Hp} {m : List Addr} {S : Sto} {n : Nat} {x : V} {P : List D → Prop} (s : RepS K H m S) (r : Rep K H m (.ref n) x) (h : isLst S n P) : ∃ a vs xs, x = .ref a ∧ m[n]? = some a ∧ H a = some (.lst vs) ∧ Reps K H m xs vs ∧ S[n]? = some (.lst xs) ∧ P xs := by
  obtain ⟨xs, e1, q⟩ := isLst_iff.mp h
  obtain ⟨a, vs, h1, h2, h3⟩ := s.lst e1
  obtain ⟨b, q1, rfl⟩ := r
  rw [h1] at q1
  cases q1
  exact ⟨_, vs, xs, rfl, h1, h2, h3, e1, q⟩
theorem m_append : MtR X "list.append" (rmOf X.K rAppend) := rmI L2.mt_append fun x xs H Q ⟨m, S, d, ds, R, s, rx, rs, h, k⟩ => by
  match d, ds, h, rx, rs with
  | .ref n, [d], h, rx, rs =>
    obtain ⟨a, vs, ys, rfl, h1, h2, h3, e1, hz, q⟩ := refL s rx h
    obtain ⟨v, rfl, hv⟩ := reps1 rs
    exact ⟨a, vs, v, rfl, rfl, h2, by rw [h3.len, ← szL']; exact hz, k.put s e1 h1 h2 (h3.app (Reps.one hv)) (d := .non) rfl q⟩
theorem m_pop : MtR X "list.pop" (rmOf X.K rPop) := rmI L2.mt_pop fun x xs H Q ⟨m, S, d, ds, R, s, rx, rs, h, k⟩ => by
  match d, ds, h, rx, rs with
  | .ref n, [], h, rx, rs =>
    obtain ⟨a, vs, ys, rfl, h1, h2, h3, e1, d, hd, q⟩ := refL s rx h
    obtain ⟨v, g1, g2⟩ := h3.get _ _ hd
    exact ⟨a, vs, v, rfl, rs, h2, by rw [h3.len]; exact g1, k.put s e1 h1 h2 h3.dropLast g2 q⟩
theorem ixZ_seq {n : Nat} {i : Int} {j : Nat} (h : ixZ n i = some j) : seqIndex? i n = some j ∧ j < n ∧ -(n : Int) ≤ i ∧ i < n := L2.ixN_seq h
theorem m_popAt : MtR X "list.pop" (rmOf X.K rPopAt) := rmI L2.mt_popAt fun x xs H Q ⟨m, S, d, ds, R, s, rx, rs, h, k⟩ => by
  match d, ds, h, rx, rs with
  | .ref n, [.int i], h, rx, rs =>
    obtain ⟨a, vs, ys, rfl, h1, h2, h3, e1, ⟨i0, i1⟩, j, d, hj, hd, q⟩ := refL s rx h
    obtain ⟨v, rfl, hv⟩ := reps1 rs
    have hv : v = .int i := hv
    subst hv
    obtain ⟨u, g1, g2⟩ := h3.get _ _ hd
    obtain ⟨p1, p2, p3, p4⟩ := ixZ_seq hj
    exact ⟨a, vs, i, j, u, rfl, rfl, h2, i0, i1, by rw [h3.len]; exact p1, g1, k.put s e1 h1 h2 (h3.erase j) g2 q⟩
theorem m_reverse : MtR X "list.reverse" (rmOf X.K rReverse) := rmI L2.mt_reverse fun x xs H Q ⟨m, S, d, ds, R, s, rx, rs, h, k⟩ => by
  match d, ds, h, rx, rs with
  | .ref n, [], h, rx, rs =>
    obtain ⟨a, vs, ys, rfl, h1, h2, h3, e1, q⟩ := refL s rx h
    exact ⟨a, vs, rfl, rs, h2, k.put s e1 h1 h2 h3.rev (d := .non) rfl q⟩
theorem m_insert : MtR X "list.insert" (rmOf X.K rInsert) := rmI L2.mt_insert fun x xs H Q ⟨m, S, d, ds, R, s, rx, rs, h, k⟩ => by
  match d, ds, h, rx, rs with
  | .ref n, [.int i, d], h, rx, rs =>
    obtain ⟨a, vs, ys, rfl, h1, h2, h3, e1, hz, ⟨i0, i1⟩, q⟩ := refL s rx h
    obtain ⟨v, u, rfl, hv, hu⟩ := reps2 rs
    have hv : v = .int i := hv
    subst hv
    exact ⟨a, vs, i, u, rfl, rfl, h2, by rw [h3.len, ← szL']; exact hz, i0, i1, k.put s e1 h1 h2 (((h3.take _).app (Reps.one hu)).app (h3.drop _)) (d := .non) rfl q⟩
theorem p_put : L2.PSet X (rpOf X.K rPut) := fun pins s σ H o i v ov iv u Q I ro ri rv ⟨m, S, x, j, d, R, hs, rx, rk, rd, h, k⟩ => by
  match x, j, h, rx, rk with
  | .ref n, .int z, h, rx, rk =>
    obtain ⟨a, vs, ys, rfl, h1, h2, h3, e1, jj, hj, q⟩ := refL hs rx h
    have rk : i = .int z := rk
    subst rk
    refine L2.set_list pins s σ H (.ref a) (.int z) v ov iv u Q I ro ri rv ⟨a, vs, z, jj, rfl, rfl, h2, by rw [h3.len]; exact hj, ?_⟩
    exact k _ _ m (Ext.wrote (List.mem_of_getElem? h1) h2) (hs.set e1 h1 (h3.set jj rd)) q

/-! sorting -/
mutual
theorem akin_eq : ∀ a b : D, akin a b = true → PySem.W.alike (toPy a) (toPy b) = true
  | .int _, .int _, _ => by simp [toPy, PySem.W.alike]
  | .str _, .str _, _ => by simp [toPy, PySem.W.alike]
  | .tup xs, .tup ys, h => by
    have := akins_eq xs ys h
    simpa [toPy, PySem.W.alike] using this
  | .non, b, h => by cases b <;> cases (show false = true from h)
  | .bl _, b, h => by cases b <;> cases (show false = true from h)
  | .rol _, b, h => by cases b <;> cases (show false = true from h)
  | .ref _, b, h => by cases b <;> cases (show false = true from h)
  | .ty _, b, h => by cases b <;> cases (show false = true from h)
  | .int _, .non, h | .int _, .bl _, h | .int _, .str _, h | .int _, .tup _, h | .int _, .rol _, h | .int _, .ref _, h | .int _, .ty _, h => by cases (show false = true from h)
  | .str _, .non, h | .str _, .bl _, h | .str _, .int _, h | .str _, .tup _, h | .str _, .rol _, h | .str _, .ref _, h | .str _, .ty _, h => by cases (show false = true from h)
  | .tup _, .non, h | .tup _, .bl _, h | .tup _, .int _, h | .tup _, .str _, h | .tup _, .rol _, h | .tup _, .ref _, h | .tup _, .ty _, h => by cases (show false = true from h)
theorem akins_eq : ∀ a b : List D, akins a b = true → PySem.W.alikeAll (toPys a) (toPys b) = true
  | [], _, _ => by simp [toPys, PySem.W.alikeAll]
  | _ :: _, [], _ => by simp [toPys, PySem.W.alikeAll]
  | x :: xs, y :: ys, h => by
    have h := Bool.and_eq_true_iff.mp (show (akin x y && akins xs ys) = true from h)
    simp [toPys, PySem.W.alikeAll, akin_eq x y h.1, akins_eq xs ys h.2]
end
mutual
theorem lt_eq : ∀ a b : D, flat a = true → flat b = true → akin a b = true → PySem.W.dataLt (toPy a) (toPy b) = ltD a b
  | .int i, .int j, _, _, _ => PySem.W.dataLt_int i j
  | .str i, .str j, _, _, _ => PySem.W.dataLt_str i j
  | .tup xs, .tup ys, f, g, h => by
    show PySem.W.dataLt (.tuple (toPys xs)) (.tuple (toPys ys)) = ltDs xs ys
    rw [PySem.W.dataLt_tuple]
    exact lts_eq xs ys f g h
  | .non, b, _, _, h => by cases b <;> cases (show false = true from h)
  | .bl _, b, _, _, h => by cases b <;> cases (show false = true from h)
  | .rol _, b, _, _, h => by cases b <;> cases (show false = true from h)
  | .ref _, b, _, _, h => by cases b <;> cases (show false = true from h)
  | .ty _, b, _, _, h => by cases b <;> cases (show false = true from h)
  | .int _, .non, _, _, h | .int _, .bl _, _, _, h | .int _, .str _, _, _, h | .int _, .tup _, _, _, h | .int _, .rol _, _, _, h | .int _, .ref _, _, _, h | .int _, .ty _, _, _, h => by cases (show false = true from h)
  | .str _, .non, _, _, h | .str _, .bl _, _, _, h | .str _, .int _, _, _, h | .str _, .tup _, _, _, h | .str _, .rol _, _, _, h | .str _, .ref _, _, _, h | .str _, .ty _, _, _, h => by cases (show false = true from h)
  | .tup _, .non, _, _, h | .tup _, .bl _, _, _, h | .tup _, .int _, _, _, h | .tup _, .str _, _, _, h | .tup _, .rol _, _, _, h | .tup _, .ref _, _, _, h | .tup _, .ty _, _, _, h => by cases (show false = true from h)
theorem lts_eq : ∀ a b : List D, flats a = true → flats b = true → akins a b = true → PyProof.Rows.lexLt PyProof.Rows.itemOrd (PySem.W.keyToksAll (toPys a)) (PySem.W.keyToksAll (toPys b)) = ltDs a b
  | [], [], _, _, _ => PyProof.Rows.lex_irrefl _
  | [], y :: ys, _, _, _ => by
    exact PyProof.Rows.lex_true.mpr (.inl rfl)
  | x :: xs, [], _, _, _ => by
    exact PyProof.Rows.lex_false.mpr ⟨rfl, .inl rfl⟩
  | x :: xs, y :: ys, f, g, h => by
    have f := Bool.and_eq_true_iff.mp (show (flat x && flats xs) = true from f)
    have g := Bool.and_eq_true_iff.mp (show (flat y && flats ys) = true from g)
    have h := Bool.and_eq_true_iff.mp (show (akin x y && akins xs ys) = true from h)
    show PyProof.Rows.lexLt PyProof.Rows.itemOrd (PySem.W.keyToksAll (toPy x :: toPys xs)) (PySem.W.keyToksAll (toPy y :: toPys ys)) = if eqD x y = true then ltDs xs ys else ltD x y
    rw [PySem.W.dataLt_cons (akin_eq x y h.1), eqv_eq x y f.1 g.1, lts_eq xs ys f.2 g.2 h.2, lt_eq x y f.1 g.1 h.1]
end

theorem sort_trans (a b c : D) : PySem.W.dataLe false toPy a b = true → PySem.W.dataLe false toPy b c = true → PySem.W.dataLe false toPy a c = true := by
  rw [PySem.W.dataLe_eq]
  show (!PySem.W.dataLt (toPy b) (toPy a)) = true → (!PySem.W.dataLt (toPy c) (toPy b)) = true → (!PySem.W.dataLt (toPy c) (toPy a)) = true
  intro h1 h2
  cases e : PySem.W.dataLt (toPy c) (toPy a) with
  | false => rfl
  | true =>
    rcases PyProof.Rows.lex_negTrans _ (PySem.W.keyToks (toPy b)) _ e with q | q
    · rw [show PySem.W.dataLt (toPy c) (toPy b) = true from q] at h2; cases h2
    · rw [show PySem.W.dataLt (toPy b) (toPy a) = true from q] at h1; cases h1
theorem sort_total (a b : D) : (PySem.W.dataLe false toPy a b || PySem.W.dataLe false toPy b a) = true := by
  rw [PySem.W.dataLe_eq]
  show ((!PySem.W.dataLt (toPy b) (toPy a)) || (!PySem.W.dataLt (toPy a) (toPy b))) = true
  cases e : PySem.W.dataLt (toPy b) (toPy a) with
  | false => rfl
  | true =>
    cases e2 : PySem.W.dataLt (toPy a) (toPy b) with
    | false => rfl
    | true =>
      have := PyProof.Rows.lex_trans _ _ _ (show PyProof.Rows.lexLt PyProof.Rows.itemOrd (PySem.W.keyToks (toPy b)) (PySem.W.keyToks (toPy a)) = true from e) e2
      rw [PyProof.Rows.lex_irrefl] at this
      cases this
theorem flats_mem : ∀ {xs : List D}, flats xs = true → ∀ a ∈ xs, flat a = true
  | [], _, a, h => nomatch h
  | x :: xs, f, a, h => by
    have f := Bool.and_eq_true_iff.mp (show (flat x && flats xs) = true from f)
    rcases List.mem_cons.mp h with rfl | h
    · exact f.1
    · exact flats_mem f.2 a h
theorem deeps_mem : ∀ {xs : List D} (a : D), a ∈ xs → deep a ≤ deeps xs
  | [], a, h => nomatch h
  | x :: xs, a, h => by
    show deep a ≤ max (deep x) (deeps xs)
    rcases List.mem_cons.mp h with rfl | h
    · exact Nat.le_max_left _ _
    · exact Nat.le_trans (deeps_mem a h) (Nat.le_max_right _ _)
/-- a value that stands for plain data -/
def Stands (K : PySem.W.Frag) (H : Hp) (m : List Addr) (u : Value) (d : D) : Prop := ∃ v, RelV v u ∧ Rep K H m d v
theorem stands_all {K : PySem.W.Frag} {H : Hp} {m : List Addr} : ∀ {ds : List D} {vs : List V} {us : List Value}, Reps K H m ds vs → Vals vs us → PySem.W.EachIs (Stands K H m) us ds
  | [], _, _, r, rv => by
    rw [show _ = ([] : List V) from r] at rv
    cases rv
    exact .nil
  | d :: ds, _, _, ⟨v, r, h1, h2, h3⟩, rv => by
    subst h1
    cases rv with
    | cons a b => exact .cons ⟨v, a, h2⟩ (stands_all h3 b)
theorem stands_back {K : PySem.W.Frag} {H : Hp} {m : List Addr} : ∀ {ds : List D} {us : List Value}, PySem.W.EachIs (Stands K H m) us ds → ∃ vs, Reps K H m ds vs ∧ Vals vs us
  | _, _, .nil => ⟨[], rfl, .nil⟩
  | _, _, .cons ⟨v, h1, h2⟩ t => by
    obtain ⟨vs, g1, g2⟩ := stands_back t
    exact ⟨v :: vs, ⟨v, vs, rfl, h2, g1⟩, .cons h1 g2⟩
theorem toPy_tup {d : D} {x : D} {r : List D} (h : d = .tup (x :: r)) : ∃ y s, toPy d = .tuple (y :: s) := ⟨toPy x, toPys r, by rw [h]; rfl⟩
theorem b_sorted {kk : Nat} (hr : L2.Room kk X.A) : CallR X (.builtin "sorted") (rlOf X.K rSorted) := by
  intro pins s σ H vs us Q I rv ⟨m, S, ds, R, hS, rs, h, k⟩
  match ds, h, rs with
  | [.ref n], h, rs =>
    obtain ⟨v, rfl, hv⟩ := reps1 rs
    obtain ⟨a, ws, xs, rfl, h1, h2, h3, e1, ⟨f, dp, ak, so⟩, q⟩ := refL hS hv h
    rw [L2.Vals.ref1 rv]
    obtain ⟨its, rw', pl, hz⟩ := I.list (SqL.of h2)
    have st := stands_all h3 rw'
    have hm : ∀ b ∈ xs, flat b = true := flats_mem f
    have rd : ∀ {ds : List D} {us : List Value}, PySem.W.EachIs (Stands X.K H m) us ds → (∀ d ∈ ds, flat d = true) → PySem.W.EachIs (fun u d => ∃ as, Reads s.heap u (toPy d) as) us ds := by
      intro ds us e
      induction e with
      | nil => intro _; exact .nil
      | cons h t ih =>
        intro hf
        obtain ⟨v, g1, g2⟩ := h
        exact .cons (L2.Dp.reads I _ _ _ (toPy_dp _ _ (hf _ List.mem_cons_self) g2) g1) (ih fun d hd => hf d (List.mem_cons_of_mem _ hd))
    refine PySem.W.sorted_data (enc := toPy) (bs := xs) (R := Stands X.K H m) pl.isList st (rd st hm) ?_ ?_ (by rw [← h3.len]; exact hz) (fun b hb => ?_) fun out ho eo => ?_
    · intro d hd d' hd'
      obtain ⟨b, hb, rfl⟩ := List.mem_map.mp hd
      obtain ⟨b', hb', rfl⟩ := List.mem_map.mp hd'
      exact akin_eq b b' (ak b hb b' hb')
    · rcases so with so | so
      · refine .inl fun d hd => ?_
        obtain ⟨b, hb, rfl⟩ := List.mem_map.mp hd
        obtain ⟨x, r, e⟩ := so b hb
        exact toPy_tup e
      · refine .inr fun d hd => ?_
        obtain ⟨b, hb, rfl⟩ := List.mem_map.mp hd
        obtain ⟨n1, n2⟩ := so b hb
        have fb := hm b hb
        cases b with
        | non => exact absurd rfl n1
        | tup ys => exact absurd rfl (n2 ys)
        | rol _ => cases (show false = true from fb)
        | ref _ => cases (show false = true from fb)
        | ty _ => cases (show false = true from fb)
        | bl _ => exact ⟨(fun z => nomatch z), (fun _ z => nomatch z)⟩
        | int _ => exact ⟨(fun z => nomatch z), (fun _ z => nomatch z)⟩
        | str _ => exact ⟨(fun z => nomatch z), (fun _ z => nomatch z)⟩
    · rw [deep_eq]
      have := deeps_mem b hb
      have := hr.units
      omega
    · obtain ⟨c, hc⟩ := PyProof.Rows.sortedAll_at s.heap its out.toArray
      obtain ⟨ys, g1, g2⟩ := stands_back eo
      have hp : H (s.heap.objs.size + 1) = none := I.hok.fresh (Nat.le_succ _)
      have perm := List.mergeSort_perm xs (PySem.W.dataLe false toPy)
      have pw := List.pairwise_mergeSort sort_trans sort_total xs
      refine ⟨.ref (s.heap.objs.size + 1), upd H (s.heap.objs.size + 1) (.lst ys), I.laid (t' := s.toks) (fun _ _ => PyProof.Rows.sortedAll_old) (Nat.le_succ _) ⟨?_, out, c, g2, hc⟩, rfl, ?_⟩
      · rw [g1.len, List.length_mergeSort, ← h3.len]
        exact hz
      · refine k.lst hS g1 (q _ perm ?_) _ hp
        refine List.Pairwise.imp_of_mem (fun {x y} hx hy hxy => ?_) pw
        have hx' := perm.mem_iff.mp hx
        have hy' := perm.mem_iff.mp hy
        have hxy : (!PySem.W.dataLt (toPy y) (toPy x)) = true := hxy
        rw [lt_eq y x (hm y hy') (hm x hx') (ak y hy' x hx')] at hxy
        simpa using hxy
/-- set(xs) of ints: tracked beside -/
theorem set_ints (hc : X.calm = true) : CallR X (.type "set") (fun xs H Q => ∃ (a : Addr) (ns : List Int), xs = [V.ref a] ∧ (SqL X.K H a (ns.map V.int) ∨ SqT X.K H a (ns.map V.int)) ∧ ns.length < 60 ∧
    ∀ p c, H p = none → c ≤ ns.length → Q (.ref p) (upd H p (L2.SetO X.w p (fun j => decide (j ∈ ns)) c))) := by
  intro pins s σ H xs us Q I r h
  obtain ⟨a, ns, rfl, hT, hn, q⟩ := h
  rw [L2.Vals.ref1 r]
  have hb : ns.length + 1 < scanBound := by unfold scanBound; omega
  have hp : H s.heap.objs.size = none := I.hok.fresh (Nat.le_refl _)
  rcases hT with hT | hT
  · obtain ⟨its, rv, pt, _⟩ := I.list hT
    refine L2.set_ints_list (items := its.toArray) ns (I.ok.hd hc) pt.isList (by simpa using L2.Vals.ints rv) hb fun h' tk c R hc hk => ?_
    exact ⟨.ref s.heap.objs.size, _, I.laid (t' := tk) hk (Nat.le_refl _) (L2.setO_new R), rfl, q _ c hp hc⟩
  · obtain ⟨its, rv, pt, _⟩ := I.tuple hT
    refine L2.call_set_tupI (items := its.toArray) ns (I.ok.hd hc) (show s.heap.IsTuple a its.toArray from pt) (by simpa using L2.Vals.ints rv) hb fun h' tk c R hc hk => ?_
    exact ⟨.ref s.heap.objs.size, _, I.laid (t' := tk) hk (Nat.le_refl _) (L2.setO_new R), rfl, q _ c hp hc⟩
theorem d_sortedSet {e : Expr} {wa : WE} {p p2 pos pos2 : Pos} (hc : X.calm = true) (hg : L2.Gl X "sorted") (hm : X.mg "sorted" = none) (hg2 : L2.Gl X "set") (hm2 : X.mg "set" = none) (he : PE X e (teOf X.K wa))
    (h1 : starEach [e] X.env = [(false, eval e X.env)] := by rfl) : PE X (.Call (.Name "sorted" p) [.Call (.Name "set" p2) [e] [] pos2] [] pos) (teOf X.K (wSortedSet wa)) :=
  peI (L2.pe_callB (L2.cr_sortedSet hc) hg hm (by decide +kernel) (L2.pa_cons (L2.pe_callTy (set_ints hc) hg2 hm2 (by decide +kernel) (L2.pa_cons he L2.pa_nil h1) (he := h1)) L2.pa_nil)) fun σ H Q ⟨ρ, S, m, R, hE, hS, h, k⟩ =>
    ⟨ρ, S, m, _, hE, hS, h, fun v d H1 S1 m1 e1 s1 r1 ⟨ns, g1, g2, q⟩ => by
      have go : ∀ (a : Addr), v = .ref a → (SqL X.K H1 a (ns.map V.int) ∨ SqT X.K H1 a (ns.map V.int)) → ∃ (a : Addr) (ns' : List Int), [v] = [V.ref a] ∧ (SqL X.K H1 a (ns'.map V.int) ∨ SqT X.K H1 a (ns'.map V.int)) ∧ ns'.length < 60 ∧
          ∀ p c, H1 p = none → c ≤ ns'.length → (L2.tNil σ (upd H1 p (L2.SetO X.w p (fun j => decide (j ∈ ns')) c)) fun xs H2 => L2.rSortedSet X.w (V.ref p :: xs) H2 Q) := by
        rintro a rfl hT
        refine ⟨a, ns, rfl, hT, g2, fun p c hp hcl => ⟨p, _, c, rfl, upd_same, by omega, fun ms p2 pw mem hl hp2 => ?_⟩⟩
        have e2 := e1.trans (Ext.fresh (m := m1) hp (L2.SetO X.w p (fun j => decide (j ∈ ns)) c))
        exact (k.ext e2).lst (s1.fresh hp _) (ds := intD ms) Reps.of_ints (q ms pw fun kk => by rw [mem kk]; simp) p2 hp2
      rcases itemsAt_rep s1 r1 g1 with ⟨a, vs, e, hL, rs⟩ | ⟨a, vs, e, hL, rs⟩
      · exact go a e (.inl (by rw [← rs.ints]; exact hL))
      · exact go a e (.inr (by rw [← rs.ints]; exact hL))⟩
end
end DL
set_option Elab.async false
set_option linter.all false
set_option maxRecDepth 100000
set_option maxHeartbeats 4000000
/-! DL8: defs as they are called. -/
namespace DL
open PySem PySem.Spec
open L2 (V Hp HO St TE TT TA TS TG TI TO PE PT PW PA PS PSs PG PI PO Cx Inv RelV Vals SqL SqT Rd upd upd_same upd_ne ne_of ne_of_none OpR UnR CallR MtR IxR SlR It thn)
/-- the def that stands at the name x: it keeps sp, with k calls within one another -/
structure Callee (P : Program) (w : World) (K : PySem.W.Frag) (mg : Str → Option Value) (base : Heap) (x : Str) (k n : Nat) (sp : Spc) : Prop where
  ex : ∃ (f : Addr) (fd : FuncData) (ps : List Str), L2.FnOk P w K mg base L2.CX0 k f fd ps (spOf K n sp) ∧ mg x = some (.ref f) ∧ PySem.W.keepIn K (.ref f) = true ∧ L2.Binds K fd ps []
theorem Callee.imp {P : Program} {w : World} {K : PySem.W.Frag} {mg : Str → Option Value} {base : Heap} {x : Str} {k n : Nat} {sp sp' : Spc} (C : Callee P w K mg base x k n sp) (h : ∀ ds S Q, sp' ds S Q → sp ds S Q) : Callee P w K mg base x k n sp' := by
  obtain ⟨f, fd, ps, h1, h2, h3, h4⟩ := C.ex
  exact ⟨f, fd, ps, h1.imp fun vs H Q E ⟨m, S, ds, R, a, b, c, d, e⟩ => ⟨m, S, ds, R, a, b, c, h _ _ _ d, e⟩, h2, h3, h4⟩
section
variable {X : Cx} {e : Expr} {es : List Expr} {pos p : Pos} {va : WA}
theorem d_calle {kk k0 n : Nat} {sp : Spc} {x : Str} (C : Callee X.prog X.w X.K X.mg X.base x k0 n sp) (hr : L2.Room kk X.A) (hk : k0 ≤ kk) (hg : L2.Gl X x) (ha : PA X (e :: es) (taOf X.K va)) (hd : (x == ("__debug__" : Str)) = false := by decide)
    (he : starEach (e :: es) X.env = (false, eval e X.env) :: starEach es X.env := by rfl) (hpl : (backTo pos (starEach es X.env)).any (·.1) = false := by rfl) :
    PE X (.Call (.Name x p) (e :: es) [] pos) (teOf X.K (wCall n sp va)) := by
  obtain ⟨f, fd, ps, h1, h2, h3, h4⟩ := C.ex
  exact d_call h1 (hr.mono hk) hg h2 h3 h4 ha hd he hpl
end
section
variable {P : Program} {w : World} {K : PySem.W.Frag} {mg : Str → Option Value} {base : Heap}
theorem callee_of {x : Str} {st : Stmt} {f : Addr} {fd : FuncData} {N ps : List Str} {k n a : Nat} {sp : Spc} {ws : WS} (F : L2.Fun K x x st f fd) (hm : mg x = some (.ref f)) (hb : L2.Binds K fd ps []) (Sc : L2.FnScope N ps (L2.defScope st)) (hn : N.length = n) (ha : ps.length = a)
    (hw : ∀ (cdv : Value) (A : Around) (outer : List PySem.Env) (s : Shared) (H : Hp) (E : L2.XK), L2.Room k (A.deeper (PyProof.Rows.envOfC x (L2.defScope st) s.heap.objs.size f cdv)) →
      PSs (L2.cxOf L2.CX0 P w K mg base N x (L2.defScope st) f cdv A outer s H E).nox (L2.defBody st) (tsOf K ws)) (body : Body n a ws sp) : Callee P w K mg base x (k + 1) a sp :=
  ⟨f, fd, ps, fn_body F Sc hn ha hw body, hm, F.kp, hb⟩
/-- nobody calls with no calls left -/
theorem callee_none {x : Str} {st : Stmt} {f : Addr} {fd : FuncData} {ps : List Str} {a : Nat} {sp : Spc} (F : L2.Fun K x x st f fd) (hm : mg x = some (.ref f)) (hb : L2.Binds K fd ps []) (h : ∀ ds S Q, ¬ sp ds S Q) : Callee P w K mg base x 0 a sp :=
  ⟨f, fd, ps, ⟨fun vs H Q E ⟨m, S, ds, R, _, _, _, d, _⟩ => absurd d (h _ _ _), fun A outer s H args us vs Q E _ _ _ _ ⟨m, S, ds, R, _, _, _, d, _⟩ => absurd d (h _ _ _)⟩, hm, F.kp, hb⟩
end
end DL
set_option linter.all false
/-! DLX: more operations by values. -/
namespace DL
/-- a list turned -/
@[reducible] def rRevL : R1
  | .ref n, S, Q => isLst S n fun xs => Q (.ref S.length) (S ++ [.lst xs.reverse])
  | _, _, _ => False
/-- x += y: ints, texts -/
@[reducible] def rIAdd : R2
  | .int i, .int j, S, Q => Q (.int (i + j)) S
  | .str x, .str y, S, Q => x.length + y.length ≤ szL ∧ Q (.str (x ++ y)) S
  | _, _, _, _ => False
end DL
set_option Elab.async false
set_option linter.all false
set_option maxRecDepth 100000
set_option maxHeartbeats 4000000
/-! DL9: more rules. -/
namespace DL
open PySem PySem.Spec
open L2 (V Hp HO St TE TT TA TS TG TI TO PE PT PW PA PS PSs PG PI PO Cx Inv RelV Vals SqL SqT Rd upd upd_same upd_ne ne_of ne_of_none OpR UnR CallR MtR IxR SlR It thn)
section
variable {X : Cx} {o : Expr} {pos p1 p2 p3 : Pos} {wo : WE}
theorem d_revL {k : Nat} (ho : PE X o (teOf X.K wo)) : PE X (.Subscript o (.Slice none none (some (.UnaryOp .USub (.Constant (.int 1) k p1) p2)) p3) pos) (teOf X.K (wUn rRevL wo)) :=
  peI (L2.pe_revL ho) fun σ H Q ⟨ρ, S, m, R, hE, hS, h, k⟩ => ⟨ρ, S, m, _, hE, hS, h, fun v x H1 S1 m1 e1 s1 r1 q1 => by
    cases x with
    | ref n =>
      obtain ⟨ys, e2, q⟩ := isLst_iff.mp q1
      obtain ⟨a, vs, h1, h2, h3⟩ := s1.lst e2
      obtain ⟨b, q2, rfl⟩ := r1
      rw [h1] at q2
      cases q2
      exact ⟨a, vs, rfl, SqL.of h2, (k.ext e1).lst s1 h3.rev q⟩
    | _ => exact (show False from q1).elim⟩
end
theorem i_add {X : Cx} : OpR X (inplaceOp .Add) (r2Of X.K rIAdd) := r2I ((L2.iop_add (X := X)).or L2.iop_add_str) fun x y H Q ⟨m, S, d, e, R, s, rx, ry, h, k⟩ => by
  cases d with
  | int i => cases e with
    | int j => exact .inl ⟨i, j, rx, ry, k _ (.int (i + j)) H S m (Ext.refl _ _) s rfl h⟩
    | _ => exact (show False from h).elim
  | str z => cases e with
    | str z' =>
      obtain ⟨hz, q⟩ := h
      exact .inr ⟨z, z', rx, ry, by rw [← szL']; exact hz, k _ (.str (z ++ z')) H S m (Ext.refl _ _) s rfl q⟩
    | _ => exact (show False from h).elim
  | _ => exact (show False from h).elim
/-- a tuple of ints that the top has made -/
theorem rep_ints {K : PySem.W.Frag} {t : Addr} {od : Option Addr} {its : Array Value} {n : Nat} {sl : Array (Option Value)} {ns : List Int} (hl : K.lookup t = some ⟨.type "tuple", od, .seq its n, sl⟩) (hz : its.size ≤ sizeLine) (hv : Vals (ns.map V.int) its.toList) (H : Hp) (m : List Addr) : Rep K H m (.tup (intD ns)) (.ref t) :=
  ⟨t, ns.map V.int, rfl, .inr ⟨_, its, n, hl, rfl, rfl, hz, hv⟩, Reps.of_ints⟩
end DL
set_option linter.all false
set_option maxRecDepth 100000
set_option maxHeartbeats 4000000
/-! DLP: helpers over DL0: the store, lists of plain data, loops, comprehensions, what every law's own helpers keep. -/
namespace DL
/-! ### the store -/
/-- all that was there is there -/
def Sub (S S' : Sto) : Prop := ∀ (n : Nat) (o : O), S[n]? = some o → S'[n]? = some o
theorem Sub.refl (S : Sto) : Sub S S := fun _ _ h => h
theorem Sub.trans {S S1 S2 : Sto} (a : Sub S S1) (b : Sub S1 S2) : Sub S S2 := fun n o h => b n o (a n o h)
theorem Sub.push (S : Sto) (l : Sto) : Sub S (S ++ l) := fun n o h => by
  rw [List.getElem?_append_left (List.getElem?_eq_some_iff.mp h).1]
  exact h
theorem at_push (S : Sto) (o : O) : (S ++ [o])[S.length]? = some o := by simp
theorem Sub.lt {S S' : Sto} (h : Sub S S') {n : Nat} {o : O} (e : S[n]? = some o) : n < S'.length := (List.getElem?_eq_some_iff.mp (h n o e)).1
theorem at_lt {S : Sto} {n : Nat} {o : O} (e : S[n]? = some o) : n < S.length := (List.getElem?_eq_some_iff.mp e).1
theorem at_set {S : Sto} {n : Nat} {o o' : O} (e : S[n]? = some o) : (S.set n o')[n]? = some o' := List.getElem?_set_self (at_lt e)
theorem at_set_ne {S : Sto} {n k : Nat} {o' : O} (h : k ≠ n) : (S.set n o')[k]? = S[k]? := List.getElem?_set_ne (Ne.symm h)
theorem isLst_at {S : Sto} {n : Nat} {xs : List D} {P : List D → Prop} (h : S[n]? = some (.lst xs)) : isLst S n P = P xs := by
  unfold isLst
  rw [h]
/-- the draws stand at n -/
def Dr (n : Nat) (S : Sto) : Prop := ∃ ns : List Int, S[n]? = some (.lst (intD ns))
/-- all but what stands at n is there -/
def Ch (n : Nat) (S S' : Sto) : Prop := ∀ (k : Nat) (o : O), k ≠ n → S[k]? = some o → S'[k]? = some o
theorem Ch.refl (n : Nat) (S : Sto) : Ch n S S := fun _ _ _ h => h
theorem Ch.trans {n : Nat} {S S1 S2 : Sto} (a : Ch n S S1) (b : Ch n S1 S2) : Ch n S S2 := fun k o hk h => b k o hk (a k o hk h)
theorem Sub.ch {n : Nat} {S S' : Sto} (h : Sub S S') : Ch n S S' := fun k o _ e => h k o e
theorem Dr.sub {n : Nat} {S S' : Sto} (d : Dr n S) (h : Sub S S') : Dr n S' := let ⟨ns, e⟩ := d; ⟨ns, h n _ e⟩
theorem Ch.set {n : Nat} (S : Sto) (o : O) : Ch n S (S.set n o) := fun k u hk e => by rw [at_set_ne hk]; exact e

theorem ite_i {c A B : Prop} {_ : Decidable c} (h1 : c → A) (h2 : ¬ c → B) : if c then A else B := by
  by_cases h : c
  · rw [if_pos h]; exact h1 h
  · rw [if_neg h]; exact h2 h
theorem Sub.put {S S' : Sto} {n : Nat} {o : O} (h : Sub S S') (hn : S.length ≤ n) : Sub S (S'.set n o) := fun k u e => by
  rw [at_set_ne (by have := at_lt e; omega)]
  exact h k u e
theorem Sub.app {S S' : Sto} (h : Sub S S') (l : Sto) : Sub S (S' ++ l) := h.trans (Sub.push S' l)
theorem push_at {S : Sto} {n : Nat} {o : O} (h : S[n]? = some o) (l : Sto) : (S ++ l)[n]? = some o := Sub.push S l n o h
/-! ### places of lists -/
theorem atZ_nat {α : Type} {xs : List α} {i : Nat} {x : α} (h : xs[i]? = some x) : atZ xs (i : Int) = some x := by
  have hl : i < xs.length := (List.getElem?_eq_some_iff.mp h).1
  unfold atZ ixZ
  rw [if_pos (by omega), if_pos (by omega)]
  simpa using h
theorem atZ_lt {α : Type} {xs : List α} {i : Int} (h0 : 0 ≤ i) (h1 : i < xs.length) : ∃ x, atZ xs i = some x ∧ xs[i.toNat]? = some x := by
  have hl : i.toNat < xs.length := by omega
  refine ⟨xs[i.toNat], ?_, List.getElem?_eq_getElem hl⟩
  have := atZ_nat (List.getElem?_eq_getElem hl)
  rw [show ((i.toNat : Nat) : Int) = i by omega] at this
  exact this
theorem intD_get {ns : List Int} {i : Nat} {d : D} (h : (intD ns)[i]? = some d) : ∃ n, ns[i]? = some n ∧ d = .int n := by
  rw [List.getElem?_map] at h
  cases e : ns[i]? with
  | none => rw [e] at h; cases h
  | some n => rw [e] at h; exact ⟨n, rfl, (Option.some.inj h).symm⟩
theorem intD_at {ns : List Int} {i : Nat} {n : Int} (h : ns[i]? = some n) : (intD ns)[i]? = some (.int n) := by
  rw [List.getElem?_map, h]
  rfl
theorem intD_atZ {ns : List Int} {i : Int} (h0 : 0 ≤ i) (h1 : i < ns.length) : ∃ n, ns[i.toNat]? = some n ∧ atZ (intD ns) i = some (.int n) := by
  have hl : i.toNat < ns.length := by omega
  refine ⟨ns[i.toNat], List.getElem?_eq_getElem hl, ?_⟩
  have := atZ_nat (intD_at (List.getElem?_eq_getElem hl))
  rw [show ((i.toNat : Nat) : Int) = i by omega] at this
  exact this
theorem sIx_nn (n d : Nat) {i : Int} (h : 0 ≤ i) : sIx n d (some i) = min i.toNat n := by
  show (if i < 0 then (i + n).toNat else min i.toNat n) = _
  rw [if_neg (by omega)]
theorem sIx_no (n d : Nat) : sIx n d none = d := rfl
theorem cut_take {α : Type} (xs : List α) {i : Int} (h : 0 ≤ i) : cut xs none (some i) = xs.take i.toNat := by
  unfold cut
  rw [sIx_no, sIx_nn _ _ h, List.drop_zero, Nat.sub_zero]
  by_cases hc : i.toNat ≤ xs.length
  · rw [Nat.min_eq_left hc]
  · rw [Nat.min_eq_right (by omega), List.take_length, List.take_of_length_le (by omega)]
theorem cut_drop {α : Type} (xs : List α) {i : Int} (h : 0 ≤ i) : cut xs (some i) none = xs.drop i.toNat := by
  unfold cut
  rw [sIx_no, sIx_nn _ _ h]
  by_cases hc : i.toNat ≤ xs.length
  · rw [Nat.min_eq_left hc, List.take_of_length_le (by simp)]
  · rw [Nat.min_eq_right (by omega), List.drop_length, List.drop_of_length_le (by omega)]
    simp
theorem rangeD_get {lo hi : Int} {i : Nat} {d : D} (h : (rangeD lo hi)[i]? = some d) : i < (hi - lo).toNat ∧ d = .int (lo + i) := by
  unfold rangeD at h
  rw [List.getElem?_map] at h
  by_cases hi : i < (hi - lo).toNat
  · rw [List.getElem?_range hi] at h
    exact ⟨hi, (Option.some.inj h).symm⟩
  · rw [List.getElem?_eq_none (by simpa using hi)] at h
    cases h
theorem rangeD_len (lo hi : Int) : (rangeD lo hi).length = (hi - lo).toNat := by simp [rangeD]
theorem rangeD_nat (n : Nat) : rangeD 0 (n : Int) = (List.range n).map fun (i : Nat) => D.int (i : Int) := by
  unfold rangeD
  rw [show ((n : Int) - 0).toNat = n by omega]
  apply List.map_congr_left
  intro i _
  rw [Int.zero_add]
theorem mem_rangeD {lo hi : Int} {d : D} (h : d ∈ rangeD lo hi) : ∃ i : Nat, i < (hi - lo).toNat ∧ d = .int (lo + i) := by
  obtain ⟨i, hi, e⟩ := List.mem_map.mp h
  exact ⟨i, List.mem_range.mp hi, e.symm⟩
theorem flats_int : ∀ ns : List Int, flats (intD ns) = true
  | [] => rfl
  | n :: ns => by
    show (true && flats (intD ns)) = true
    rw [flats_int ns]
    rfl
theorem flats0_int (ns : List Int) : (intD ns).all flat0 = true := by
  induction ns with
  | nil => rfl
  | cons n ns ih =>
    show (true && (intD ns).all flat0) = true
    rw [ih]
    rfl
theorem deeps_int : ∀ ns : List Int, deeps (intD ns) = 0
  | [] => rfl
  | n :: ns => by
    show max 0 (deeps (intD ns)) = 0
    rw [deeps_int ns]
    rfl
/-! no tuple is longer than a store can tell -/
mutual
def slim : D → Bool
  | .tup xs => decide (xs.length ≤ szL) && slims xs
  | _ => true
def slims : List D → Bool
  | [] => true
  | x :: xs => slim x && slims xs
end
theorem slims_int : ∀ ns : List Int, slims (intD ns) = true
  | [] => rfl
  | n :: ns => by
    show (true && slims (intD ns)) = true
    rw [slims_int ns]
    rfl
theorem flats_get {xs : List D} {i : Nat} {d : D} : flats xs = true → xs[i]? = some d → flat d = true := by
  induction xs generalizing i with
  | nil => intro _ h; cases h
  | cons x xs ih =>
    intro h e
    have h := Bool.and_eq_true_iff.mp (show (flat x && flats xs) = true from h)
    cases i with
    | zero => rw [← Option.some.inj e]; exact h.1
    | succ i => exact ih h.2 e
theorem slims_get {xs : List D} {i : Nat} {d : D} : slims xs = true → xs[i]? = some d → slim d = true := by
  induction xs generalizing i with
  | nil => intro _ h; cases h
  | cons x xs ih =>
    intro h e
    have h := Bool.and_eq_true_iff.mp (show (slim x && slims xs) = true from h)
    cases i with
    | zero => rw [← Option.some.inj e]; exact h.1
    | succ i => exact ih h.2 e
theorem deeps_get {xs : List D} {i : Nat} {d : D} : xs[i]? = some d → deep d ≤ deeps xs := by
  induction xs generalizing i with
  | nil => intro h; cases h
  | cons x xs ih =>
    intro e
    show deep d ≤ max (deep x) (deeps xs)
    cases i with
    | zero => rw [← Option.some.inj e]; omega
    | succ i => have := ih e; omega
mutual
theorem eqD_self : ∀ d : D, flat d = true → eqD d d = true
  | .non, _ => rfl
  | .bl b, _ => by cases b <;> rfl
  | .int i, _ => by show decide (i = i) = true; simp
  | .str x, _ => by show decide (x = x) = true; simp
  | .tup xs, h => eqDs_self xs h
  | .rol _, h => by cases (show false = true from h)
  | .ref _, h => by cases (show false = true from h)
  | .ty _, h => by cases (show false = true from h)
theorem eqDs_self : ∀ ds : List D, flats ds = true → eqDs ds ds = true
  | [], _ => rfl
  | d :: ds, h => by
    have h := Bool.and_eq_true_iff.mp (show (flat d && flats ds) = true from h)
    show (eqD d d && eqDs ds ds) = true
    rw [eqD_self d h.1, eqDs_self ds h.2]
    rfl
end

/-! ### sorting -/
theorem perm_map {α β : Type} (f : α → β) : ∀ {ys zs : List β}, ys.Perm zs → ∀ l : List α, zs = l.map f → ∃ l' : List α, l'.Perm l ∧ ys = l'.map f := by
  intro ys zs p
  induction p with
  | nil => intro l e; cases l with
    | nil => exact ⟨[], .refl _, rfl⟩
    | cons _ _ => cases e
  | cons x p ih =>
    intro l e
    cases l with
    | nil => cases e
    | cons a l =>
      rw [List.map_cons] at e
      injection e with e1 e2
      obtain ⟨l', h1, h2⟩ := ih l e2
      exact ⟨a :: l', h1.cons a, by rw [List.map_cons, ← h2, e1]⟩
  | swap x y l0 =>
    intro l e
    match l, e with
    | a :: b :: l, e =>
      rw [List.map_cons, List.map_cons] at e
      injection e with e1 e2
      injection e2 with e2 e3
      exact ⟨b :: a :: l, .swap .., by rw [List.map_cons, List.map_cons, e1, e2, e3]⟩
  | trans p1 p2 ih1 ih2 =>
    intro l e
    obtain ⟨l2, h1, h2⟩ := ih2 l e
    obtain ⟨l1, h3, h4⟩ := ih1 l2 h2
    exact ⟨l1, h3.trans h1, h4⟩
/-- two ascending lists of the same members -/
theorem asc_one : ∀ {a b : List Int}, a.Pairwise (· < ·) → b.Pairwise (· < ·) → (∀ x, x ∈ a ↔ x ∈ b) → a = b
  | [], [], _, _, _ => rfl
  | [], y :: b, _, _, h => by have := (h y).mpr List.mem_cons_self; cases this
  | x :: a, [], _, _, h => by have := (h x).mp List.mem_cons_self; cases this
  | x :: a, y :: b, pa, pb, h => by
    rw [List.pairwise_cons] at pa pb
    have e : x = y := by
      rcases List.mem_cons.mp ((h x).mp List.mem_cons_self) with e | m1
      · exact e
      · rcases List.mem_cons.mp ((h y).mpr List.mem_cons_self) with e | m2
        · exact e.symm
        · have := pb.1 x m1
          have := pa.1 y m2
          omega
    subst e
    rw [asc_one pa.2 pb.2 fun z => ⟨fun hz => ?_, fun hz => ?_⟩]
    · rcases List.mem_cons.mp ((h z).mp (List.mem_cons_of_mem _ hz)) with e | m
      · have := pa.1 z hz
        omega
      · exact m
    · rcases List.mem_cons.mp ((h z).mpr (List.mem_cons_of_mem _ hz)) with e | m
      · have := pb.1 z hz
        omega
      · exact m

/-! ### comprehensions that change nothing: f tells what each item gives -/
theorem Lc_fun {items : List D} {guard : Sto → Prop} {S1 : Sto} {step : D → Sto → (Option D → Sto → Prop) → Prop} {Q : VK} (f : D → Option D) (hz : items.length ≤ szL) (hg : ∀ S', Sub S1 S' → guard S')
    (hs : ∀ (i : Nat) (d : D) S' R, items[i]? = some d → Sub S1 S' → (∀ S2, Sub S' S2 → R (f d) S2) → step d S' R) (hd : ∀ S', Sub S1 S' → Q (.ref S'.length) (S' ++ [.lst (items.filterMap f)])) : Lc items guard S1 step Q := by
  refine ⟨hz, fun i acc S' => Sub S1 S' ∧ acc = (items.take i).filterMap f, ⟨.refl _, rfl⟩, fun i acc S' h => hg S' h.1, ?_, ?_⟩
  · rintro i d acc S' hi ⟨h1, rfl⟩
    refine hs i d S' _ hi h1 fun S2 h2 => ⟨h1.trans h2, ?_⟩
    rw [List.take_add_one, hi]
    cases e : f d with
    | none => simp [e]
    | some y => simp [e]
  · rintro acc S' ⟨h1, rfl⟩
    rw [List.take_length]
    exact hd S' h1

theorem ite_d {c A B : Prop} {_ : Decidable c} (h1 : c → A) (h2 : ¬ c → B) : if decide c = true then A else B := by
  by_cases h : c
  · rw [if_pos (decide_eq_true h)]; exact h1 h
  · rw [if_neg (by simpa using h)]; exact h2 h
theorem okII (i j : Int) : flat (.int i) = true ∧ flat (.int j) = true ∧ deep (.int i) ≤ 64 ∧ deep (.int j) ≤ 64 := ⟨rfl, rfl, Nat.zero_le _, Nat.zero_le _⟩
theorem goEq {i j : Int} {S : Sto} {Q : VK} (h : Q (.bl (decide (i = j))) S) : (flat (.int i) = true ∧ flat (.int j) = true ∧ deep (.int i) ≤ 64 ∧ deep (.int j) ≤ 64) ∧ Q (.bl (eqD (.int i) (.int j))) S := ⟨okII i j, h⟩
theorem goNe {i j : Int} {S : Sto} {Q : VK} (h : Q (.bl (!decide (i = j))) S) : (flat (.int i) = true ∧ flat (.int j) = true ∧ deep (.int i) ≤ 64 ∧ deep (.int j) ≤ 64) ∧ Q (.bl (!eqD (.int i) (.int j))) S := ⟨okII i j, h⟩
theorem Loop_mk {items : List D} {guard : Sto → Prop} {step : D → Env → Sto → (Env → Sto → Prop) → Prop} {done : Env → Sto → Prop} {ρ : Env} {S : Sto} (I : Nat → Env → Sto → Prop)
    (h0 : I 0 ρ S) (hg : ∀ i ρ' S', I i ρ' S' → guard S') (hs : ∀ i d ρ' S', items[i]? = some d → I i ρ' S' → step d ρ' S' (I (i + 1))) (hd : ∀ ρ' S', I items.length ρ' S' → done ρ' S') : Loop items guard step done ρ S := ⟨I, h0, hg, hs, hd⟩
theorem fmod_lt {a b : Int} (h : 0 < b) : 0 ≤ a.fmod b ∧ a.fmod b < b := ⟨Int.fmod_nonneg_of_pos a h, Int.fmod_lt_of_pos a h⟩
theorem atZ_intD {ns : List Int} {i : Int} (h0 : 0 ≤ i) (h1 : i < ns.length) : atZ (intD ns) i = some (.int (ns.getD i.toNat 0)) := by
  obtain ⟨n, h, e⟩ := intD_atZ h0 h1
  rw [e, List.getD_eq_getElem?_getD, h]
  rfl
theorem ixZ_ok {n : Nat} {i : Int} (h0 : 0 ≤ i) (h1 : i < n) : ixZ n i = some i.toNat := by
  unfold ixZ
  rw [if_pos h0, if_pos h1]
theorem intD_set (ns : List Int) (i : Nat) (x : Int) : (intD ns).set i (.int x) = intD (ns.set i x) := by show (ns.map D.int).set i (D.int x) = (ns.set i x).map D.int; rw [List.map_set]
theorem smallMul {i j : Int} (h : j.natAbs < 2 ^ 64) : MulOk i j := Or.inl (Or.inr h)
theorem smallMul' {i j : Int} (h : i.natAbs < 2 ^ 64) : MulOk i j := Or.inl (Or.inl h)
abbrev natD (ns : List Nat) : List D := intD (ns.map fun (k : Nat) => (k : Int))
theorem intD_len (ns : List Int) : (intD ns).length = ns.length := List.length_map ..
theorem natD_len (ns : List Nat) : (natD ns).length = ns.length := by rw [intD_len, List.length_map]
theorem natD_get {ns : List Nat} {i : Nat} {d : D} (h : (natD ns)[i]? = some d) : ∃ n : Nat, ns[i]? = some n ∧ d = .int n := by
  obtain ⟨x, h1, rfl⟩ := intD_get h
  rw [List.getElem?_map] at h1
  cases e : ns[i]? with
  | none => rw [e] at h1; cases h1
  | some n => rw [e] at h1; exact ⟨n, rfl, by rw [← Option.some.inj h1]⟩
/-- over a range -/
theorem Lc_rf {n : Nat} {guard : Sto → Prop} {S1 : Sto} {step : D → Sto → (Option D → Sto → Prop) → Prop} {Q : VK} (p : Nat → Bool) (f : Nat → D) (hz : n ≤ szL) (hg : ∀ S', Sub S1 S' → guard S')
    (hs : ∀ (i : Nat) S' R, i < n → Sub S1 S' → (∀ S2, Sub S' S2 → R (if p i = true then some (f i) else none) S2) → step (.int (i : Int)) S' R) (hd : ∀ S', Sub S1 S' → Q (.ref S'.length) (S' ++ [.lst (((List.range n).filter p).map f)])) : Lc (rangeD 0 (n : Int)) guard S1 step Q := by
  refine ⟨by rw [rangeD_len]; omega, fun i acc S' => Sub S1 S' ∧ acc = ((List.range i).filter p).map f, ⟨.refl _, rfl⟩, fun i acc S' h => hg S' h.1, ?_, ?_⟩
  · rintro i d acc S' hi ⟨h1, rfl⟩
    obtain ⟨hi1, rfl⟩ := rangeD_get hi
    rw [Int.zero_add]
    refine hs i S' _ (by omega) h1 fun S2 h2 => ⟨h1.trans h2, ?_⟩
    rw [List.range_succ, List.filter_append, List.map_append]
    cases e : p i <;> simp [e]
  · rintro acc S' ⟨h1, rfl⟩
    rw [rangeD_len, show ((n : Int) - 0).toNat = n by omega]
    exact hd S' h1
theorem Lc_rm {n : Nat} {guard : Sto → Prop} {S1 : Sto} {step : D → Sto → (Option D → Sto → Prop) → Prop} {Q : VK} (f : Nat → D) (hz : n ≤ szL) (hg : ∀ S', Sub S1 S' → guard S')
    (hs : ∀ (i : Nat) S' R, i < n → Sub S1 S' → (∀ S2, Sub S' S2 → R (some (f i)) S2) → step (.int (i : Int)) S' R) (hd : ∀ S', Sub S1 S' → Q (.ref S'.length) (S' ++ [.lst ((List.range n).map f)])) : Lc (rangeD 0 (n : Int)) guard S1 step Q := by
  refine Lc_rf (fun _ => true) f hz hg (fun i S' R h1 h2 h3 => hs i S' R h1 h2 fun S2 h4 => h3 S2 h4) fun S' h => ?_
  rw [List.filter_eq_self.mpr (fun _ _ => rfl)]
  exact hd S' h
/-- over any list that is known by a map -/
theorem Lc_lf {α : Type} {xs : List α} {e : α → D} {guard : Sto → Prop} {S1 : Sto} {step : D → Sto → (Option D → Sto → Prop) → Prop} {Q : VK} (p : α → Bool) (f : α → D) (hz : xs.length ≤ szL) (hg : ∀ S', Sub S1 S' → guard S')
    (hs : ∀ (x : α) S' R, x ∈ xs → Sub S1 S' → (∀ S2, Sub S' S2 → R (if p x = true then some (f x) else none) S2) → step (e x) S' R) (hd : ∀ S', Sub S1 S' → Q (.ref S'.length) (S' ++ [.lst ((xs.filter p).map f)])) : Lc (xs.map e) guard S1 step Q := by
  refine ⟨by rw [List.length_map]; exact hz, fun i acc S' => Sub S1 S' ∧ acc = ((xs.take i).filter p).map f, ⟨.refl _, rfl⟩, fun i acc S' h => hg S' h.1, ?_, ?_⟩
  · rintro i d acc S' hi ⟨h1, rfl⟩
    rw [List.getElem?_map] at hi
    cases ex : xs[i]? with
    | none => rw [ex] at hi; cases hi
    | some x =>
      rw [ex] at hi
      cases Option.some.inj hi
      refine hs x S' _ (List.mem_of_getElem? ex) h1 fun S2 h2 => ⟨h1.trans h2, ?_⟩
      rw [List.take_add_one, ex]
      cases e : p x <;> simp [e]
  · rintro acc S' ⟨h1, rfl⟩
    rw [List.length_map, List.take_length]
    exact hd S' h1
theorem Lc_lm {α : Type} {xs : List α} {e : α → D} {guard : Sto → Prop} {S1 : Sto} {step : D → Sto → (Option D → Sto → Prop) → Prop} {Q : VK} (f : α → D) (hz : xs.length ≤ szL) (hg : ∀ S', Sub S1 S' → guard S')
    (hs : ∀ (x : α) S' R, x ∈ xs → Sub S1 S' → (∀ S2, Sub S' S2 → R (some (f x)) S2) → step (e x) S' R) (hd : ∀ S', Sub S1 S' → Q (.ref S'.length) (S' ++ [.lst (xs.map f)])) : Lc (xs.map e) guard S1 step Q := by
  refine Lc_lf (fun _ => true) f hz hg (fun x S' R h1 h2 h3 => hs x S' R h1 h2 fun S2 h4 => h3 S2 h4) fun S' h => ?_
  rw [List.filter_eq_self.mpr (fun _ _ => rfl)]
  exact hd S' h
theorem atZ_intN {ns : List Int} {i : Nat} (h : i < ns.length) : atZ (intD ns) (i : Int) = some (.int (ns.getD i 0)) := by
  have := atZ_intD (ns := ns) (i := (i : Int)) (by omega) (by omega)
  rwa [Int.toNat_natCast] at this
theorem flats_map {α : Type} {f : α → D} : ∀ {l : List α}, (∀ x ∈ l, flat (f x) = true) → flats (l.map f) = true
  | [], _ => rfl
  | x :: l, h => by
    show (flat (f x) && flats (l.map f)) = true
    rw [h x List.mem_cons_self, flats_map fun y hy => h y (List.mem_cons_of_mem _ hy)]
    rfl
theorem slims_map {α : Type} {f : α → D} : ∀ {l : List α}, (∀ x ∈ l, slim (f x) = true) → slims (l.map f) = true
  | [], _ => rfl
  | x :: l, h => by
    show (slim (f x) && slims (l.map f)) = true
    rw [h x List.mem_cons_self, slims_map fun y hy => h y (List.mem_cons_of_mem _ hy)]
    rfl
theorem deeps_map {α : Type} {f : α → D} {N : Nat} : ∀ {l : List α}, (∀ x ∈ l, deep (f x) ≤ N) → deeps (l.map f) ≤ N
  | [], _ => Nat.zero_le _
  | x :: l, h => by
    show max (deep (f x)) (deeps (l.map f)) ≤ N
    have := h x List.mem_cons_self
    have := deeps_map (l := l) fun y hy => h y (List.mem_cons_of_mem _ hy)
    omega
/-- ints sort -/
theorem sortOk_int (ns : List Int) : sortOk (intD ns) := by
  refine ⟨flats_int ns, by rw [deeps_int]; omega, ?_, Or.inr ?_⟩
  · intro a ha b hb
    obtain ⟨x, _, rfl⟩ := List.mem_map.mp ha
    obtain ⟨y, _, rfl⟩ := List.mem_map.mp hb
    rfl
  · intro a ha
    obtain ⟨x, _, rfl⟩ := List.mem_map.mp ha
    exact ⟨by simp, by simp⟩
theorem sort_int {ns : List Int} {ys : List D} (hp : ys.Perm (intD ns)) (hw : ys.Pairwise (fun a b => ltD b a = false)) : ∃ ms : List Int, ys = intD ms ∧ ms.Perm ns ∧ ms.Pairwise (· ≤ ·) := by
  obtain ⟨ms, h1, rfl⟩ := perm_map _ hp _ rfl
  refine ⟨ms, rfl, h1, ?_⟩
  rw [List.pairwise_map] at hw
  refine hw.imp fun {a b} h => ?_
  have h : decide (b < a) = false := h
  simpa using h
theorem get_at {S : Sto} {n : Nat} {xs : List D} (h : S[n]? = some (.lst xs)) : S[n]? = some (.lst xs) := h
theorem natD_map (l : List Nat) : natD l = l.map fun (k : Nat) => D.int (k : Int) := by simp [natD, intD]
theorem any_int (ns : List Int) (x : Int) : (intD ns).any (fun y => eqD y (.int x)) = decide (x ∈ ns) := by
  induction ns with
  | nil => simp
  | cons n ns ih =>
    show (eqD (.int n) (.int x) || (intD ns).any fun y => eqD y (.int x)) = _
    rw [ih, show eqD (.int n) (.int x) = decide (n = x) from rfl]
    simp only [List.mem_cons, Bool.decide_or]
    congr 1
    simp [eq_comm]
theorem any_nat (ns : List Nat) (x : Nat) : (natD ns).any (fun y => eqD y (.int x)) = decide (x ∈ ns) := by
  rw [any_int]
  have : ((x : Int) ∈ ns.map fun (k : Nat) => (k : Int)) ↔ x ∈ ns := by
    rw [List.mem_map]
    exact ⟨fun ⟨a, h, e⟩ => by rwa [show x = a by omega], fun h => ⟨x, h, rfl⟩⟩
  simp only [this]
theorem Ch.put {S S' : Sto} {n m : Nat} {o : O} (h : Ch n S S') (hm : S.length ≤ m) : Ch n S (S'.set m o) := fun k u hk e => by
  rw [at_set_ne (by have := at_lt e; omega)]
  exact h k u hk e
theorem Ch.app {S S' : Sto} {n : Nat} (h : Ch n S S') (l : Sto) : Ch n S (S' ++ l) := h.trans (Sub.push S' l).ch
theorem Dr.app {n : Nat} {S : Sto} (d : Dr n S) (l : Sto) : Dr n (S ++ l) := d.sub (Sub.push S l)
theorem Dr.put {n m : Nat} {S : Sto} {o : O} (d : Dr n S) (h : n ≠ m) : Dr n (S.set m o) := let ⟨ns, e⟩ := d; ⟨ns, by rw [at_set_ne h]; exact e⟩
theorem Dr.lt {n : Nat} {S : Sto} (d : Dr n S) : n < S.length := let ⟨_, e⟩ := d; at_lt e
theorem Ch.len {n : Nat} {S S' : Sto} (h : Ch n S S') (hn : n < S'.length) : S.length ≤ S'.length := by
  false_or_by_contra
  rename_i hc
  have h1 : S.length - 1 < S.length := by omega
  by_cases e : S.length - 1 = n
  · omega
  · have := at_lt (h (S.length - 1) _ e (List.getElem?_eq_getElem h1))
    omega
theorem Sub.len {S S' : Sto} (h : Sub S S') : S.length ≤ S'.length := by
  false_or_by_contra
  rename_i hc
  have h1 : S.length - 1 < S.length := by omega
  have := at_lt (h (S.length - 1) _ (List.getElem?_eq_getElem h1))
  omega
theorem ifT {c : Bool} {A B : Prop} {_ : Decidable (c = true)} (h : c = true) (a : A) : if c = true then A else B := by rw [if_pos h]; exact a
theorem ifF {c : Bool} {A B : Prop} {_ : Decidable (c = true)} (h : c = false) (b : B) : if c = true then A else B := by rw [if_neg (by rw [h]; decide)]; exact b
theorem it_at {S : Sto} {n : Nat} {xs : List D} {A : List D → Prop} (h : S[n]? = some (.lst xs)) (a : A xs) : match S[n]? with
    | some (.lst ys) => A ys
    | _ => False := by
  rw [h]
  exact a
theorem eqD_ii (i j : Int) : eqD (.int i) (.int j) = decide (i = j) := rfl
end DL
set_option linter.all false
set_option maxRecDepth 100000
/-! the parts of the defs of oddsweighed_k97_whole_sales_by_bids -/
namespace K97
open DL
/-! by_bids(bids); slots: 0 bids, 1 bid, 2 bidder -/
def w_by_bids  : WS :=
  (sRet (wLc (wIt (wB rSorted (wCons (wLc (wR1 (wB rLen (wCons (wVar 0) wNil))) (gN 2) wtYes (wTup (wCons (wUn rNeg (wOp rIx (wVar 0) (wVar 2))) (wCons (wVar 2) wNil))) [2]) wNil))) (gT [1, 2]) wtYes (wVar 2) [1, 2]))
/-! winners(bids, things); slots: 0 bids, 1 things -/
def w_winners (sp_by_bids : Spc) : WS :=
  (sRet (wB rTuple (wCons (wB rSorted (wCons (wSl rSl (wCall 1 sp_by_bids (wCons (wVar 0) wNil)) wPNo (wPAt (wVar 1))) wNil)) wNil)))
/-! price(bids, things); slots: 0 bids, 1 things, 2 left -/
def w_price (sp_by_bids : Spc) : WS :=
  (sSeq (sAsg (wSl rSl (wCall 1 sp_by_bids (wCons (wVar 0) wNil)) (wPAt (wVar 1)) wPNo) (gN 2))
    (sRet (wIf (wtVal (wOp rGt (wB rLen (wCons (wVar 2) wNil)) (wC (.int 0)))) (wOp rIx (wVar 0) (wOp rIx (wVar 2) (wC (.int 0)))) (wC (.int 0)))))
/-! gain(worth, bids, things, bidder); slots: 0 worth, 1 bids, 2 things, 3 bidder -/
def w_gain (sp_winners : Spc) (sp_price : Spc) : WS :=
  (sRet (wIf (wtVal (wOp (rIn false) (wVar 3) (wCall 2 sp_winners (wCons (wVar 1) (wCons (wVar 2) wNil))))) (wOp rSub (wVar 0) (wCall 2 sp_price (wCons (wVar 1) (wCons (wVar 2) wNil)))) (wC (.int 0))))
/-! sum_paid(bids, things); slots: 0 bids, 1 things -/
def w_sum_paid (sp_winners : Spc) (sp_price : Spc) : WS :=
  (sRet (wOp rMul (wB rLen (wCons (wCall 2 sp_winners (wCons (wVar 0) (wCons (wVar 1) wNil))) wNil)) (wCall 2 sp_price (wCons (wVar 0) (wCons (wVar 1) wNil)))))
/-! with_floor(bids, things, floor); slots: 0 bids, 1 things, 2 floor, 3 there, 4 bidder -/
def w_with_floor (sp_winners : Spc) (sp_price : Spc) : WS :=
  (sSeq (sAsg (wB rTuple (wCons (wLc (wIt (wCall 2 sp_winners (wCons (wVar 0) (wCons (wVar 1) wNil)))) (gN 4) (wtVal (wOp rGe (wOp rIx (wVar 0) (wVar 4)) (wVar 2))) (wVar 4) [4]) wNil)) (gN 3))
    (sRet (wTup (wCons (wVar 3) (wCons (wIf (wtVal (wOp rGt (wB rLen (wCons (wVar 3) wNil)) (wC (.int 0)))) (wB rMax2 (wCons (wVar 2) (wCons (wCall 2 sp_price (wCons (wVar 0) (wCons (wVar 1) wNil))) wNil))) (wVar 2)) wNil)))))
/-! best_floor(bids, things); slots: 0 bids, 1 things, 2 best, 3 floor, 4 there, 5 told -/
def w_best_floor (sp_with_floor : Spc) : WS :=
  (sSeq (sAsg (wC .non) (gN 2))
    (sSeq (sFor (wIt (wSortedSet (wOp rAdd (wB rList (wCons (wVar 0) wNil)) (wLst (wCons (wC (.int 0)) wNil))))) (gN 3) (sSeq (sAsg (wCall 3 sp_with_floor (wCons (wVar 0) (wCons (wVar 1) (wCons (wVar 3) wNil)))) (gT [4, 5]))
    (sIf (wtOr (wtVal (wOp rIs (wVar 2) (wC .non))) (wtVal (wOp rGt (wOp rMul (wB rLen (wCons (wVar 4) wNil)) (wVar 5)) (wOp rIx (wVar 2) (wC (.int 0)))))) (sAsg (wTup (wCons (wOp rMul (wB rLen (wCons (wVar 4) wNil)) (wVar 5)) (wCons (wVar 3) wNil))) (gN 2)) sNext)))
    (sRet (wOp rIx (wVar 2) (wC (.int 1))))))
/-! _law_draws(script, many); slots: 0 script, 1 many, 2 cells, 3 cell, 4 rest, 5 draws, 6 k, 7 at, 8 mingled -/
def w_law_draws  : WS :=
  (sSeq (sAsg (wLc (wIt (wVar 0)) (gN 3) wtYes (wB rInt (wCons (wVar 3) wNil)) [3]) (gN 2))
    (sSeq (sIf (wtVal (wOp rEq (wB rLen (wCons (wVar 2) wNil)) (wC (.int 0)))) (sDrop (wM rAppend (wVar 2) (wCons (wC (.int 0)) wNil))) sNext)
    (sSeq (sAsg (wB rList (wCons (wVar 2) wNil)) (gN 4))
    (sSeq (sAsg (wLst wNil) (gN 5))
    (sSeq (sFor (wR1 (wVar 1)) (gN 6) (sSeq (sAsg (wOp rMod (wVar 6) (wB rLen (wCons (wVar 2) wNil))) (gN 7))
    (sIf (wtAnd (wtVal (wOp rGe (wOp rIx (wVar 2) (wVar 7)) (wOp rPow (wC (.int 10)) (wC (.int 18))))) (wtVal (wOp rGt (wOp rIx (wVar 4) (wVar 7)) (wC (.int 0))))) (sSeq (sDrop (wM rAppend (wVar 5) (wCons (wOp rMod (wB rInt (wCons (wOp rIx (wVar 4) (wVar 7)) wNil)) (wC (.int 1000))) wNil)))
    (sSub rPut (wOp rDiv (wOp rIx (wVar 4) (wVar 7)) (wC (.int 1000))) (wVar 4) (wVar 7))) (sSeq (sAsg (wOp rMod (wB rInt (wCons (wOp rAdd (wOp rAdd (wOp rMul (wOp rIx (wVar 2) (wVar 7)) (wC (.int 48271))) (wOp rMul (wVar 6) (wC (.int 69621)))) (wC (.int 11))) wNil)) (wC (.int 2147483647))) (gN 8))
    (sDrop (wM rAppend (wVar 5) (wCons (wOp rMod (wB rInt (wCons (wOp rAdd (wOp rAdd (wOp rMul (wVar 8) (wVar 8)) (wOp rMul (wC (.int 3)) (wVar 8))) (wVar 6)) wNil)) (wC (.int 1000003))) wNil)))))))
    (sSeq (sDrop (wM0 rReverse (wVar 5)))
    (sRet (wVar 5))))))))
/-! _law_take(draws, many); slots: 0 draws, 1 many -/
def w_law_take  : WS :=
  (sSeq (sIf (wtVal (wOp rEq (wB rLen (wCons (wVar 0) wNil)) (wC (.int 0)))) (sRet (wC (.int 0))) sNext)
    (sRet (wOp rMod (wB rInt (wCons (wM0 rPop (wVar 0)) wNil)) (wVar 1))))
/-! _law_cell(script, draws); slots: 0 script, 1 draws -/
def w_law_cell (sp_law_take : Spc) : WS :=
  (sSeq (sIf (wtVal (wOp rEq (wB rLen (wCons (wVar 0) wNil)) (wC (.int 0)))) (sRet (wC (.int 0))) sNext)
    (sRet (wB rInt (wCons (wOp rIx (wVar 0) (wCall 2 sp_law_take (wCons (wVar 1) (wCons (wB rLen (wCons (wVar 0) wNil)) wNil)))) wNil))))
/-! _law_same(actual, due); slots: 0 actual, 1 due, 2 k -/
def w_law_same (sp_law_same : Spc) : WS :=
  (sSeq (sIf (wtVal (wB rIsi (wCons (wVar 1) (wCons (wC (.ty "bool")) wNil)))) (sRet (wAnd (wB rIsi (wCons (wVar 0) (wCons (wC (.ty "bool")) wNil))) (wOp rEq (wVar 0) (wVar 1)))) sNext)
    (sSeq (sIf (wtVal (wB rIsi (wCons (wVar 1) (wCons (wC (.ty "int")) wNil)))) (sRet (wAnd (wB rIsi (wCons (wVar 0) (wCons (wC (.ty "int")) wNil))) (wAnd (wNot (wB rIsi (wCons (wVar 0) (wCons (wC (.ty "bool")) wNil)))) (wOp rEq (wVar 0) (wVar 1))))) sNext)
    (sSeq (sIf (wtVal (wB rIsi (wCons (wVar 1) (wCons (wC (.ty "str")) wNil)))) (sRet (wAnd (wB rIsi (wCons (wVar 0) (wCons (wC (.ty "str")) wNil))) (wOp rEq (wVar 0) (wVar 1)))) sNext)
    (sSeq (sIf (wtVal (wOp rIs (wVar 1) (wC .non))) (sRet (wOp rIs (wVar 0) (wC .non))) sNext)
    (sSeq (sIf (wtOr (wtNot (wtVal (wB rIsi (wCons (wVar 0) (wCons (wC (.ty "tuple")) wNil))))) (wtVal (wOp rNe (wB rLen (wCons (wVar 0) wNil)) (wB rLen (wCons (wVar 1) wNil))))) (sRet (wC (.bl false))) sNext)
    (sSeq (sFor (wR1 (wB rLen (wCons (wVar 1) wNil))) (gN 2) (sIf (wtNot (wtVal (wCall 2 sp_law_same (wCons (wOp rIx (wVar 0) (wVar 2)) (wCons (wOp rIx (wVar 1) (wVar 2)) wNil))))) (sRet (wC (.bl false))) sNext))
    (sRet (wC (.bl true)))))))))
/-! _law_bids(draws, cell, many); slots: 0 draws, 1 cell, 2 many, 3 style, 4 found, 5 k -/
def w_law_bids (sp_law_take : Spc) : WS :=
  (sSeq (sAsg (wCall 2 sp_law_take (wCons (wVar 0) (wCons (wC (.int 4)) wNil))) (gN 3))
    (sSeq (sAsg (wLst wNil) (gN 4))
    (sSeq (sFor (wR1 (wVar 2)) (gN 5) (sDrop (wM rAppend (wVar 4) (wCons (wOp rIx (wLst (wCons (wCall 2 sp_law_take (wCons (wVar 0) (wCons (wC (.int 10)) wNil))) (wCons (wCall 2 sp_law_take (wCons (wVar 0) (wCons (wC (.int 3)) wNil))) (wCons (wCall 2 sp_law_take (wCons (wVar 0) (wCons (wC (.int 1000)) wNil))) (wCons (wOp rIx (wLst (wCons (wVar 1) (wCons (wOp rAdd (wVar 1) (wC (.int 1))) (wCons (wCall 2 sp_law_take (wCons (wVar 0) (wCons (wC (.int 9)) wNil))) wNil)))) (wCall 2 sp_law_take (wCons (wVar 0) (wCons (wC (.int 3)) wNil)))) wNil))))) (wVar 3)) wNil))))
    (sRet (wB rTuple (wCons (wVar 4) wNil))))))
/-! _law_winners(bids, things); slots: 0 bids, 1 things, 2 found, 3 k, 4 ahead, 5 j -/
def w_law_winners  : WS :=
  (sSeq (sAsg (wLst wNil) (gN 2))
    (sSeq (sFor (wR1 (wB rLen (wCons (wVar 0) wNil))) (gN 3) (sSeq (sAsg (wB rLen (wCons (wLc (wR1 (wB rLen (wCons (wVar 0) wNil))) (gN 5) (wtOr (wtVal (wOp rGt (wOp rIx (wVar 0) (wVar 5)) (wOp rIx (wVar 0) (wVar 3)))) (wtAnd (wtVal (wOp rEq (wOp rIx (wVar 0) (wVar 5)) (wOp rIx (wVar 0) (wVar 3)))) (wtVal (wOp rLt (wVar 5) (wVar 3))))) (wVar 5) [5]) wNil)) (gN 4))
    (sIf (wtVal (wOp rLt (wVar 4) (wVar 1))) (sDrop (wM rAppend (wVar 2) (wCons (wVar 3) wNil))) sNext)))
    (sRet (wB rTuple (wCons (wVar 2) wNil)))))
/-! _law_price(bids, things); slots: 0 bids, 1 things, 2 first, 3 k -/
def w_law_price (sp_law_winners : Spc) : WS :=
  (sSeq (sAsg (wCall 2 sp_law_winners (wCons (wVar 0) (wCons (wVar 1) wNil))) (gN 2))
    (sRet (wB rMax (wCons (wOp rAdd (wLst (wCons (wC (.int 0)) wNil)) (wLc (wR1 (wB rLen (wCons (wVar 0) wNil))) (gN 3) (wtVal (wOp (rIn true) (wVar 3) (wVar 2))) (wOp rIx (wVar 0) (wVar 3)) [3])) wNil))))
/-! _law_gain(own_worth, bids, things, bidder); slots: 0 own_worth, 1 bids, 2 things, 3 bidder -/
def w_law_gain (sp_law_winners : Spc) (sp_law_price : Spc) : WS :=
  (sSeq (sIf (wtVal (wOp (rIn false) (wVar 3) (wCall 2 sp_law_winners (wCons (wVar 1) (wCons (wVar 2) wNil))))) (sRet (wOp rSub (wVar 0) (wCall 2 sp_law_price (wCons (wVar 1) (wCons (wVar 2) wNil))))) sNext)
    (sRet (wC (.int 0))))
/-! _law_with(bids, things, floor); slots: 0 bids, 1 things, 2 floor, 3 there, 4 k -/
def w_law_with (sp_law_winners : Spc) (sp_law_price : Spc) : WS :=
  (sSeq (sAsg (wB rTuple (wCons (wLc (wIt (wCall 2 sp_law_winners (wCons (wVar 0) (wCons (wVar 1) wNil)))) (gN 4) (wtVal (wOp rGe (wOp rIx (wVar 0) (wVar 4)) (wVar 2))) (wVar 4) [4]) wNil)) (gN 3))
    (sSeq (sIf (wtVal (wOp rEq (wB rLen (wCons (wVar 3) wNil)) (wC (.int 0)))) (sRet (wTup (wCons (wVar 3) (wCons (wVar 2) wNil)))) sNext)
    (sRet (wTup (wCons (wVar 3) (wCons (wB rMax2 (wCons (wVar 2) (wCons (wCall 2 sp_law_price (wCons (wVar 0) (wCons (wVar 1) wNil))) wNil))) wNil))))))
/-! _law_floor(bids, things); slots: 0 bids, 1 things, 2 best, 3 floor, 4 there, 5 told -/
def w_law_floor (sp_law_with : Spc) : WS :=
  (sSeq (sAsg (wC .non) (gN 2))
    (sSeq (sFor (wIt (wSortedSet (wOp rAdd (wVar 0) (wTup (wCons (wC (.int 0)) wNil))))) (gN 3) (sSeq (sAsg (wCall 3 sp_law_with (wCons (wVar 0) (wCons (wVar 1) (wCons (wVar 3) wNil)))) (gT [4, 5]))
    (sIf (wtOr (wtVal (wOp rIs (wVar 2) (wC .non))) (wtVal (wOp rGt (wOp rMul (wB rLen (wCons (wVar 4) wNil)) (wVar 5)) (wOp rIx (wVar 2) (wC (.int 0)))))) (sAsg (wTup (wCons (wOp rMul (wB rLen (wCons (wVar 4) wNil)) (wVar 5)) (wCons (wVar 3) wNil))) (gN 2)) sNext)))
    (sRet (wOp rIx (wVar 2) (wC (.int 1))))))
/-! _law_true_bid(draws, bids, things, bidder); slots: 0 draws, 1 bids, 2 things, 3 bidder, 4 own_worth, 5 true_bids, 6 best, 7 other, 8 bid, 9 wrong, 10 told -/
def w_law_true_bid (sp_law_take : Spc) (sp_gain : Spc) (sp_law_gain : Spc) (sp_law_same : Spc) : WS :=
  (sSeq (sAsg (wOp rIx (wLst (wCons (wCall 2 sp_law_take (wCons (wVar 0) (wCons (wC (.int 12)) wNil))) (wCons (wOp rAdd (wOp rIx (wVar 1) (wCall 2 sp_law_take (wCons (wVar 0) (wCons (wB rLen (wCons (wVar 1) wNil)) wNil)))) (wCall 2 sp_law_take (wCons (wVar 0) (wCons (wC (.int 3)) wNil)))) (wCons (wOp rAdd (wB rMax (wCons (wVar 1) wNil)) (wC (.int 5))) wNil)))) (wCall 2 sp_law_take (wCons (wVar 0) (wCons (wC (.int 3)) wNil)))) (gN 4))
    (sSeq (sAsg (wOp rAdd (wOp rAdd (wSl rSl (wVar 1) wPNo (wPAt (wVar 3))) (wTup (wCons (wVar 4) wNil))) (wSl rSl (wVar 1) (wPAt (wOp rAdd (wVar 3) (wC (.int 1)))) wPNo)) (gN 5))
    (sSeq (sAsg (wCall 4 sp_gain (wCons (wVar 4) (wCons (wVar 5) (wCons (wVar 2) (wCons (wVar 3) wNil))))) (gN 6))
    (sSeq (sIf (wtOr (wtNot (wtVal (wCall 2 sp_law_same (wCons (wVar 6) (wCons (wCall 4 sp_law_gain (wCons (wVar 4) (wCons (wVar 5) (wCons (wVar 2) (wCons (wVar 3) wNil))))) wNil))))) (wtVal (wOp rLt (wVar 6) (wC (.int 0))))) (sRet (wC (.bl false))) sNext)
    (sSeq (sFor (wIt (wSortedSet (wOp rAdd (wOp rAdd (wVar 1) (wB rTuple (wCons (wLc (wIt (wVar 1)) (gN 8) wtYes (wOp rAdd (wVar 8) (wC (.int 1))) [8]) wNil))) (wTup (wCons (wC (.int 0)) (wCons (wOp rAdd (wVar 4) (wC (.int 1))) (wCons (wB rMax2 (wCons (wOp rSub (wVar 4) (wC (.int 1))) (wCons (wC (.int 0)) wNil))) wNil))))))) (gN 7) (sSeq (sAsg (wOp rAdd (wOp rAdd (wSl rSl (wVar 1) wPNo (wPAt (wVar 3))) (wTup (wCons (wVar 7) wNil))) (wSl rSl (wVar 1) (wPAt (wOp rAdd (wVar 3) (wC (.int 1)))) wPNo)) (gN 9))
    (sSeq (sAsg (wCall 4 sp_gain (wCons (wVar 4) (wCons (wVar 9) (wCons (wVar 2) (wCons (wVar 3) wNil))))) (gN 10))
    (sIf (wtOr (wtNot (wtVal (wCall 2 sp_law_same (wCons (wVar 10) (wCons (wCall 4 sp_law_gain (wCons (wVar 4) (wCons (wVar 9) (wCons (wVar 2) (wCons (wVar 3) wNil))))) wNil))))) (wtVal (wOp rGt (wVar 10) (wVar 6)))) (sRet (wC (.bl false))) sNext))))
    (sRet (wC (.bl true))))))))
/-! _law_somewhere_more(draws); slots: 0 draws, 1 own_worth, 2 wrong, 3 told, 4 other, 5 one, 6 two -/
def w_law_somewhere_more (sp_law_take : Spc) (sp_gain : Spc) (sp_law_same : Spc) : WS :=
  (sSeq (sAsg (wOp rAdd (wC (.int 2)) (wCall 2 sp_law_take (wCons (wVar 0) (wCons (wC (.int 30)) wNil)))) (gN 1))
    (sSeq (sAsg (wCall 2 sp_law_take (wCons (wVar 0) (wCons (wC (.int 40)) wNil))) (gN 2))
    (sSeq (sIf (wtVal (wOp rEq (wVar 2) (wVar 1))) (sAsg (wOp rAdd (wVar 1) (wC (.int 2))) (gN 2)) sNext)
    (sSeq (sAsg (wLst wNil) (gN 3))
    (sSeq (sFor (wR1 (wOp rAdd (wB rMax2 (wCons (wVar 1) (wCons (wVar 2) wNil))) (wC (.int 2)))) (gN 4) (sSeq (sAsg (wCall 4 sp_gain (wCons (wVar 1) (wCons (wTup (wCons (wVar 4) (wCons (wVar 1) wNil))) (wCons (wC (.int 1)) (wCons (wC (.int 1)) wNil))))) (gN 5))
    (sSeq (sAsg (wCall 4 sp_gain (wCons (wVar 1) (wCons (wTup (wCons (wVar 4) (wCons (wVar 2) wNil))) (wCons (wC (.int 1)) (wCons (wC (.int 1)) wNil))))) (gN 6))
    (sSeq (sIf (wtOr (wtNot (wtVal (wCall 2 sp_law_same (wCons (wVar 5) (wCons (wB rMax2 (wCons (wOp rSub (wVar 1) (wVar 4)) (wCons (wC (.int 0)) wNil))) wNil))))) (wtNot (wtVal (wCall 2 sp_law_same (wCons (wVar 6) (wCons (wOp rMul (wOp rSub (wVar 1) (wVar 4)) (wB rInt (wCons (wOp rGt (wVar 2) (wVar 4)) wNil))) wNil)))))) (sRet (wC (.bl false))) sNext)
    (sDrop (wM rAppend (wVar 3) (wCons (wOp rSub (wVar 5) (wVar 6)) wNil)))))))
    (sRet (wAnd (wOp rGe (wB rMin (wCons (wVar 3) wNil)) (wC (.int 0))) (wOp rEq (wOp rGt (wB rMax (wCons (wVar 3) wNil)) (wC (.int 0))) (wOr (wOp rLt (wVar 2) (wVar 1)) (wOp rGt (wVar 2) (wOp rAdd (wVar 1) (wC (.int 1)))))))))))))
/-! law(script); slots: 0 script, 1 draws, 2 cell, 3 k, 4 bids, 5 things, 6 floor, 7 bidder -/
def w_law (sp_law_draws : Spc) (sp_law_cell : Spc) (sp_law_take : Spc) (sp_law_bids : Spc) (sp_law_winners : Spc) (sp_winners : Spc) (sp_law_same : Spc) (sp_law_price : Spc) (sp_price : Spc) (sp_sum_paid : Spc) (sp_law_with : Spc) (sp_with_floor : Spc) (sp_law_floor : Spc) (sp_best_floor : Spc) (sp_law_gain : Spc) (sp_gain : Spc) (sp_law_true_bid : Spc) (sp_law_somewhere_more : Spc) : WS :=
  (sSeq (sAsg (wCall 2 sp_law_draws (wCons (wVar 0) (wCons (wC (.int 160)) wNil))) (gN 1))
    (sSeq (sAsg (wB rAbs (wCons (wCall 2 sp_law_cell (wCons (wVar 0) (wCons (wVar 1) wNil))) wNil)) (gN 2))
    (sSeq (sFor (wR1 (wC (.int 3))) (gN 3) (sSeq (sAsg (wCall 3 sp_law_bids (wCons (wVar 1) (wCons (wVar 2) (wCons (wCall 2 sp_law_take (wCons (wVar 1) (wCons (wC (.int 9)) wNil))) wNil)))) (gN 4))
    (sSeq (sAsg (wOp rAdd (wC (.int 1)) (wCall 2 sp_law_take (wCons (wVar 1) (wCons (wC (.int 9)) wNil)))) (gN 5))
    (sSeq (sIf (wtOr (wtNot (wtVal (wCall 2 sp_law_same (wCons (wCall 2 sp_winners (wCons (wVar 4) (wCons (wVar 5) wNil))) (wCons (wCall 2 sp_law_winners (wCons (wVar 4) (wCons (wVar 5) wNil))) wNil))))) (wtNot (wtVal (wCall 2 sp_law_same (wCons (wCall 2 sp_price (wCons (wVar 4) (wCons (wVar 5) wNil))) (wCons (wCall 2 sp_law_price (wCons (wVar 4) (wCons (wVar 5) wNil))) wNil)))))) (sRet (wC (.bl false))) sNext)
    (sSeq (sIf (wtNot (wtVal (wCall 2 sp_law_same (wCons (wCall 2 sp_sum_paid (wCons (wVar 4) (wCons (wVar 5) wNil))) (wCons (wOp rMul (wB rLen (wCons (wCall 2 sp_law_winners (wCons (wVar 4) (wCons (wVar 5) wNil))) wNil)) (wCall 2 sp_law_price (wCons (wVar 4) (wCons (wVar 5) wNil)))) wNil))))) (sRet (wC (.bl false))) sNext)
    (sSeq (sIf (wtOr (wtNot (wtVal (wCall 2 sp_law_same (wCons (wCall 2 sp_price (wCons (wVar 4) (wCons (wOp rAdd (wVar 5) (wC (.int 1))) wNil))) (wCons (wCall 2 sp_law_price (wCons (wVar 4) (wCons (wOp rAdd (wVar 5) (wC (.int 1))) wNil))) wNil))))) (wtVal (wOp rGt (wCall 2 sp_law_price (wCons (wVar 4) (wCons (wOp rAdd (wVar 5) (wC (.int 1))) wNil))) (wCall 2 sp_law_price (wCons (wVar 4) (wCons (wVar 5) wNil)))))) (sRet (wC (.bl false))) sNext)
    (sSeq (sFor (wIt (wOp rAdd (wLst (wCons (wC (.int 0)) (wCons (wVar 2) (wCons (wOp rAdd (wB rMax (wCons (wOp rAdd (wTup (wCons (wC (.int 0)) wNil)) (wVar 4)) wNil)) (wC (.int 1))) (wCons (wCall 2 sp_law_take (wCons (wVar 1) (wCons (wC (.int 12)) wNil))) wNil))))) (wB rList (wCons (wSl rSl (wVar 4) wPNo (wPAt (wC (.int 2)))) wNil)))) (gN 6) (sIf (wtNot (wtVal (wCall 2 sp_law_same (wCons (wCall 3 sp_with_floor (wCons (wVar 4) (wCons (wVar 5) (wCons (wVar 6) wNil)))) (wCons (wCall 3 sp_law_with (wCons (wVar 4) (wCons (wVar 5) (wCons (wVar 6) wNil)))) wNil))))) (sRet (wC (.bl false))) sNext))
    (sSeq (sIf (wtNot (wtVal (wCall 2 sp_law_same (wCons (wCall 2 sp_best_floor (wCons (wVar 4) (wCons (wVar 5) wNil))) (wCons (wCall 2 sp_law_floor (wCons (wVar 4) (wCons (wVar 5) wNil))) wNil))))) (sRet (wC (.bl false))) sNext)
    (sFor (wR1 (wB rMin2 (wCons (wB rLen (wCons (wVar 4) wNil)) (wCons (wC (.int 4)) wNil)))) (gN 7) (sSeq (sIf (wtNot (wtVal (wCall 2 sp_law_same (wCons (wCall 4 sp_gain (wCons (wVar 2) (wCons (wVar 4) (wCons (wVar 5) (wCons (wVar 7) wNil))))) (wCons (wCall 4 sp_law_gain (wCons (wVar 2) (wCons (wVar 4) (wCons (wVar 5) (wCons (wVar 7) wNil))))) wNil))))) (sRet (wC (.bl false))) sNext)
    (sIf (wtNot (wtVal (wCall 4 sp_law_true_bid (wCons (wVar 1) (wCons (wVar 4) (wCons (wVar 5) (wCons (wVar 7) wNil))))))) (sRet (wC (.bl false))) sNext)))))))))))
    (sSeq (sIf (wtNot (wtVal (wCall 1 sp_law_somewhere_more (wCons (wVar 1) wNil)))) (sRet (wC (.bl false))) sNext)
    (sSeq (sIf (wtOr (wtNot (wtVal (wCall 2 sp_law_same (wCons (wCall 2 sp_winners (wCons (wTup (wCons (wC (.int 3)) (wCons (wC (.int 5)) (wCons (wC (.int 3)) wNil)))) (wCons (wC (.int 2)) wNil))) (wCons (wTup (wCons (wC (.int 0)) (wCons (wC (.int 1)) wNil))) wNil))))) (wtOr (wtNot (wtVal (wCall 2 sp_law_same (wCons (wCall 2 sp_price (wCons (wTup (wCons (wC (.int 3)) (wCons (wC (.int 5)) (wCons (wC (.int 3)) wNil)))) (wCons (wC (.int 2)) wNil))) (wCons (wC (.int 3)) wNil))))) (wtNot (wtVal (wCall 2 sp_law_same (wCons (wCall 4 sp_gain (wCons (wC (.int 4)) (wCons (wTup (wCons (wC (.int 3)) (wCons (wC (.int 5)) (wCons (wC (.int 3)) wNil)))) (wCons (wC (.int 2)) (wCons (wC (.int 0)) wNil))))) (wCons (wC (.int 1)) wNil))))))) (sRet (wC (.bl false))) sNext)
    (sSeq (sIf (wtOr (wtNot (wtVal (wCall 2 sp_law_same (wCons (wCall 3 sp_with_floor (wCons (wTup (wCons (wC (.int 3)) (wCons (wC (.int 5)) (wCons (wC (.int 1)) wNil)))) (wCons (wC (.int 2)) (wCons (wC (.int 4)) wNil)))) (wCons (wTup (wCons (wTup (wCons (wC (.int 1)) wNil)) (wCons (wC (.int 4)) wNil))) wNil))))) (wtOr (wtNot (wtVal (wCall 2 sp_law_same (wCons (wCall 2 sp_best_floor (wCons (wTup (wCons (wC (.int 3)) (wCons (wC (.int 5)) (wCons (wC (.int 1)) wNil)))) (wCons (wC (.int 2)) wNil))) (wCons (wC (.int 3)) wNil))))) (wtNot (wtVal (wCall 2 sp_law_same (wCons (wCall 2 sp_sum_paid (wCons (wTup (wCons (wC (.int 7)) wNil)) (wCons (wC (.int 1)) wNil))) (wCons (wC (.int 0)) wNil))))))) (sRet (wC (.bl false))) sNext)
    (sRet (wAnd (wCall 2 sp_law_same (wCons (wCall 3 sp_with_floor (wCons (wTup wNil) (wCons (wC (.int 1)) (wCons (wC (.int 6)) wNil)))) (wCons (wTup (wCons (wTup wNil) (wCons (wC (.int 6)) wNil))) wNil))) (wCall 2 sp_law_same (wCons (wCall 2 sp_winners (wCons (wVar 4) (wCons (wVar 5) wNil))) (wCons (wCall 2 sp_law_winners (wCons (wVar 4) (wCons (wVar 5) wNil))) wNil)))))))))))
end K97
set_option Elab.async false
set_option linter.all false
set_option maxRecDepth 100000
set_option maxHeartbeats 8000000
/-! the defs of oddsweighed_k97_whole_sales_by_bids keep their parts -/
namespace K97
open PySem PySem.Spec DL
open L2 (V Hp HO St PE PT PW PA PS PSs PG PI PO Cx Inv RelV Vals)
def topS (i : Nat) : Stmt := PySem.Challenge.pw_oddsweighed_k97_whole_sales_by_bids.main.body.getD i (.Pass ⟨0, 0, 0, 0⟩)
section
variable {P : Program} {w : World} {K : PySem.W.Frag} {mg : Str → Option Value} {base : Heap}
abbrev s_by_bids : Stmt := topS 1
theorem sc_by_bids : L2.FnScope ["bids", "bid", "bidder"] ["bids"] (L2.defScope s_by_bids) := ⟨rfl, rfl, rfl, by decide +kernel, rfl, by decide +kernel, by decide +kernel⟩
theorem ok_by_bids {f : Addr} {fd : FuncData} {k : Nat} {sp : Spc} (F : L2.Fun K "by_bids" "by_bids" s_by_bids f fd) (hm : mg "by_bids" = some (.ref f)) (m_len : mg "len" = none) (m_range : mg "range" = none) (m_sorted : mg "sorted" = none) (body : Body 3 1 (w_by_bids ) sp) : Callee P w K mg base "by_bids" (k + 1) 1 sp :=
  callee_of F hm (F.binds (ps := ["bids"]) fun _ _ _ _ _ _ us hl => match us, hl with | [_], _ => rfl) sc_by_bids rfl rfl (fun cdv A outer s H E hr => by
    unfold w_by_bids
    exact (dss_one (ds_ret (d_lc (own := [("bid", 1), ("bidder", 2)]) rfl sc_by_bids.nd (di_it (d_callB (b_sorted hr) (by rfl) m_sorted (by decide +kernel) (da_cons (d_lc (own := [("bidder", 2)]) rfl sc_by_bids.nd (di_r1 (by rfl) m_range (d_callB b_len (by rfl) m_len (by decide +kernel) (da_cons (d_var 0) da_nil))) (L2.blkOk_by (by rfl)) (fun _ _ _ _ _ => (dg_name 2 sc_by_bids.nd)) (fun _ _ _ _ _ => dts_nil) (fun _ _ _ _ _ => (d_tup (da_cons (d_un u_neg (d_ix i_ix (d_var 0) (d_var 2))) (da_cons (d_var 2) da_nil))))) da_nil))) (L2.blkOk_by (by rfl)) (fun _ _ _ _ _ => (dg_tup rfl (dgs_one 1 sc_by_bids.nd (dgs_one 2 sc_by_bids.nd .nil)))) (fun _ _ _ _ _ => dts_nil) (fun _ _ _ _ _ => (d_var 2)))))) body
abbrev s_winners : Stmt := topS 2
theorem sc_winners : L2.FnScope ["bids", "things"] ["bids", "things"] (L2.defScope s_winners) := ⟨rfl, rfl, rfl, by decide +kernel, rfl, by decide +kernel, by decide +kernel⟩
theorem ok_winners {f : Addr} {fd : FuncData} {k : Nat} {sp : Spc} (F : L2.Fun K "winners" "winners" s_winners f fd) (hm : mg "winners" = some (.ref f)) (m_sorted : mg "sorted" = none) (m_tuple : mg "tuple" = none) {sp_by_bids : Spc} {k_by_bids : Nat} (C_by_bids : Callee P w K mg base "by_bids" k_by_bids 1 sp_by_bids) (h_by_bids : k_by_bids ≤ k) (body : Body 2 2 (w_winners sp_by_bids) sp) : Callee P w K mg base "winners" (k + 1) 2 sp :=
  callee_of F hm (F.binds (ps := ["bids", "things"]) fun _ _ _ _ _ _ us hl => match us, hl with | [_, _], _ => rfl) sc_winners rfl rfl (fun cdv A outer s H E hr => by
    unfold w_winners
    exact (dss_one (ds_ret (d_callT b_tuple (by rfl) m_tuple (by decide +kernel) (da_cons (d_callB (b_sorted hr) (by rfl) m_sorted (by decide +kernel) (da_cons (d_sl s_cut (d_calle C_by_bids hr h_by_bids (by rfl) (da_cons (d_var 0) da_nil)) dp_no (dp_at (d_var 1))) da_nil)) da_nil))))) body
abbrev s_price : Stmt := topS 3
theorem sc_price : L2.FnScope ["bids", "things", "left"] ["bids", "things"] (L2.defScope s_price) := ⟨rfl, rfl, rfl, by decide +kernel, rfl, by decide +kernel, by decide +kernel⟩
theorem ok_price {f : Addr} {fd : FuncData} {k : Nat} {sp : Spc} (F : L2.Fun K "price" "price" s_price f fd) (hm : mg "price" = some (.ref f)) (m_len : mg "len" = none) {sp_by_bids : Spc} {k_by_bids : Nat} (C_by_bids : Callee P w K mg base "by_bids" k_by_bids 1 sp_by_bids) (h_by_bids : k_by_bids ≤ k) (body : Body 3 2 (w_price sp_by_bids) sp) : Callee P w K mg base "price" (k + 1) 2 sp :=
  callee_of F hm (F.binds (ps := ["bids", "things"]) fun _ _ _ _ _ _ us hl => match us, hl with | [_, _], _ => rfl) sc_price rfl rfl (fun cdv A outer s H E hr => by
    unfold w_price
    exact (dss_cons (ds_set 2 sc_price.nd (d_sl s_cut (d_calle C_by_bids hr h_by_bids (by rfl) (da_cons (d_var 0) da_nil)) (dp_at (d_var 1)) dp_no))
      (dss_one (ds_ret (d_if (dt_cmp c_gt (d_callB b_len (by rfl) m_len (by decide +kernel) (da_cons (d_var 2) da_nil)) d_int) (d_ix i_ix (d_var 0) (d_ix i_ix (d_var 2) d_int)) d_int))))) body
abbrev s_gain : Stmt := topS 4
theorem sc_gain : L2.FnScope ["worth", "bids", "things", "bidder"] ["worth", "bids", "things", "bidder"] (L2.defScope s_gain) := ⟨rfl, rfl, rfl, by decide +kernel, rfl, by decide +kernel, by decide +kernel⟩
theorem ok_gain {f : Addr} {fd : FuncData} {k : Nat} {sp : Spc} (F : L2.Fun K "gain" "gain" s_gain f fd) (hm : mg "gain" = some (.ref f)) {sp_winners : Spc} {k_winners : Nat} (C_winners : Callee P w K mg base "winners" k_winners 2 sp_winners) (h_winners : k_winners ≤ k) {sp_price : Spc} {k_price : Nat} (C_price : Callee P w K mg base "price" k_price 2 sp_price) (h_price : k_price ≤ k) (body : Body 4 4 (w_gain sp_winners sp_price) sp) : Callee P w K mg base "gain" (k + 1) 4 sp :=
  callee_of F hm (F.binds (ps := ["worth", "bids", "things", "bidder"]) fun _ _ _ _ _ _ us hl => match us, hl with | [_, _, _, _], _ => rfl) sc_gain rfl rfl (fun cdv A outer s H E hr => by
    unfold w_gain
    exact (dss_one (ds_ret (d_if (dt_cmp (c_in hr) (d_var 3) (d_calle C_winners hr h_winners (by rfl) (da_cons (d_var 1) (da_cons (d_var 2) da_nil)))) (d_op o_sub (d_var 0) (d_calle C_price hr h_price (by rfl) (da_cons (d_var 1) (da_cons (d_var 2) da_nil)))) d_int)))) body
abbrev s_sum_paid : Stmt := topS 5
theorem sc_sum_paid : L2.FnScope ["bids", "things"] ["bids", "things"] (L2.defScope s_sum_paid) := ⟨rfl, rfl, rfl, by decide +kernel, rfl, by decide +kernel, by decide +kernel⟩
theorem ok_sum_paid {f : Addr} {fd : FuncData} {k : Nat} {sp : Spc} (F : L2.Fun K "sum_paid" "sum_paid" s_sum_paid f fd) (hm : mg "sum_paid" = some (.ref f)) (m_len : mg "len" = none) {sp_winners : Spc} {k_winners : Nat} (C_winners : Callee P w K mg base "winners" k_winners 2 sp_winners) (h_winners : k_winners ≤ k) {sp_price : Spc} {k_price : Nat} (C_price : Callee P w K mg base "price" k_price 2 sp_price) (h_price : k_price ≤ k) (body : Body 2 2 (w_sum_paid sp_winners sp_price) sp) : Callee P w K mg base "sum_paid" (k + 1) 2 sp :=
  callee_of F hm (F.binds (ps := ["bids", "things"]) fun _ _ _ _ _ _ us hl => match us, hl with | [_, _], _ => rfl) sc_sum_paid rfl rfl (fun cdv A outer s H E hr => by
    unfold w_sum_paid
    exact (dss_one (ds_ret (d_op o_mul (d_callB b_len (by rfl) m_len (by decide +kernel) (da_cons (d_calle C_winners hr h_winners (by rfl) (da_cons (d_var 0) (da_cons (d_var 1) da_nil))) da_nil)) (d_calle C_price hr h_price (by rfl) (da_cons (d_var 0) (da_cons (d_var 1) da_nil))))))) body
abbrev s_with_floor : Stmt := topS 6
theorem sc_with_floor : L2.FnScope ["bids", "things", "floor", "there", "bidder"] ["bids", "things", "floor"] (L2.defScope s_with_floor) := ⟨rfl, rfl, rfl, by decide +kernel, rfl, by decide +kernel, by decide +kernel⟩
theorem ok_with_floor {f : Addr} {fd : FuncData} {k : Nat} {sp : Spc} (F : L2.Fun K "with_floor" "with_floor" s_with_floor f fd) (hm : mg "with_floor" = some (.ref f)) (m_tuple : mg "tuple" = none) (m_len : mg "len" = none) (m_max : mg "max" = none) {sp_winners : Spc} {k_winners : Nat} (C_winners : Callee P w K mg base "winners" k_winners 2 sp_winners) (h_winners : k_winners ≤ k) {sp_price : Spc} {k_price : Nat} (C_price : Callee P w K mg base "price" k_price 2 sp_price) (h_price : k_price ≤ k) (body : Body 5 3 (w_with_floor sp_winners sp_price) sp) : Callee P w K mg base "with_floor" (k + 1) 3 sp :=
  callee_of F hm (F.binds (ps := ["bids", "things", "floor"]) fun _ _ _ _ _ _ us hl => match us, hl with | [_, _, _], _ => rfl) sc_with_floor rfl rfl (fun cdv A outer s H E hr => by
    unfold w_with_floor
    exact (dss_cons (ds_set 3 sc_with_floor.nd (d_callT b_tuple (by rfl) m_tuple (by decide +kernel) (da_cons (d_lc (own := [("bidder", 4)]) rfl sc_with_floor.nd (di_it (d_calle C_winners hr h_winners (by rfl) (da_cons (d_var 0) (da_cons (d_var 1) da_nil)))) (L2.blkOk_by (by rfl)) (fun _ _ _ _ _ => (dg_name 4 sc_with_floor.nd)) (fun _ _ _ _ _ => (dts_one (dt_cmp c_ge (d_ix i_ix (d_var 0) (d_var 4)) (d_var 2)))) (fun _ _ _ _ _ => (d_var 4))) da_nil)))
      (dss_one (ds_ret (d_tup (da_cons (d_var 3) (da_cons (d_if (dt_cmp c_gt (d_callB b_len (by rfl) m_len (by decide +kernel) (da_cons (d_var 3) da_nil)) d_int) (d_callB (b_max2 rfl) (by rfl) m_max (by decide +kernel) (da_cons (d_var 2) (da_cons (d_calle C_price hr h_price (by rfl) (da_cons (d_var 0) (da_cons (d_var 1) da_nil))) da_nil))) (d_var 2)) da_nil))))))) body
abbrev s_best_floor : Stmt := topS 7
theorem sc_best_floor : L2.FnScope ["bids", "things", "best", "floor", "there", "told"] ["bids", "things"] (L2.defScope s_best_floor) := ⟨rfl, rfl, rfl, by decide +kernel, rfl, by decide +kernel, by decide +kernel⟩
theorem ok_best_floor {f : Addr} {fd : FuncData} {k : Nat} {sp : Spc} (F : L2.Fun K "best_floor" "best_floor" s_best_floor f fd) (hm : mg "best_floor" = some (.ref f)) (m_list : mg "list" = none) (m_sorted : mg "sorted" = none) (m_set : mg "set" = none) (m_len : mg "len" = none) {sp_with_floor : Spc} {k_with_floor : Nat} (C_with_floor : Callee P w K mg base "with_floor" k_with_floor 3 sp_with_floor) (h_with_floor : k_with_floor ≤ k) (body : Body 6 2 (w_best_floor sp_with_floor) sp) : Callee P w K mg base "best_floor" (k + 1) 2 sp :=
  callee_of F hm (F.binds (ps := ["bids", "things"]) fun _ _ _ _ _ _ us hl => match us, hl with | [_, _], _ => rfl) sc_best_floor rfl rfl (fun cdv A outer s H E hr => by
    unfold w_best_floor
    exact (dss_cons (ds_set 2 sc_best_floor.nd d_non)
      (dss_cons (ds_for rfl PassesOwn.never (di_it (d_sortedSet rfl (by rfl) m_sorted (by rfl) m_set (d_op o_add (d_callT b_list (by rfl) m_list (by decide +kernel) (da_cons (d_var 0) da_nil)) (d_lst (da_cons d_int da_nil))))) (dg_name 3 sc_best_floor.nd) (dss_cons (ds_asg (d_calle C_with_floor hr h_with_floor (by rfl) (da_cons (d_var 0) (da_cons (d_var 1) (da_cons (d_var 3) da_nil)))) (dg_tup rfl (dgs_one 4 sc_best_floor.nd (dgs_one 5 sc_best_floor.nd .nil))))
      (dss_one (ds_if (PW.pt (dw_or (dt_cmp c_is (d_var 2) d_non) (dw_or1 (dt_cmp c_gt (d_op o_mul (d_callB b_len (by rfl) m_len (by decide +kernel) (da_cons (d_var 4) da_nil)) (d_var 5)) (d_ix i_ix (d_var 2) d_int))))) (dss_one (ds_set 2 sc_best_floor.nd (d_tup (da_cons (d_op o_mul (d_callB b_len (by rfl) m_len (by decide +kernel) (da_cons (d_var 4) da_nil)) (d_var 5)) (da_cons (d_var 3) da_nil))))) dss_nil))))
      (dss_one (ds_ret (d_ix i_ix (d_var 2) d_int)))))) body
abbrev s_law_draws : Stmt := topS 9
theorem sc_law_draws : L2.FnScope ["script", "many", "cells", "cell", "rest", "draws", "k", "at", "mingled"] ["script", "many"] (L2.defScope s_law_draws) := ⟨rfl, rfl, rfl, by decide +kernel, rfl, by decide +kernel, by decide +kernel⟩
theorem ok_law_draws {f : Addr} {fd : FuncData} {k : Nat} {sp : Spc} (F : L2.Fun K "_law_draws" "_law_draws" s_law_draws f fd) (hm : mg "_law_draws" = some (.ref f)) (m_int : mg "int" = none) (m_len : mg "len" = none) (m_list : mg "list" = none) (m_range : mg "range" = none) (body : Body 9 2 (w_law_draws ) sp) : Callee P w K mg base "_law_draws" (k + 1) 2 sp :=
  callee_of F hm (F.binds (ps := ["script", "many"]) fun _ _ _ _ _ _ us hl => match us, hl with | [_, _], _ => rfl) sc_law_draws rfl rfl (fun cdv A outer s H E hr => by
    unfold w_law_draws
    exact (dss_cons (by first | exact (ds_set 2 sc_law_draws.nd (d_lc (own := [("cell", 3)]) rfl sc_law_draws.nd (di_it (d_var 0)) (L2.blkOk_by (by rfl)) (fun _ _ _ _ _ => (dg_name 3 sc_law_draws.nd)) (fun _ _ _ _ _ => dts_nil) (fun _ _ _ _ _ => (d_callT b_int (by rfl) m_int (by decide +kernel) (da_cons (d_var 3) da_nil))))) | exact (ds_setLc 2 (own := [("cell", 3)]) rfl sc_law_draws.nd (di_it (d_var 0)) (L2.blkOk_by (by rfl)) (fun _ _ _ _ _ => (dg_name 3 sc_law_draws.nd)) (fun _ _ _ _ _ => dts_nil) (fun _ _ _ _ _ => (d_callT b_int (by rfl) m_int (by decide +kernel) (da_cons (d_var 3) da_nil))) (L2.sw_true rfl rfl rfl (by decide +kernel))))
      (dss_cons (ds_if (dt_cmp (c_eq hr) (d_callB b_len (by rfl) m_len (by decide +kernel) (da_cons (d_var 2) da_nil)) d_int) (dss_one (ds_expr (d_m PySem.F.slot_list_append PySem.F.type_list_append m_append (d_var 2) (da_cons d_int da_nil)))) dss_nil)
      (dss_cons (ds_set 4 sc_law_draws.nd (d_callT b_list (by rfl) m_list (by decide +kernel) (da_cons (d_var 2) da_nil)))
      (dss_cons (ds_set 5 sc_law_draws.nd (d_lst da_nil))
      (dss_cons (ds_for rfl PassesOwn.never (di_r1 (by rfl) m_range (d_var 1)) (dg_name 6 sc_law_draws.nd) (dss_cons (ds_set 7 sc_law_draws.nd (d_op o_mod (d_var 6) (d_callB b_len (by rfl) m_len (by decide +kernel) (da_cons (d_var 2) da_nil))))
      (dss_one (ds_if (PW.pt (dw_and (dt_cmp c_ge (d_ix i_ix (d_var 2) (d_var 7)) (d_op o_pow d_int d_int)) (dw_and1 (dt_cmp c_gt (d_ix i_ix (d_var 4) (d_var 7)) d_int)))) (dss_cons (ds_expr (d_m PySem.F.slot_list_append PySem.F.type_list_append m_append (d_var 5) (da_cons (d_op o_mod (d_callT b_int (by rfl) m_int (by decide +kernel) (da_cons (d_ix i_ix (d_var 4) (d_var 7)) da_nil)) d_int) da_nil)))
      (dss_one (ds_sub p_put (d_op o_div (d_ix i_ix (d_var 4) (d_var 7)) d_int) (d_var 4) (d_var 7)))) (dss_cons (ds_set 8 sc_law_draws.nd (d_op o_mod (d_callT b_int (by rfl) m_int (by decide +kernel) (da_cons (d_op o_add (d_op o_add (d_op o_mul (d_ix i_ix (d_var 2) (d_var 7)) d_int) (d_op o_mul (d_var 6) d_int)) d_int) da_nil)) d_int))
      (dss_one (ds_expr (d_m PySem.F.slot_list_append PySem.F.type_list_append m_append (d_var 5) (da_cons (d_op o_mod (d_callT b_int (by rfl) m_int (by decide +kernel) (da_cons (d_op o_add (d_op o_add (d_op o_mul (d_var 8) (d_var 8)) (d_op o_mul d_int (d_var 8))) (d_var 6)) da_nil)) d_int) da_nil)))))))))
      (dss_cons (ds_expr (d_m0 PySem.F.slot_list_reverse PySem.F.type_list_reverse m_reverse (d_var 5)))
      (dss_one (ds_ret (d_var 5)))))))))) body
abbrev s_law_take : Stmt := topS 10
theorem sc_law_take : L2.FnScope ["draws", "many"] ["draws", "many"] (L2.defScope s_law_take) := ⟨rfl, rfl, rfl, by decide +kernel, rfl, by decide +kernel, by decide +kernel⟩
theorem ok_law_take {f : Addr} {fd : FuncData} {k : Nat} {sp : Spc} (F : L2.Fun K "_law_take" "_law_take" s_law_take f fd) (hm : mg "_law_take" = some (.ref f)) (m_len : mg "len" = none) (m_int : mg "int" = none) (body : Body 2 2 (w_law_take ) sp) : Callee P w K mg base "_law_take" (k + 1) 2 sp :=
  callee_of F hm (F.binds (ps := ["draws", "many"]) fun _ _ _ _ _ _ us hl => match us, hl with | [_, _], _ => rfl) sc_law_take rfl rfl (fun cdv A outer s H E hr => by
    unfold w_law_take
    exact (dss_cons (ds_if (dt_cmp (c_eq hr) (d_callB b_len (by rfl) m_len (by decide +kernel) (da_cons (d_var 0) da_nil)) d_int) (dss_one (ds_ret d_int)) dss_nil)
      (dss_one (ds_ret (d_op o_mod (d_callT b_int (by rfl) m_int (by decide +kernel) (da_cons (d_m0 PySem.F.slot_list_pop PySem.F.type_list_pop m_pop (d_var 0)) da_nil)) (d_var 1)))))) body
abbrev s_law_cell : Stmt := topS 11
theorem sc_law_cell : L2.FnScope ["script", "draws"] ["script", "draws"] (L2.defScope s_law_cell) := ⟨rfl, rfl, rfl, by decide +kernel, rfl, by decide +kernel, by decide +kernel⟩
theorem ok_law_cell {f : Addr} {fd : FuncData} {k : Nat} {sp : Spc} (F : L2.Fun K "_law_cell" "_law_cell" s_law_cell f fd) (hm : mg "_law_cell" = some (.ref f)) (m_len : mg "len" = none) (m_int : mg "int" = none) {sp_law_take : Spc} {k_law_take : Nat} (C_law_take : Callee P w K mg base "_law_take" k_law_take 2 sp_law_take) (h_law_take : k_law_take ≤ k) (body : Body 2 2 (w_law_cell sp_law_take) sp) : Callee P w K mg base "_law_cell" (k + 1) 2 sp :=
  callee_of F hm (F.binds (ps := ["script", "draws"]) fun _ _ _ _ _ _ us hl => match us, hl with | [_, _], _ => rfl) sc_law_cell rfl rfl (fun cdv A outer s H E hr => by
    unfold w_law_cell
    exact (dss_cons (ds_if (dt_cmp (c_eq hr) (d_callB b_len (by rfl) m_len (by decide +kernel) (da_cons (d_var 0) da_nil)) d_int) (dss_one (ds_ret d_int)) dss_nil)
      (dss_one (ds_ret (d_callT b_int (by rfl) m_int (by decide +kernel) (da_cons (d_ix i_ix (d_var 0) (d_calle C_law_take hr h_law_take (by rfl) (da_cons (d_var 1) (da_cons (d_callB b_len (by rfl) m_len (by decide +kernel) (da_cons (d_var 0) da_nil)) da_nil)))) da_nil)))))) body
abbrev s_law_same : Stmt := topS 12
theorem sc_law_same : L2.FnScope ["actual", "due", "k"] ["actual", "due"] (L2.defScope s_law_same) := ⟨rfl, rfl, rfl, by decide +kernel, rfl, by decide +kernel, by decide +kernel⟩
theorem ok_law_same {f : Addr} {fd : FuncData} {k : Nat} {sp : Spc} (F : L2.Fun K "_law_same" "_law_same" s_law_same f fd) (hm : mg "_law_same" = some (.ref f)) (m_bool : mg "bool" = none) (m_isinstance : mg "isinstance" = none) (m_int : mg "int" = none) (m_str : mg "str" = none) (m_tuple : mg "tuple" = none) (m_len : mg "len" = none) (m_range : mg "range" = none) {sp_law_same : Spc} {k_law_same : Nat} (C_law_same : Callee P w K mg base "_law_same" k_law_same 2 sp_law_same) (h_law_same : k_law_same ≤ k) (body : Body 3 2 (w_law_same sp_law_same) sp) : Callee P w K mg base "_law_same" (k + 1) 2 sp :=
  callee_of F hm (F.binds (ps := ["actual", "due"]) fun _ _ _ _ _ _ us hl => match us, hl with | [_, _], _ => rfl) sc_law_same rfl rfl (fun cdv A outer s H E hr => by
    unfold w_law_same
    exact (dss_cons (ds_if (dt_val (d_callB b_isi (by rfl) m_isinstance (by decide +kernel) (da_cons (d_var 1) (da_cons (d_ty (by rfl) m_bool (by decide +kernel)) da_nil)))) (dss_one (ds_ret (d_and (d_callB b_isi (by rfl) m_isinstance (by decide +kernel) (da_cons (d_var 0) (da_cons (d_ty (by rfl) m_bool (by decide +kernel)) da_nil))) (d_one (d_cmp (c_eq hr) (d_var 0) (d_var 1)))))) dss_nil)
      (dss_cons (ds_if (dt_val (d_callB b_isi (by rfl) m_isinstance (by decide +kernel) (da_cons (d_var 1) (da_cons (d_ty (by rfl) m_int (by decide +kernel)) da_nil)))) (dss_one (ds_ret (d_and (d_callB b_isi (by rfl) m_isinstance (by decide +kernel) (da_cons (d_var 0) (da_cons (d_ty (by rfl) m_int (by decide +kernel)) da_nil))) (d_and (d_not (d_callB b_isi (by rfl) m_isinstance (by decide +kernel) (da_cons (d_var 0) (da_cons (d_ty (by rfl) m_bool (by decide +kernel)) da_nil)))) (d_one (d_cmp (c_eq hr) (d_var 0) (d_var 1))))))) dss_nil)
      (dss_cons (ds_if (dt_val (d_callB b_isi (by rfl) m_isinstance (by decide +kernel) (da_cons (d_var 1) (da_cons (d_ty (by rfl) m_str (by decide +kernel)) da_nil)))) (dss_one (ds_ret (d_and (d_callB b_isi (by rfl) m_isinstance (by decide +kernel) (da_cons (d_var 0) (da_cons (d_ty (by rfl) m_str (by decide +kernel)) da_nil))) (d_one (d_cmp (c_eq hr) (d_var 0) (d_var 1)))))) dss_nil)
      (dss_cons (ds_if (dt_cmp c_is (d_var 1) d_non) (dss_one (ds_ret (d_cmp c_is (d_var 0) d_non))) dss_nil)
      (dss_cons (ds_if (PW.pt (dw_or (dt_not (dt_val (d_callB b_isi (by rfl) m_isinstance (by decide +kernel) (da_cons (d_var 0) (da_cons (d_ty (by rfl) m_tuple (by decide +kernel)) da_nil))))) (dw_or1 (dt_cmp (c_ne hr) (d_callB b_len (by rfl) m_len (by decide +kernel) (da_cons (d_var 0) da_nil)) (d_callB b_len (by rfl) m_len (by decide +kernel) (da_cons (d_var 1) da_nil)))))) (dss_one (ds_ret d_bl)) dss_nil)
      (dss_cons (ds_for rfl PassesOwn.never (di_r1 (by rfl) m_range (d_callB b_len (by rfl) m_len (by decide +kernel) (da_cons (d_var 1) da_nil))) (dg_name 2 sc_law_same.nd) (dss_one (ds_if (dt_not (dt_val (d_calle C_law_same hr h_law_same (by rfl) (da_cons (d_ix i_ix (d_var 0) (d_var 2)) (da_cons (d_ix i_ix (d_var 1) (d_var 2)) da_nil))))) (dss_one (ds_ret d_bl)) dss_nil)))
      (dss_one (ds_ret d_bl))))))))) body
abbrev s_law_bids : Stmt := topS 13
theorem sc_law_bids : L2.FnScope ["draws", "cell", "many", "style", "found", "k"] ["draws", "cell", "many"] (L2.defScope s_law_bids) := ⟨rfl, rfl, rfl, by decide +kernel, rfl, by decide +kernel, by decide +kernel⟩
theorem ok_law_bids {f : Addr} {fd : FuncData} {k : Nat} {sp : Spc} (F : L2.Fun K "_law_bids" "_law_bids" s_law_bids f fd) (hm : mg "_law_bids" = some (.ref f)) (m_range : mg "range" = none) (m_tuple : mg "tuple" = none) {sp_law_take : Spc} {k_law_take : Nat} (C_law_take : Callee P w K mg base "_law_take" k_law_take 2 sp_law_take) (h_law_take : k_law_take ≤ k) (body : Body 6 3 (w_law_bids sp_law_take) sp) : Callee P w K mg base "_law_bids" (k + 1) 3 sp :=
  callee_of F hm (F.binds (ps := ["draws", "cell", "many"]) fun _ _ _ _ _ _ us hl => match us, hl with | [_, _, _], _ => rfl) sc_law_bids rfl rfl (fun cdv A outer s H E hr => by
    unfold w_law_bids
    exact (dss_cons (ds_set 3 sc_law_bids.nd (d_calle C_law_take hr h_law_take (by rfl) (da_cons (d_var 0) (da_cons d_int da_nil))))
      (dss_cons (ds_set 4 sc_law_bids.nd (d_lst da_nil))
      (dss_cons (ds_for rfl PassesOwn.never (di_r1 (by rfl) m_range (d_var 2)) (dg_name 5 sc_law_bids.nd) (dss_one (ds_expr (d_m PySem.F.slot_list_append PySem.F.type_list_append m_append (d_var 4) (da_cons (d_ix i_ix (d_lst (da_cons (d_calle C_law_take hr h_law_take (by rfl) (da_cons (d_var 0) (da_cons d_int da_nil))) (da_cons (d_calle C_law_take hr h_law_take (by rfl) (da_cons (d_var 0) (da_cons d_int da_nil))) (da_cons (d_calle C_law_take hr h_law_take (by rfl) (da_cons (d_var 0) (da_cons d_int da_nil))) (da_cons (d_ix i_ix (d_lst (da_cons (d_var 1) (da_cons (d_op o_add (d_var 1) d_int) (da_cons (d_calle C_law_take hr h_law_take (by rfl) (da_cons (d_var 0) (da_cons d_int da_nil))) da_nil)))) (d_calle C_law_take hr h_law_take (by rfl) (da_cons (d_var 0) (da_cons d_int da_nil)))) da_nil))))) (d_var 3)) da_nil)))))
      (dss_one (ds_ret (d_callT b_tuple (by rfl) m_tuple (by decide +kernel) (da_cons (d_var 4) da_nil)))))))) body
abbrev s_law_winners : Stmt := topS 14
theorem sc_law_winners : L2.FnScope ["bids", "things", "found", "k", "ahead", "j"] ["bids", "things"] (L2.defScope s_law_winners) := ⟨rfl, rfl, rfl, by decide +kernel, rfl, by decide +kernel, by decide +kernel⟩
theorem ok_law_winners {f : Addr} {fd : FuncData} {k : Nat} {sp : Spc} (F : L2.Fun K "_law_winners" "_law_winners" s_law_winners f fd) (hm : mg "_law_winners" = some (.ref f)) (m_len : mg "len" = none) (m_range : mg "range" = none) (m_tuple : mg "tuple" = none) (body : Body 6 2 (w_law_winners ) sp) : Callee P w K mg base "_law_winners" (k + 1) 2 sp :=
  callee_of F hm (F.binds (ps := ["bids", "things"]) fun _ _ _ _ _ _ us hl => match us, hl with | [_, _], _ => rfl) sc_law_winners rfl rfl (fun cdv A outer s H E hr => by
    unfold w_law_winners
    exact (dss_cons (ds_set 2 sc_law_winners.nd (d_lst da_nil))
      (dss_cons (ds_for rfl PassesOwn.never (di_r1 (by rfl) m_range (d_callB b_len (by rfl) m_len (by decide +kernel) (da_cons (d_var 0) da_nil))) (dg_name 3 sc_law_winners.nd) (dss_cons (ds_set 4 sc_law_winners.nd (d_callB b_len (by rfl) m_len (by decide +kernel) (da_cons (d_lc (own := [("j", 5)]) rfl sc_law_winners.nd (di_r1 (by rfl) m_range (d_callB b_len (by rfl) m_len (by decide +kernel) (da_cons (d_var 0) da_nil))) (L2.blkOk_by (by rfl)) (fun _ _ _ _ _ => (dg_name 5 sc_law_winners.nd)) (fun _ _ _ _ _ => (dts_one (PW.pt (dw_or (dt_cmp c_gt (d_ix i_ix (d_var 0) (d_var 5)) (d_ix i_ix (d_var 0) (d_var 3))) (dw_or1 (PW.pt (dw_and (dt_cmp (c_eq hr) (d_ix i_ix (d_var 0) (d_var 5)) (d_ix i_ix (d_var 0) (d_var 3))) (dw_and1 (dt_cmp c_lt (d_var 5) (d_var 3)))))))))) (fun _ _ _ _ _ => (d_var 5))) da_nil)))
      (dss_one (ds_if (dt_cmp c_lt (d_var 4) (d_var 1)) (dss_one (ds_expr (d_m PySem.F.slot_list_append PySem.F.type_list_append m_append (d_var 2) (da_cons (d_var 3) da_nil)))) dss_nil))))
      (dss_one (ds_ret (d_callT b_tuple (by rfl) m_tuple (by decide +kernel) (da_cons (d_var 2) da_nil))))))) body
abbrev s_law_price : Stmt := topS 15
theorem sc_law_price : L2.FnScope ["bids", "things", "first", "k"] ["bids", "things"] (L2.defScope s_law_price) := ⟨rfl, rfl, rfl, by decide +kernel, rfl, by decide +kernel, by decide +kernel⟩
theorem ok_law_price {f : Addr} {fd : FuncData} {k : Nat} {sp : Spc} (F : L2.Fun K "_law_price" "_law_price" s_law_price f fd) (hm : mg "_law_price" = some (.ref f)) (m_len : mg "len" = none) (m_range : mg "range" = none) (m_max : mg "max" = none) {sp_law_winners : Spc} {k_law_winners : Nat} (C_law_winners : Callee P w K mg base "_law_winners" k_law_winners 2 sp_law_winners) (h_law_winners : k_law_winners ≤ k) (body : Body 4 2 (w_law_price sp_law_winners) sp) : Callee P w K mg base "_law_price" (k + 1) 2 sp :=
  callee_of F hm (F.binds (ps := ["bids", "things"]) fun _ _ _ _ _ _ us hl => match us, hl with | [_, _], _ => rfl) sc_law_price rfl rfl (fun cdv A outer s H E hr => by
    unfold w_law_price
    exact (dss_cons (ds_set 2 sc_law_price.nd (d_calle C_law_winners hr h_law_winners (by rfl) (da_cons (d_var 0) (da_cons (d_var 1) da_nil))))
      (dss_one (ds_ret (d_callB (b_max rfl hr) (by rfl) m_max (by decide +kernel) (da_cons (d_op o_add (d_lst (da_cons d_int da_nil)) (d_lc (own := [("k", 3)]) rfl sc_law_price.nd (di_r1 (by rfl) m_range (d_callB b_len (by rfl) m_len (by decide +kernel) (da_cons (d_var 0) da_nil))) (L2.blkOk_by (by rfl)) (fun _ _ _ _ _ => (dg_name 3 sc_law_price.nd)) (fun _ _ _ _ _ => (dts_one (dt_cmp (c_notin hr) (d_var 3) (d_var 2)))) (fun _ _ _ _ _ => (d_ix i_ix (d_var 0) (d_var 3))))) da_nil)))))) body
abbrev s_law_gain : Stmt := topS 16
theorem sc_law_gain : L2.FnScope ["own_worth", "bids", "things", "bidder"] ["own_worth", "bids", "things", "bidder"] (L2.defScope s_law_gain) := ⟨rfl, rfl, rfl, by decide +kernel, rfl, by decide +kernel, by decide +kernel⟩
theorem ok_law_gain {f : Addr} {fd : FuncData} {k : Nat} {sp : Spc} (F : L2.Fun K "_law_gain" "_law_gain" s_law_gain f fd) (hm : mg "_law_gain" = some (.ref f)) {sp_law_winners : Spc} {k_law_winners : Nat} (C_law_winners : Callee P w K mg base "_law_winners" k_law_winners 2 sp_law_winners) (h_law_winners : k_law_winners ≤ k) {sp_law_price : Spc} {k_law_price : Nat} (C_law_price : Callee P w K mg base "_law_price" k_law_price 2 sp_law_price) (h_law_price : k_law_price ≤ k) (body : Body 4 4 (w_law_gain sp_law_winners sp_law_price) sp) : Callee P w K mg base "_law_gain" (k + 1) 4 sp :=
  callee_of F hm (F.binds (ps := ["own_worth", "bids", "things", "bidder"]) fun _ _ _ _ _ _ us hl => match us, hl with | [_, _, _, _], _ => rfl) sc_law_gain rfl rfl (fun cdv A outer s H E hr => by
    unfold w_law_gain
    exact (dss_cons (ds_if (dt_cmp (c_in hr) (d_var 3) (d_calle C_law_winners hr h_law_winners (by rfl) (da_cons (d_var 1) (da_cons (d_var 2) da_nil)))) (dss_one (ds_ret (d_op o_sub (d_var 0) (d_calle C_law_price hr h_law_price (by rfl) (da_cons (d_var 1) (da_cons (d_var 2) da_nil)))))) dss_nil)
      (dss_one (ds_ret d_int)))) body
abbrev s_law_with : Stmt := topS 17
theorem sc_law_with : L2.FnScope ["bids", "things", "floor", "there", "k"] ["bids", "things", "floor"] (L2.defScope s_law_with) := ⟨rfl, rfl, rfl, by decide +kernel, rfl, by decide +kernel, by decide +kernel⟩
theorem ok_law_with {f : Addr} {fd : FuncData} {k : Nat} {sp : Spc} (F : L2.Fun K "_law_with" "_law_with" s_law_with f fd) (hm : mg "_law_with" = some (.ref f)) (m_tuple : mg "tuple" = none) (m_len : mg "len" = none) (m_max : mg "max" = none) {sp_law_winners : Spc} {k_law_winners : Nat} (C_law_winners : Callee P w K mg base "_law_winners" k_law_winners 2 sp_law_winners) (h_law_winners : k_law_winners ≤ k) {sp_law_price : Spc} {k_law_price : Nat} (C_law_price : Callee P w K mg base "_law_price" k_law_price 2 sp_law_price) (h_law_price : k_law_price ≤ k) (body : Body 5 3 (w_law_with sp_law_winners sp_law_price) sp) : Callee P w K mg base "_law_with" (k + 1) 3 sp :=
  callee_of F hm (F.binds (ps := ["bids", "things", "floor"]) fun _ _ _ _ _ _ us hl => match us, hl with | [_, _, _], _ => rfl) sc_law_with rfl rfl (fun cdv A outer s H E hr => by
    unfold w_law_with
    exact (dss_cons (ds_set 3 sc_law_with.nd (d_callT b_tuple (by rfl) m_tuple (by decide +kernel) (da_cons (d_lc (own := [("k", 4)]) rfl sc_law_with.nd (di_it (d_calle C_law_winners hr h_law_winners (by rfl) (da_cons (d_var 0) (da_cons (d_var 1) da_nil)))) (L2.blkOk_by (by rfl)) (fun _ _ _ _ _ => (dg_name 4 sc_law_with.nd)) (fun _ _ _ _ _ => (dts_one (dt_cmp c_ge (d_ix i_ix (d_var 0) (d_var 4)) (d_var 2)))) (fun _ _ _ _ _ => (d_var 4))) da_nil)))
      (dss_cons (ds_if (dt_cmp (c_eq hr) (d_callB b_len (by rfl) m_len (by decide +kernel) (da_cons (d_var 3) da_nil)) d_int) (dss_one (ds_ret (d_tup (da_cons (d_var 3) (da_cons (d_var 2) da_nil))))) dss_nil)
      (dss_one (ds_ret (d_tup (da_cons (d_var 3) (da_cons (d_callB (b_max2 rfl) (by rfl) m_max (by decide +kernel) (da_cons (d_var 2) (da_cons (d_calle C_law_price hr h_law_price (by rfl) (da_cons (d_var 0) (da_cons (d_var 1) da_nil))) da_nil))) da_nil)))))))) body
abbrev s_law_floor : Stmt := topS 18
theorem sc_law_floor : L2.FnScope ["bids", "things", "best", "floor", "there", "told"] ["bids", "things"] (L2.defScope s_law_floor) := ⟨rfl, rfl, rfl, by decide +kernel, rfl, by decide +kernel, by decide +kernel⟩
theorem ok_law_floor {f : Addr} {fd : FuncData} {k : Nat} {sp : Spc} (F : L2.Fun K "_law_floor" "_law_floor" s_law_floor f fd) (hm : mg "_law_floor" = some (.ref f)) (m_sorted : mg "sorted" = none) (m_set : mg "set" = none) (m_len : mg "len" = none) {sp_law_with : Spc} {k_law_with : Nat} (C_law_with : Callee P w K mg base "_law_with" k_law_with 3 sp_law_with) (h_law_with : k_law_with ≤ k) (body : Body 6 2 (w_law_floor sp_law_with) sp) : Callee P w K mg base "_law_floor" (k + 1) 2 sp :=
  callee_of F hm (F.binds (ps := ["bids", "things"]) fun _ _ _ _ _ _ us hl => match us, hl with | [_, _], _ => rfl) sc_law_floor rfl rfl (fun cdv A outer s H E hr => by
    unfold w_law_floor
    exact (dss_cons (ds_set 2 sc_law_floor.nd d_non)
      (dss_cons (ds_for rfl PassesOwn.never (di_it (d_sortedSet rfl (by rfl) m_sorted (by rfl) m_set (d_op o_add (d_var 0) (d_tup (da_cons d_int da_nil))))) (dg_name 3 sc_law_floor.nd) (dss_cons (ds_asg (d_calle C_law_with hr h_law_with (by rfl) (da_cons (d_var 0) (da_cons (d_var 1) (da_cons (d_var 3) da_nil)))) (dg_tup rfl (dgs_one 4 sc_law_floor.nd (dgs_one 5 sc_law_floor.nd .nil))))
      (dss_one (ds_if (PW.pt (dw_or (dt_cmp c_is (d_var 2) d_non) (dw_or1 (dt_cmp c_gt (d_op o_mul (d_callB b_len (by rfl) m_len (by decide +kernel) (da_cons (d_var 4) da_nil)) (d_var 5)) (d_ix i_ix (d_var 2) d_int))))) (dss_one (ds_set 2 sc_law_floor.nd (d_tup (da_cons (d_op o_mul (d_callB b_len (by rfl) m_len (by decide +kernel) (da_cons (d_var 4) da_nil)) (d_var 5)) (da_cons (d_var 3) da_nil))))) dss_nil))))
      (dss_one (ds_ret (d_ix i_ix (d_var 2) d_int)))))) body
abbrev s_law_true_bid : Stmt := topS 19
theorem sc_law_true_bid : L2.FnScope ["draws", "bids", "things", "bidder", "own_worth", "true_bids", "best", "other", "bid", "wrong", "told"] ["draws", "bids", "things", "bidder"] (L2.defScope s_law_true_bid) := ⟨rfl, rfl, rfl, by decide +kernel, rfl, by decide +kernel, by decide +kernel⟩
theorem ok_law_true_bid {f : Addr} {fd : FuncData} {k : Nat} {sp : Spc} (F : L2.Fun K "_law_true_bid" "_law_true_bid" s_law_true_bid f fd) (hm : mg "_law_true_bid" = some (.ref f)) (m_max : mg "max" = none) (m_len : mg "len" = none) (m_tuple : mg "tuple" = none) (m_sorted : mg "sorted" = none) (m_set : mg "set" = none) {sp_law_take : Spc} {k_law_take : Nat} (C_law_take : Callee P w K mg base "_law_take" k_law_take 2 sp_law_take) (h_law_take : k_law_take ≤ k) {sp_gain : Spc} {k_gain : Nat} (C_gain : Callee P w K mg base "gain" k_gain 4 sp_gain) (h_gain : k_gain ≤ k) {sp_law_gain : Spc} {k_law_gain : Nat} (C_law_gain : Callee P w K mg base "_law_gain" k_law_gain 4 sp_law_gain) (h_law_gain : k_law_gain ≤ k) {sp_law_same : Spc} {k_law_same : Nat} (C_law_same : Callee P w K mg base "_law_same" k_law_same 2 sp_law_same) (h_law_same : k_law_same ≤ k) (body : Body 11 4 (w_law_true_bid sp_law_take sp_gain sp_law_gain sp_law_same) sp) : Callee P w K mg base "_law_true_bid" (k + 1) 4 sp :=
  callee_of F hm (F.binds (ps := ["draws", "bids", "things", "bidder"]) fun _ _ _ _ _ _ us hl => match us, hl with | [_, _, _, _], _ => rfl) sc_law_true_bid rfl rfl (fun cdv A outer s H E hr => by
    unfold w_law_true_bid
    exact (dss_cons (ds_set 4 sc_law_true_bid.nd (d_ix i_ix (d_lst (da_cons (d_calle C_law_take hr h_law_take (by rfl) (da_cons (d_var 0) (da_cons d_int da_nil))) (da_cons (d_op o_add (d_ix i_ix (d_var 1) (d_calle C_law_take hr h_law_take (by rfl) (da_cons (d_var 0) (da_cons (d_callB b_len (by rfl) m_len (by decide +kernel) (da_cons (d_var 1) da_nil)) da_nil)))) (d_calle C_law_take hr h_law_take (by rfl) (da_cons (d_var 0) (da_cons d_int da_nil)))) (da_cons (d_op o_add (d_callB (b_max rfl hr) (by rfl) m_max (by decide +kernel) (da_cons (d_var 1) da_nil)) d_int) da_nil)))) (d_calle C_law_take hr h_law_take (by rfl) (da_cons (d_var 0) (da_cons d_int da_nil)))))
      (dss_cons (ds_set 5 sc_law_true_bid.nd (d_op o_add (d_op o_add (d_sl s_cut (d_var 1) dp_no (dp_at (d_var 3))) (d_tup (da_cons (d_var 4) da_nil))) (d_sl s_cut (d_var 1) (dp_at (d_op o_add (d_var 3) d_int)) dp_no)))
      (dss_cons (ds_set 6 sc_law_true_bid.nd (d_calle C_gain hr h_gain (by rfl) (da_cons (d_var 4) (da_cons (d_var 5) (da_cons (d_var 2) (da_cons (d_var 3) da_nil))))))
      (dss_cons (ds_if (PW.pt (dw_or (dt_not (dt_val (d_calle C_law_same hr h_law_same (by rfl) (da_cons (d_var 6) (da_cons (d_calle C_law_gain hr h_law_gain (by rfl) (da_cons (d_var 4) (da_cons (d_var 5) (da_cons (d_var 2) (da_cons (d_var 3) da_nil))))) da_nil))))) (dw_or1 (dt_cmp c_lt (d_var 6) d_int)))) (dss_one (ds_ret d_bl)) dss_nil)
      (dss_cons (ds_for rfl PassesOwn.never (di_it (d_sortedSet rfl (by rfl) m_sorted (by rfl) m_set (d_op o_add (d_op o_add (d_var 1) (d_callT b_tuple (by rfl) m_tuple (by decide +kernel) (da_cons (d_lc (own := [("bid", 8)]) rfl sc_law_true_bid.nd (di_it (d_var 1)) (L2.blkOk_by (by rfl)) (fun _ _ _ _ _ => (dg_name 8 sc_law_true_bid.nd)) (fun _ _ _ _ _ => dts_nil) (fun _ _ _ _ _ => (d_op o_add (d_var 8) d_int))) da_nil))) (d_tup (da_cons d_int (da_cons (d_op o_add (d_var 4) d_int) (da_cons (d_callB (b_max2 rfl) (by rfl) m_max (by decide +kernel) (da_cons (d_op o_sub (d_var 4) d_int) (da_cons d_int da_nil))) da_nil))))))) (dg_name 7 sc_law_true_bid.nd) (dss_cons (ds_set 9 sc_law_true_bid.nd (d_op o_add (d_op o_add (d_sl s_cut (d_var 1) dp_no (dp_at (d_var 3))) (d_tup (da_cons (d_var 7) da_nil))) (d_sl s_cut (d_var 1) (dp_at (d_op o_add (d_var 3) d_int)) dp_no)))
      (dss_cons (ds_set 10 sc_law_true_bid.nd (d_calle C_gain hr h_gain (by rfl) (da_cons (d_var 4) (da_cons (d_var 9) (da_cons (d_var 2) (da_cons (d_var 3) da_nil))))))
      (dss_one (ds_if (PW.pt (dw_or (dt_not (dt_val (d_calle C_law_same hr h_law_same (by rfl) (da_cons (d_var 10) (da_cons (d_calle C_law_gain hr h_law_gain (by rfl) (da_cons (d_var 4) (da_cons (d_var 9) (da_cons (d_var 2) (da_cons (d_var 3) da_nil))))) da_nil))))) (dw_or1 (dt_cmp c_gt (d_var 10) (d_var 6))))) (dss_one (ds_ret d_bl)) dss_nil)))))
      (dss_one (ds_ret d_bl)))))))) body
abbrev s_law_somewhere_more : Stmt := topS 20
theorem sc_law_somewhere_more : L2.FnScope ["draws", "own_worth", "wrong", "told", "other", "one", "two"] ["draws"] (L2.defScope s_law_somewhere_more) := ⟨rfl, rfl, rfl, by decide +kernel, rfl, by decide +kernel, by decide +kernel⟩
theorem ok_law_somewhere_more {f : Addr} {fd : FuncData} {k : Nat} {sp : Spc} (F : L2.Fun K "_law_somewhere_more" "_law_somewhere_more" s_law_somewhere_more f fd) (hm : mg "_law_somewhere_more" = some (.ref f)) (m_max : mg "max" = none) (m_range : mg "range" = none) (m_int : mg "int" = none) (m_min : mg "min" = none) {sp_law_take : Spc} {k_law_take : Nat} (C_law_take : Callee P w K mg base "_law_take" k_law_take 2 sp_law_take) (h_law_take : k_law_take ≤ k) {sp_gain : Spc} {k_gain : Nat} (C_gain : Callee P w K mg base "gain" k_gain 4 sp_gain) (h_gain : k_gain ≤ k) {sp_law_same : Spc} {k_law_same : Nat} (C_law_same : Callee P w K mg base "_law_same" k_law_same 2 sp_law_same) (h_law_same : k_law_same ≤ k) (body : Body 7 1 (w_law_somewhere_more sp_law_take sp_gain sp_law_same) sp) : Callee P w K mg base "_law_somewhere_more" (k + 1) 1 sp :=
  callee_of F hm (F.binds (ps := ["draws"]) fun _ _ _ _ _ _ us hl => match us, hl with | [_], _ => rfl) sc_law_somewhere_more rfl rfl (fun cdv A outer s H E hr => by
    unfold w_law_somewhere_more
    exact (dss_cons (ds_set 1 sc_law_somewhere_more.nd (d_op o_add d_int (d_calle C_law_take hr h_law_take (by rfl) (da_cons (d_var 0) (da_cons d_int da_nil)))))
      (dss_cons (ds_set 2 sc_law_somewhere_more.nd (d_calle C_law_take hr h_law_take (by rfl) (da_cons (d_var 0) (da_cons d_int da_nil))))
      (dss_cons (ds_if (dt_cmp (c_eq hr) (d_var 2) (d_var 1)) (dss_one (ds_set 2 sc_law_somewhere_more.nd (d_op o_add (d_var 1) d_int))) dss_nil)
      (dss_cons (ds_set 3 sc_law_somewhere_more.nd (d_lst da_nil))
      (dss_cons (ds_for rfl PassesOwn.never (di_r1 (by rfl) m_range (d_op o_add (d_callB (b_max2 rfl) (by rfl) m_max (by decide +kernel) (da_cons (d_var 1) (da_cons (d_var 2) da_nil))) d_int)) (dg_name 4 sc_law_somewhere_more.nd) (dss_cons (ds_set 5 sc_law_somewhere_more.nd (d_calle C_gain hr h_gain (by rfl) (da_cons (d_var 1) (da_cons (d_tup (da_cons (d_var 4) (da_cons (d_var 1) da_nil))) (da_cons d_int (da_cons d_int da_nil))))))
      (dss_cons (ds_set 6 sc_law_somewhere_more.nd (d_calle C_gain hr h_gain (by rfl) (da_cons (d_var 1) (da_cons (d_tup (da_cons (d_var 4) (da_cons (d_var 2) da_nil))) (da_cons d_int (da_cons d_int da_nil))))))
      (dss_cons (ds_if (PW.pt (dw_or (dt_not (dt_val (d_calle C_law_same hr h_law_same (by rfl) (da_cons (d_var 5) (da_cons (d_callB (b_max2 rfl) (by rfl) m_max (by decide +kernel) (da_cons (d_op o_sub (d_var 1) (d_var 4)) (da_cons d_int da_nil))) da_nil))))) (dw_or1 (dt_not (dt_val (d_calle C_law_same hr h_law_same (by rfl) (da_cons (d_var 6) (da_cons (d_op o_mul (d_op o_sub (d_var 1) (d_var 4)) (d_callT b_int (by rfl) m_int (by decide +kernel) (da_cons (d_cmp c_gt (d_var 2) (d_var 4)) da_nil))) da_nil)))))))) (dss_one (ds_ret d_bl)) dss_nil)
      (dss_one (ds_expr (d_m PySem.F.slot_list_append PySem.F.type_list_append m_append (d_var 3) (da_cons (d_op o_sub (d_var 5) (d_var 6)) da_nil))))))))
      (dss_one (ds_ret (d_and (d_cmp c_ge (d_callB (b_min rfl hr) (by rfl) m_min (by decide +kernel) (da_cons (d_var 3) da_nil)) d_int) (d_one (d_cmp (c_eq hr) (d_cmp c_gt (d_callB (b_max rfl hr) (by rfl) m_max (by decide +kernel) (da_cons (d_var 3) da_nil)) d_int) (d_or (d_cmp c_lt (d_var 2) (d_var 1)) (d_one (d_cmp c_gt (d_var 2) (d_op o_add (d_var 1) d_int))))))))))))))) body
abbrev s_law : Stmt := topS 21
theorem sc_law : L2.FnScope ["script", "draws", "cell", "k", "bids", "things", "floor", "bidder"] ["script"] (L2.defScope s_law) := ⟨rfl, rfl, rfl, by decide +kernel, rfl, by decide +kernel, by decide +kernel⟩
theorem ok_law {f : Addr} {fd : FuncData} {k : Nat} {sp : Spc} (F : L2.Fun K "law" "law" s_law f fd) (hm : mg "law" = some (.ref f)) (m_abs : mg "abs" = none) (m_range : mg "range" = none) (m_len : mg "len" = none) (m_max : mg "max" = none) (m_list : mg "list" = none) (m_min : mg "min" = none) {sp_law_draws : Spc} {k_law_draws : Nat} (C_law_draws : Callee P w K mg base "_law_draws" k_law_draws 2 sp_law_draws) (h_law_draws : k_law_draws ≤ k) {sp_law_cell : Spc} {k_law_cell : Nat} (C_law_cell : Callee P w K mg base "_law_cell" k_law_cell 2 sp_law_cell) (h_law_cell : k_law_cell ≤ k) {sp_law_take : Spc} {k_law_take : Nat} (C_law_take : Callee P w K mg base "_law_take" k_law_take 2 sp_law_take) (h_law_take : k_law_take ≤ k) {sp_law_bids : Spc} {k_law_bids : Nat} (C_law_bids : Callee P w K mg base "_law_bids" k_law_bids 3 sp_law_bids) (h_law_bids : k_law_bids ≤ k) {sp_law_winners : Spc} {k_law_winners : Nat} (C_law_winners : Callee P w K mg base "_law_winners" k_law_winners 2 sp_law_winners) (h_law_winners : k_law_winners ≤ k) {sp_winners : Spc} {k_winners : Nat} (C_winners : Callee P w K mg base "winners" k_winners 2 sp_winners) (h_winners : k_winners ≤ k) {sp_law_same : Spc} {k_law_same : Nat} (C_law_same : Callee P w K mg base "_law_same" k_law_same 2 sp_law_same) (h_law_same : k_law_same ≤ k) {sp_law_price : Spc} {k_law_price : Nat} (C_law_price : Callee P w K mg base "_law_price" k_law_price 2 sp_law_price) (h_law_price : k_law_price ≤ k) {sp_price : Spc} {k_price : Nat} (C_price : Callee P w K mg base "price" k_price 2 sp_price) (h_price : k_price ≤ k) {sp_sum_paid : Spc} {k_sum_paid : Nat} (C_sum_paid : Callee P w K mg base "sum_paid" k_sum_paid 2 sp_sum_paid) (h_sum_paid : k_sum_paid ≤ k) {sp_law_with : Spc} {k_law_with : Nat} (C_law_with : Callee P w K mg base "_law_with" k_law_with 3 sp_law_with) (h_law_with : k_law_with ≤ k) {sp_with_floor : Spc} {k_with_floor : Nat} (C_with_floor : Callee P w K mg base "with_floor" k_with_floor 3 sp_with_floor) (h_with_floor : k_with_floor ≤ k) {sp_law_floor : Spc} {k_law_floor : Nat} (C_law_floor : Callee P w K mg base "_law_floor" k_law_floor 2 sp_law_floor) (h_law_floor : k_law_floor ≤ k) {sp_best_floor : Spc} {k_best_floor : Nat} (C_best_floor : Callee P w K mg base "best_floor" k_best_floor 2 sp_best_floor) (h_best_floor : k_best_floor ≤ k) {sp_law_gain : Spc} {k_law_gain : Nat} (C_law_gain : Callee P w K mg base "_law_gain" k_law_gain 4 sp_law_gain) (h_law_gain : k_law_gain ≤ k) {sp_gain : Spc} {k_gain : Nat} (C_gain : Callee P w K mg base "gain" k_gain 4 sp_gain) (h_gain : k_gain ≤ k) {sp_law_true_bid : Spc} {k_law_true_bid : Nat} (C_law_true_bid : Callee P w K mg base "_law_true_bid" k_law_true_bid 4 sp_law_true_bid) (h_law_true_bid : k_law_true_bid ≤ k) {sp_law_somewhere_more : Spc} {k_law_somewhere_more : Nat} (C_law_somewhere_more : Callee P w K mg base "_law_somewhere_more" k_law_somewhere_more 1 sp_law_somewhere_more) (h_law_somewhere_more : k_law_somewhere_more ≤ k) (body : Body 8 1 (w_law sp_law_draws sp_law_cell sp_law_take sp_law_bids sp_law_winners sp_winners sp_law_same sp_law_price sp_price sp_sum_paid sp_law_with sp_with_floor sp_law_floor sp_best_floor sp_law_gain sp_gain sp_law_true_bid sp_law_somewhere_more) sp) : L2.FnOk P w K mg base L2.CX0 (k + 1) f fd ["script"] (spOf K 1 sp) :=
  fn_body F sc_law rfl rfl (fun cdv A outer s H E hr => by
    unfold w_law
    exact (dss_cons (ds_set 1 sc_law.nd (d_calle C_law_draws hr h_law_draws (by rfl) (da_cons (d_var 0) (da_cons d_int da_nil))))
      (dss_cons (ds_set 2 sc_law.nd (d_callB b_abs (by rfl) m_abs (by decide +kernel) (da_cons (d_calle C_law_cell hr h_law_cell (by rfl) (da_cons (d_var 0) (da_cons (d_var 1) da_nil))) da_nil)))
      (dss_cons (ds_for rfl PassesOwn.never (di_r1 (by rfl) m_range d_int) (dg_name 3 sc_law.nd) (dss_cons (ds_set 4 sc_law.nd (d_calle C_law_bids hr h_law_bids (by rfl) (da_cons (d_var 1) (da_cons (d_var 2) (da_cons (d_calle C_law_take hr h_law_take (by rfl) (da_cons (d_var 1) (da_cons d_int da_nil))) da_nil)))))
      (dss_cons (ds_set 5 sc_law.nd (d_op o_add d_int (d_calle C_law_take hr h_law_take (by rfl) (da_cons (d_var 1) (da_cons d_int da_nil)))))
      (dss_cons (ds_if (PW.pt (dw_or (dt_not (dt_val (d_calle C_law_same hr h_law_same (by rfl) (da_cons (d_calle C_winners hr h_winners (by rfl) (da_cons (d_var 4) (da_cons (d_var 5) da_nil))) (da_cons (d_calle C_law_winners hr h_law_winners (by rfl) (da_cons (d_var 4) (da_cons (d_var 5) da_nil))) da_nil))))) (dw_or1 (dt_not (dt_val (d_calle C_law_same hr h_law_same (by rfl) (da_cons (d_calle C_price hr h_price (by rfl) (da_cons (d_var 4) (da_cons (d_var 5) da_nil))) (da_cons (d_calle C_law_price hr h_law_price (by rfl) (da_cons (d_var 4) (da_cons (d_var 5) da_nil))) da_nil)))))))) (dss_one (ds_ret d_bl)) dss_nil)
      (dss_cons (ds_if (dt_not (dt_val (d_calle C_law_same hr h_law_same (by rfl) (da_cons (d_calle C_sum_paid hr h_sum_paid (by rfl) (da_cons (d_var 4) (da_cons (d_var 5) da_nil))) (da_cons (d_op o_mul (d_callB b_len (by rfl) m_len (by decide +kernel) (da_cons (d_calle C_law_winners hr h_law_winners (by rfl) (da_cons (d_var 4) (da_cons (d_var 5) da_nil))) da_nil)) (d_calle C_law_price hr h_law_price (by rfl) (da_cons (d_var 4) (da_cons (d_var 5) da_nil)))) da_nil))))) (dss_one (ds_ret d_bl)) dss_nil)
      (dss_cons (ds_if (PW.pt (dw_or (dt_not (dt_val (d_calle C_law_same hr h_law_same (by rfl) (da_cons (d_calle C_price hr h_price (by rfl) (da_cons (d_var 4) (da_cons (d_op o_add (d_var 5) d_int) da_nil))) (da_cons (d_calle C_law_price hr h_law_price (by rfl) (da_cons (d_var 4) (da_cons (d_op o_add (d_var 5) d_int) da_nil))) da_nil))))) (dw_or1 (dt_cmp c_gt (d_calle C_law_price hr h_law_price (by rfl) (da_cons (d_var 4) (da_cons (d_op o_add (d_var 5) d_int) da_nil))) (d_calle C_law_price hr h_law_price (by rfl) (da_cons (d_var 4) (da_cons (d_var 5) da_nil))))))) (dss_one (ds_ret d_bl)) dss_nil)
      (dss_cons (ds_for rfl PassesOwn.never (di_it (d_op o_add (d_lst (da_cons d_int (da_cons (d_var 2) (da_cons (d_op o_add (d_callB (b_max rfl hr) (by rfl) m_max (by decide +kernel) (da_cons (d_op o_add (d_tup (da_cons d_int da_nil)) (d_var 4)) da_nil)) d_int) (da_cons (d_calle C_law_take hr h_law_take (by rfl) (da_cons (d_var 1) (da_cons d_int da_nil))) da_nil))))) (d_callT b_list (by rfl) m_list (by decide +kernel) (da_cons (d_sl s_cut (d_var 4) dp_no (dp_at d_int)) da_nil)))) (dg_name 6 sc_law.nd) (dss_one (ds_if (dt_not (dt_val (d_calle C_law_same hr h_law_same (by rfl) (da_cons (d_calle C_with_floor hr h_with_floor (by rfl) (da_cons (d_var 4) (da_cons (d_var 5) (da_cons (d_var 6) da_nil)))) (da_cons (d_calle C_law_with hr h_law_with (by rfl) (da_cons (d_var 4) (da_cons (d_var 5) (da_cons (d_var 6) da_nil)))) da_nil))))) (dss_one (ds_ret d_bl)) dss_nil)))
      (dss_cons (ds_if (dt_not (dt_val (d_calle C_law_same hr h_law_same (by rfl) (da_cons (d_calle C_best_floor hr h_best_floor (by rfl) (da_cons (d_var 4) (da_cons (d_var 5) da_nil))) (da_cons (d_calle C_law_floor hr h_law_floor (by rfl) (da_cons (d_var 4) (da_cons (d_var 5) da_nil))) da_nil))))) (dss_one (ds_ret d_bl)) dss_nil)
      (dss_one (ds_for rfl PassesOwn.never (di_r1 (by rfl) m_range (d_callB (b_min2 rfl) (by rfl) m_min (by decide +kernel) (da_cons (d_callB b_len (by rfl) m_len (by decide +kernel) (da_cons (d_var 4) da_nil)) (da_cons d_int da_nil)))) (dg_name 7 sc_law.nd) (dss_cons (ds_if (dt_not (dt_val (d_calle C_law_same hr h_law_same (by rfl) (da_cons (d_calle C_gain hr h_gain (by rfl) (da_cons (d_var 2) (da_cons (d_var 4) (da_cons (d_var 5) (da_cons (d_var 7) da_nil))))) (da_cons (d_calle C_law_gain hr h_law_gain (by rfl) (da_cons (d_var 2) (da_cons (d_var 4) (da_cons (d_var 5) (da_cons (d_var 7) da_nil))))) da_nil))))) (dss_one (ds_ret d_bl)) dss_nil)
      (dss_one (ds_if (dt_not (dt_val (d_calle C_law_true_bid hr h_law_true_bid (by rfl) (da_cons (d_var 1) (da_cons (d_var 4) (da_cons (d_var 5) (da_cons (d_var 7) da_nil))))))) (dss_one (ds_ret d_bl)) dss_nil)))))))))))))
      (dss_cons (ds_if (dt_not (dt_val (d_calle C_law_somewhere_more hr h_law_somewhere_more (by rfl) (da_cons (d_var 1) da_nil)))) (dss_one (ds_ret d_bl)) dss_nil)
      (dss_cons (ds_if (PW.pt (dw_or (dt_not (dt_val (d_calle C_law_same hr h_law_same (by rfl) (da_cons (d_calle C_winners hr h_winners (by rfl) (da_cons (d_tup (da_cons d_int (da_cons d_int (da_cons d_int da_nil)))) (da_cons d_int da_nil))) (da_cons (d_tup (da_cons d_int (da_cons d_int da_nil))) da_nil))))) (dw_or (dt_not (dt_val (d_calle C_law_same hr h_law_same (by rfl) (da_cons (d_calle C_price hr h_price (by rfl) (da_cons (d_tup (da_cons d_int (da_cons d_int (da_cons d_int da_nil)))) (da_cons d_int da_nil))) (da_cons d_int da_nil))))) (dw_or1 (dt_not (dt_val (d_calle C_law_same hr h_law_same (by rfl) (da_cons (d_calle C_gain hr h_gain (by rfl) (da_cons d_int (da_cons (d_tup (da_cons d_int (da_cons d_int (da_cons d_int da_nil)))) (da_cons d_int (da_cons d_int da_nil))))) (da_cons d_int da_nil))))))))) (dss_one (ds_ret d_bl)) dss_nil)
      (dss_cons (ds_if (PW.pt (dw_or (dt_not (dt_val (d_calle C_law_same hr h_law_same (by rfl) (da_cons (d_calle C_with_floor hr h_with_floor (by rfl) (da_cons (d_tup (da_cons d_int (da_cons d_int (da_cons d_int da_nil)))) (da_cons d_int (da_cons d_int da_nil)))) (da_cons (d_tup (da_cons (d_tup (da_cons d_int da_nil)) (da_cons d_int da_nil))) da_nil))))) (dw_or (dt_not (dt_val (d_calle C_law_same hr h_law_same (by rfl) (da_cons (d_calle C_best_floor hr h_best_floor (by rfl) (da_cons (d_tup (da_cons d_int (da_cons d_int (da_cons d_int da_nil)))) (da_cons d_int da_nil))) (da_cons d_int da_nil))))) (dw_or1 (dt_not (dt_val (d_calle C_law_same hr h_law_same (by rfl) (da_cons (d_calle C_sum_paid hr h_sum_paid (by rfl) (da_cons (d_tup (da_cons d_int da_nil)) (da_cons d_int da_nil))) (da_cons d_int da_nil))))))))) (dss_one (ds_ret d_bl)) dss_nil)
      (dss_one (ds_ret (d_and (d_calle C_law_same hr h_law_same (by rfl) (da_cons (d_calle C_with_floor hr h_with_floor (by rfl) (da_cons (d_tup da_nil) (da_cons d_int (da_cons d_int da_nil)))) (da_cons (d_tup (da_cons (d_tup da_nil) (da_cons d_int da_nil))) da_nil))) (d_one (d_calle C_law_same hr h_law_same (by rfl) (da_cons (d_calle C_winners hr h_winners (by rfl) (da_cons (d_var 4) (da_cons (d_var 5) da_nil))) (da_cons (d_calle C_law_winners hr h_law_winners (by rfl) (da_cons (d_var 4) (da_cons (d_var 5) da_nil))) da_nil)))))))))))))) body
end
end K97
set_option linter.all false
/-! K97A: bids in plain numbers -/
namespace K97
open DL
def bef (b : Nat → Int) (i j : Nat) : Bool := decide (b j < b i) || (decide (b i = b j) && decide (i < j))
theorem bef_iff {b : Nat → Int} {i j : Nat} : bef b i j = true ↔ b j < b i ∨ (b i = b j ∧ i < j) := by simp [bef]
theorem bef_no {b : Nat → Int} {i j : Nat} : bef b i j = false ↔ ¬ (b j < b i ∨ (b i = b j ∧ i < j)) := by rw [← bef_iff]; simp
def mx (l : List Int) : Int := l.foldr max 0
theorem mx_ge : ∀ (l : List Int) (y : Int), y ∈ l → y ≤ mx l
  | x :: l, y, h => by
    show y ≤ max x (mx l)
    rcases List.mem_cons.mp h with e | e
    · omega
    · have := mx_ge l y e; omega
theorem mx_0 : ∀ l : List Int, 0 ≤ mx l
  | [] => Int.le_refl 0
  | x :: l => by
    show 0 ≤ max x (mx l)
    have := mx_0 l; omega
theorem mx_mem : ∀ l : List Int, mx l = 0 ∨ mx l ∈ l
  | [] => Or.inl rfl
  | x :: l => by
    show max x (mx l) = 0 ∨ max x (mx l) ∈ x :: l
    rcases mx_mem l with e | e
    · have := Int.le_total x 0
      rcases this with h | h
      · left; omega
      · right; rw [show max x (mx l) = x by omega]; exact List.mem_cons_self
    · right
      rcases Int.le_total x (mx l) with h | h
      · rw [Int.max_eq_right h]; exact List.mem_cons_of_mem _ e
      · rw [Int.max_eq_left h]; exact List.mem_cons_self
theorem mx_eq {l : List Int} {m : Int} (h1 : m ∈ (0 : Int) :: l) (h2 : ∀ y, y ∈ (0 : Int) :: l → y ≤ m) : m = mx l := by
  have a : mx l ≤ m := by
    rcases mx_mem l with e | e
    · rw [e]; exact h2 0 List.mem_cons_self
    · exact h2 _ (List.mem_cons_of_mem _ e)
  have b : m ≤ mx l := by
    rcases List.mem_cons.mp h1 with e | e
    · rw [e]; exact mx_0 l
    · exact mx_ge l m e
  omega
theorem mx_le {l : List Int} {m : Int} (h0 : 0 ≤ m) (h : ∀ y, y ∈ l → y ≤ m) : mx l ≤ m := by
  rcases mx_mem l with e | e
  · omega
  · exact h _ e
def aheadF (n : Nat) (b : Nat → Int) (j : Nat) : Nat := (List.range n).countP fun i => bef b i j
def lossF (n : Nat) (b : Nat → Int) (t : Int) : List Int := ((List.range n).filter fun k => !decide ((aheadF n b k : Int) < t)).map b
def priceF (n : Nat) (b : Nat → Int) (t : Int) : Int := mx (lossF n b t)
theorem split_at (p : Nat → Bool) (k : Nat) : ∀ l : List Nat, l.Nodup → k ∈ l → l.countP p = l.countP (fun i => p i && decide (i ≠ k)) + if p k = true then 1 else 0
  | x :: l, hn, hm => by
    rw [List.nodup_cons] at hn
    rw [List.countP_cons, List.countP_cons]
    by_cases e : x = k
    · subst e
      have : l.countP p = l.countP fun i => p i && decide (i ≠ x) := by
        apply List.countP_congr
        intro i hi
        have : i ≠ x := fun e => hn.1 (e ▸ hi)
        simp [this]
      rw [this]
      simp
    · rw [split_at p k l hn.2 (by rcases List.mem_cons.mp hm with h | h; · exact absurd h.symm e
                                  · exact h)]
      simp [e]
      omega
def oth (n : Nat) (b : Nat → Int) (k j : Nat) : Nat := (List.range n).countP fun i => bef b i j && decide (i ≠ k)
theorem ahead_oth {n : Nat} (b : Nat → Int) {k : Nat} (j : Nat) (hk : k < n) : aheadF n b j = oth n b k j + if bef b k j = true then 1 else 0 := split_at (fun i => bef b i j) k _ List.nodup_range (List.mem_range.mpr hk)
theorem oth_congr {n : Nat} {b b' : Nat → Int} {k j : Nat} (h : ∀ i, i ≠ k → b i = b' i) (hj : j ≠ k) : oth n b k j = oth n b' k j := by
  apply List.countP_congr
  intro i _
  by_cases e : i = k
  · simp [e]
  · simp [e, bef, h i e, h j hj]
theorem ahead_lt {n : Nat} {b : Nat → Int} {i j : Nat} (hi : i < n) (h : bef b i j = true) : aheadF n b i + 1 ≤ aheadF n b j := by
  rw [ahead_oth b (k := i) j hi, if_pos h]
  have : aheadF n b i ≤ oth n b i j := by
    apply List.countP_mono_left
    intro x _ hx
    rw [bef_iff] at h hx
    rw [Bool.and_eq_true, bef_iff, decide_eq_true_eq]
    exact ⟨by omega, fun e => by subst e; omega⟩
  omega
theorem losers {n : Nat} {b : Nat → Int} {t : Int} {k j : Nat} (hk : k < n) (hj : j < n) (hw : (aheadF n b k : Int) < t) : (¬ (aheadF n b j : Int) < t) ↔ (j ≠ k ∧ t ≤ oth n b k j + 1) := by
  constructor
  · intro h
    have hjk : j ≠ k := fun e => h (e ▸ hw)
    refine ⟨hjk, ?_⟩
    have := ahead_oth b j hk
    split at this <;> omega
  · rintro ⟨hjk, h⟩ hc
    have e := ahead_oth b j hk
    by_cases hb : bef b k j = true
    · rw [if_pos hb] at e; omega
    · rw [if_neg hb] at e
      have hb' : bef b j k = true := by
        rw [bef_iff] at hb ⊢
        omega
      have := ahead_lt hj hb'
      omega
theorem price_same {n : Nat} {b b' : Nat → Int} {t : Int} {k : Nat} (h : ∀ i, i ≠ k → b i = b' i) (hk : k < n) (hw : (aheadF n b k : Int) < t) (hw' : (aheadF n b' k : Int) < t) : priceF n b t = priceF n b' t := by
  unfold priceF lossF
  have e : (List.range n).filter (fun k => !decide ((aheadF n b k : Int) < t)) = (List.range n).filter (fun k => !decide ((aheadF n b' k : Int) < t)) := by
    apply List.filter_congr
    intro j hj
    have h1 := losers hk (List.mem_range.mp hj) hw
    have h2 := losers hk (List.mem_range.mp hj) hw'
    by_cases hjk : j = k
    · subst hjk; simp [hw, hw']
    · rw [oth_congr h hjk] at h1
      have : (aheadF n b j : Int) < t ↔ (aheadF n b' j : Int) < t := by
        constructor
        · intro a; false_or_by_contra; rename_i c; exact h1.mpr (h2.mp c) a
        · intro a; false_or_by_contra; rename_i c; exact h2.mpr (h1.mp c) a
      simp [this]
  rw [e]
  congr 1
  apply List.map_congr_left
  intro j hj
  have hj2 := (List.mem_filter.mp hj).2
  refine h j fun e => ?_
  subst e
  simp [hw'] at hj2
theorem price_le {n : Nat} {b : Nat → Int} {t : Int} {k : Nat} (hk : k < n) (h0 : 0 ≤ b k) (hw : (aheadF n b k : Int) < t) : priceF n b t ≤ b k := by
  apply mx_le h0
  intro y hy
  obtain ⟨j, hj, rfl⟩ := List.mem_map.mp hy
  obtain ⟨h1, h2⟩ := List.mem_filter.mp hj
  have h2 : ¬ (aheadF n b j : Int) < t := by simpa using h2
  false_or_by_contra
  rename_i hc
  have := ahead_lt (n := n) (b := b) (i := j) (j := k) (List.mem_range.mp h1) (by rw [bef_iff]; omega)
  omega
theorem last_of (b : Nat → Int) : ∀ l : List Nat, l ≠ [] → ∃ j ∈ l, ∀ i ∈ l, i = j ∨ bef b i j = true
  | [x], _ => ⟨x, List.mem_cons_self, fun i hi => Or.inl (by simpa using hi)⟩
  | x :: y :: l, _ => by
    obtain ⟨j, hj, h⟩ := last_of b (y :: l) (by simp)
    by_cases hx : x = j ∨ bef b x j = true
    · refine ⟨j, List.mem_cons_of_mem _ hj, fun i hi => ?_⟩
      rcases List.mem_cons.mp hi with e | e
      · rw [e]; exact hx
      · exact h i e
    · refine ⟨x, List.mem_cons_self, fun i hi => ?_⟩
      rcases List.mem_cons.mp hi with e | e
      · exact Or.inl e
      · right
        have := h i e
        rw [bef_iff] at hx ⊢
        rcases this with e | this
        · subst e; omega
        · rw [bef_iff] at this
          omega
theorem price_ge {n : Nat} {b b' : Nat → Int} {t : Int} {k : Nat} (h : ∀ i, i ≠ k → b i = b' i) (hk : k < n) (ht : 1 ≤ t) (hw : ¬ (aheadF n b k : Int) < t) (hw' : (aheadF n b' k : Int) < t) : b k ≤ priceF n b' t := by
  have hlen : ((List.range n).filter fun i => bef b i k).length = aheadF n b k := by rw [aheadF, List.countP_eq_length_filter]
  obtain ⟨j, hj, hlast⟩ := last_of b ((List.range n).filter fun i => bef b i k) (by intro e; rw [e] at hlen; simp at hlen; omega)
  obtain ⟨hj1, hj2⟩ := List.mem_filter.mp hj
  have hjn := List.mem_range.mp hj1
  have hcnt : aheadF n b k ≤ aheadF n b j + 1 := by
    rw [ahead_oth b (k := j) k hjn, if_pos hj2]
    have : oth n b j k ≤ aheadF n b j := by
      apply List.countP_mono_left
      intro x hx hx2
      rw [Bool.and_eq_true, decide_eq_true_eq] at hx2
      rcases hlast x (List.mem_filter.mpr ⟨hx, hx2.1⟩) with e | e
      · exact absurd e hx2.2
      · exact e
    omega
  rw [bef_iff] at hj2
  have hjk : j ≠ k := fun e => by subst e; omega
  have ho : aheadF n b j = oth n b k j := by
    rw [ahead_oth b j hk, if_neg (by rw [bef_iff]; omega), Nat.add_zero]
  rw [oth_congr h hjk] at ho
  have hl : ¬ (aheadF n b' j : Int) < t := (losers hk hjn hw').mpr ⟨hjk, by omega⟩
  have : b' j ≤ priceF n b' t := mx_ge _ _ (List.mem_map.mpr ⟨j, List.mem_filter.mpr ⟨hj1, by simpa using hl⟩, rfl⟩)
  rw [← h j hjk] at this
  omega
theorem price_mono (n : Nat) (b : Nat → Int) (t : Int) : priceF n b (t + 1) ≤ priceF n b t := by
  apply mx_le (mx_0 _)
  intro y hy
  obtain ⟨j, hj, rfl⟩ := List.mem_map.mp hy
  obtain ⟨h1, h2⟩ := List.mem_filter.mp hj
  have h2 : ¬ (aheadF n b j : Int) < t + 1 := by simpa using h2
  exact mx_ge _ _ (List.mem_map.mpr ⟨j, List.mem_filter.mpr ⟨h1, by simp; omega⟩, rfl⟩)
/-! ### by lists -/
def bt (bs : List Int) (k : Nat) : Int := bs.getD k 0
def winL (bs : List Int) (t : Int) : List Nat := (List.range bs.length).filter fun k => decide ((aheadF bs.length (bt bs) k : Int) < t)
def priceL (bs : List Int) (t : Int) : Int := priceF bs.length (bt bs) t
def gainL (w : Int) (bs : List Int) (t : Int) (k : Nat) : Int := if k ∈ winL bs t then w - priceL bs t else 0
theorem mem_win {bs : List Int} {t : Int} {k : Nat} : k ∈ winL bs t ↔ k < bs.length ∧ (aheadF bs.length (bt bs) k : Int) < t := by simp [winL]
theorem bt_set {bs : List Int} {k : Nat} (x : Int) (hk : k < bs.length) : bt (bs.set k x) k = x := by simp [bt, hk]
theorem bt_set_ne {bs : List Int} {k i : Nat} (x : Int) (h : i ≠ k) : bt (bs.set k x) i = bt bs i := by
  simp only [bt, List.getD_eq_getElem?_getD]
  rw [List.getElem?_set_ne (Ne.symm h)]
theorem gain_true {bs : List Int} {t w o : Int} {k : Nat} (hk : k < bs.length) (ht : 1 ≤ t) (hw : 0 ≤ w) : gainL w (bs.set k o) t k ≤ gainL w (bs.set k w) t k ∧ 0 ≤ gainL w (bs.set k w) t k := by
  have h1 : ∀ x, (bs.set k x).length = bs.length := fun x => List.length_set
  have hag : ∀ i, i ≠ k → bt (bs.set k w) i = bt (bs.set k o) i := fun i hi => by rw [bt_set_ne _ hi, bt_set_ne _ hi]
  have hA : (aheadF bs.length (bt (bs.set k w)) k : Int) < t → priceF bs.length (bt (bs.set k w)) t ≤ w := fun h => by
    have := price_le hk (b := bt (bs.set k w)) (by rw [bt_set _ hk]; exact hw) h
    rw [bt_set _ hk] at this
    exact this
  unfold gainL priceL
  simp only [mem_win, h1, hk, true_and]
  by_cases c1 : (aheadF bs.length (bt (bs.set k w)) k : Int) < t
  · have a := hA c1
    rw [if_pos c1]
    refine ⟨?_, by omega⟩
    by_cases c2 : (aheadF bs.length (bt (bs.set k o)) k : Int) < t
    · rw [if_pos c2, price_same hag hk c1 c2]
      omega
    · rw [if_neg c2]; omega
  · rw [if_neg c1]
    refine ⟨?_, by omega⟩
    by_cases c2 : (aheadF bs.length (bt (bs.set k o)) k : Int) < t
    · have := price_ge hag hk ht c1 c2
      rw [bt_set _ hk] at this
      rw [if_pos c2]
      omega
    · rw [if_neg c2]; omega
/-! ### the sorted order -/
theorem ahead_pos {b : Nat → Int} : ∀ {l : List Nat}, l.Pairwise (fun i j => bef b i j = true) → ∀ (p : Nat) (h : p < l.length), l.countP (fun i => bef b i l[p]) = p
  | x :: l, hp, 0, _ => by
    rw [List.pairwise_cons] at hp
    show (x :: l).countP (fun i => bef b i x) = 0
    rw [List.countP_eq_zero]
    intro y hy
    rcases List.mem_cons.mp hy with e | e
    · subst e; rw [bef_iff]; omega
    · have := hp.1 y e
      rw [bef_iff] at this ⊢
      omega
  | x :: l, hp, p + 1, h => by
    rw [List.pairwise_cons] at hp
    have h' : p < l.length := by simpa using h
    show (x :: l).countP (fun i => bef b i l[p]) = p + 1
    rw [List.countP_cons, ahead_pos hp.2 p h', if_pos (hp.1 _ (List.getElem_mem _))]
structure Ord (bs : List Int) (ord : List Nat) : Prop where
  perm : ord.Perm (List.range bs.length)
  pw : ord.Pairwise fun i j => bef (bt bs) i j = true
theorem Ord.len {bs : List Int} {ord : List Nat} (h : Ord bs ord) : ord.length = bs.length := by rw [h.perm.length_eq, List.length_range]
theorem Ord.ahead {bs : List Int} {ord : List Nat} (h : Ord bs ord) (p : Nat) (hp : p < ord.length) : aheadF bs.length (bt bs) ord[p] = p := by
  have := ahead_pos h.pw p hp
  rw [h.perm.countP_eq] at this
  exact this
theorem Ord.lt {bs : List Int} {ord : List Nat} (h : Ord bs ord) {k : Nat} (hk : k ∈ ord) : k < bs.length := List.mem_range.mp (h.perm.mem_iff.mp hk)
theorem ascN_one : ∀ {a b : List Nat}, a.Pairwise (· < ·) → b.Pairwise (· < ·) → (∀ x, x ∈ a ↔ x ∈ b) → a = b
  | [], [], _, _, _ => rfl
  | [], y :: b, _, _, h => by have := (h y).mpr List.mem_cons_self; cases this
  | x :: a, [], _, _, h => by have := (h x).mp List.mem_cons_self; cases this
  | x :: a, y :: b, pa, pb, h => by
    rw [List.pairwise_cons] at pa pb
    have e : x = y := by
      rcases List.mem_cons.mp ((h x).mp List.mem_cons_self) with e | m1
      · exact e
      · rcases List.mem_cons.mp ((h y).mpr List.mem_cons_self) with e | m2
        · exact e.symm
        · have := pb.1 x m1
          have := pa.1 y m2
          omega
    subst e
    rw [ascN_one pa.2 pb.2 fun z => ⟨fun hz => ?_, fun hz => ?_⟩]
    · rcases List.mem_cons.mp ((h z).mp (List.mem_cons_of_mem _ hz)) with e | m
      · have := pa.1 z hz
        omega
      · exact m
    · rcases List.mem_cons.mp ((h z).mpr (List.mem_cons_of_mem _ hz)) with e | m
      · have := pb.1 z hz
        omega
      · exact m
theorem Ord.win {bs : List Int} {ord ws : List Nat} {t : Int} (h : Ord bs ord) (ht : 0 ≤ t) (hp : ws.Perm (ord.take t.toNat)) (ha : ws.Pairwise (· ≤ ·)) : ws = winL bs t := by
  have hn : ws.Nodup := hp.nodup_iff.mpr ((h.perm.nodup_iff.mpr List.nodup_range).sublist (List.take_sublist _ _))
  apply ascN_one
  · have := List.Pairwise.and ha hn
    exact this.imp fun ⟨h1, h2⟩ => by omega
  · exact List.Pairwise.filter _ List.pairwise_lt_range
  · intro k
    rw [hp.mem_iff, mem_win, List.mem_take_iff_getElem]
    constructor
    · rintro ⟨p, hp, rfl⟩
      rw [h.ahead p (by omega)]
      exact ⟨h.lt (List.getElem_mem _), by omega⟩
    · rintro ⟨h1, h2⟩
      obtain ⟨p, hp, rfl⟩ := List.getElem_of_mem (h.perm.mem_iff.mpr (List.mem_range.mpr h1))
      rw [h.ahead p hp] at h2
      exact ⟨p, by omega, rfl⟩
theorem Ord.price0 {bs : List Int} {ord : List Nat} {t : Int} (h : Ord bs ord) (ht : (ord.length : Int) ≤ t) : priceL bs t = 0 := by
  unfold priceL priceF lossF
  rw [List.filter_eq_nil_iff.mpr]
  · rfl
  · intro k hk
    obtain ⟨p, hp, rfl⟩ := List.getElem_of_mem (h.perm.mem_iff.mpr hk)
    rw [h.ahead p hp]
    simp
    omega
theorem Ord.price {bs : List Int} {ord : List Nat} {t : Nat} (h : Ord bs ord) (ht : t < ord.length) (h0 : ∀ x ∈ bs, 0 ≤ x) : priceL bs t = bt bs ord[t] := by
  symm
  apply mx_eq
  · refine List.mem_cons_of_mem _ (List.mem_map.mpr ⟨ord[t], List.mem_filter.mpr ⟨h.perm.mem_iff.mp (List.getElem_mem _), ?_⟩, rfl⟩)
    rw [h.ahead t ht]
    simp
  · intro y hy
    rcases List.mem_cons.mp hy with e | e
    · have hl := h.lt (List.getElem_mem ht)
      rw [e]
      simp only [bt, List.getD_eq_getElem?_getD, List.getElem?_eq_getElem hl]
      exact h0 _ (List.getElem_mem _)
    · obtain ⟨k, hk, rfl⟩ := List.mem_map.mp e
      obtain ⟨hk1, hk2⟩ := List.mem_filter.mp hk
      obtain ⟨p, hp, rfl⟩ := List.getElem_of_mem (h.perm.mem_iff.mpr hk1)
      rw [h.ahead p hp] at hk2
      have hk2 : t ≤ p := by simpa using hk2
      rcases Nat.lt_or_ge t p with hc | hc
      · have := List.pairwise_iff_getElem.mp h.pw t p ht hp hc
        rw [bef_iff] at this
        omega
      · have : p = t := by omega
        subst this
        exact Int.le_refl _
end K97
set_option linter.all false
set_option maxRecDepth 100000
set_option maxHeartbeats 4000000
namespace K97
open DL
@[reducible] def sp_take : Spc := fun ds S Q => ∃ n many, ds = [.ref n, .int many] ∧ 0 < many ∧ Dr n S ∧ ∀ r S', 0 ≤ r → r < many → Dr n S' → Ch n S S' → Q (.int r) S'
theorem body_law_take : Body 2 2 w_law_take sp_take := by
  rintro ds S Q _ ⟨n, many, rfl, hm, ⟨ns, hS⟩, k⟩
  unfold w_law_take
  (simp only [start, List.map_cons, List.map_nil, List.length_cons, List.length_nil, Nat.reduceAdd, Nat.reduceSub, List.replicate_succ, List.replicate_zero, List.cons_append, List.nil_append, Nat.sub_self, Nat.zero_add])
  ((with_reducible conv => whnf); repeat (first | (refine And.intro (okII _ _) ?_; rw [eqD_ii]; with_reducible conv => whnf) | (refine And.intro (by first | assumption | exact Exists.intro _ (by assumption) | exact ⟨rfl, rfl, by decide, by decide⟩ | exact Nat.le_of_ble_eq_true rfl | exact rfl) ?_; with_reducible conv => whnf) | (rw [isLst_at (by assumption)]; with_reducible conv => whnf) | (refine ifT rfl ?_; with_reducible conv => whnf) | (refine ifF rfl ?_; with_reducible conv => whnf) | (refine it_at (by assumption) ?_; with_reducible conv => whnf)))
  refine ite_d (fun hc => k 0 S (Int.le_refl _) hm ⟨ns, hS⟩ (Ch.refl _ _)) fun hc => ?_
  ((with_reducible conv => whnf); repeat (first | (refine And.intro (okII _ _) ?_; rw [eqD_ii]; with_reducible conv => whnf) | (refine And.intro (by first | assumption | exact Exists.intro _ (by assumption) | exact ⟨rfl, rfl, by decide, by decide⟩ | exact Nat.le_of_ble_eq_true rfl | exact rfl) ?_; with_reducible conv => whnf) | (rw [isLst_at (by assumption)]; with_reducible conv => whnf) | (refine ifT rfl ?_; with_reducible conv => whnf) | (refine ifF rfl ?_; with_reducible conv => whnf) | (refine it_at (by assumption) ?_; with_reducible conv => whnf)))
  have hl : 0 < ns.length := by
    rw [List.length_map] at hc
    omega
  refine ⟨.int ns[ns.length - 1], ?_, ?_⟩
  · rw [List.length_map]
    exact intD_at (List.getElem?_eq_getElem (by omega))
  · ((with_reducible conv => whnf); repeat (first | (refine And.intro (okII _ _) ?_; rw [eqD_ii]; with_reducible conv => whnf) | (refine And.intro (by first | assumption | exact Exists.intro _ (by assumption) | exact ⟨rfl, rfl, by decide, by decide⟩ | exact Nat.le_of_ble_eq_true rfl | exact rfl) ?_; with_reducible conv => whnf) | (rw [isLst_at (by assumption)]; with_reducible conv => whnf) | (refine ifT rfl ?_; with_reducible conv => whnf) | (refine ifF rfl ?_; with_reducible conv => whnf) | (refine it_at (by assumption) ?_; with_reducible conv => whnf)))
    obtain ⟨h0, h1⟩ := fmod_lt (a := ns[ns.length - 1]) hm
    refine ⟨by omega, k _ _ h0 h1 ⟨ns.dropLast, ?_⟩ (Ch.set _ _)⟩
    rw [at_set hS, ← List.map_dropLast]
@[reducible] def sp_draws : Spc := fun ds S Q => ∃ ns many, ds = [.rol (intD ns), .int many] ∧ ns.length ≤ 63 ∧ 0 ≤ many ∧ many ≤ 1000 ∧ ∀ n S', Dr n S' → Sub S S' → S.length ≤ n → Q (.ref n) S'
theorem body_law_draws : Body 9 2 w_law_draws sp_draws := by
  rintro ds S Q _ ⟨ns, many, rfl, hl, hm, hm2, k⟩
  unfold w_law_draws
  (simp only [start, List.map_cons, List.map_nil, List.length_cons, List.length_nil, Nat.reduceAdd, Nat.reduceSub, List.replicate_succ, List.replicate_zero, List.cons_append, List.nil_append, Nat.sub_self, Nat.zero_add])
  ((with_reducible conv => whnf); repeat (first | (refine And.intro (okII _ _) ?_; rw [eqD_ii]; with_reducible conv => whnf) | (refine And.intro (by first | assumption | exact Exists.intro _ (by assumption) | exact ⟨rfl, rfl, by decide, by decide⟩ | exact Nat.le_of_ble_eq_true rfl | exact rfl) ?_; with_reducible conv => whnf) | (rw [isLst_at (by assumption)]; with_reducible conv => whnf) | (refine ifT rfl ?_; with_reducible conv => whnf) | (refine ifF rfl ?_; with_reducible conv => whnf) | (refine it_at (by assumption) ?_; with_reducible conv => whnf)))
  refine Lc_fun (fun d => some d) ?_ (fun _ _ => trivial) (fun i d S' R hi hs hR => ?_) fun S1 hs1 => ?_
  · rw [List.length_map]; unfold szL; omega
  · obtain ⟨x, _, rfl⟩ := intD_get hi
    ((with_reducible conv => whnf); repeat (first | (refine And.intro (okII _ _) ?_; rw [eqD_ii]; with_reducible conv => whnf) | (refine And.intro (by first | assumption | exact Exists.intro _ (by assumption) | exact ⟨rfl, rfl, by decide, by decide⟩ | exact Nat.le_of_ble_eq_true rfl | exact rfl) ?_; with_reducible conv => whnf) | (rw [isLst_at (by assumption)]; with_reducible conv => whnf) | (refine ifT rfl ?_; with_reducible conv => whnf) | (refine ifF rfl ?_; with_reducible conv => whnf) | (refine it_at (by assumption) ?_; with_reducible conv => whnf)))
    exact hR _ (Sub.refl _)
  rw [List.filterMap_some]
  have h2 := at_push S1 (.lst (intD ns))
  have hS1 := hs1.app [.lst (intD ns)]
  have hln : S.length ≤ S1.length := by
    false_or_by_contra
    rename_i hc
    cases S with
    | nil => simp at hc
    | cons o r =>
      have := at_lt (hs1 ((o :: r).length - 1) _ (List.getElem?_eq_getElem (by simp)))
      simp at this hc
      omega
  generalize hm0 : S1.length = m0 at *
  generalize S1 ++ [.lst (intD ns)] = S2 at *
  -- from here: cells cs at m0
  have main : ∀ (cs : List Int) S3, 0 < cs.length → cs.length ≤ 63 → S3[m0]? = some (.lst (intD cs)) → Sub S S3 → sSeq (sAsg (wB rList (wCons (wVar 2) wNil)) (gN 4))
    (sSeq (sAsg (wLst wNil) (gN 5))
    (sSeq (sFor (wR1 (wVar 1)) (gN 6) (sSeq (sAsg (wOp rMod (wVar 6) (wB rLen (wCons (wVar 2) wNil))) (gN 7))
    (sIf (wtAnd (wtVal (wOp rGe (wOp rIx (wVar 2) (wVar 7)) (wOp rPow (wC (.int 10)) (wC (.int 18))))) (wtVal (wOp rGt (wOp rIx (wVar 4) (wVar 7)) (wC (.int 0))))) (sSeq (sDrop (wM rAppend (wVar 5) (wCons (wOp rMod (wB rInt (wCons (wOp rIx (wVar 4) (wVar 7)) wNil)) (wC (.int 1000))) wNil)))
    (sSub rPut (wOp rDiv (wOp rIx (wVar 4) (wVar 7)) (wC (.int 1000))) (wVar 4) (wVar 7))) (sSeq (sAsg (wOp rMod (wB rInt (wCons (wOp rAdd (wOp rAdd (wOp rMul (wOp rIx (wVar 2) (wVar 7)) (wC (.int 48271))) (wOp rMul (wVar 6) (wC (.int 69621)))) (wC (.int 11))) wNil)) (wC (.int 2147483647))) (gN 8))
    (sDrop (wM rAppend (wVar 5) (wCons (wOp rMod (wB rInt (wCons (wOp rAdd (wOp rAdd (wOp rMul (wVar 8) (wVar 8)) (wOp rMul (wC (.int 3)) (wVar 8))) (wVar 6)) wNil)) (wC (.int 1000003))) wNil)))))))
    (sSeq (sDrop (wM0 rReverse (wVar 5)))
    (sRet (wVar 5))))) { nx := fun x S' => Q D.non S', rt := Q, bk := fun x x_1 => False, ct := fun x x_1 => False } [some (.rol (intD ns)), some (.int many), some (.ref m0), none, none, none, none, none, none] S3 := by
    intro cs S3 hc0 hc1 e3 s3
    ((with_reducible conv => whnf); repeat (first | (refine And.intro (okII _ _) ?_; rw [eqD_ii]; with_reducible conv => whnf) | (refine And.intro (by first | assumption | exact Exists.intro _ (by assumption) | exact ⟨rfl, rfl, by decide, by decide⟩ | exact Nat.le_of_ble_eq_true rfl | exact rfl) ?_; with_reducible conv => whnf) | (rw [isLst_at (by assumption)]; with_reducible conv => whnf) | (refine ifT rfl ?_; with_reducible conv => whnf) | (refine ifF rfl ?_; with_reducible conv => whnf) | (refine it_at (by assumption) ?_; with_reducible conv => whnf)))
    refine ⟨⟨by omega, by omega⟩, ?_⟩
    have e4 := push_at e3 [.lst (intD cs)]
    have e5 := at_push S3 (.lst (intD cs))
    have s4 := s3.app [.lst (intD cs)]
    have l3 := at_lt e3
    generalize hm4 : S3.length = m4 at *
    have hm5 : (S3 ++ [O.lst (intD cs)]).length = m4 + 1 := by simp [hm4]
    generalize S3 ++ [.lst (intD cs)] = S4 at *
    have e6 := push_at e4 [.lst []]
    have e7 := push_at e5 [.lst []]
    have e8 := at_push S4 (.lst [])
    have s5 := s4.app [.lst []]
    rw [hm5] at e8 ⊢
    generalize S4 ++ [.lst []] = S5 at *
    refine Loop_mk (fun i ρ S' => ∃ o6 o7 o8 rs ws, ρ = [some (.rol (intD ns)), some (.int many), some (.ref m0), none, some (.ref m4), some (.ref (m4 + 1)), o6, o7, o8] ∧ S'[m0]? = some (.lst (intD cs)) ∧ S'[m4]? = some (.lst (intD rs)) ∧ rs.length = cs.length ∧ S'[m4 + 1]? = some (.lst (intD ws)) ∧ ws.length = i ∧ Sub S S') ?_ ?_ ?_ ?_
    · exact ⟨none, none, none, cs, [], rfl, e6, e7, rfl, e8, rfl, s5⟩
    · intros; trivial
    · rintro i d ρ' S' hi ⟨o6, o7, o8, rs, ws, rfl, f0, f1, f2, f3, f4, f5⟩
      obtain ⟨hi1, rfl⟩ := rangeD_get hi
      ((with_reducible conv => whnf); repeat (first | (refine And.intro (okII _ _) ?_; rw [eqD_ii]; with_reducible conv => whnf) | (refine And.intro (by first | assumption | exact Exists.intro _ (by assumption) | exact ⟨rfl, rfl, by decide, by decide⟩ | exact Nat.le_of_ble_eq_true rfl | exact rfl) ?_; with_reducible conv => whnf) | (rw [isLst_at (by assumption)]; with_reducible conv => whnf) | (refine ifT rfl ?_; with_reducible conv => whnf) | (refine ifF rfl ?_; with_reducible conv => whnf) | (refine it_at (by assumption) ?_; with_reducible conv => whnf)))
      have hz : ((intD cs).length : Int) ≠ 0 := by rw [List.length_map]; omega
      have hz0 : (0 : Int) < ((intD cs).length : Int) := by rw [List.length_map]; omega
      obtain ⟨g0, g1⟩ := fmod_lt (a := 0 + (i : Int)) hz0
      refine ⟨hz, ?_⟩
      generalize hat : (0 + (i : Int)).fmod ((intD cs).length : Int) = at' at *
      rw [List.length_map] at g1
      ((with_reducible conv => whnf); repeat (first | (refine And.intro (okII _ _) ?_; rw [eqD_ii]; with_reducible conv => whnf) | (refine And.intro (by first | assumption | exact Exists.intro _ (by assumption) | exact ⟨rfl, rfl, by decide, by decide⟩ | exact Nat.le_of_ble_eq_true rfl | exact rfl) ?_; with_reducible conv => whnf) | (rw [isLst_at (by assumption)]; with_reducible conv => whnf) | (refine ifT rfl ?_; with_reducible conv => whnf) | (refine ifF rfl ?_; with_reducible conv => whnf) | (refine it_at (by assumption) ?_; with_reducible conv => whnf)))
      refine ⟨_, atZ_intD g0 g1, ?_⟩
      ((with_reducible conv => whnf); repeat (first | (refine And.intro (okII _ _) ?_; rw [eqD_ii]; with_reducible conv => whnf) | (refine And.intro (by first | assumption | exact Exists.intro _ (by assumption) | exact ⟨rfl, rfl, by decide, by decide⟩ | exact Nat.le_of_ble_eq_true rfl | exact rfl) ?_; with_reducible conv => whnf) | (rw [isLst_at (by assumption)]; with_reducible conv => whnf) | (refine ifT rfl ?_; with_reducible conv => whnf) | (refine ifF rfl ?_; with_reducible conv => whnf) | (refine it_at (by assumption) ?_; with_reducible conv => whnf)))
      refine ⟨⟨by omega, by omega, by decide⟩, ?_⟩
      ((with_reducible conv => whnf); repeat (first | (refine And.intro (okII _ _) ?_; rw [eqD_ii]; with_reducible conv => whnf) | (refine And.intro (by first | assumption | exact Exists.intro _ (by assumption) | exact ⟨rfl, rfl, by decide, by decide⟩ | exact Nat.le_of_ble_eq_true rfl | exact rfl) ?_; with_reducible conv => whnf) | (rw [isLst_at (by assumption)]; with_reducible conv => whnf) | (refine ifT rfl ?_; with_reducible conv => whnf) | (refine ifF rfl ?_; with_reducible conv => whnf) | (refine it_at (by assumption) ?_; with_reducible conv => whnf)))
      have push : ∀ (c : Int) o7 o8 rs, S'[m4]? = some (.lst (intD rs)) → rs.length = cs.length → ∀ S6, S6 = S'.set (m4 + 1) (.lst (intD (ws ++ [c]))) → ∃ o6' o7' o8' rs' ws', [some (D.rol (intD ns)), some (D.int many), some (D.ref m0), none, some (D.ref m4), some (D.ref (m4 + 1)), some (.int (0 + i)), o7, o8] =
          [some (D.rol (intD ns)), some (D.int many), some (D.ref m0), none, some (D.ref m4), some (D.ref (m4 + 1)), o6', o7', o8'] ∧ S6[m0]? = some (.lst (intD cs)) ∧ S6[m4]? = some (.lst (intD rs')) ∧ rs'.length = cs.length ∧ S6[m4 + 1]? = some (.lst (intD ws')) ∧ ws'.length = i + 1 ∧ Sub S S6 := by
        rintro c o7 o8 rs q1 q2 S6 rfl
        refine ⟨_, _, _, rs, ws ++ [c], rfl, ?_, ?_, q2, ?_, by simp [f4], f5.put (by omega)⟩
        · rw [at_set_ne (by omega), f0]
        · rw [at_set_ne (by omega), q1]
        · rw [at_set f3]
      have hw : (intD ws).length < szL := by rw [List.length_map]; unfold szL; omega
      have hw2 : ∀ c : Int, intD ws ++ [D.int c] = intD (ws ++ [c]) := fun c => by simp [intD]
      refine ite_i (fun hc => ?_) fun hc => ?_
      · ((with_reducible conv => whnf); repeat (first | (refine And.intro (okII _ _) ?_; rw [eqD_ii]; with_reducible conv => whnf) | (refine And.intro (by first | assumption | exact Exists.intro _ (by assumption) | exact ⟨rfl, rfl, by decide, by decide⟩ | exact Nat.le_of_ble_eq_true rfl | exact rfl) ?_; with_reducible conv => whnf) | (rw [isLst_at (by assumption)]; with_reducible conv => whnf) | (refine ifT rfl ?_; with_reducible conv => whnf) | (refine ifF rfl ?_; with_reducible conv => whnf) | (refine it_at (by assumption) ?_; with_reducible conv => whnf)))
        refine ⟨_, atZ_intD g0 (by rw [f2]; exact g1), ?_⟩
        ((with_reducible conv => whnf); repeat (first | (refine And.intro (okII _ _) ?_; rw [eqD_ii]; with_reducible conv => whnf) | (refine And.intro (by first | assumption | exact Exists.intro _ (by assumption) | exact ⟨rfl, rfl, by decide, by decide⟩ | exact Nat.le_of_ble_eq_true rfl | exact rfl) ?_; with_reducible conv => whnf) | (rw [isLst_at (by assumption)]; with_reducible conv => whnf) | (refine ifT rfl ?_; with_reducible conv => whnf) | (refine ifF rfl ?_; with_reducible conv => whnf) | (refine it_at (by assumption) ?_; with_reducible conv => whnf)))
        refine ite_d (fun hc2 => ?_) fun hc2 => ?_
        · ((with_reducible conv => whnf); repeat (first | (refine And.intro (okII _ _) ?_; rw [eqD_ii]; with_reducible conv => whnf) | (refine And.intro (by first | assumption | exact Exists.intro _ (by assumption) | exact ⟨rfl, rfl, by decide, by decide⟩ | exact Nat.le_of_ble_eq_true rfl | exact rfl) ?_; with_reducible conv => whnf) | (rw [isLst_at (by assumption)]; with_reducible conv => whnf) | (refine ifT rfl ?_; with_reducible conv => whnf) | (refine ifF rfl ?_; with_reducible conv => whnf) | (refine it_at (by assumption) ?_; with_reducible conv => whnf)))
          refine ⟨_, atZ_intD g0 (by rw [f2]; exact g1), ?_⟩
          ((with_reducible conv => whnf); repeat (first | (refine And.intro (okII _ _) ?_; rw [eqD_ii]; with_reducible conv => whnf) | (refine And.intro (by first | assumption | exact Exists.intro _ (by assumption) | exact ⟨rfl, rfl, by decide, by decide⟩ | exact Nat.le_of_ble_eq_true rfl | exact rfl) ?_; with_reducible conv => whnf) | (rw [isLst_at (by assumption)]; with_reducible conv => whnf) | (refine ifT rfl ?_; with_reducible conv => whnf) | (refine ifF rfl ?_; with_reducible conv => whnf) | (refine it_at (by assumption) ?_; with_reducible conv => whnf)))
          refine ⟨by decide, ?_⟩
          ((with_reducible conv => whnf); repeat (first | (refine And.intro (okII _ _) ?_; rw [eqD_ii]; with_reducible conv => whnf) | (refine And.intro (by first | assumption | exact Exists.intro _ (by assumption) | exact ⟨rfl, rfl, by decide, by decide⟩ | exact Nat.le_of_ble_eq_true rfl | exact rfl) ?_; with_reducible conv => whnf) | (rw [isLst_at (by assumption)]; with_reducible conv => whnf) | (refine ifT rfl ?_; with_reducible conv => whnf) | (refine ifF rfl ?_; with_reducible conv => whnf) | (refine it_at (by assumption) ?_; with_reducible conv => whnf)))
          rw [hw2]
          have q4 : (S'.set (m4 + 1) (.lst (intD (ws ++ [(rs.getD at'.toNat 0).fmod 1000]))))[m4]? = some (.lst (intD rs)) := by rw [at_set_ne (by omega), f1]
          ((with_reducible conv => whnf); repeat (first | (refine And.intro (okII _ _) ?_; rw [eqD_ii]; with_reducible conv => whnf) | (refine And.intro (by first | assumption | exact Exists.intro _ (by assumption) | exact ⟨rfl, rfl, by decide, by decide⟩ | exact Nat.le_of_ble_eq_true rfl | exact rfl) ?_; with_reducible conv => whnf) | (rw [isLst_at (by assumption)]; with_reducible conv => whnf) | (refine ifT rfl ?_; with_reducible conv => whnf) | (refine ifF rfl ?_; with_reducible conv => whnf) | (refine it_at (by assumption) ?_; with_reducible conv => whnf)))
          refine ⟨_, atZ_intD g0 (by rw [f2]; exact g1), ?_⟩
          ((with_reducible conv => whnf); repeat (first | (refine And.intro (okII _ _) ?_; rw [eqD_ii]; with_reducible conv => whnf) | (refine And.intro (by first | assumption | exact Exists.intro _ (by assumption) | exact ⟨rfl, rfl, by decide, by decide⟩ | exact Nat.le_of_ble_eq_true rfl | exact rfl) ?_; with_reducible conv => whnf) | (rw [isLst_at (by assumption)]; with_reducible conv => whnf) | (refine ifT rfl ?_; with_reducible conv => whnf) | (refine ifF rfl ?_; with_reducible conv => whnf) | (refine it_at (by assumption) ?_; with_reducible conv => whnf)))
          refine ⟨⟨by decide, by decide⟩, ?_⟩
          ((with_reducible conv => whnf); repeat (first | (refine And.intro (okII _ _) ?_; rw [eqD_ii]; with_reducible conv => whnf) | (refine And.intro (by first | assumption | exact Exists.intro _ (by assumption) | exact ⟨rfl, rfl, by decide, by decide⟩ | exact Nat.le_of_ble_eq_true rfl | exact rfl) ?_; with_reducible conv => whnf) | (rw [isLst_at (by assumption)]; with_reducible conv => whnf) | (refine ifT rfl ?_; with_reducible conv => whnf) | (refine ifF rfl ?_; with_reducible conv => whnf) | (refine it_at (by assumption) ?_; with_reducible conv => whnf)))
          refine ⟨_, ixZ_ok g0 (by rw [List.length_map, f2]; exact g1), ?_⟩
          ((with_reducible conv => whnf); repeat (first | (refine And.intro (okII _ _) ?_; rw [eqD_ii]; with_reducible conv => whnf) | (refine And.intro (by first | assumption | exact Exists.intro _ (by assumption) | exact ⟨rfl, rfl, by decide, by decide⟩ | exact Nat.le_of_ble_eq_true rfl | exact rfl) ?_; with_reducible conv => whnf) | (rw [isLst_at (by assumption)]; with_reducible conv => whnf) | (refine ifT rfl ?_; with_reducible conv => whnf) | (refine ifF rfl ?_; with_reducible conv => whnf) | (refine it_at (by assumption) ?_; with_reducible conv => whnf)))
          rw [intD_set]
          obtain ⟨a1, a2, a3, a4, a5, a6, a7, a8, a9, a10, a11, a12⟩ := push ((rs.getD at'.toNat 0).fmod 1000) (some (.int at')) o8 rs f1 f2 _ rfl
          refine ⟨_, _, _, rs.set at'.toNat _, a5, rfl, ?_, at_set a8, by rw [List.length_set, f2], ?_, a11, a12.put (by omega)⟩
          · rw [at_set_ne (by omega), a7]
          · rw [at_set_ne (by omega), a10]
        · ((with_reducible conv => whnf); repeat (first | (refine And.intro (okII _ _) ?_; rw [eqD_ii]; with_reducible conv => whnf) | (refine And.intro (by first | assumption | exact Exists.intro _ (by assumption) | exact ⟨rfl, rfl, by decide, by decide⟩ | exact Nat.le_of_ble_eq_true rfl | exact rfl) ?_; with_reducible conv => whnf) | (rw [isLst_at (by assumption)]; with_reducible conv => whnf) | (refine ifT rfl ?_; with_reducible conv => whnf) | (refine ifF rfl ?_; with_reducible conv => whnf) | (refine it_at (by assumption) ?_; with_reducible conv => whnf)))
          refine ⟨_, atZ_intD g0 g1, ?_⟩
          ((with_reducible conv => whnf); repeat (first | (refine And.intro (okII _ _) ?_; rw [eqD_ii]; with_reducible conv => whnf) | (refine And.intro (by first | assumption | exact Exists.intro _ (by assumption) | exact ⟨rfl, rfl, by decide, by decide⟩ | exact Nat.le_of_ble_eq_true rfl | exact rfl) ?_; with_reducible conv => whnf) | (rw [isLst_at (by assumption)]; with_reducible conv => whnf) | (refine ifT rfl ?_; with_reducible conv => whnf) | (refine ifF rfl ?_; with_reducible conv => whnf) | (refine it_at (by assumption) ?_; with_reducible conv => whnf)))
          refine ⟨smallMul (by decide), ?_⟩
          ((with_reducible conv => whnf); repeat (first | (refine And.intro (okII _ _) ?_; rw [eqD_ii]; with_reducible conv => whnf) | (refine And.intro (by first | assumption | exact Exists.intro _ (by assumption) | exact ⟨rfl, rfl, by decide, by decide⟩ | exact Nat.le_of_ble_eq_true rfl | exact rfl) ?_; with_reducible conv => whnf) | (rw [isLst_at (by assumption)]; with_reducible conv => whnf) | (refine ifT rfl ?_; with_reducible conv => whnf) | (refine ifF rfl ?_; with_reducible conv => whnf) | (refine it_at (by assumption) ?_; with_reducible conv => whnf)))
          refine ⟨smallMul (by decide), ?_⟩
          ((with_reducible conv => whnf); repeat (first | (refine And.intro (okII _ _) ?_; rw [eqD_ii]; with_reducible conv => whnf) | (refine And.intro (by first | assumption | exact Exists.intro _ (by assumption) | exact ⟨rfl, rfl, by decide, by decide⟩ | exact Nat.le_of_ble_eq_true rfl | exact rfl) ?_; with_reducible conv => whnf) | (rw [isLst_at (by assumption)]; with_reducible conv => whnf) | (refine ifT rfl ?_; with_reducible conv => whnf) | (refine ifF rfl ?_; with_reducible conv => whnf) | (refine it_at (by assumption) ?_; with_reducible conv => whnf)))
          refine ⟨by decide, ?_⟩
          ((with_reducible conv => whnf); repeat (first | (refine And.intro (okII _ _) ?_; rw [eqD_ii]; with_reducible conv => whnf) | (refine And.intro (by first | assumption | exact Exists.intro _ (by assumption) | exact ⟨rfl, rfl, by decide, by decide⟩ | exact Nat.le_of_ble_eq_true rfl | exact rfl) ?_; with_reducible conv => whnf) | (rw [isLst_at (by assumption)]; with_reducible conv => whnf) | (refine ifT rfl ?_; with_reducible conv => whnf) | (refine ifF rfl ?_; with_reducible conv => whnf) | (refine it_at (by assumption) ?_; with_reducible conv => whnf)))
          obtain ⟨h0, h1⟩ := fmod_lt (a := (cs.getD at'.toNat 0) * 48271 + (0 + (i : Int)) * 69621 + 11) (b := 2147483647) (by decide)
          refine ⟨smallMul (by omega), ?_⟩
          ((with_reducible conv => whnf); repeat (first | (refine And.intro (okII _ _) ?_; rw [eqD_ii]; with_reducible conv => whnf) | (refine And.intro (by first | assumption | exact Exists.intro _ (by assumption) | exact ⟨rfl, rfl, by decide, by decide⟩ | exact Nat.le_of_ble_eq_true rfl | exact rfl) ?_; with_reducible conv => whnf) | (rw [isLst_at (by assumption)]; with_reducible conv => whnf) | (refine ifT rfl ?_; with_reducible conv => whnf) | (refine ifF rfl ?_; with_reducible conv => whnf) | (refine it_at (by assumption) ?_; with_reducible conv => whnf)))
          refine ⟨smallMul' (by decide), ?_⟩
          ((with_reducible conv => whnf); repeat (first | (refine And.intro (okII _ _) ?_; rw [eqD_ii]; with_reducible conv => whnf) | (refine And.intro (by first | assumption | exact Exists.intro _ (by assumption) | exact ⟨rfl, rfl, by decide, by decide⟩ | exact Nat.le_of_ble_eq_true rfl | exact rfl) ?_; with_reducible conv => whnf) | (rw [isLst_at (by assumption)]; with_reducible conv => whnf) | (refine ifT rfl ?_; with_reducible conv => whnf) | (refine ifF rfl ?_; with_reducible conv => whnf) | (refine it_at (by assumption) ?_; with_reducible conv => whnf)))
          refine ⟨by decide, ?_⟩
          ((with_reducible conv => whnf); repeat (first | (refine And.intro (okII _ _) ?_; rw [eqD_ii]; with_reducible conv => whnf) | (refine And.intro (by first | assumption | exact Exists.intro _ (by assumption) | exact ⟨rfl, rfl, by decide, by decide⟩ | exact Nat.le_of_ble_eq_true rfl | exact rfl) ?_; with_reducible conv => whnf) | (rw [isLst_at (by assumption)]; with_reducible conv => whnf) | (refine ifT rfl ?_; with_reducible conv => whnf) | (refine ifF rfl ?_; with_reducible conv => whnf) | (refine it_at (by assumption) ?_; with_reducible conv => whnf)))
          rw [hw2]
          exact push _ _ _ rs f1 f2 _ rfl
      · ((with_reducible conv => whnf); repeat (first | (refine And.intro (okII _ _) ?_; rw [eqD_ii]; with_reducible conv => whnf) | (refine And.intro (by first | assumption | exact Exists.intro _ (by assumption) | exact ⟨rfl, rfl, by decide, by decide⟩ | exact Nat.le_of_ble_eq_true rfl | exact rfl) ?_; with_reducible conv => whnf) | (rw [isLst_at (by assumption)]; with_reducible conv => whnf) | (refine ifT rfl ?_; with_reducible conv => whnf) | (refine ifF rfl ?_; with_reducible conv => whnf) | (refine it_at (by assumption) ?_; with_reducible conv => whnf)))
        refine ⟨_, atZ_intD g0 g1, ?_⟩
        ((with_reducible conv => whnf); repeat (first | (refine And.intro (okII _ _) ?_; rw [eqD_ii]; with_reducible conv => whnf) | (refine And.intro (by first | assumption | exact Exists.intro _ (by assumption) | exact ⟨rfl, rfl, by decide, by decide⟩ | exact Nat.le_of_ble_eq_true rfl | exact rfl) ?_; with_reducible conv => whnf) | (rw [isLst_at (by assumption)]; with_reducible conv => whnf) | (refine ifT rfl ?_; with_reducible conv => whnf) | (refine ifF rfl ?_; with_reducible conv => whnf) | (refine it_at (by assumption) ?_; with_reducible conv => whnf)))
        refine ⟨smallMul (by decide), ?_⟩
        ((with_reducible conv => whnf); repeat (first | (refine And.intro (okII _ _) ?_; rw [eqD_ii]; with_reducible conv => whnf) | (refine And.intro (by first | assumption | exact Exists.intro _ (by assumption) | exact ⟨rfl, rfl, by decide, by decide⟩ | exact Nat.le_of_ble_eq_true rfl | exact rfl) ?_; with_reducible conv => whnf) | (rw [isLst_at (by assumption)]; with_reducible conv => whnf) | (refine ifT rfl ?_; with_reducible conv => whnf) | (refine ifF rfl ?_; with_reducible conv => whnf) | (refine it_at (by assumption) ?_; with_reducible conv => whnf)))
        refine ⟨smallMul (by decide), ?_⟩
        ((with_reducible conv => whnf); repeat (first | (refine And.intro (okII _ _) ?_; rw [eqD_ii]; with_reducible conv => whnf) | (refine And.intro (by first | assumption | exact Exists.intro _ (by assumption) | exact ⟨rfl, rfl, by decide, by decide⟩ | exact Nat.le_of_ble_eq_true rfl | exact rfl) ?_; with_reducible conv => whnf) | (rw [isLst_at (by assumption)]; with_reducible conv => whnf) | (refine ifT rfl ?_; with_reducible conv => whnf) | (refine ifF rfl ?_; with_reducible conv => whnf) | (refine it_at (by assumption) ?_; with_reducible conv => whnf)))
        refine ⟨by decide, ?_⟩
        ((with_reducible conv => whnf); repeat (first | (refine And.intro (okII _ _) ?_; rw [eqD_ii]; with_reducible conv => whnf) | (refine And.intro (by first | assumption | exact Exists.intro _ (by assumption) | exact ⟨rfl, rfl, by decide, by decide⟩ | exact Nat.le_of_ble_eq_true rfl | exact rfl) ?_; with_reducible conv => whnf) | (rw [isLst_at (by assumption)]; with_reducible conv => whnf) | (refine ifT rfl ?_; with_reducible conv => whnf) | (refine ifF rfl ?_; with_reducible conv => whnf) | (refine it_at (by assumption) ?_; with_reducible conv => whnf)))
        obtain ⟨h0, h1⟩ := fmod_lt (a := (cs.getD at'.toNat 0) * 48271 + (0 + (i : Int)) * 69621 + 11) (b := 2147483647) (by decide)
        refine ⟨smallMul (by omega), ?_⟩
        ((with_reducible conv => whnf); repeat (first | (refine And.intro (okII _ _) ?_; rw [eqD_ii]; with_reducible conv => whnf) | (refine And.intro (by first | assumption | exact Exists.intro _ (by assumption) | exact ⟨rfl, rfl, by decide, by decide⟩ | exact Nat.le_of_ble_eq_true rfl | exact rfl) ?_; with_reducible conv => whnf) | (rw [isLst_at (by assumption)]; with_reducible conv => whnf) | (refine ifT rfl ?_; with_reducible conv => whnf) | (refine ifF rfl ?_; with_reducible conv => whnf) | (refine it_at (by assumption) ?_; with_reducible conv => whnf)))
        refine ⟨smallMul' (by decide), ?_⟩
        ((with_reducible conv => whnf); repeat (first | (refine And.intro (okII _ _) ?_; rw [eqD_ii]; with_reducible conv => whnf) | (refine And.intro (by first | assumption | exact Exists.intro _ (by assumption) | exact ⟨rfl, rfl, by decide, by decide⟩ | exact Nat.le_of_ble_eq_true rfl | exact rfl) ?_; with_reducible conv => whnf) | (rw [isLst_at (by assumption)]; with_reducible conv => whnf) | (refine ifT rfl ?_; with_reducible conv => whnf) | (refine ifF rfl ?_; with_reducible conv => whnf) | (refine it_at (by assumption) ?_; with_reducible conv => whnf)))
        refine ⟨by decide, ?_⟩
        ((with_reducible conv => whnf); repeat (first | (refine And.intro (okII _ _) ?_; rw [eqD_ii]; with_reducible conv => whnf) | (refine And.intro (by first | assumption | exact Exists.intro _ (by assumption) | exact ⟨rfl, rfl, by decide, by decide⟩ | exact Nat.le_of_ble_eq_true rfl | exact rfl) ?_; with_reducible conv => whnf) | (rw [isLst_at (by assumption)]; with_reducible conv => whnf) | (refine ifT rfl ?_; with_reducible conv => whnf) | (refine ifF rfl ?_; with_reducible conv => whnf) | (refine it_at (by assumption) ?_; with_reducible conv => whnf)))
        rw [hw2]
        exact push _ _ _ rs f1 f2 _ rfl
    · rintro ρ' S' ⟨o6, o7, o8, rs, ws, rfl, f0, f1, f2, f3, f4, f5⟩
      ((with_reducible conv => whnf); repeat (first | (refine And.intro (okII _ _) ?_; rw [eqD_ii]; with_reducible conv => whnf) | (refine And.intro (by first | assumption | exact Exists.intro _ (by assumption) | exact ⟨rfl, rfl, by decide, by decide⟩ | exact Nat.le_of_ble_eq_true rfl | exact rfl) ?_; with_reducible conv => whnf) | (rw [isLst_at (by assumption)]; with_reducible conv => whnf) | (refine ifT rfl ?_; with_reducible conv => whnf) | (refine ifF rfl ?_; with_reducible conv => whnf) | (refine it_at (by assumption) ?_; with_reducible conv => whnf)))
      refine k _ _ ⟨ws.reverse, ?_⟩ (f5.put (by omega)) (by omega)
      rw [at_set f3, ← List.map_reverse]
  ((with_reducible conv => whnf); repeat (first | (refine And.intro (okII _ _) ?_; rw [eqD_ii]; with_reducible conv => whnf) | (refine And.intro (by first | assumption | exact Exists.intro _ (by assumption) | exact ⟨rfl, rfl, by decide, by decide⟩ | exact Nat.le_of_ble_eq_true rfl | exact rfl) ?_; with_reducible conv => whnf) | (rw [isLst_at (by assumption)]; with_reducible conv => whnf) | (refine ifT rfl ?_; with_reducible conv => whnf) | (refine ifF rfl ?_; with_reducible conv => whnf) | (refine it_at (by assumption) ?_; with_reducible conv => whnf)))
  refine ite_d (fun hc => ?_) fun hc => ?_
  · ((with_reducible conv => whnf); repeat (first | (refine And.intro (okII _ _) ?_; rw [eqD_ii]; with_reducible conv => whnf) | (refine And.intro (by first | assumption | exact Exists.intro _ (by assumption) | exact ⟨rfl, rfl, by decide, by decide⟩ | exact Nat.le_of_ble_eq_true rfl | exact rfl) ?_; with_reducible conv => whnf) | (rw [isLst_at (by assumption)]; with_reducible conv => whnf) | (refine ifT rfl ?_; with_reducible conv => whnf) | (refine ifF rfl ?_; with_reducible conv => whnf) | (refine it_at (by assumption) ?_; with_reducible conv => whnf)))
    have hn : ns = [] := by
      rw [List.length_map] at hc
      exact List.length_eq_zero_iff.mp (by omega)
    subst hn
    refine ⟨by decide, ?_⟩
    exact main [0] _ (by decide) (by decide) (at_set h2) (hS1.put hln)
  · rw [List.length_map] at hc
    exact main ns S2 (by omega) hl h2 hS1

@[reducible] def sp_cell : Spc := fun ds S Q => ∃ ns n, ds = [.rol (intD ns), .ref n] ∧ ns.length ≤ 63 ∧ Dr n S ∧ ∀ x S', Dr n S' → Ch n S S' → Q (.int x) S'
theorem body_law_cell : Body 2 2 (w_law_cell sp_take) sp_cell := by
  rintro ds S Q _ ⟨ns, n, rfl, hl, hd, k⟩
  unfold w_law_cell
  (simp only [start, List.map_cons, List.map_nil, List.length_cons, List.length_nil, Nat.reduceAdd, Nat.reduceSub, List.replicate_succ, List.replicate_zero, List.cons_append, List.nil_append, Nat.sub_self, Nat.zero_add])
  ((with_reducible conv => whnf); repeat (first | (refine And.intro (okII _ _) ?_; rw [eqD_ii]; with_reducible conv => whnf) | (refine And.intro (by first | assumption | exact Exists.intro _ (by assumption) | exact ⟨rfl, rfl, by decide, by decide⟩ | exact Nat.le_of_ble_eq_true rfl | exact rfl) ?_; with_reducible conv => whnf) | (rw [isLst_at (by assumption)]; with_reducible conv => whnf) | (refine ifT rfl ?_; with_reducible conv => whnf) | (refine ifF rfl ?_; with_reducible conv => whnf) | (refine it_at (by assumption) ?_; with_reducible conv => whnf)))
  refine ite_d (fun hc => k 0 S hd (Ch.refl _ _)) fun hc => ?_
  ((with_reducible conv => whnf); repeat (first | (refine And.intro (okII _ _) ?_; rw [eqD_ii]; with_reducible conv => whnf) | (refine And.intro (by first | assumption | exact Exists.intro _ (by assumption) | exact ⟨rfl, rfl, by decide, by decide⟩ | exact Nat.le_of_ble_eq_true rfl | exact rfl) ?_; with_reducible conv => whnf) | (rw [isLst_at (by assumption)]; with_reducible conv => whnf) | (refine ifT rfl ?_; with_reducible conv => whnf) | (refine ifF rfl ?_; with_reducible conv => whnf) | (refine it_at (by assumption) ?_; with_reducible conv => whnf)))
  rw [List.length_map] at hc ⊢
  refine ⟨_, _, rfl, by omega, hd, fun r S' h0 h1 hd' hc' => ?_⟩
  ((with_reducible conv => whnf); repeat (first | (refine And.intro (okII _ _) ?_; rw [eqD_ii]; with_reducible conv => whnf) | (refine And.intro (by first | assumption | exact Exists.intro _ (by assumption) | exact ⟨rfl, rfl, by decide, by decide⟩ | exact Nat.le_of_ble_eq_true rfl | exact rfl) ?_; with_reducible conv => whnf) | (rw [isLst_at (by assumption)]; with_reducible conv => whnf) | (refine ifT rfl ?_; with_reducible conv => whnf) | (refine ifF rfl ?_; with_reducible conv => whnf) | (refine it_at (by assumption) ?_; with_reducible conv => whnf)))
  refine ⟨_, atZ_intD h0 h1, ?_⟩
  ((with_reducible conv => whnf); repeat (first | (refine And.intro (okII _ _) ?_; rw [eqD_ii]; with_reducible conv => whnf) | (refine And.intro (by first | assumption | exact Exists.intro _ (by assumption) | exact ⟨rfl, rfl, by decide, by decide⟩ | exact Nat.le_of_ble_eq_true rfl | exact rfl) ?_; with_reducible conv => whnf) | (rw [isLst_at (by assumption)]; with_reducible conv => whnf) | (refine ifT rfl ?_; with_reducible conv => whnf) | (refine ifF rfl ?_; with_reducible conv => whnf) | (refine it_at (by assumption) ?_; with_reducible conv => whnf)))
  exact k _ _ hd' hc'
@[reducible] def sp_same (N : Nat) : Spc := fun ds S Q => ∃ d, ds = [d, d] ∧ flat d = true ∧ slim d = true ∧ deep d ≤ N ∧ ∀ S', Sub S S' → Q (.bl true) S'
@[reducible] def spNo : Spc := fun _ _ _ => False
theorem body_law_same (sp : Spc) (N : Nat) (hN : N ≤ 60) (hsp : N = 0 ∨ ∃ M, N = M + 1 ∧ sp = sp_same M) : Body 3 2 (w_law_same sp) (sp_same N) := by
  rintro ds S Q _ ⟨d, rfl, hf, hsl, hd, k⟩
  unfold w_law_same
  have hself := eqD_self d hf
  have k0 := k S (Sub.refl _)
  (simp only [start, List.map_cons, List.map_nil, List.length_cons, List.length_nil, Nat.reduceAdd, Nat.reduceSub, List.replicate_succ, List.replicate_zero, List.cons_append, List.nil_append, Nat.sub_self, Nat.zero_add])
  cases d with
  | rol xs => cases hf
  | ref xs => cases hf
  | ty xs => cases hf
  | non =>
    ((with_reducible conv => whnf); repeat (first | (refine And.intro (okII _ _) ?_; rw [eqD_ii]; with_reducible conv => whnf) | (refine And.intro (by first | assumption | exact Exists.intro _ (by assumption) | exact ⟨rfl, rfl, by decide, by decide⟩ | exact Nat.le_of_ble_eq_true rfl | exact rfl) ?_; with_reducible conv => whnf) | (rw [isLst_at (by assumption)]; with_reducible conv => whnf) | (refine ifT rfl ?_; with_reducible conv => whnf) | (refine ifF rfl ?_; with_reducible conv => whnf) | (refine it_at (by assumption) ?_; with_reducible conv => whnf)))
    refine ⟨false, rfl, ?_⟩
    ((with_reducible conv => whnf); repeat (first | (refine And.intro (okII _ _) ?_; rw [eqD_ii]; with_reducible conv => whnf) | (refine And.intro (by first | assumption | exact Exists.intro _ (by assumption) | exact ⟨rfl, rfl, by decide, by decide⟩ | exact Nat.le_of_ble_eq_true rfl | exact rfl) ?_; with_reducible conv => whnf) | (rw [isLst_at (by assumption)]; with_reducible conv => whnf) | (refine ifT rfl ?_; with_reducible conv => whnf) | (refine ifF rfl ?_; with_reducible conv => whnf) | (refine it_at (by assumption) ?_; with_reducible conv => whnf)))
    refine ⟨false, rfl, ?_⟩
    ((with_reducible conv => whnf); repeat (first | (refine And.intro (okII _ _) ?_; rw [eqD_ii]; with_reducible conv => whnf) | (refine And.intro (by first | assumption | exact Exists.intro _ (by assumption) | exact ⟨rfl, rfl, by decide, by decide⟩ | exact Nat.le_of_ble_eq_true rfl | exact rfl) ?_; with_reducible conv => whnf) | (rw [isLst_at (by assumption)]; with_reducible conv => whnf) | (refine ifT rfl ?_; with_reducible conv => whnf) | (refine ifF rfl ?_; with_reducible conv => whnf) | (refine it_at (by assumption) ?_; with_reducible conv => whnf)))
    refine ⟨false, rfl, ?_⟩
    ((with_reducible conv => whnf); repeat (first | (refine And.intro (okII _ _) ?_; rw [eqD_ii]; with_reducible conv => whnf) | (refine And.intro (by first | assumption | exact Exists.intro _ (by assumption) | exact ⟨rfl, rfl, by decide, by decide⟩ | exact Nat.le_of_ble_eq_true rfl | exact rfl) ?_; with_reducible conv => whnf) | (rw [isLst_at (by assumption)]; with_reducible conv => whnf) | (refine ifT rfl ?_; with_reducible conv => whnf) | (refine ifF rfl ?_; with_reducible conv => whnf) | (refine it_at (by assumption) ?_; with_reducible conv => whnf)))
    exact k0
  | bl b =>
    ((with_reducible conv => whnf); repeat (first | (refine And.intro (okII _ _) ?_; rw [eqD_ii]; with_reducible conv => whnf) | (refine And.intro (by first | assumption | exact Exists.intro _ (by assumption) | exact ⟨rfl, rfl, by decide, by decide⟩ | exact Nat.le_of_ble_eq_true rfl | exact rfl) ?_; with_reducible conv => whnf) | (rw [isLst_at (by assumption)]; with_reducible conv => whnf) | (refine ifT rfl ?_; with_reducible conv => whnf) | (refine ifF rfl ?_; with_reducible conv => whnf) | (refine it_at (by assumption) ?_; with_reducible conv => whnf)))
    refine ⟨true, rfl, ?_⟩
    ((with_reducible conv => whnf); repeat (first | (refine And.intro (okII _ _) ?_; rw [eqD_ii]; with_reducible conv => whnf) | (refine And.intro (by first | assumption | exact Exists.intro _ (by assumption) | exact ⟨rfl, rfl, by decide, by decide⟩ | exact Nat.le_of_ble_eq_true rfl | exact rfl) ?_; with_reducible conv => whnf) | (rw [isLst_at (by assumption)]; with_reducible conv => whnf) | (refine ifT rfl ?_; with_reducible conv => whnf) | (refine ifF rfl ?_; with_reducible conv => whnf) | (refine it_at (by assumption) ?_; with_reducible conv => whnf)))
    refine ⟨true, rfl, ?_⟩
    ((with_reducible conv => whnf); repeat (first | (refine And.intro (okII _ _) ?_; rw [eqD_ii]; with_reducible conv => whnf) | (refine And.intro (by first | assumption | exact Exists.intro _ (by assumption) | exact ⟨rfl, rfl, by decide, by decide⟩ | exact Nat.le_of_ble_eq_true rfl | exact rfl) ?_; with_reducible conv => whnf) | (rw [isLst_at (by assumption)]; with_reducible conv => whnf) | (refine ifT rfl ?_; with_reducible conv => whnf) | (refine ifF rfl ?_; with_reducible conv => whnf) | (refine it_at (by assumption) ?_; with_reducible conv => whnf)))
    refine ⟨⟨hf, hf, Nat.zero_le _, Nat.zero_le _⟩, ?_⟩
    rw [hself]
    exact k0
  | int i =>
    ((with_reducible conv => whnf); repeat (first | (refine And.intro (okII _ _) ?_; rw [eqD_ii]; with_reducible conv => whnf) | (refine And.intro (by first | assumption | exact Exists.intro _ (by assumption) | exact ⟨rfl, rfl, by decide, by decide⟩ | exact Nat.le_of_ble_eq_true rfl | exact rfl) ?_; with_reducible conv => whnf) | (rw [isLst_at (by assumption)]; with_reducible conv => whnf) | (refine ifT rfl ?_; with_reducible conv => whnf) | (refine ifF rfl ?_; with_reducible conv => whnf) | (refine it_at (by assumption) ?_; with_reducible conv => whnf)))
    refine ⟨false, rfl, ?_⟩
    ((with_reducible conv => whnf); repeat (first | (refine And.intro (okII _ _) ?_; rw [eqD_ii]; with_reducible conv => whnf) | (refine And.intro (by first | assumption | exact Exists.intro _ (by assumption) | exact ⟨rfl, rfl, by decide, by decide⟩ | exact Nat.le_of_ble_eq_true rfl | exact rfl) ?_; with_reducible conv => whnf) | (rw [isLst_at (by assumption)]; with_reducible conv => whnf) | (refine ifT rfl ?_; with_reducible conv => whnf) | (refine ifF rfl ?_; with_reducible conv => whnf) | (refine it_at (by assumption) ?_; with_reducible conv => whnf)))
    refine ⟨true, rfl, ?_⟩
    ((with_reducible conv => whnf); repeat (first | (refine And.intro (okII _ _) ?_; rw [eqD_ii]; with_reducible conv => whnf) | (refine And.intro (by first | assumption | exact Exists.intro _ (by assumption) | exact ⟨rfl, rfl, by decide, by decide⟩ | exact Nat.le_of_ble_eq_true rfl | exact rfl) ?_; with_reducible conv => whnf) | (rw [isLst_at (by assumption)]; with_reducible conv => whnf) | (refine ifT rfl ?_; with_reducible conv => whnf) | (refine ifF rfl ?_; with_reducible conv => whnf) | (refine it_at (by assumption) ?_; with_reducible conv => whnf)))
    refine ⟨true, rfl, ?_⟩
    ((with_reducible conv => whnf); repeat (first | (refine And.intro (okII _ _) ?_; rw [eqD_ii]; with_reducible conv => whnf) | (refine And.intro (by first | assumption | exact Exists.intro _ (by assumption) | exact ⟨rfl, rfl, by decide, by decide⟩ | exact Nat.le_of_ble_eq_true rfl | exact rfl) ?_; with_reducible conv => whnf) | (rw [isLst_at (by assumption)]; with_reducible conv => whnf) | (refine ifT rfl ?_; with_reducible conv => whnf) | (refine ifF rfl ?_; with_reducible conv => whnf) | (refine it_at (by assumption) ?_; with_reducible conv => whnf)))
    refine ⟨false, rfl, ?_⟩
    ((with_reducible conv => whnf); repeat (first | (refine And.intro (okII _ _) ?_; rw [eqD_ii]; with_reducible conv => whnf) | (refine And.intro (by first | assumption | exact Exists.intro _ (by assumption) | exact ⟨rfl, rfl, by decide, by decide⟩ | exact Nat.le_of_ble_eq_true rfl | exact rfl) ?_; with_reducible conv => whnf) | (rw [isLst_at (by assumption)]; with_reducible conv => whnf) | (refine ifT rfl ?_; with_reducible conv => whnf) | (refine ifF rfl ?_; with_reducible conv => whnf) | (refine it_at (by assumption) ?_; with_reducible conv => whnf)))
    rw [decide_eq_true rfl]
    exact k0
  | str x =>
    ((with_reducible conv => whnf); repeat (first | (refine And.intro (okII _ _) ?_; rw [eqD_ii]; with_reducible conv => whnf) | (refine And.intro (by first | assumption | exact Exists.intro _ (by assumption) | exact ⟨rfl, rfl, by decide, by decide⟩ | exact Nat.le_of_ble_eq_true rfl | exact rfl) ?_; with_reducible conv => whnf) | (rw [isLst_at (by assumption)]; with_reducible conv => whnf) | (refine ifT rfl ?_; with_reducible conv => whnf) | (refine ifF rfl ?_; with_reducible conv => whnf) | (refine it_at (by assumption) ?_; with_reducible conv => whnf)))
    refine ⟨false, rfl, ?_⟩
    ((with_reducible conv => whnf); repeat (first | (refine And.intro (okII _ _) ?_; rw [eqD_ii]; with_reducible conv => whnf) | (refine And.intro (by first | assumption | exact Exists.intro _ (by assumption) | exact ⟨rfl, rfl, by decide, by decide⟩ | exact Nat.le_of_ble_eq_true rfl | exact rfl) ?_; with_reducible conv => whnf) | (rw [isLst_at (by assumption)]; with_reducible conv => whnf) | (refine ifT rfl ?_; with_reducible conv => whnf) | (refine ifF rfl ?_; with_reducible conv => whnf) | (refine it_at (by assumption) ?_; with_reducible conv => whnf)))
    refine ⟨false, rfl, ?_⟩
    ((with_reducible conv => whnf); repeat (first | (refine And.intro (okII _ _) ?_; rw [eqD_ii]; with_reducible conv => whnf) | (refine And.intro (by first | assumption | exact Exists.intro _ (by assumption) | exact ⟨rfl, rfl, by decide, by decide⟩ | exact Nat.le_of_ble_eq_true rfl | exact rfl) ?_; with_reducible conv => whnf) | (rw [isLst_at (by assumption)]; with_reducible conv => whnf) | (refine ifT rfl ?_; with_reducible conv => whnf) | (refine ifF rfl ?_; with_reducible conv => whnf) | (refine it_at (by assumption) ?_; with_reducible conv => whnf)))
    refine ⟨true, rfl, ?_⟩
    ((with_reducible conv => whnf); repeat (first | (refine And.intro (okII _ _) ?_; rw [eqD_ii]; with_reducible conv => whnf) | (refine And.intro (by first | assumption | exact Exists.intro _ (by assumption) | exact ⟨rfl, rfl, by decide, by decide⟩ | exact Nat.le_of_ble_eq_true rfl | exact rfl) ?_; with_reducible conv => whnf) | (rw [isLst_at (by assumption)]; with_reducible conv => whnf) | (refine ifT rfl ?_; with_reducible conv => whnf) | (refine ifF rfl ?_; with_reducible conv => whnf) | (refine it_at (by assumption) ?_; with_reducible conv => whnf)))
    refine ⟨true, rfl, ?_⟩
    ((with_reducible conv => whnf); repeat (first | (refine And.intro (okII _ _) ?_; rw [eqD_ii]; with_reducible conv => whnf) | (refine And.intro (by first | assumption | exact Exists.intro _ (by assumption) | exact ⟨rfl, rfl, by decide, by decide⟩ | exact Nat.le_of_ble_eq_true rfl | exact rfl) ?_; with_reducible conv => whnf) | (rw [isLst_at (by assumption)]; with_reducible conv => whnf) | (refine ifT rfl ?_; with_reducible conv => whnf) | (refine ifF rfl ?_; with_reducible conv => whnf) | (refine it_at (by assumption) ?_; with_reducible conv => whnf)))
    refine ⟨⟨hf, hf, Nat.zero_le _, Nat.zero_le _⟩, ?_⟩
    rw [hself]
    exact k0
  | tup xs =>
    ((with_reducible conv => whnf); repeat (first | (refine And.intro (okII _ _) ?_; rw [eqD_ii]; with_reducible conv => whnf) | (refine And.intro (by first | assumption | exact Exists.intro _ (by assumption) | exact ⟨rfl, rfl, by decide, by decide⟩ | exact Nat.le_of_ble_eq_true rfl | exact rfl) ?_; with_reducible conv => whnf) | (rw [isLst_at (by assumption)]; with_reducible conv => whnf) | (refine ifT rfl ?_; with_reducible conv => whnf) | (refine ifF rfl ?_; with_reducible conv => whnf) | (refine it_at (by assumption) ?_; with_reducible conv => whnf)))
    refine ⟨false, rfl, ?_⟩
    ((with_reducible conv => whnf); repeat (first | (refine And.intro (okII _ _) ?_; rw [eqD_ii]; with_reducible conv => whnf) | (refine And.intro (by first | assumption | exact Exists.intro _ (by assumption) | exact ⟨rfl, rfl, by decide, by decide⟩ | exact Nat.le_of_ble_eq_true rfl | exact rfl) ?_; with_reducible conv => whnf) | (rw [isLst_at (by assumption)]; with_reducible conv => whnf) | (refine ifT rfl ?_; with_reducible conv => whnf) | (refine ifF rfl ?_; with_reducible conv => whnf) | (refine it_at (by assumption) ?_; with_reducible conv => whnf)))
    refine ⟨false, rfl, ?_⟩
    ((with_reducible conv => whnf); repeat (first | (refine And.intro (okII _ _) ?_; rw [eqD_ii]; with_reducible conv => whnf) | (refine And.intro (by first | assumption | exact Exists.intro _ (by assumption) | exact ⟨rfl, rfl, by decide, by decide⟩ | exact Nat.le_of_ble_eq_true rfl | exact rfl) ?_; with_reducible conv => whnf) | (rw [isLst_at (by assumption)]; with_reducible conv => whnf) | (refine ifT rfl ?_; with_reducible conv => whnf) | (refine ifF rfl ?_; with_reducible conv => whnf) | (refine it_at (by assumption) ?_; with_reducible conv => whnf)))
    refine ⟨false, rfl, ?_⟩
    ((with_reducible conv => whnf); repeat (first | (refine And.intro (okII _ _) ?_; rw [eqD_ii]; with_reducible conv => whnf) | (refine And.intro (by first | assumption | exact Exists.intro _ (by assumption) | exact ⟨rfl, rfl, by decide, by decide⟩ | exact Nat.le_of_ble_eq_true rfl | exact rfl) ?_; with_reducible conv => whnf) | (rw [isLst_at (by assumption)]; with_reducible conv => whnf) | (refine ifT rfl ?_; with_reducible conv => whnf) | (refine ifF rfl ?_; with_reducible conv => whnf) | (refine it_at (by assumption) ?_; with_reducible conv => whnf)))
    refine ⟨true, rfl, ?_⟩
    ((with_reducible conv => whnf); repeat (first | (refine And.intro (okII _ _) ?_; rw [eqD_ii]; with_reducible conv => whnf) | (refine And.intro (by first | assumption | exact Exists.intro _ (by assumption) | exact ⟨rfl, rfl, by decide, by decide⟩ | exact Nat.le_of_ble_eq_true rfl | exact rfl) ?_; with_reducible conv => whnf) | (rw [isLst_at (by assumption)]; with_reducible conv => whnf) | (refine ifT rfl ?_; with_reducible conv => whnf) | (refine ifF rfl ?_; with_reducible conv => whnf) | (refine it_at (by assumption) ?_; with_reducible conv => whnf)))
    rw [if_neg (by simp)]
    have hsl := Bool.and_eq_true_iff.mp (show (decide (xs.length ≤ szL) && slims xs) = true from hsl)
    have hz := of_decide_eq_true hsl.1
    unfold szL at hz
    ((with_reducible conv => whnf); repeat (first | (refine And.intro (okII _ _) ?_; rw [eqD_ii]; with_reducible conv => whnf) | (refine And.intro (by first | assumption | exact Exists.intro _ (by assumption) | exact ⟨rfl, rfl, by decide, by decide⟩ | exact Nat.le_of_ble_eq_true rfl | exact rfl) ?_; with_reducible conv => whnf) | (rw [isLst_at (by assumption)]; with_reducible conv => whnf) | (refine ifT rfl ?_; with_reducible conv => whnf) | (refine ifF rfl ?_; with_reducible conv => whnf) | (refine it_at (by assumption) ?_; with_reducible conv => whnf)))
    refine ⟨⟨by omega, by omega⟩, ?_⟩
    refine Loop_mk (fun _ ρ S' => ∃ o, ρ = [some (.tup xs), some (.tup xs), o] ∧ Sub S S') ⟨_, rfl, Sub.refl _⟩ (by intros; trivial) ?_ ?_
    · rintro i d ρ' S' hi ⟨o, rfl, hs⟩
      obtain ⟨hi1, rfl⟩ := rangeD_get hi
      have hl : i < xs.length := by omega
      have e := List.getElem?_eq_getElem hl
      have ez := atZ_nat e
      rw [show ((i : Nat) : Int) = 0 + i by omega] at ez
      ((with_reducible conv => whnf); repeat (first | (refine And.intro (okII _ _) ?_; rw [eqD_ii]; with_reducible conv => whnf) | (refine And.intro (by first | assumption | exact Exists.intro _ (by assumption) | exact ⟨rfl, rfl, by decide, by decide⟩ | exact Nat.le_of_ble_eq_true rfl | exact rfl) ?_; with_reducible conv => whnf) | (rw [isLst_at (by assumption)]; with_reducible conv => whnf) | (refine ifT rfl ?_; with_reducible conv => whnf) | (refine ifF rfl ?_; with_reducible conv => whnf) | (refine it_at (by assumption) ?_; with_reducible conv => whnf)))
      refine ⟨_, ez, ?_⟩
      ((with_reducible conv => whnf); repeat (first | (refine And.intro (okII _ _) ?_; rw [eqD_ii]; with_reducible conv => whnf) | (refine And.intro (by first | assumption | exact Exists.intro _ (by assumption) | exact ⟨rfl, rfl, by decide, by decide⟩ | exact Nat.le_of_ble_eq_true rfl | exact rfl) ?_; with_reducible conv => whnf) | (rw [isLst_at (by assumption)]; with_reducible conv => whnf) | (refine ifT rfl ?_; with_reducible conv => whnf) | (refine ifF rfl ?_; with_reducible conv => whnf) | (refine it_at (by assumption) ?_; with_reducible conv => whnf)))
      refine ⟨_, ez, ?_⟩
      ((with_reducible conv => whnf); repeat (first | (refine And.intro (okII _ _) ?_; rw [eqD_ii]; with_reducible conv => whnf) | (refine And.intro (by first | assumption | exact Exists.intro _ (by assumption) | exact ⟨rfl, rfl, by decide, by decide⟩ | exact Nat.le_of_ble_eq_true rfl | exact rfl) ?_; with_reducible conv => whnf) | (rw [isLst_at (by assumption)]; with_reducible conv => whnf) | (refine ifT rfl ?_; with_reducible conv => whnf) | (refine ifF rfl ?_; with_reducible conv => whnf) | (refine it_at (by assumption) ?_; with_reducible conv => whnf)))
      have hdd : deep (.tup xs) = deeps xs + 1 := rfl
      rcases hsp with h0 | ⟨M, hM, rfl⟩
      · omega
      ((with_reducible conv => whnf); repeat (first | (refine And.intro (okII _ _) ?_; rw [eqD_ii]; with_reducible conv => whnf) | (refine And.intro (by first | assumption | exact Exists.intro _ (by assumption) | exact ⟨rfl, rfl, by decide, by decide⟩ | exact Nat.le_of_ble_eq_true rfl | exact rfl) ?_; with_reducible conv => whnf) | (rw [isLst_at (by assumption)]; with_reducible conv => whnf) | (refine ifT rfl ?_; with_reducible conv => whnf) | (refine ifF rfl ?_; with_reducible conv => whnf) | (refine it_at (by assumption) ?_; with_reducible conv => whnf)))
      have := deeps_get e
      refine ⟨_, rfl, flats_get hf e, slims_get hsl.2 e, by omega, fun S2 hs2 => ?_⟩
      ((with_reducible conv => whnf); repeat (first | (refine And.intro (okII _ _) ?_; rw [eqD_ii]; with_reducible conv => whnf) | (refine And.intro (by first | assumption | exact Exists.intro _ (by assumption) | exact ⟨rfl, rfl, by decide, by decide⟩ | exact Nat.le_of_ble_eq_true rfl | exact rfl) ?_; with_reducible conv => whnf) | (rw [isLst_at (by assumption)]; with_reducible conv => whnf) | (refine ifT rfl ?_; with_reducible conv => whnf) | (refine ifF rfl ?_; with_reducible conv => whnf) | (refine it_at (by assumption) ?_; with_reducible conv => whnf)))
      exact ⟨_, rfl, hs.trans hs2⟩
    · rintro ρ' S' ⟨o, rfl, hs⟩
      ((with_reducible conv => whnf); repeat (first | (refine And.intro (okII _ _) ?_; rw [eqD_ii]; with_reducible conv => whnf) | (refine And.intro (by first | assumption | exact Exists.intro _ (by assumption) | exact ⟨rfl, rfl, by decide, by decide⟩ | exact Nat.le_of_ble_eq_true rfl | exact rfl) ?_; with_reducible conv => whnf) | (rw [isLst_at (by assumption)]; with_reducible conv => whnf) | (refine ifT rfl ?_; with_reducible conv => whnf) | (refine ifF rfl ?_; with_reducible conv => whnf) | (refine it_at (by assumption) ?_; with_reducible conv => whnf)))
      exact k _ hs
end K97
set_option linter.all false
set_option maxRecDepth 100000
set_option maxHeartbeats 4000000
namespace K97
open DL
@[reducible] def sp_by : Spc := fun ds S Q => ∃ bs, ds = [.tup (intD bs)] ∧ bs.length ≤ 50 ∧ ∀ ord n S', Ord bs ord → S'[n]? = some (.lst (natD ord)) → Sub S S' → Q (.ref n) S'
def pairB (bs : List Int) (k : Nat) : D := .tup [.int (-bt bs k), .int k]
theorem sort_ord {bs : List Int} {ord : List Nat} (h1 : ord.Perm (List.range bs.length)) (h2 : (ord.map (pairB bs)).Pairwise (fun a b => ltD b a = false)) : Ord bs ord := by
  refine ⟨h1, ?_⟩
  rw [List.pairwise_map] at h2
  have hn : ord.Nodup := h1.nodup_iff.mpr List.nodup_range
  refine (List.Pairwise.and h2 hn).imp ?_
  rintro a b ⟨h, hne⟩
  have h : (if decide (-bt bs b = -bt bs a) = true then (if decide ((b : Int) = a) = true then false else decide ((b : Int) < a)) else decide (-bt bs b < -bt bs a)) = false := h
  rw [bef_iff]
  simp only [decide_eq_true_eq] at h
  split at h
  · split at h
    · omega
    · simp at h; omega
  · simp at h; omega
theorem body_by_bids : Body 3 1 w_by_bids sp_by := by
  rintro ds S Q _ ⟨bs, rfl, hl, k⟩
  unfold w_by_bids
  (simp only [start, List.map_cons, List.map_nil, List.length_cons, List.length_nil, Nat.reduceAdd, Nat.reduceSub, List.replicate_succ, List.replicate_zero, List.cons_append, List.nil_append, Nat.sub_self, Nat.zero_add])
  ((with_reducible conv => whnf); repeat (first | (rw [natD_len]; with_reducible conv => whnf) | (rw [intD_len]; with_reducible conv => whnf) | (refine And.intro (okII _ _) ?_; rw [eqD_ii]; with_reducible conv => whnf) | (refine And.intro (by first | assumption | exact Exists.intro _ (by assumption) | exact ⟨rfl, rfl, by decide, by decide⟩ | exact Nat.le_of_ble_eq_true rfl | exact rfl) ?_; with_reducible conv => whnf) | (rw [isLst_at (by assumption)]; with_reducible conv => whnf) | (refine ifT rfl ?_; with_reducible conv => whnf) | (refine ifF rfl ?_; with_reducible conv => whnf) | (refine it_at (by assumption) ?_; with_reducible conv => whnf)))
  refine ⟨⟨by omega, by omega⟩, ?_⟩
  refine Lc_rm (pairB bs) (by unfold szL; omega) (by intros; trivial) (fun i S' R hi hs hR => ?_) fun S1 hs => ?_
  · ((with_reducible conv => whnf); repeat (first | (rw [natD_len]; with_reducible conv => whnf) | (rw [intD_len]; with_reducible conv => whnf) | (refine And.intro (okII _ _) ?_; rw [eqD_ii]; with_reducible conv => whnf) | (refine And.intro (by first | assumption | exact Exists.intro _ (by assumption) | exact ⟨rfl, rfl, by decide, by decide⟩ | exact Nat.le_of_ble_eq_true rfl | exact rfl) ?_; with_reducible conv => whnf) | (rw [isLst_at (by assumption)]; with_reducible conv => whnf) | (refine ifT rfl ?_; with_reducible conv => whnf) | (refine ifF rfl ?_; with_reducible conv => whnf) | (refine it_at (by assumption) ?_; with_reducible conv => whnf)))
    refine ⟨_, atZ_intN hi, ?_⟩
    ((with_reducible conv => whnf); repeat (first | (rw [natD_len]; with_reducible conv => whnf) | (rw [intD_len]; with_reducible conv => whnf) | (refine And.intro (okII _ _) ?_; rw [eqD_ii]; with_reducible conv => whnf) | (refine And.intro (by first | assumption | exact Exists.intro _ (by assumption) | exact ⟨rfl, rfl, by decide, by decide⟩ | exact Nat.le_of_ble_eq_true rfl | exact rfl) ?_; with_reducible conv => whnf) | (rw [isLst_at (by assumption)]; with_reducible conv => whnf) | (refine ifT rfl ?_; with_reducible conv => whnf) | (refine ifF rfl ?_; with_reducible conv => whnf) | (refine it_at (by assumption) ?_; with_reducible conv => whnf)))
    exact hR S' (Sub.refl _)
  · have e := at_push S1 (.lst ((List.range bs.length).map (pairB bs)))
    ((with_reducible conv => whnf); repeat (first | (rw [natD_len]; with_reducible conv => whnf) | (rw [intD_len]; with_reducible conv => whnf) | (refine And.intro (okII _ _) ?_; rw [eqD_ii]; with_reducible conv => whnf) | (refine And.intro (by first | assumption | exact Exists.intro _ (by assumption) | exact ⟨rfl, rfl, by decide, by decide⟩ | exact Nat.le_of_ble_eq_true rfl | exact rfl) ?_; with_reducible conv => whnf) | (rw [isLst_at (by assumption)]; with_reducible conv => whnf) | (refine ifT rfl ?_; with_reducible conv => whnf) | (refine ifF rfl ?_; with_reducible conv => whnf) | (refine it_at (by assumption) ?_; with_reducible conv => whnf)))
    refine ⟨⟨?_, ?_, ?_, ?_⟩, fun ys hp hw => ?_⟩
    · exact flats_map fun _ _ => rfl
    · exact Nat.le_trans (deeps_map (N := 1) fun _ _ => Nat.le_refl _) (by decide)
    · intro a ha b hb
      obtain ⟨x, _, rfl⟩ := List.mem_map.mp ha
      obtain ⟨y, _, rfl⟩ := List.mem_map.mp hb
      rfl
    · refine Or.inl fun a ha => ?_
      obtain ⟨x, _, rfl⟩ := List.mem_map.mp ha
      exact ⟨_, _, rfl⟩
    obtain ⟨ord, ho, rfl⟩ := perm_map _ hp _ rfl
    have hord := sort_ord ho hw
    have hs2 := hs.app [.lst ((List.range bs.length).map (pairB bs))]
    generalize S1 ++ [.lst ((List.range bs.length).map (pairB bs))] = S2 at *
    have e2 := at_push S2 (.lst (ord.map (pairB bs)))
    ((with_reducible conv => whnf); repeat (first | (rw [natD_len]; with_reducible conv => whnf) | (rw [intD_len]; with_reducible conv => whnf) | (refine And.intro (okII _ _) ?_; rw [eqD_ii]; with_reducible conv => whnf) | (refine And.intro (by first | assumption | exact Exists.intro _ (by assumption) | exact ⟨rfl, rfl, by decide, by decide⟩ | exact Nat.le_of_ble_eq_true rfl | exact rfl) ?_; with_reducible conv => whnf) | (rw [isLst_at (by assumption)]; with_reducible conv => whnf) | (refine ifT rfl ?_; with_reducible conv => whnf) | (refine ifF rfl ?_; with_reducible conv => whnf) | (refine it_at (by assumption) ?_; with_reducible conv => whnf)))
    have hol := hord.len
    refine Lc_lm (xs := ord) (e := pairB bs) (fun k : Nat => .int k) (by unfold szL; omega) ?_ ?_ ?_
    · intro S' h; exact h _ _ e2
    · intro i S' R hi h hR
      unfold pairB
      ((with_reducible conv => whnf); repeat (first | (rw [natD_len]; with_reducible conv => whnf) | (rw [intD_len]; with_reducible conv => whnf) | (refine And.intro (okII _ _) ?_; rw [eqD_ii]; with_reducible conv => whnf) | (refine And.intro (by first | assumption | exact Exists.intro _ (by assumption) | exact ⟨rfl, rfl, by decide, by decide⟩ | exact Nat.le_of_ble_eq_true rfl | exact rfl) ?_; with_reducible conv => whnf) | (rw [isLst_at (by assumption)]; with_reducible conv => whnf) | (refine ifT rfl ?_; with_reducible conv => whnf) | (refine ifF rfl ?_; with_reducible conv => whnf) | (refine it_at (by assumption) ?_; with_reducible conv => whnf)))
      exact hR _ (Sub.refl _)
    · intro S' h
      refine k ord _ _ hord ?_ ((hs2.app _).trans (h.app _))
      rw [at_push]
      simp [natD, intD]
@[reducible] def sp_win : Spc := fun ds S Q => ∃ bs t, ds = [.tup (intD bs), .int t] ∧ bs.length ≤ 50 ∧ 0 ≤ t ∧ ∀ S', Sub S S' → Q (.tup (natD (winL bs t))) S'
theorem body_winners : Body 2 2 (w_winners sp_by) sp_win := by
  rintro ds S Q _ ⟨bs, t, rfl, hl, ht, k⟩
  unfold w_winners
  (simp only [start, List.map_cons, List.map_nil, List.length_cons, List.length_nil, Nat.reduceAdd, Nat.reduceSub, List.replicate_succ, List.replicate_zero, List.cons_append, List.nil_append, Nat.sub_self, Nat.zero_add])
  ((with_reducible conv => whnf); repeat (first | (rw [natD_len]; with_reducible conv => whnf) | (rw [intD_len]; with_reducible conv => whnf) | (refine And.intro (okII _ _) ?_; rw [eqD_ii]; with_reducible conv => whnf) | (refine And.intro (by first | assumption | exact Exists.intro _ (by assumption) | exact ⟨rfl, rfl, by decide, by decide⟩ | exact Nat.le_of_ble_eq_true rfl | exact rfl) ?_; with_reducible conv => whnf) | (rw [isLst_at (by assumption)]; with_reducible conv => whnf) | (refine ifT rfl ?_; with_reducible conv => whnf) | (refine ifF rfl ?_; with_reducible conv => whnf) | (refine it_at (by assumption) ?_; with_reducible conv => whnf)))
  refine ⟨_, rfl, hl, fun ord n S' ho e hs => ?_⟩
  ((with_reducible conv => whnf); repeat (first | (rw [natD_len]; with_reducible conv => whnf) | (rw [intD_len]; with_reducible conv => whnf) | (refine And.intro (okII _ _) ?_; rw [eqD_ii]; with_reducible conv => whnf) | (refine And.intro (by first | assumption | exact Exists.intro _ (by assumption) | exact ⟨rfl, rfl, by decide, by decide⟩ | exact Nat.le_of_ble_eq_true rfl | exact rfl) ?_; with_reducible conv => whnf) | (rw [isLst_at (by assumption)]; with_reducible conv => whnf) | (refine ifT rfl ?_; with_reducible conv => whnf) | (refine ifF rfl ?_; with_reducible conv => whnf) | (refine it_at (by assumption) ?_; with_reducible conv => whnf)))
  have e2 := at_push S' (.lst (cut (natD ord) none (some t)))
  ((with_reducible conv => whnf); repeat (first | (rw [natD_len]; with_reducible conv => whnf) | (rw [intD_len]; with_reducible conv => whnf) | (refine And.intro (okII _ _) ?_; rw [eqD_ii]; with_reducible conv => whnf) | (refine And.intro (by first | assumption | exact Exists.intro _ (by assumption) | exact ⟨rfl, rfl, by decide, by decide⟩ | exact Nat.le_of_ble_eq_true rfl | exact rfl) ?_; with_reducible conv => whnf) | (rw [isLst_at (by assumption)]; with_reducible conv => whnf) | (refine ifT rfl ?_; with_reducible conv => whnf) | (refine ifF rfl ?_; with_reducible conv => whnf) | (refine it_at (by assumption) ?_; with_reducible conv => whnf)))
  rw [cut_take _ ht] at e2 ⊢
  have e3 : List.take t.toNat (natD ord) = natD (ord.take t.toNat) := by simp [natD, intD]
  rw [e3] at e2 ⊢
  refine ⟨sortOk_int _, fun ys hp hw => ?_⟩
  obtain ⟨ms, rfl, hm1, hm2⟩ := sort_int hp hw
  obtain ⟨ws, h1, rfl⟩ := perm_map _ hm1 _ rfl
  have e4 := at_push (S' ++ [.lst (natD (ord.take t.toNat))]) (.lst (natD ws))
  ((with_reducible conv => whnf); repeat (first | (rw [natD_len]; with_reducible conv => whnf) | (rw [intD_len]; with_reducible conv => whnf) | (refine And.intro (okII _ _) ?_; rw [eqD_ii]; with_reducible conv => whnf) | (refine And.intro (by first | assumption | exact Exists.intro _ (by assumption) | exact ⟨rfl, rfl, by decide, by decide⟩ | exact Nat.le_of_ble_eq_true rfl | exact rfl) ?_; with_reducible conv => whnf) | (rw [isLst_at (by assumption)]; with_reducible conv => whnf) | (refine ifT rfl ?_; with_reducible conv => whnf) | (refine ifF rfl ?_; with_reducible conv => whnf) | (refine it_at (by assumption) ?_; with_reducible conv => whnf)))
  have : ws = winL bs t := by
    refine ho.win ht h1 ?_
    rw [List.pairwise_map] at hm2
    exact hm2.imp fun h => by omega
  subst this
  exact k _ ((hs.app _).app _)
@[reducible] def sp_price : Spc := fun ds S Q => ∃ bs t, ds = [.tup (intD bs), .int t] ∧ bs.length ≤ 50 ∧ (∀ x ∈ bs, 0 ≤ x) ∧ 0 ≤ t ∧ ∀ S', Sub S S' → Q (.int (priceL bs t)) S'
theorem body_price : Body 3 2 (w_price sp_by) sp_price := by
  rintro ds S Q _ ⟨bs, t, rfl, hl, hb, ht, k⟩
  unfold w_price
  (simp only [start, List.map_cons, List.map_nil, List.length_cons, List.length_nil, Nat.reduceAdd, Nat.reduceSub, List.replicate_succ, List.replicate_zero, List.cons_append, List.nil_append, Nat.sub_self, Nat.zero_add])
  ((with_reducible conv => whnf); repeat (first | (rw [natD_len]; with_reducible conv => whnf) | (rw [intD_len]; with_reducible conv => whnf) | (refine And.intro (okII _ _) ?_; rw [eqD_ii]; with_reducible conv => whnf) | (refine And.intro (by first | assumption | exact Exists.intro _ (by assumption) | exact ⟨rfl, rfl, by decide, by decide⟩ | exact Nat.le_of_ble_eq_true rfl | exact rfl) ?_; with_reducible conv => whnf) | (rw [isLst_at (by assumption)]; with_reducible conv => whnf) | (refine ifT rfl ?_; with_reducible conv => whnf) | (refine ifF rfl ?_; with_reducible conv => whnf) | (refine it_at (by assumption) ?_; with_reducible conv => whnf)))
  refine ⟨_, rfl, hl, fun ord n S' ho e hs => ?_⟩
  ((with_reducible conv => whnf); repeat (first | (rw [natD_len]; with_reducible conv => whnf) | (rw [intD_len]; with_reducible conv => whnf) | (refine And.intro (okII _ _) ?_; rw [eqD_ii]; with_reducible conv => whnf) | (refine And.intro (by first | assumption | exact Exists.intro _ (by assumption) | exact ⟨rfl, rfl, by decide, by decide⟩ | exact Nat.le_of_ble_eq_true rfl | exact rfl) ?_; with_reducible conv => whnf) | (rw [isLst_at (by assumption)]; with_reducible conv => whnf) | (refine ifT rfl ?_; with_reducible conv => whnf) | (refine ifF rfl ?_; with_reducible conv => whnf) | (refine it_at (by assumption) ?_; with_reducible conv => whnf)))
  have e2 := at_push S' (.lst (cut (natD ord) (some t) none))
  rw [cut_drop _ ht] at e2 ⊢
  have e3 : List.drop t.toNat (natD ord) = natD (ord.drop t.toNat) := by simp [natD, intD]
  rw [e3] at e2 ⊢
  have hol := ho.len
  have hk := k _ (hs.app [.lst (natD (ord.drop t.toNat))])
  ((with_reducible conv => whnf); repeat (first | (rw [natD_len]; with_reducible conv => whnf) | (rw [intD_len]; with_reducible conv => whnf) | (refine And.intro (okII _ _) ?_; rw [eqD_ii]; with_reducible conv => whnf) | (refine And.intro (by first | assumption | exact Exists.intro _ (by assumption) | exact ⟨rfl, rfl, by decide, by decide⟩ | exact Nat.le_of_ble_eq_true rfl | exact rfl) ?_; with_reducible conv => whnf) | (rw [isLst_at (by assumption)]; with_reducible conv => whnf) | (refine ifT rfl ?_; with_reducible conv => whnf) | (refine ifF rfl ?_; with_reducible conv => whnf) | (refine it_at (by assumption) ?_; with_reducible conv => whnf)))
  have hld : (ord.drop t.toNat).length = ord.length - t.toNat := List.length_drop
  rw [hld]
  refine ite_d (fun hc => ?_) fun hc => ?_
  · ((with_reducible conv => whnf); repeat (first | (rw [natD_len]; with_reducible conv => whnf) | (rw [intD_len]; with_reducible conv => whnf) | (refine And.intro (okII _ _) ?_; rw [eqD_ii]; with_reducible conv => whnf) | (refine And.intro (by first | assumption | exact Exists.intro _ (by assumption) | exact ⟨rfl, rfl, by decide, by decide⟩ | exact Nat.le_of_ble_eq_true rfl | exact rfl) ?_; with_reducible conv => whnf) | (rw [isLst_at (by assumption)]; with_reducible conv => whnf) | (refine ifT rfl ?_; with_reducible conv => whnf) | (refine ifF rfl ?_; with_reducible conv => whnf) | (refine it_at (by assumption) ?_; with_reducible conv => whnf)))
    have h0 : (0 : Nat) < (ord.drop t.toNat).length := by omega
    have hp := ho.price (t := t.toNat) (by omega) hb
    rw [show ((t.toNat : Nat) : Int) = t by omega] at hp
    have hlt := ho.lt (List.getElem_mem (show t.toNat < ord.length by omega))
    refine ⟨_, atZ_intD (Int.le_refl 0) (by rw [List.length_map]; omega), ?_⟩
    have e9 : ((ord.drop t.toNat).map fun (k : Nat) => (k : Int)).getD (Int.toNat 0) 0 = (ord[t.toNat]'(by omega) : Nat) := by
      simp [List.getD_eq_getElem?_getD, List.getElem?_drop, List.getElem?_eq_getElem (show t.toNat < ord.length by omega)]
    rw [e9]
    ((with_reducible conv => whnf); repeat (first | (rw [natD_len]; with_reducible conv => whnf) | (rw [intD_len]; with_reducible conv => whnf) | (refine And.intro (okII _ _) ?_; rw [eqD_ii]; with_reducible conv => whnf) | (refine And.intro (by first | assumption | exact Exists.intro _ (by assumption) | exact ⟨rfl, rfl, by decide, by decide⟩ | exact Nat.le_of_ble_eq_true rfl | exact rfl) ?_; with_reducible conv => whnf) | (rw [isLst_at (by assumption)]; with_reducible conv => whnf) | (refine ifT rfl ?_; with_reducible conv => whnf) | (refine ifF rfl ?_; with_reducible conv => whnf) | (refine it_at (by assumption) ?_; with_reducible conv => whnf)))
    refine ⟨_, atZ_intN hlt, ?_⟩
    rw [hp] at hk
    exact hk
  · ((with_reducible conv => whnf); repeat (first | (rw [natD_len]; with_reducible conv => whnf) | (rw [intD_len]; with_reducible conv => whnf) | (refine And.intro (okII _ _) ?_; rw [eqD_ii]; with_reducible conv => whnf) | (refine And.intro (by first | assumption | exact Exists.intro _ (by assumption) | exact ⟨rfl, rfl, by decide, by decide⟩ | exact Nat.le_of_ble_eq_true rfl | exact rfl) ?_; with_reducible conv => whnf) | (rw [isLst_at (by assumption)]; with_reducible conv => whnf) | (refine ifT rfl ?_; with_reducible conv => whnf) | (refine ifF rfl ?_; with_reducible conv => whnf) | (refine it_at (by assumption) ?_; with_reducible conv => whnf)))
    rw [ho.price0 (by omega)] at hk
    exact hk
end K97
set_option linter.all false
set_option maxRecDepth 100000
set_option maxHeartbeats 4000000
namespace K97
open DL
theorem atZ_bt {bs : List Int} {i : Nat} (h : i < bs.length) : atZ (intD bs) (i : Int) = some (.int (bt bs i)) := atZ_intN h
@[reducible] def sp_gain : Spc := fun ds S Q => ∃ w bs t, ∃ k : Nat, ds = [.int w, .tup (intD bs), .int t, .int k] ∧ bs.length ≤ 50 ∧ (∀ x ∈ bs, 0 ≤ x) ∧ 0 ≤ t ∧ ∀ S', Sub S S' → Q (.int (gainL w bs t k)) S'
theorem body_gain : Body 4 4 (w_gain sp_win sp_price) sp_gain := by
  rintro ds S Q _ ⟨w, bs, t, k, rfl, hl, hb, ht, kk⟩
  unfold w_gain
  (simp only [start, List.map_cons, List.map_nil, List.length_cons, List.length_nil, Nat.reduceAdd, Nat.reduceSub, List.replicate_succ, List.replicate_zero, List.cons_append, List.nil_append, Nat.sub_self, Nat.zero_add])
  ((with_reducible conv => whnf); repeat (first | (rw [natD_len]; with_reducible conv => whnf) | (rw [intD_len]; with_reducible conv => whnf) | (refine And.intro (okII _ _) ?_; rw [eqD_ii]; with_reducible conv => whnf) | (refine And.intro (by first | assumption | exact Exists.intro _ (by assumption) | exact ⟨rfl, rfl, by decide, by decide⟩ | exact Nat.le_of_ble_eq_true rfl | exact rfl) ?_; with_reducible conv => whnf) | (rw [isLst_at (by assumption)]; with_reducible conv => whnf) | (refine ifT rfl ?_; with_reducible conv => whnf) | (refine ifF rfl ?_; with_reducible conv => whnf) | (refine it_at (by assumption) ?_; with_reducible conv => whnf)))
  refine ⟨_, _, rfl, hl, ht, fun S1 hs1 => ?_⟩
  ((with_reducible conv => whnf); repeat (first | (rw [natD_len]; with_reducible conv => whnf) | (rw [intD_len]; with_reducible conv => whnf) | (refine And.intro (okII _ _) ?_; rw [eqD_ii]; with_reducible conv => whnf) | (refine And.intro (by first | assumption | exact Exists.intro _ (by assumption) | exact ⟨rfl, rfl, by decide, by decide⟩ | exact Nat.le_of_ble_eq_true rfl | exact rfl) ?_; with_reducible conv => whnf) | (rw [isLst_at (by assumption)]; with_reducible conv => whnf) | (refine ifT rfl ?_; with_reducible conv => whnf) | (refine ifF rfl ?_; with_reducible conv => whnf) | (refine it_at (by assumption) ?_; with_reducible conv => whnf)))
  refine ⟨⟨rfl, flats0_int _⟩, ?_⟩
  rw [any_nat]
  ((with_reducible conv => whnf); repeat (first | (rw [natD_len]; with_reducible conv => whnf) | (rw [intD_len]; with_reducible conv => whnf) | (refine And.intro (okII _ _) ?_; rw [eqD_ii]; with_reducible conv => whnf) | (refine And.intro (by first | assumption | exact Exists.intro _ (by assumption) | exact ⟨rfl, rfl, by decide, by decide⟩ | exact Nat.le_of_ble_eq_true rfl | exact rfl) ?_; with_reducible conv => whnf) | (rw [isLst_at (by assumption)]; with_reducible conv => whnf) | (refine ifT rfl ?_; with_reducible conv => whnf) | (refine ifF rfl ?_; with_reducible conv => whnf) | (refine it_at (by assumption) ?_; with_reducible conv => whnf)))
  unfold gainL at kk
  refine ite_d (fun hc => ?_) fun hc => ?_
  · ((with_reducible conv => whnf); repeat (first | (rw [natD_len]; with_reducible conv => whnf) | (rw [intD_len]; with_reducible conv => whnf) | (refine And.intro (okII _ _) ?_; rw [eqD_ii]; with_reducible conv => whnf) | (refine And.intro (by first | assumption | exact Exists.intro _ (by assumption) | exact ⟨rfl, rfl, by decide, by decide⟩ | exact Nat.le_of_ble_eq_true rfl | exact rfl) ?_; with_reducible conv => whnf) | (rw [isLst_at (by assumption)]; with_reducible conv => whnf) | (refine ifT rfl ?_; with_reducible conv => whnf) | (refine ifF rfl ?_; with_reducible conv => whnf) | (refine it_at (by assumption) ?_; with_reducible conv => whnf)))
    refine ⟨_, _, rfl, hl, hb, ht, fun S2 hs2 => ?_⟩
    ((with_reducible conv => whnf); repeat (first | (rw [natD_len]; with_reducible conv => whnf) | (rw [intD_len]; with_reducible conv => whnf) | (refine And.intro (okII _ _) ?_; rw [eqD_ii]; with_reducible conv => whnf) | (refine And.intro (by first | assumption | exact Exists.intro _ (by assumption) | exact ⟨rfl, rfl, by decide, by decide⟩ | exact Nat.le_of_ble_eq_true rfl | exact rfl) ?_; with_reducible conv => whnf) | (rw [isLst_at (by assumption)]; with_reducible conv => whnf) | (refine ifT rfl ?_; with_reducible conv => whnf) | (refine ifF rfl ?_; with_reducible conv => whnf) | (refine it_at (by assumption) ?_; with_reducible conv => whnf)))
    have := kk S2 (hs1.trans hs2)
    rwa [if_pos hc] at this
  · ((with_reducible conv => whnf); repeat (first | (rw [natD_len]; with_reducible conv => whnf) | (rw [intD_len]; with_reducible conv => whnf) | (refine And.intro (okII _ _) ?_; rw [eqD_ii]; with_reducible conv => whnf) | (refine And.intro (by first | assumption | exact Exists.intro _ (by assumption) | exact ⟨rfl, rfl, by decide, by decide⟩ | exact Nat.le_of_ble_eq_true rfl | exact rfl) ?_; with_reducible conv => whnf) | (rw [isLst_at (by assumption)]; with_reducible conv => whnf) | (refine ifT rfl ?_; with_reducible conv => whnf) | (refine ifF rfl ?_; with_reducible conv => whnf) | (refine it_at (by assumption) ?_; with_reducible conv => whnf)))
    have := kk S1 hs1
    rwa [if_neg hc] at this
@[reducible] def sp_paid : Spc := fun ds S Q => ∃ bs t, ds = [.tup (intD bs), .int t] ∧ bs.length ≤ 50 ∧ (∀ x ∈ bs, 0 ≤ x) ∧ 0 ≤ t ∧ ∀ S', Sub S S' → Q (.int ((winL bs t).length * priceL bs t)) S'
theorem win_len (bs : List Int) (t : Int) : (winL bs t).length ≤ bs.length := by
  have := List.length_filter_le (fun k => decide ((aheadF bs.length (bt bs) k : Int) < t)) (List.range bs.length)
  rw [List.length_range] at this
  exact this
theorem body_sum_paid : Body 2 2 (w_sum_paid sp_win sp_price) sp_paid := by
  rintro ds S Q _ ⟨bs, t, rfl, hl, hb, ht, k⟩
  unfold w_sum_paid
  (simp only [start, List.map_cons, List.map_nil, List.length_cons, List.length_nil, Nat.reduceAdd, Nat.reduceSub, List.replicate_succ, List.replicate_zero, List.cons_append, List.nil_append, Nat.sub_self, Nat.zero_add])
  ((with_reducible conv => whnf); repeat (first | (rw [natD_len]; with_reducible conv => whnf) | (rw [intD_len]; with_reducible conv => whnf) | (refine And.intro (okII _ _) ?_; rw [eqD_ii]; with_reducible conv => whnf) | (refine And.intro (by first | assumption | exact Exists.intro _ (by assumption) | exact ⟨rfl, rfl, by decide, by decide⟩ | exact Nat.le_of_ble_eq_true rfl | exact rfl) ?_; with_reducible conv => whnf) | (rw [isLst_at (by assumption)]; with_reducible conv => whnf) | (refine ifT rfl ?_; with_reducible conv => whnf) | (refine ifF rfl ?_; with_reducible conv => whnf) | (refine it_at (by assumption) ?_; with_reducible conv => whnf)))
  refine ⟨_, _, rfl, hl, ht, fun S1 hs1 => ?_⟩
  ((with_reducible conv => whnf); repeat (first | (rw [natD_len]; with_reducible conv => whnf) | (rw [intD_len]; with_reducible conv => whnf) | (refine And.intro (okII _ _) ?_; rw [eqD_ii]; with_reducible conv => whnf) | (refine And.intro (by first | assumption | exact Exists.intro _ (by assumption) | exact ⟨rfl, rfl, by decide, by decide⟩ | exact Nat.le_of_ble_eq_true rfl | exact rfl) ?_; with_reducible conv => whnf) | (rw [isLst_at (by assumption)]; with_reducible conv => whnf) | (refine ifT rfl ?_; with_reducible conv => whnf) | (refine ifF rfl ?_; with_reducible conv => whnf) | (refine it_at (by assumption) ?_; with_reducible conv => whnf)))
  refine ⟨_, _, rfl, hl, hb, ht, fun S2 hs2 => ?_⟩
  ((with_reducible conv => whnf); repeat (first | (rw [natD_len]; with_reducible conv => whnf) | (rw [intD_len]; with_reducible conv => whnf) | (refine And.intro (okII _ _) ?_; rw [eqD_ii]; with_reducible conv => whnf) | (refine And.intro (by first | assumption | exact Exists.intro _ (by assumption) | exact ⟨rfl, rfl, by decide, by decide⟩ | exact Nat.le_of_ble_eq_true rfl | exact rfl) ?_; with_reducible conv => whnf) | (rw [isLst_at (by assumption)]; with_reducible conv => whnf) | (refine ifT rfl ?_; with_reducible conv => whnf) | (refine ifF rfl ?_; with_reducible conv => whnf) | (refine it_at (by assumption) ?_; with_reducible conv => whnf)))
  have := win_len bs t
  refine ⟨smallMul' (by omega), ?_⟩
  exact k _ (hs1.trans hs2)
def thL (bs : List Int) (t f : Int) : List Nat := (winL bs t).filter fun k => decide (f ≤ bt bs k)
def payL (bs : List Int) (t f : Int) : Int := if 0 < (thL bs t f).length then max f (priceL bs t) else f
@[reducible] def withD (bs : List Int) (t f : Int) : D := .tup [.tup (natD (thL bs t f)), .int (payL bs t f)]
@[reducible] def sp_with : Spc := fun ds S Q => ∃ bs t f, ds = [.tup (intD bs), .int t, .int f] ∧ bs.length ≤ 50 ∧ (∀ x ∈ bs, 0 ≤ x) ∧ 0 ≤ t ∧ ∀ S', Sub S S' → Q (withD bs t f) S'
theorem body_with_floor : Body 5 3 (w_with_floor sp_win sp_price) sp_with := by
  rintro ds S Q _ ⟨bs, t, f, rfl, hl, hb, ht, k⟩
  unfold w_with_floor
  (simp only [start, List.map_cons, List.map_nil, List.length_cons, List.length_nil, Nat.reduceAdd, Nat.reduceSub, List.replicate_succ, List.replicate_zero, List.cons_append, List.nil_append, Nat.sub_self, Nat.zero_add])
  ((with_reducible conv => whnf); repeat (first | (rw [natD_len]; with_reducible conv => whnf) | (rw [intD_len]; with_reducible conv => whnf) | (refine And.intro (okII _ _) ?_; rw [eqD_ii]; with_reducible conv => whnf) | (refine And.intro (by first | assumption | exact Exists.intro _ (by assumption) | exact ⟨rfl, rfl, by decide, by decide⟩ | exact Nat.le_of_ble_eq_true rfl | exact rfl) ?_; with_reducible conv => whnf) | (rw [isLst_at (by assumption)]; with_reducible conv => whnf) | (refine ifT rfl ?_; with_reducible conv => whnf) | (refine ifF rfl ?_; with_reducible conv => whnf) | (refine it_at (by assumption) ?_; with_reducible conv => whnf)))
  refine ⟨_, _, rfl, hl, ht, fun S1 hs1 => ?_⟩
  ((with_reducible conv => whnf); repeat (first | (rw [natD_len]; with_reducible conv => whnf) | (rw [intD_len]; with_reducible conv => whnf) | (refine And.intro (okII _ _) ?_; rw [eqD_ii]; with_reducible conv => whnf) | (refine And.intro (by first | assumption | exact Exists.intro _ (by assumption) | exact ⟨rfl, rfl, by decide, by decide⟩ | exact Nat.le_of_ble_eq_true rfl | exact rfl) ?_; with_reducible conv => whnf) | (rw [isLst_at (by assumption)]; with_reducible conv => whnf) | (refine ifT rfl ?_; with_reducible conv => whnf) | (refine ifF rfl ?_; with_reducible conv => whnf) | (refine it_at (by assumption) ?_; with_reducible conv => whnf)))
  rw [natD_map]
  have hwl := win_len bs t
  refine Lc_lf (fun k => decide (f ≤ bt bs k)) (fun k : Nat => .int k) (by unfold szL; omega) (by intros; trivial) (fun i S' R hi h hR => ?_) fun S2 hs2 => ?_
  · ((with_reducible conv => whnf); repeat (first | (rw [natD_len]; with_reducible conv => whnf) | (rw [intD_len]; with_reducible conv => whnf) | (refine And.intro (okII _ _) ?_; rw [eqD_ii]; with_reducible conv => whnf) | (refine And.intro (by first | assumption | exact Exists.intro _ (by assumption) | exact ⟨rfl, rfl, by decide, by decide⟩ | exact Nat.le_of_ble_eq_true rfl | exact rfl) ?_; with_reducible conv => whnf) | (rw [isLst_at (by assumption)]; with_reducible conv => whnf) | (refine ifT rfl ?_; with_reducible conv => whnf) | (refine ifF rfl ?_; with_reducible conv => whnf) | (refine it_at (by assumption) ?_; with_reducible conv => whnf)))
    refine ⟨_, atZ_bt (mem_win.mp hi).1, ?_⟩
    ((with_reducible conv => whnf); repeat (first | (rw [natD_len]; with_reducible conv => whnf) | (rw [intD_len]; with_reducible conv => whnf) | (refine And.intro (okII _ _) ?_; rw [eqD_ii]; with_reducible conv => whnf) | (refine And.intro (by first | assumption | exact Exists.intro _ (by assumption) | exact ⟨rfl, rfl, by decide, by decide⟩ | exact Nat.le_of_ble_eq_true rfl | exact rfl) ?_; with_reducible conv => whnf) | (rw [isLst_at (by assumption)]; with_reducible conv => whnf) | (refine ifT rfl ?_; with_reducible conv => whnf) | (refine ifF rfl ?_; with_reducible conv => whnf) | (refine it_at (by assumption) ?_; with_reducible conv => whnf)))
    have := hR S' (Sub.refl _)
    refine ite_d (fun hc => ?_) fun hc => ?_
    · rw [if_pos (decide_eq_true hc)] at this
      exact this
    · rw [if_neg (by simpa using hc)] at this
      exact this
  · rw [← natD_map]
    have e := at_push S2 (.lst (natD ((winL bs t).filter fun k => decide (f ≤ bt bs k))))
    have hs3 := (hs1.trans hs2).app [.lst (natD ((winL bs t).filter fun k => decide (f ≤ bt bs k)))]
    ((with_reducible conv => whnf); repeat (first | (rw [natD_len]; with_reducible conv => whnf) | (rw [intD_len]; with_reducible conv => whnf) | (refine And.intro (okII _ _) ?_; rw [eqD_ii]; with_reducible conv => whnf) | (refine And.intro (by first | assumption | exact Exists.intro _ (by assumption) | exact ⟨rfl, rfl, by decide, by decide⟩ | exact Nat.le_of_ble_eq_true rfl | exact rfl) ?_; with_reducible conv => whnf) | (rw [isLst_at (by assumption)]; with_reducible conv => whnf) | (refine ifT rfl ?_; with_reducible conv => whnf) | (refine ifF rfl ?_; with_reducible conv => whnf) | (refine it_at (by assumption) ?_; with_reducible conv => whnf)))
    unfold withD payL thL at k
    refine ite_d (fun hc => ?_) fun hc => ?_
    · ((with_reducible conv => whnf); repeat (first | (rw [natD_len]; with_reducible conv => whnf) | (rw [intD_len]; with_reducible conv => whnf) | (refine And.intro (okII _ _) ?_; rw [eqD_ii]; with_reducible conv => whnf) | (refine And.intro (by first | assumption | exact Exists.intro _ (by assumption) | exact ⟨rfl, rfl, by decide, by decide⟩ | exact Nat.le_of_ble_eq_true rfl | exact rfl) ?_; with_reducible conv => whnf) | (rw [isLst_at (by assumption)]; with_reducible conv => whnf) | (refine ifT rfl ?_; with_reducible conv => whnf) | (refine ifF rfl ?_; with_reducible conv => whnf) | (refine it_at (by assumption) ?_; with_reducible conv => whnf)))
      refine ⟨_, _, rfl, hl, hb, ht, fun S3 hs3' => ?_⟩
      ((with_reducible conv => whnf); repeat (first | (rw [natD_len]; with_reducible conv => whnf) | (rw [intD_len]; with_reducible conv => whnf) | (refine And.intro (okII _ _) ?_; rw [eqD_ii]; with_reducible conv => whnf) | (refine And.intro (by first | assumption | exact Exists.intro _ (by assumption) | exact ⟨rfl, rfl, by decide, by decide⟩ | exact Nat.le_of_ble_eq_true rfl | exact rfl) ?_; with_reducible conv => whnf) | (rw [isLst_at (by assumption)]; with_reducible conv => whnf) | (refine ifT rfl ?_; with_reducible conv => whnf) | (refine ifF rfl ?_; with_reducible conv => whnf) | (refine it_at (by assumption) ?_; with_reducible conv => whnf)))
      have := k _ (hs3.trans hs3')
      rw [if_pos (by omega)] at this
      exact this
    · ((with_reducible conv => whnf); repeat (first | (rw [natD_len]; with_reducible conv => whnf) | (rw [intD_len]; with_reducible conv => whnf) | (refine And.intro (okII _ _) ?_; rw [eqD_ii]; with_reducible conv => whnf) | (refine And.intro (by first | assumption | exact Exists.intro _ (by assumption) | exact ⟨rfl, rfl, by decide, by decide⟩ | exact Nat.le_of_ble_eq_true rfl | exact rfl) ?_; with_reducible conv => whnf) | (rw [isLst_at (by assumption)]; with_reducible conv => whnf) | (refine ifT rfl ?_; with_reducible conv => whnf) | (refine ifF rfl ?_; with_reducible conv => whnf) | (refine it_at (by assumption) ?_; with_reducible conv => whnf)))
      have := k _ hs3
      rw [if_neg (by omega)] at this
      exact this
/-! the least floor -/
def flStep (bs : List Int) (t : Int) (best : Option (Int × Int)) (f : Int) : Option (Int × Int) := match best with
  | none => some ((thL bs t f).length * payL bs t f, f)
  | some (b, g) => if b < (thL bs t f).length * payL bs t f then some ((thL bs t f).length * payL bs t f, f) else some (b, g)
def flD : Option (Int × Int) → D
  | none => .non
  | some (b, g) => .tup [.int b, .int g]
def flL (bs : List Int) (t : Int) (ms : List Int) : Option (Int × Int) := ms.foldl (flStep bs t) none
def flR (bs : List Int) (t : Int) (ms : List Int) : Int := match flL bs t ms with
  | none => 0
  | some (_, g) => g
theorem flL_some (bs : List Int) (t : Int) (ms : List Int) (h : ms ≠ []) : ∃ b g, flL bs t ms = some (b, g) := by
  have : ∀ (l : List Int) (o : Option (Int × Int)), (o.isSome ∨ l ≠ []) → (l.foldl (flStep bs t) o).isSome := by
    intro l
    induction l with
    | nil => intro o h; simpa using h
    | cons x l ih =>
      intro o _
      refine ih _ (Or.inl ?_)
      unfold flStep
      split
      · rfl
      · split <;> rfl
  have := this ms none (Or.inr h)
  obtain ⟨⟨b, g⟩, e⟩ := Option.isSome_iff_exists.mp this
  exact ⟨b, g, e⟩
@[reducible] def sp_floor : Spc := fun ds S Q => ∃ bs t, ds = [.tup (intD bs), .int t] ∧ bs.length ≤ 50 ∧ (∀ x ∈ bs, 0 ≤ x) ∧ 0 ≤ t ∧ ∀ ms S', ms.Pairwise (· < ·) → (∀ k, k ∈ ms ↔ k ∈ bs ++ [0]) → Sub S S' → Q (.int (flR bs t ms)) S'
theorem th_len (bs : List Int) (t f : Int) : (thL bs t f).length ≤ bs.length := Nat.le_trans (List.length_filter_le _ _) (win_len bs t)
theorem body_best_floor : Body 6 2 (w_best_floor sp_with) sp_floor := by
  rintro ds S Q _ ⟨bs, t, rfl, hl, hb, ht, k⟩
  unfold w_best_floor
  (simp only [start, List.map_cons, List.map_nil, List.length_cons, List.length_nil, Nat.reduceAdd, Nat.reduceSub, List.replicate_succ, List.replicate_zero, List.cons_append, List.nil_append, Nat.sub_self, Nat.zero_add])
  ((with_reducible conv => whnf); repeat (first | (rw [natD_len]; with_reducible conv => whnf) | (rw [intD_len]; with_reducible conv => whnf) | (refine And.intro (okII _ _) ?_; rw [eqD_ii]; with_reducible conv => whnf) | (refine And.intro (by first | assumption | exact Exists.intro _ (by assumption) | exact ⟨rfl, rfl, by decide, by decide⟩ | exact Nat.le_of_ble_eq_true rfl | exact rfl) ?_; with_reducible conv => whnf) | (rw [isLst_at (by assumption)]; with_reducible conv => whnf) | (refine ifT rfl ?_; with_reducible conv => whnf) | (refine ifF rfl ?_; with_reducible conv => whnf) | (refine it_at (by assumption) ?_; with_reducible conv => whnf)))
  have e1 := at_push S (.lst (intD bs))
  have e2 := at_push (S ++ [.lst (intD bs)]) (.lst [.int 0])
  have e1' := push_at e1 [.lst [.int 0]]
  have hs := ((Sub.refl S).app [.lst (intD bs)]).app [.lst [.int 0]]
  generalize hS1 : S ++ [.lst (intD bs)] ++ [.lst [.int 0]] = S1 at *
  ((with_reducible conv => whnf); repeat (first | (rw [natD_len]; with_reducible conv => whnf) | (rw [intD_len]; with_reducible conv => whnf) | (refine And.intro (okII _ _) ?_; rw [eqD_ii]; with_reducible conv => whnf) | (refine And.intro (by first | assumption | exact Exists.intro _ (by assumption) | exact ⟨rfl, rfl, by decide, by decide⟩ | exact Nat.le_of_ble_eq_true rfl | exact rfl) ?_; with_reducible conv => whnf) | (rw [isLst_at (by assumption)]; with_reducible conv => whnf) | (refine ifT rfl ?_; with_reducible conv => whnf) | (refine ifF rfl ?_; with_reducible conv => whnf) | (refine it_at (by assumption) ?_; with_reducible conv => whnf)))
  rw [show [D.int 0].length = 1 from rfl]
  refine ⟨by unfold szL; omega, ?_⟩
  have e3 := at_push S1 (.lst (intD bs ++ [.int 0]))
  refine ⟨bs ++ [0], ?_, ?_⟩
  · show (match (S1 ++ [O.lst (intD bs ++ [D.int 0])])[S1.length]? with | some (.lst xs) => some xs | _ => none) = _
    rw [e3]
    simp [intD]
  refine ⟨by simp; omega, fun ms ha hm => ?_⟩
  have hs2 := hs.app [.lst (intD bs ++ [.int 0])]
  generalize S1 ++ [.lst (intD bs ++ [.int 0])] = S2 at *
  have e4 := at_push S2 (.lst (intD ms))
  have hs3 := hs2.app [.lst (intD ms)]
  ((with_reducible conv => whnf); repeat (first | (rw [natD_len]; with_reducible conv => whnf) | (rw [intD_len]; with_reducible conv => whnf) | (refine And.intro (okII _ _) ?_; rw [eqD_ii]; with_reducible conv => whnf) | (refine And.intro (by first | assumption | exact Exists.intro _ (by assumption) | exact ⟨rfl, rfl, by decide, by decide⟩ | exact Nat.le_of_ble_eq_true rfl | exact rfl) ?_; with_reducible conv => whnf) | (rw [isLst_at (by assumption)]; with_reducible conv => whnf) | (refine ifT rfl ?_; with_reducible conv => whnf) | (refine ifF rfl ?_; with_reducible conv => whnf) | (refine it_at (by assumption) ?_; with_reducible conv => whnf)))
  generalize S2 ++ [.lst (intD ms)] = S3 at *
  generalize S2.length = m at *
  refine Loop_mk (fun i ρ S' => ∃ o3 o4 o5, ρ = [some (.tup (intD bs)), some (.int t), some (flD (flL bs t (ms.take i))), o3, o4, o5] ∧ Sub S3 S') ⟨none, none, none, rfl, Sub.refl _⟩ (by rintro i ρ' S' ⟨o3, o4, o5, rfl, h⟩; exact h _ _ e4) ?_ ?_
  · rintro i d ρ' S' hi ⟨o3, o4, o5, rfl, h⟩
    obtain ⟨x, hx, rfl⟩ := intD_get hi
    ((with_reducible conv => whnf); repeat (first | (rw [natD_len]; with_reducible conv => whnf) | (rw [intD_len]; with_reducible conv => whnf) | (refine And.intro (okII _ _) ?_; rw [eqD_ii]; with_reducible conv => whnf) | (refine And.intro (by first | assumption | exact Exists.intro _ (by assumption) | exact ⟨rfl, rfl, by decide, by decide⟩ | exact Nat.le_of_ble_eq_true rfl | exact rfl) ?_; with_reducible conv => whnf) | (rw [isLst_at (by assumption)]; with_reducible conv => whnf) | (refine ifT rfl ?_; with_reducible conv => whnf) | (refine ifF rfl ?_; with_reducible conv => whnf) | (refine it_at (by assumption) ?_; with_reducible conv => whnf)))
    refine ⟨_, _, _, rfl, hl, hb, ht, fun S4 h4 => ?_⟩
    have hstep : flL bs t (ms.take (i + 1)) = flStep bs t (flL bs t (ms.take i)) x := by
      rw [List.take_add_one, hx]
      simp [flL]
    rw [hstep]
    have htl := th_len bs t x
    generalize flL bs t (ms.take i) = o at *
    ((with_reducible conv => whnf); repeat (first | (rw [natD_len]; with_reducible conv => whnf) | (rw [intD_len]; with_reducible conv => whnf) | (refine And.intro (okII _ _) ?_; rw [eqD_ii]; with_reducible conv => whnf) | (refine And.intro (by first | assumption | exact Exists.intro _ (by assumption) | exact ⟨rfl, rfl, by decide, by decide⟩ | exact Nat.le_of_ble_eq_true rfl | exact rfl) ?_; with_reducible conv => whnf) | (rw [isLst_at (by assumption)]; with_reducible conv => whnf) | (refine ifT rfl ?_; with_reducible conv => whnf) | (refine ifF rfl ?_; with_reducible conv => whnf) | (refine it_at (by assumption) ?_; with_reducible conv => whnf)))
    have fin : ∀ S5, Sub S4 S5 → ∃ o3 o4 o5, [some (.tup (intD bs)), some (.int t), some (flD (flStep bs t o x)), some (.int x), some (.tup (natD (thL bs t x))), some (.int (payL bs t x))] = [some (.tup (intD bs)), some (.int t), some (flD (flStep bs t o x)), o3, o4, o5] ∧ Sub S3 S5 := fun S5 h5 => ⟨_, _, _, rfl, (h.trans h4).trans h5⟩
    cases o with
    | none =>
      ((with_reducible conv => whnf); repeat (first | (rw [natD_len]; with_reducible conv => whnf) | (rw [intD_len]; with_reducible conv => whnf) | (refine And.intro (okII _ _) ?_; rw [eqD_ii]; with_reducible conv => whnf) | (refine And.intro (by first | assumption | exact Exists.intro _ (by assumption) | exact ⟨rfl, rfl, by decide, by decide⟩ | exact Nat.le_of_ble_eq_true rfl | exact rfl) ?_; with_reducible conv => whnf) | (rw [isLst_at (by assumption)]; with_reducible conv => whnf) | (refine ifT rfl ?_; with_reducible conv => whnf) | (refine ifF rfl ?_; with_reducible conv => whnf) | (refine it_at (by assumption) ?_; with_reducible conv => whnf)))
      try rw [natD_len]
      refine ⟨smallMul' (by omega), ?_⟩
      ((with_reducible conv => whnf); repeat (first | (rw [natD_len]; with_reducible conv => whnf) | (rw [intD_len]; with_reducible conv => whnf) | (refine And.intro (okII _ _) ?_; rw [eqD_ii]; with_reducible conv => whnf) | (refine And.intro (by first | assumption | exact Exists.intro _ (by assumption) | exact ⟨rfl, rfl, by decide, by decide⟩ | exact Nat.le_of_ble_eq_true rfl | exact rfl) ?_; with_reducible conv => whnf) | (rw [isLst_at (by assumption)]; with_reducible conv => whnf) | (refine ifT rfl ?_; with_reducible conv => whnf) | (refine ifF rfl ?_; with_reducible conv => whnf) | (refine it_at (by assumption) ?_; with_reducible conv => whnf)))
      exact fin S4 (Sub.refl _)
    | some bg =>
      obtain ⟨b, g⟩ := bg
      ((with_reducible conv => whnf); repeat (first | (rw [natD_len]; with_reducible conv => whnf) | (rw [intD_len]; with_reducible conv => whnf) | (refine And.intro (okII _ _) ?_; rw [eqD_ii]; with_reducible conv => whnf) | (refine And.intro (by first | assumption | exact Exists.intro _ (by assumption) | exact ⟨rfl, rfl, by decide, by decide⟩ | exact Nat.le_of_ble_eq_true rfl | exact rfl) ?_; with_reducible conv => whnf) | (rw [isLst_at (by assumption)]; with_reducible conv => whnf) | (refine ifT rfl ?_; with_reducible conv => whnf) | (refine ifF rfl ?_; with_reducible conv => whnf) | (refine it_at (by assumption) ?_; with_reducible conv => whnf)))
      try rw [natD_len]
      refine ⟨smallMul' (by omega), ?_⟩
      ((with_reducible conv => whnf); repeat (first | (rw [natD_len]; with_reducible conv => whnf) | (rw [intD_len]; with_reducible conv => whnf) | (refine And.intro (okII _ _) ?_; rw [eqD_ii]; with_reducible conv => whnf) | (refine And.intro (by first | assumption | exact Exists.intro _ (by assumption) | exact ⟨rfl, rfl, by decide, by decide⟩ | exact Nat.le_of_ble_eq_true rfl | exact rfl) ?_; with_reducible conv => whnf) | (rw [isLst_at (by assumption)]; with_reducible conv => whnf) | (refine ifT rfl ?_; with_reducible conv => whnf) | (refine ifF rfl ?_; with_reducible conv => whnf) | (refine it_at (by assumption) ?_; with_reducible conv => whnf)))
      refine ⟨_, rfl, ?_⟩
      ((with_reducible conv => whnf); repeat (first | (rw [natD_len]; with_reducible conv => whnf) | (rw [intD_len]; with_reducible conv => whnf) | (refine And.intro (okII _ _) ?_; rw [eqD_ii]; with_reducible conv => whnf) | (refine And.intro (by first | assumption | exact Exists.intro _ (by assumption) | exact ⟨rfl, rfl, by decide, by decide⟩ | exact Nat.le_of_ble_eq_true rfl | exact rfl) ?_; with_reducible conv => whnf) | (rw [isLst_at (by assumption)]; with_reducible conv => whnf) | (refine ifT rfl ?_; with_reducible conv => whnf) | (refine ifF rfl ?_; with_reducible conv => whnf) | (refine it_at (by assumption) ?_; with_reducible conv => whnf)))
      refine ite_d (fun hc => ?_) fun hc => ?_
      · ((with_reducible conv => whnf); repeat (first | (rw [natD_len]; with_reducible conv => whnf) | (rw [intD_len]; with_reducible conv => whnf) | (refine And.intro (okII _ _) ?_; rw [eqD_ii]; with_reducible conv => whnf) | (refine And.intro (by first | assumption | exact Exists.intro _ (by assumption) | exact ⟨rfl, rfl, by decide, by decide⟩ | exact Nat.le_of_ble_eq_true rfl | exact rfl) ?_; with_reducible conv => whnf) | (rw [isLst_at (by assumption)]; with_reducible conv => whnf) | (refine ifT rfl ?_; with_reducible conv => whnf) | (refine ifF rfl ?_; with_reducible conv => whnf) | (refine it_at (by assumption) ?_; with_reducible conv => whnf)))
        try rw [natD_len]
        refine ⟨smallMul' (by omega), ?_⟩
        ((with_reducible conv => whnf); repeat (first | (rw [natD_len]; with_reducible conv => whnf) | (rw [intD_len]; with_reducible conv => whnf) | (refine And.intro (okII _ _) ?_; rw [eqD_ii]; with_reducible conv => whnf) | (refine And.intro (by first | assumption | exact Exists.intro _ (by assumption) | exact ⟨rfl, rfl, by decide, by decide⟩ | exact Nat.le_of_ble_eq_true rfl | exact rfl) ?_; with_reducible conv => whnf) | (rw [isLst_at (by assumption)]; with_reducible conv => whnf) | (refine ifT rfl ?_; with_reducible conv => whnf) | (refine ifF rfl ?_; with_reducible conv => whnf) | (refine it_at (by assumption) ?_; with_reducible conv => whnf)))
        rw [show flStep bs t (some (b, g)) x = some ((thL bs t x).length * payL bs t x, x) from if_pos hc] at fin ⊢
        exact fin S4 (Sub.refl _)
      · rw [show flStep bs t (some (b, g)) x = some (b, g) from if_neg hc] at fin ⊢
        exact fin S4 (Sub.refl _)
  · rintro ρ' S' ⟨o3, o4, o5, rfl, h⟩
    have hne : ms ≠ [] := fun e => by
      have := (hm 0).mpr (by simp)
      rw [e] at this
      cases this
    obtain ⟨b, g, e⟩ := flL_some bs t ms hne
    rw [intD_len, List.take_length, e]
    ((with_reducible conv => whnf); repeat (first | (rw [natD_len]; with_reducible conv => whnf) | (rw [intD_len]; with_reducible conv => whnf) | (refine And.intro (okII _ _) ?_; rw [eqD_ii]; with_reducible conv => whnf) | (refine And.intro (by first | assumption | exact Exists.intro _ (by assumption) | exact ⟨rfl, rfl, by decide, by decide⟩ | exact Nat.le_of_ble_eq_true rfl | exact rfl) ?_; with_reducible conv => whnf) | (rw [isLst_at (by assumption)]; with_reducible conv => whnf) | (refine ifT rfl ?_; with_reducible conv => whnf) | (refine ifF rfl ?_; with_reducible conv => whnf) | (refine it_at (by assumption) ?_; with_reducible conv => whnf)))
    have := k ms S' ha hm (hs3.trans h)
    unfold flR at this
    rw [e] at this
    exact ⟨_, rfl, this⟩
end K97
set_option linter.all false
set_option maxRecDepth 100000
set_option maxHeartbeats 4000000
namespace K97
open DL
theorem body_law_winners : Body 6 2 w_law_winners sp_win := by
  rintro ds S Q _ ⟨bs, t, rfl, hl, ht, k⟩
  unfold w_law_winners
  (simp only [start, List.map_cons, List.map_nil, List.length_cons, List.length_nil, Nat.reduceAdd, Nat.reduceSub, List.replicate_succ, List.replicate_zero, List.cons_append, List.nil_append, Nat.sub_self, Nat.zero_add])
  ((with_reducible conv => whnf); repeat (first | (rw [natD_len]; with_reducible conv => whnf) | (rw [intD_len]; with_reducible conv => whnf) | (refine And.intro (okII _ _) ?_; rw [eqD_ii]; with_reducible conv => whnf) | (refine And.intro (by first | assumption | exact Exists.intro _ (by assumption) | exact ⟨rfl, rfl, by decide, by decide⟩ | exact Nat.le_of_ble_eq_true rfl | exact rfl) ?_; with_reducible conv => whnf) | (rw [isLst_at (by assumption)]; with_reducible conv => whnf) | (refine ifT rfl ?_; with_reducible conv => whnf) | (refine ifF rfl ?_; with_reducible conv => whnf) | (refine it_at (by assumption) ?_; with_reducible conv => whnf)))
  have e0 := at_push S (.lst [])
  have hs0 := (Sub.refl S).app [.lst []]
  generalize S ++ [.lst []] = S1 at *
  refine ⟨⟨by omega, by omega⟩, ?_⟩
  refine Loop_mk (fun i ρ S' => ∃ o3 o4, ρ = [some (.tup (intD bs)), some (.int t), some (.ref S.length), o3, o4, none] ∧ S'[S.length]? = some (.lst (natD ((List.range i).filter fun k => decide ((aheadF bs.length (bt bs) k : Int) < t)))) ∧ Sub S S') ⟨none, none, rfl, e0, hs0⟩ (by intros; trivial) ?_ ?_
  · rintro i d ρ' S' hi ⟨o3, o4, rfl, e1, hs1⟩
    obtain ⟨hi1, rfl⟩ := rangeD_get hi
    have hib : i < bs.length := by omega
    rw [Int.zero_add]
    ((with_reducible conv => whnf); repeat (first | (rw [natD_len]; with_reducible conv => whnf) | (rw [intD_len]; with_reducible conv => whnf) | (refine And.intro (okII _ _) ?_; rw [eqD_ii]; with_reducible conv => whnf) | (refine And.intro (by first | assumption | exact Exists.intro _ (by assumption) | exact ⟨rfl, rfl, by decide, by decide⟩ | exact Nat.le_of_ble_eq_true rfl | exact rfl) ?_; with_reducible conv => whnf) | (rw [isLst_at (by assumption)]; with_reducible conv => whnf) | (refine ifT rfl ?_; with_reducible conv => whnf) | (refine ifF rfl ?_; with_reducible conv => whnf) | (refine it_at (by assumption) ?_; with_reducible conv => whnf)))
    refine ⟨⟨by omega, by omega⟩, ?_⟩
    refine Lc_rf (fun j => bef (bt bs) j i) (fun j => .int j) (by unfold szL; omega) (by intros; trivial) (fun j S2 R hj h2 hR => ?_) fun S2 hs2 => ?_
    · ((with_reducible conv => whnf); repeat (first | (rw [natD_len]; with_reducible conv => whnf) | (rw [intD_len]; with_reducible conv => whnf) | (refine And.intro (okII _ _) ?_; rw [eqD_ii]; with_reducible conv => whnf) | (refine And.intro (by first | assumption | exact Exists.intro _ (by assumption) | exact ⟨rfl, rfl, by decide, by decide⟩ | exact Nat.le_of_ble_eq_true rfl | exact rfl) ?_; with_reducible conv => whnf) | (rw [isLst_at (by assumption)]; with_reducible conv => whnf) | (refine ifT rfl ?_; with_reducible conv => whnf) | (refine ifF rfl ?_; with_reducible conv => whnf) | (refine it_at (by assumption) ?_; with_reducible conv => whnf)))
      refine ⟨_, atZ_bt hj, ?_⟩
      ((with_reducible conv => whnf); repeat (first | (rw [natD_len]; with_reducible conv => whnf) | (rw [intD_len]; with_reducible conv => whnf) | (refine And.intro (okII _ _) ?_; rw [eqD_ii]; with_reducible conv => whnf) | (refine And.intro (by first | assumption | exact Exists.intro _ (by assumption) | exact ⟨rfl, rfl, by decide, by decide⟩ | exact Nat.le_of_ble_eq_true rfl | exact rfl) ?_; with_reducible conv => whnf) | (rw [isLst_at (by assumption)]; with_reducible conv => whnf) | (refine ifT rfl ?_; with_reducible conv => whnf) | (refine ifF rfl ?_; with_reducible conv => whnf) | (refine it_at (by assumption) ?_; with_reducible conv => whnf)))
      refine ⟨_, atZ_bt hib, ?_⟩
      ((with_reducible conv => whnf); repeat (first | (rw [natD_len]; with_reducible conv => whnf) | (rw [intD_len]; with_reducible conv => whnf) | (refine And.intro (okII _ _) ?_; rw [eqD_ii]; with_reducible conv => whnf) | (refine And.intro (by first | assumption | exact Exists.intro _ (by assumption) | exact ⟨rfl, rfl, by decide, by decide⟩ | exact Nat.le_of_ble_eq_true rfl | exact rfl) ?_; with_reducible conv => whnf) | (rw [isLst_at (by assumption)]; with_reducible conv => whnf) | (refine ifT rfl ?_; with_reducible conv => whnf) | (refine ifF rfl ?_; with_reducible conv => whnf) | (refine it_at (by assumption) ?_; with_reducible conv => whnf)))
      have := hR S2 (Sub.refl _)
      refine ite_d (fun hc => ?_) fun hc => ?_
      · ((with_reducible conv => whnf); repeat (first | (rw [natD_len]; with_reducible conv => whnf) | (rw [intD_len]; with_reducible conv => whnf) | (refine And.intro (okII _ _) ?_; rw [eqD_ii]; with_reducible conv => whnf) | (refine And.intro (by first | assumption | exact Exists.intro _ (by assumption) | exact ⟨rfl, rfl, by decide, by decide⟩ | exact Nat.le_of_ble_eq_true rfl | exact rfl) ?_; with_reducible conv => whnf) | (rw [isLst_at (by assumption)]; with_reducible conv => whnf) | (refine ifT rfl ?_; with_reducible conv => whnf) | (refine ifF rfl ?_; with_reducible conv => whnf) | (refine it_at (by assumption) ?_; with_reducible conv => whnf)))
        rw [if_pos (bef_iff.mpr (Or.inl hc))] at this
        exact this
      · ((with_reducible conv => whnf); repeat (first | (rw [natD_len]; with_reducible conv => whnf) | (rw [intD_len]; with_reducible conv => whnf) | (refine And.intro (okII _ _) ?_; rw [eqD_ii]; with_reducible conv => whnf) | (refine And.intro (by first | assumption | exact Exists.intro _ (by assumption) | exact ⟨rfl, rfl, by decide, by decide⟩ | exact Nat.le_of_ble_eq_true rfl | exact rfl) ?_; with_reducible conv => whnf) | (rw [isLst_at (by assumption)]; with_reducible conv => whnf) | (refine ifT rfl ?_; with_reducible conv => whnf) | (refine ifF rfl ?_; with_reducible conv => whnf) | (refine it_at (by assumption) ?_; with_reducible conv => whnf)))
        refine ⟨_, atZ_bt hj, ?_⟩
        ((with_reducible conv => whnf); repeat (first | (rw [natD_len]; with_reducible conv => whnf) | (rw [intD_len]; with_reducible conv => whnf) | (refine And.intro (okII _ _) ?_; rw [eqD_ii]; with_reducible conv => whnf) | (refine And.intro (by first | assumption | exact Exists.intro _ (by assumption) | exact ⟨rfl, rfl, by decide, by decide⟩ | exact Nat.le_of_ble_eq_true rfl | exact rfl) ?_; with_reducible conv => whnf) | (rw [isLst_at (by assumption)]; with_reducible conv => whnf) | (refine ifT rfl ?_; with_reducible conv => whnf) | (refine ifF rfl ?_; with_reducible conv => whnf) | (refine it_at (by assumption) ?_; with_reducible conv => whnf)))
        refine ⟨_, atZ_bt hib, ?_⟩
        ((with_reducible conv => whnf); repeat (first | (rw [natD_len]; with_reducible conv => whnf) | (rw [intD_len]; with_reducible conv => whnf) | (refine And.intro (okII _ _) ?_; rw [eqD_ii]; with_reducible conv => whnf) | (refine And.intro (by first | assumption | exact Exists.intro _ (by assumption) | exact ⟨rfl, rfl, by decide, by decide⟩ | exact Nat.le_of_ble_eq_true rfl | exact rfl) ?_; with_reducible conv => whnf) | (rw [isLst_at (by assumption)]; with_reducible conv => whnf) | (refine ifT rfl ?_; with_reducible conv => whnf) | (refine ifF rfl ?_; with_reducible conv => whnf) | (refine it_at (by assumption) ?_; with_reducible conv => whnf)))
        refine ite_d (fun hc2 => ?_) fun hc2 => ?_
        · ((with_reducible conv => whnf); repeat (first | (rw [natD_len]; with_reducible conv => whnf) | (rw [intD_len]; with_reducible conv => whnf) | (refine And.intro (okII _ _) ?_; rw [eqD_ii]; with_reducible conv => whnf) | (refine And.intro (by first | assumption | exact Exists.intro _ (by assumption) | exact ⟨rfl, rfl, by decide, by decide⟩ | exact Nat.le_of_ble_eq_true rfl | exact rfl) ?_; with_reducible conv => whnf) | (rw [isLst_at (by assumption)]; with_reducible conv => whnf) | (refine ifT rfl ?_; with_reducible conv => whnf) | (refine ifF rfl ?_; with_reducible conv => whnf) | (refine it_at (by assumption) ?_; with_reducible conv => whnf)))
          refine ite_d (fun hc3 => ?_) fun hc3 => ?_
          · ((with_reducible conv => whnf); repeat (first | (rw [natD_len]; with_reducible conv => whnf) | (rw [intD_len]; with_reducible conv => whnf) | (refine And.intro (okII _ _) ?_; rw [eqD_ii]; with_reducible conv => whnf) | (refine And.intro (by first | assumption | exact Exists.intro _ (by assumption) | exact ⟨rfl, rfl, by decide, by decide⟩ | exact Nat.le_of_ble_eq_true rfl | exact rfl) ?_; with_reducible conv => whnf) | (rw [isLst_at (by assumption)]; with_reducible conv => whnf) | (refine ifT rfl ?_; with_reducible conv => whnf) | (refine ifF rfl ?_; with_reducible conv => whnf) | (refine it_at (by assumption) ?_; with_reducible conv => whnf)))
            rw [if_pos (bef_iff.mpr (by omega))] at this
            exact this
          · ((with_reducible conv => whnf); repeat (first | (rw [natD_len]; with_reducible conv => whnf) | (rw [intD_len]; with_reducible conv => whnf) | (refine And.intro (okII _ _) ?_; rw [eqD_ii]; with_reducible conv => whnf) | (refine And.intro (by first | assumption | exact Exists.intro _ (by assumption) | exact ⟨rfl, rfl, by decide, by decide⟩ | exact Nat.le_of_ble_eq_true rfl | exact rfl) ?_; with_reducible conv => whnf) | (rw [isLst_at (by assumption)]; with_reducible conv => whnf) | (refine ifT rfl ?_; with_reducible conv => whnf) | (refine ifF rfl ?_; with_reducible conv => whnf) | (refine it_at (by assumption) ?_; with_reducible conv => whnf)))
            rw [if_neg (by rw [bef_iff]; omega)] at this
            exact this
        · ((with_reducible conv => whnf); repeat (first | (rw [natD_len]; with_reducible conv => whnf) | (rw [intD_len]; with_reducible conv => whnf) | (refine And.intro (okII _ _) ?_; rw [eqD_ii]; with_reducible conv => whnf) | (refine And.intro (by first | assumption | exact Exists.intro _ (by assumption) | exact ⟨rfl, rfl, by decide, by decide⟩ | exact Nat.le_of_ble_eq_true rfl | exact rfl) ?_; with_reducible conv => whnf) | (rw [isLst_at (by assumption)]; with_reducible conv => whnf) | (refine ifT rfl ?_; with_reducible conv => whnf) | (refine ifF rfl ?_; with_reducible conv => whnf) | (refine it_at (by assumption) ?_; with_reducible conv => whnf)))
          rw [if_neg (by rw [bef_iff]; omega)] at this
          exact this
    · have e2 := at_push S2 (.lst (((List.range bs.length).filter fun j => bef (bt bs) j i).map fun (j : Nat) => D.int (j : Int)))
      have e3 := push_at (hs2 _ _ e1) [.lst (((List.range bs.length).filter fun j => bef (bt bs) j i).map fun (j : Nat) => D.int (j : Int))]
      have hs3 := (hs1.trans hs2).app [.lst (((List.range bs.length).filter fun j => bef (bt bs) j i).map fun (j : Nat) => D.int (j : Int))]
      ((with_reducible conv => whnf); repeat (first | (rw [natD_len]; with_reducible conv => whnf) | (rw [intD_len]; with_reducible conv => whnf) | (refine And.intro (okII _ _) ?_; rw [eqD_ii]; with_reducible conv => whnf) | (refine And.intro (by first | assumption | exact Exists.intro _ (by assumption) | exact ⟨rfl, rfl, by decide, by decide⟩ | exact Nat.le_of_ble_eq_true rfl | exact rfl) ?_; with_reducible conv => whnf) | (rw [isLst_at (by assumption)]; with_reducible conv => whnf) | (refine ifT rfl ?_; with_reducible conv => whnf) | (refine ifF rfl ?_; with_reducible conv => whnf) | (refine it_at (by assumption) ?_; with_reducible conv => whnf)))
      generalize S2 ++ [.lst (((List.range bs.length).filter fun j => bef (bt bs) j i).map fun (j : Nat) => D.int (j : Int))] = S3 at *
      rw [List.length_map, ← List.countP_eq_length_filter]
      have hr : (List.range (i + 1)).filter (fun k => decide ((aheadF bs.length (bt bs) k : Int) < t)) = (List.range i).filter (fun k => decide ((aheadF bs.length (bt bs) k : Int) < t)) ++ if (aheadF bs.length (bt bs) i : Int) < t then [i] else [] := by
        rw [List.range_succ, List.filter_append]
        congr 1
        by_cases hc : (aheadF bs.length (bt bs) i : Int) < t <;> simp [hc]
      rw [hr]
      have hln : (natD ((List.range i).filter fun k => decide ((aheadF bs.length (bt bs) k : Int) < t))).length < szL := by
        rw [natD_len]
        have := List.length_filter_le (fun k => decide ((aheadF bs.length (bt bs) k : Int) < t)) (List.range i)
        rw [List.length_range] at this
        unfold szL
        omega
      rw [natD_len] at hln
      refine ite_d (fun hc => ?_) fun hc => ?_
      · ((with_reducible conv => whnf); repeat (first | (rw [natD_len]; with_reducible conv => whnf) | (rw [intD_len]; with_reducible conv => whnf) | (refine And.intro (okII _ _) ?_; rw [eqD_ii]; with_reducible conv => whnf) | (refine And.intro (by first | assumption | exact Exists.intro _ (by assumption) | exact ⟨rfl, rfl, by decide, by decide⟩ | exact Nat.le_of_ble_eq_true rfl | exact rfl) ?_; with_reducible conv => whnf) | (rw [isLst_at (by assumption)]; with_reducible conv => whnf) | (refine ifT rfl ?_; with_reducible conv => whnf) | (refine ifF rfl ?_; with_reducible conv => whnf) | (refine it_at (by assumption) ?_; with_reducible conv => whnf)))
        have hc' : (aheadF bs.length (bt bs) i : Int) < t := hc
        rw [if_pos hc']
        refine ⟨_, _, rfl, ?_, hs3.put (Nat.le_refl _)⟩
        rw [at_set e3]
        simp [natD, intD]
      · ((with_reducible conv => whnf); repeat (first | (rw [natD_len]; with_reducible conv => whnf) | (rw [intD_len]; with_reducible conv => whnf) | (refine And.intro (okII _ _) ?_; rw [eqD_ii]; with_reducible conv => whnf) | (refine And.intro (by first | assumption | exact Exists.intro _ (by assumption) | exact ⟨rfl, rfl, by decide, by decide⟩ | exact Nat.le_of_ble_eq_true rfl | exact rfl) ?_; with_reducible conv => whnf) | (rw [isLst_at (by assumption)]; with_reducible conv => whnf) | (refine ifT rfl ?_; with_reducible conv => whnf) | (refine ifF rfl ?_; with_reducible conv => whnf) | (refine it_at (by assumption) ?_; with_reducible conv => whnf)))
        have hc' : ¬ (aheadF bs.length (bt bs) i : Int) < t := hc
        rw [if_neg hc', List.append_nil]
        exact ⟨_, _, rfl, e3, hs3⟩
  · rintro ρ' S' ⟨o3, o4, rfl, e1, hs1⟩
    rw [rangeD_len, show ((bs.length : Int) - 0).toNat = bs.length by omega] at e1
    ((with_reducible conv => whnf); repeat (first | (rw [natD_len]; with_reducible conv => whnf) | (rw [intD_len]; with_reducible conv => whnf) | (refine And.intro (okII _ _) ?_; rw [eqD_ii]; with_reducible conv => whnf) | (refine And.intro (by first | assumption | exact Exists.intro _ (by assumption) | exact ⟨rfl, rfl, by decide, by decide⟩ | exact Nat.le_of_ble_eq_true rfl | exact rfl) ?_; with_reducible conv => whnf) | (rw [isLst_at (by assumption)]; with_reducible conv => whnf) | (refine ifT rfl ?_; with_reducible conv => whnf) | (refine ifF rfl ?_; with_reducible conv => whnf) | (refine it_at (by assumption) ?_; with_reducible conv => whnf)))
    exact k _ hs1
theorem body_law_price : Body 4 2 (w_law_price sp_win) sp_price := by
  rintro ds S Q _ ⟨bs, t, rfl, hl, hb, ht, k⟩
  unfold w_law_price
  (simp only [start, List.map_cons, List.map_nil, List.length_cons, List.length_nil, Nat.reduceAdd, Nat.reduceSub, List.replicate_succ, List.replicate_zero, List.cons_append, List.nil_append, Nat.sub_self, Nat.zero_add])
  ((with_reducible conv => whnf); repeat (first | (rw [natD_len]; with_reducible conv => whnf) | (rw [intD_len]; with_reducible conv => whnf) | (refine And.intro (okII _ _) ?_; rw [eqD_ii]; with_reducible conv => whnf) | (refine And.intro (by first | assumption | exact Exists.intro _ (by assumption) | exact ⟨rfl, rfl, by decide, by decide⟩ | exact Nat.le_of_ble_eq_true rfl | exact rfl) ?_; with_reducible conv => whnf) | (rw [isLst_at (by assumption)]; with_reducible conv => whnf) | (refine ifT rfl ?_; with_reducible conv => whnf) | (refine ifF rfl ?_; with_reducible conv => whnf) | (refine it_at (by assumption) ?_; with_reducible conv => whnf)))
  refine ⟨_, _, rfl, hl, ht, fun S1 hs1 => ?_⟩
  ((with_reducible conv => whnf); repeat (first | (rw [natD_len]; with_reducible conv => whnf) | (rw [intD_len]; with_reducible conv => whnf) | (refine And.intro (okII _ _) ?_; rw [eqD_ii]; with_reducible conv => whnf) | (refine And.intro (by first | assumption | exact Exists.intro _ (by assumption) | exact ⟨rfl, rfl, by decide, by decide⟩ | exact Nat.le_of_ble_eq_true rfl | exact rfl) ?_; with_reducible conv => whnf) | (rw [isLst_at (by assumption)]; with_reducible conv => whnf) | (refine ifT rfl ?_; with_reducible conv => whnf) | (refine ifF rfl ?_; with_reducible conv => whnf) | (refine it_at (by assumption) ?_; with_reducible conv => whnf)))
  have e0 := at_push S1 (.lst [.int 0])
  have hs0 := hs1.app [.lst [.int 0]]
  generalize S1 ++ [.lst [.int 0]] = S2 at *
  refine ⟨⟨by omega, by omega⟩, ?_⟩
  refine Lc_rf (fun k => !decide ((aheadF bs.length (bt bs) k : Int) < t)) (fun j => .int (bt bs j)) (by unfold szL; omega) (by intros; trivial) (fun j S3 R hj h2 hR => ?_) fun S3 hs2 => ?_
  · ((with_reducible conv => whnf); repeat (first | (rw [natD_len]; with_reducible conv => whnf) | (rw [intD_len]; with_reducible conv => whnf) | (refine And.intro (okII _ _) ?_; rw [eqD_ii]; with_reducible conv => whnf) | (refine And.intro (by first | assumption | exact Exists.intro _ (by assumption) | exact ⟨rfl, rfl, by decide, by decide⟩ | exact Nat.le_of_ble_eq_true rfl | exact rfl) ?_; with_reducible conv => whnf) | (rw [isLst_at (by assumption)]; with_reducible conv => whnf) | (refine ifT rfl ?_; with_reducible conv => whnf) | (refine ifF rfl ?_; with_reducible conv => whnf) | (refine it_at (by assumption) ?_; with_reducible conv => whnf)))
    refine ⟨⟨rfl, flats0_int _⟩, ?_⟩
    rw [any_nat]
    ((with_reducible conv => whnf); repeat (first | (rw [natD_len]; with_reducible conv => whnf) | (rw [intD_len]; with_reducible conv => whnf) | (refine And.intro (okII _ _) ?_; rw [eqD_ii]; with_reducible conv => whnf) | (refine And.intro (by first | assumption | exact Exists.intro _ (by assumption) | exact ⟨rfl, rfl, by decide, by decide⟩ | exact Nat.le_of_ble_eq_true rfl | exact rfl) ?_; with_reducible conv => whnf) | (rw [isLst_at (by assumption)]; with_reducible conv => whnf) | (refine ifT rfl ?_; with_reducible conv => whnf) | (refine ifF rfl ?_; with_reducible conv => whnf) | (refine it_at (by assumption) ?_; with_reducible conv => whnf)))
    have := hR S3 (Sub.refl _)
    have hm : decide (j ∈ winL bs t) = decide ((aheadF bs.length (bt bs) j : Int) < t) := by
      rw [decide_eq_decide, mem_win]
      exact ⟨fun h => h.2, fun h => ⟨hj, h⟩⟩
    rw [hm]
    cases e : decide ((aheadF bs.length (bt bs) j : Int) < t) with
    | true =>
      rw [e] at this
      ((with_reducible conv => whnf); repeat (first | (rw [natD_len]; with_reducible conv => whnf) | (rw [intD_len]; with_reducible conv => whnf) | (refine And.intro (okII _ _) ?_; rw [eqD_ii]; with_reducible conv => whnf) | (refine And.intro (by first | assumption | exact Exists.intro _ (by assumption) | exact ⟨rfl, rfl, by decide, by decide⟩ | exact Nat.le_of_ble_eq_true rfl | exact rfl) ?_; with_reducible conv => whnf) | (rw [isLst_at (by assumption)]; with_reducible conv => whnf) | (refine ifT rfl ?_; with_reducible conv => whnf) | (refine ifF rfl ?_; with_reducible conv => whnf) | (refine it_at (by assumption) ?_; with_reducible conv => whnf)))
      exact this
    | false =>
      rw [e] at this
      ((with_reducible conv => whnf); repeat (first | (rw [natD_len]; with_reducible conv => whnf) | (rw [intD_len]; with_reducible conv => whnf) | (refine And.intro (okII _ _) ?_; rw [eqD_ii]; with_reducible conv => whnf) | (refine And.intro (by first | assumption | exact Exists.intro _ (by assumption) | exact ⟨rfl, rfl, by decide, by decide⟩ | exact Nat.le_of_ble_eq_true rfl | exact rfl) ?_; with_reducible conv => whnf) | (rw [isLst_at (by assumption)]; with_reducible conv => whnf) | (refine ifT rfl ?_; with_reducible conv => whnf) | (refine ifF rfl ?_; with_reducible conv => whnf) | (refine it_at (by assumption) ?_; with_reducible conv => whnf)))
      exact ⟨_, atZ_bt hj, this⟩
  · have hL : ((List.range bs.length).filter fun k => !decide ((aheadF bs.length (bt bs) k : Int) < t)).map (fun (j : Nat) => D.int (bt bs j)) = intD (lossF bs.length (bt bs) t) := by
      simp [intD, lossF]
    rw [hL]
    have e1 := at_push S3 (.lst (intD (lossF bs.length (bt bs) t)))
    have e2 := push_at (hs2 _ _ e0) [.lst (intD (lossF bs.length (bt bs) t))]
    have hs3 := (hs0.trans hs2).app [.lst (intD (lossF bs.length (bt bs) t))]
    generalize S3 ++ [.lst (intD (lossF bs.length (bt bs) t))] = S4 at *
    ((with_reducible conv => whnf); repeat (first | (rw [natD_len]; with_reducible conv => whnf) | (rw [intD_len]; with_reducible conv => whnf) | (refine And.intro (okII _ _) ?_; rw [eqD_ii]; with_reducible conv => whnf) | (refine And.intro (by first | assumption | exact Exists.intro _ (by assumption) | exact ⟨rfl, rfl, by decide, by decide⟩ | exact Nat.le_of_ble_eq_true rfl | exact rfl) ?_; with_reducible conv => whnf) | (rw [isLst_at (by assumption)]; with_reducible conv => whnf) | (refine ifT rfl ?_; with_reducible conv => whnf) | (refine ifF rfl ?_; with_reducible conv => whnf) | (refine it_at (by assumption) ?_; with_reducible conv => whnf)))
    have hll : (lossF bs.length (bt bs) t).length ≤ bs.length := by
      unfold lossF
      rw [List.length_map]
      have := List.length_filter_le (fun k => !decide ((aheadF bs.length (bt bs) k : Int) < t)) (List.range bs.length)
      rwa [List.length_range] at this
    rw [show [D.int 0].length = 1 from rfl]
    refine ⟨by unfold szL; omega, ?_⟩
    refine ⟨0 :: lossF bs.length (bt bs) t, ?_, by simp, fun m h1 h2 => ?_⟩
    · show (match (S4 ++ [O.lst ([D.int 0] ++ intD (lossF bs.length (bt bs) t))])[S4.length]? with | some (.lst xs) => some xs | _ => none) = _
      rw [at_push]
      rfl
    · rw [mx_eq h1 h2]
      exact k _ (hs3.app _)
theorem body_law_gain : Body 4 4 (w_law_gain sp_win sp_price) sp_gain := by
  rintro ds S Q _ ⟨w, bs, t, k, rfl, hl, hb, ht, kk⟩
  unfold w_law_gain
  (simp only [start, List.map_cons, List.map_nil, List.length_cons, List.length_nil, Nat.reduceAdd, Nat.reduceSub, List.replicate_succ, List.replicate_zero, List.cons_append, List.nil_append, Nat.sub_self, Nat.zero_add])
  ((with_reducible conv => whnf); repeat (first | (rw [natD_len]; with_reducible conv => whnf) | (rw [intD_len]; with_reducible conv => whnf) | (refine And.intro (okII _ _) ?_; rw [eqD_ii]; with_reducible conv => whnf) | (refine And.intro (by first | assumption | exact Exists.intro _ (by assumption) | exact ⟨rfl, rfl, by decide, by decide⟩ | exact Nat.le_of_ble_eq_true rfl | exact rfl) ?_; with_reducible conv => whnf) | (rw [isLst_at (by assumption)]; with_reducible conv => whnf) | (refine ifT rfl ?_; with_reducible conv => whnf) | (refine ifF rfl ?_; with_reducible conv => whnf) | (refine it_at (by assumption) ?_; with_reducible conv => whnf)))
  refine ⟨_, _, rfl, hl, ht, fun S1 hs1 => ?_⟩
  ((with_reducible conv => whnf); repeat (first | (rw [natD_len]; with_reducible conv => whnf) | (rw [intD_len]; with_reducible conv => whnf) | (refine And.intro (okII _ _) ?_; rw [eqD_ii]; with_reducible conv => whnf) | (refine And.intro (by first | assumption | exact Exists.intro _ (by assumption) | exact ⟨rfl, rfl, by decide, by decide⟩ | exact Nat.le_of_ble_eq_true rfl | exact rfl) ?_; with_reducible conv => whnf) | (rw [isLst_at (by assumption)]; with_reducible conv => whnf) | (refine ifT rfl ?_; with_reducible conv => whnf) | (refine ifF rfl ?_; with_reducible conv => whnf) | (refine it_at (by assumption) ?_; with_reducible conv => whnf)))
  refine ⟨⟨rfl, flats0_int _⟩, ?_⟩
  rw [any_nat]
  ((with_reducible conv => whnf); repeat (first | (rw [natD_len]; with_reducible conv => whnf) | (rw [intD_len]; with_reducible conv => whnf) | (refine And.intro (okII _ _) ?_; rw [eqD_ii]; with_reducible conv => whnf) | (refine And.intro (by first | assumption | exact Exists.intro _ (by assumption) | exact ⟨rfl, rfl, by decide, by decide⟩ | exact Nat.le_of_ble_eq_true rfl | exact rfl) ?_; with_reducible conv => whnf) | (rw [isLst_at (by assumption)]; with_reducible conv => whnf) | (refine ifT rfl ?_; with_reducible conv => whnf) | (refine ifF rfl ?_; with_reducible conv => whnf) | (refine it_at (by assumption) ?_; with_reducible conv => whnf)))
  unfold gainL at kk
  refine ite_d (fun hc => ?_) fun hc => ?_
  · ((with_reducible conv => whnf); repeat (first | (rw [natD_len]; with_reducible conv => whnf) | (rw [intD_len]; with_reducible conv => whnf) | (refine And.intro (okII _ _) ?_; rw [eqD_ii]; with_reducible conv => whnf) | (refine And.intro (by first | assumption | exact Exists.intro _ (by assumption) | exact ⟨rfl, rfl, by decide, by decide⟩ | exact Nat.le_of_ble_eq_true rfl | exact rfl) ?_; with_reducible conv => whnf) | (rw [isLst_at (by assumption)]; with_reducible conv => whnf) | (refine ifT rfl ?_; with_reducible conv => whnf) | (refine ifF rfl ?_; with_reducible conv => whnf) | (refine it_at (by assumption) ?_; with_reducible conv => whnf)))
    refine ⟨_, _, rfl, hl, hb, ht, fun S2 hs2 => ?_⟩
    ((with_reducible conv => whnf); repeat (first | (rw [natD_len]; with_reducible conv => whnf) | (rw [intD_len]; with_reducible conv => whnf) | (refine And.intro (okII _ _) ?_; rw [eqD_ii]; with_reducible conv => whnf) | (refine And.intro (by first | assumption | exact Exists.intro _ (by assumption) | exact ⟨rfl, rfl, by decide, by decide⟩ | exact Nat.le_of_ble_eq_true rfl | exact rfl) ?_; with_reducible conv => whnf) | (rw [isLst_at (by assumption)]; with_reducible conv => whnf) | (refine ifT rfl ?_; with_reducible conv => whnf) | (refine ifF rfl ?_; with_reducible conv => whnf) | (refine it_at (by assumption) ?_; with_reducible conv => whnf)))
    have := kk S2 (hs1.trans hs2)
    rwa [if_pos hc] at this
  · ((with_reducible conv => whnf); repeat (first | (rw [natD_len]; with_reducible conv => whnf) | (rw [intD_len]; with_reducible conv => whnf) | (refine And.intro (okII _ _) ?_; rw [eqD_ii]; with_reducible conv => whnf) | (refine And.intro (by first | assumption | exact Exists.intro _ (by assumption) | exact ⟨rfl, rfl, by decide, by decide⟩ | exact Nat.le_of_ble_eq_true rfl | exact rfl) ?_; with_reducible conv => whnf) | (rw [isLst_at (by assumption)]; with_reducible conv => whnf) | (refine ifT rfl ?_; with_reducible conv => whnf) | (refine ifF rfl ?_; with_reducible conv => whnf) | (refine it_at (by assumption) ?_; with_reducible conv => whnf)))
    have := kk S1 hs1
    rwa [if_neg hc] at this
theorem body_law_with : Body 5 3 (w_law_with sp_win sp_price) sp_with := by
  rintro ds S Q _ ⟨bs, t, f, rfl, hl, hb, ht, k⟩
  unfold w_law_with
  (simp only [start, List.map_cons, List.map_nil, List.length_cons, List.length_nil, Nat.reduceAdd, Nat.reduceSub, List.replicate_succ, List.replicate_zero, List.cons_append, List.nil_append, Nat.sub_self, Nat.zero_add])
  ((with_reducible conv => whnf); repeat (first | (rw [natD_len]; with_reducible conv => whnf) | (rw [intD_len]; with_reducible conv => whnf) | (refine And.intro (okII _ _) ?_; rw [eqD_ii]; with_reducible conv => whnf) | (refine And.intro (by first | assumption | exact Exists.intro _ (by assumption) | exact ⟨rfl, rfl, by decide, by decide⟩ | exact Nat.le_of_ble_eq_true rfl | exact rfl) ?_; with_reducible conv => whnf) | (rw [isLst_at (by assumption)]; with_reducible conv => whnf) | (refine ifT rfl ?_; with_reducible conv => whnf) | (refine ifF rfl ?_; with_reducible conv => whnf) | (refine it_at (by assumption) ?_; with_reducible conv => whnf)))
  refine ⟨_, _, rfl, hl, ht, fun S1 hs1 => ?_⟩
  ((with_reducible conv => whnf); repeat (first | (rw [natD_len]; with_reducible conv => whnf) | (rw [intD_len]; with_reducible conv => whnf) | (refine And.intro (okII _ _) ?_; rw [eqD_ii]; with_reducible conv => whnf) | (refine And.intro (by first | assumption | exact Exists.intro _ (by assumption) | exact ⟨rfl, rfl, by decide, by decide⟩ | exact Nat.le_of_ble_eq_true rfl | exact rfl) ?_; with_reducible conv => whnf) | (rw [isLst_at (by assumption)]; with_reducible conv => whnf) | (refine ifT rfl ?_; with_reducible conv => whnf) | (refine ifF rfl ?_; with_reducible conv => whnf) | (refine it_at (by assumption) ?_; with_reducible conv => whnf)))
  rw [natD_map]
  have hwl := win_len bs t
  refine Lc_lf (fun k => decide (f ≤ bt bs k)) (fun k : Nat => .int k) (by unfold szL; omega) (by intros; trivial) (fun i S' R hi h hR => ?_) fun S2 hs2 => ?_
  · ((with_reducible conv => whnf); repeat (first | (rw [natD_len]; with_reducible conv => whnf) | (rw [intD_len]; with_reducible conv => whnf) | (refine And.intro (okII _ _) ?_; rw [eqD_ii]; with_reducible conv => whnf) | (refine And.intro (by first | assumption | exact Exists.intro _ (by assumption) | exact ⟨rfl, rfl, by decide, by decide⟩ | exact Nat.le_of_ble_eq_true rfl | exact rfl) ?_; with_reducible conv => whnf) | (rw [isLst_at (by assumption)]; with_reducible conv => whnf) | (refine ifT rfl ?_; with_reducible conv => whnf) | (refine ifF rfl ?_; with_reducible conv => whnf) | (refine it_at (by assumption) ?_; with_reducible conv => whnf)))
    refine ⟨_, atZ_bt (mem_win.mp hi).1, ?_⟩
    ((with_reducible conv => whnf); repeat (first | (rw [natD_len]; with_reducible conv => whnf) | (rw [intD_len]; with_reducible conv => whnf) | (refine And.intro (okII _ _) ?_; rw [eqD_ii]; with_reducible conv => whnf) | (refine And.intro (by first | assumption | exact Exists.intro _ (by assumption) | exact ⟨rfl, rfl, by decide, by decide⟩ | exact Nat.le_of_ble_eq_true rfl | exact rfl) ?_; with_reducible conv => whnf) | (rw [isLst_at (by assumption)]; with_reducible conv => whnf) | (refine ifT rfl ?_; with_reducible conv => whnf) | (refine ifF rfl ?_; with_reducible conv => whnf) | (refine it_at (by assumption) ?_; with_reducible conv => whnf)))
    have := hR S' (Sub.refl _)
    refine ite_d (fun hc => ?_) fun hc => ?_
    · rw [if_pos (decide_eq_true hc)] at this
      exact this
    · rw [if_neg (by simpa using hc)] at this
      exact this
  · rw [← natD_map]
    have e := at_push S2 (.lst (natD ((winL bs t).filter fun k => decide (f ≤ bt bs k))))
    have hs3 := (hs1.trans hs2).app [.lst (natD ((winL bs t).filter fun k => decide (f ≤ bt bs k)))]
    ((with_reducible conv => whnf); repeat (first | (rw [natD_len]; with_reducible conv => whnf) | (rw [intD_len]; with_reducible conv => whnf) | (refine And.intro (okII _ _) ?_; rw [eqD_ii]; with_reducible conv => whnf) | (refine And.intro (by first | assumption | exact Exists.intro _ (by assumption) | exact ⟨rfl, rfl, by decide, by decide⟩ | exact Nat.le_of_ble_eq_true rfl | exact rfl) ?_; with_reducible conv => whnf) | (rw [isLst_at (by assumption)]; with_reducible conv => whnf) | (refine ifT rfl ?_; with_reducible conv => whnf) | (refine ifF rfl ?_; with_reducible conv => whnf) | (refine it_at (by assumption) ?_; with_reducible conv => whnf)))
    unfold withD payL thL at k
    refine ite_d (fun hc => ?_) fun hc => ?_
    · ((with_reducible conv => whnf); repeat (first | (rw [natD_len]; with_reducible conv => whnf) | (rw [intD_len]; with_reducible conv => whnf) | (refine And.intro (okII _ _) ?_; rw [eqD_ii]; with_reducible conv => whnf) | (refine And.intro (by first | assumption | exact Exists.intro _ (by assumption) | exact ⟨rfl, rfl, by decide, by decide⟩ | exact Nat.le_of_ble_eq_true rfl | exact rfl) ?_; with_reducible conv => whnf) | (rw [isLst_at (by assumption)]; with_reducible conv => whnf) | (refine ifT rfl ?_; with_reducible conv => whnf) | (refine ifF rfl ?_; with_reducible conv => whnf) | (refine it_at (by assumption) ?_; with_reducible conv => whnf)))
      have := k _ hs3
      rw [if_neg (by omega)] at this
      exact this
    · ((with_reducible conv => whnf); repeat (first | (rw [natD_len]; with_reducible conv => whnf) | (rw [intD_len]; with_reducible conv => whnf) | (refine And.intro (okII _ _) ?_; rw [eqD_ii]; with_reducible conv => whnf) | (refine And.intro (by first | assumption | exact Exists.intro _ (by assumption) | exact ⟨rfl, rfl, by decide, by decide⟩ | exact Nat.le_of_ble_eq_true rfl | exact rfl) ?_; with_reducible conv => whnf) | (rw [isLst_at (by assumption)]; with_reducible conv => whnf) | (refine ifT rfl ?_; with_reducible conv => whnf) | (refine ifF rfl ?_; with_reducible conv => whnf) | (refine it_at (by assumption) ?_; with_reducible conv => whnf)))
      refine ⟨_, _, rfl, hl, hb, ht, fun S3 hs3' => ?_⟩
      ((with_reducible conv => whnf); repeat (first | (rw [natD_len]; with_reducible conv => whnf) | (rw [intD_len]; with_reducible conv => whnf) | (refine And.intro (okII _ _) ?_; rw [eqD_ii]; with_reducible conv => whnf) | (refine And.intro (by first | assumption | exact Exists.intro _ (by assumption) | exact ⟨rfl, rfl, by decide, by decide⟩ | exact Nat.le_of_ble_eq_true rfl | exact rfl) ?_; with_reducible conv => whnf) | (rw [isLst_at (by assumption)]; with_reducible conv => whnf) | (refine ifT rfl ?_; with_reducible conv => whnf) | (refine ifF rfl ?_; with_reducible conv => whnf) | (refine it_at (by assumption) ?_; with_reducible conv => whnf)))
      have := k _ (hs3.trans hs3')
      rw [if_pos (by omega)] at this
      exact this
theorem body_law_floor : Body 6 2 (w_law_floor sp_with) sp_floor := by
  rintro ds S Q _ ⟨bs, t, rfl, hl, hb, ht, k⟩
  unfold w_law_floor
  (simp only [start, List.map_cons, List.map_nil, List.length_cons, List.length_nil, Nat.reduceAdd, Nat.reduceSub, List.replicate_succ, List.replicate_zero, List.cons_append, List.nil_append, Nat.sub_self, Nat.zero_add])
  ((with_reducible conv => whnf); repeat (first | (rw [natD_len]; with_reducible conv => whnf) | (rw [intD_len]; with_reducible conv => whnf) | (refine And.intro (okII _ _) ?_; rw [eqD_ii]; with_reducible conv => whnf) | (refine And.intro (by first | assumption | exact Exists.intro _ (by assumption) | exact ⟨rfl, rfl, by decide, by decide⟩ | exact Nat.le_of_ble_eq_true rfl | exact rfl) ?_; with_reducible conv => whnf) | (rw [isLst_at (by assumption)]; with_reducible conv => whnf) | (refine ifT rfl ?_; with_reducible conv => whnf) | (refine ifF rfl ?_; with_reducible conv => whnf) | (refine it_at (by assumption) ?_; with_reducible conv => whnf)))
  rw [show [D.int 0].length = 1 from rfl]
  refine ⟨by unfold szL; omega, ?_⟩
  refine ⟨bs ++ [0], ?_, ?_⟩
  · show some (intD bs ++ [D.int 0]) = _
    simp [intD]
  refine ⟨by simp; omega, fun ms ha hm => ?_⟩
  have e4 := at_push S (.lst (intD ms))
  have hs3 := (Sub.refl S).app [.lst (intD ms)]
  ((with_reducible conv => whnf); repeat (first | (rw [natD_len]; with_reducible conv => whnf) | (rw [intD_len]; with_reducible conv => whnf) | (refine And.intro (okII _ _) ?_; rw [eqD_ii]; with_reducible conv => whnf) | (refine And.intro (by first | assumption | exact Exists.intro _ (by assumption) | exact ⟨rfl, rfl, by decide, by decide⟩ | exact Nat.le_of_ble_eq_true rfl | exact rfl) ?_; with_reducible conv => whnf) | (rw [isLst_at (by assumption)]; with_reducible conv => whnf) | (refine ifT rfl ?_; with_reducible conv => whnf) | (refine ifF rfl ?_; with_reducible conv => whnf) | (refine it_at (by assumption) ?_; with_reducible conv => whnf)))
  generalize S ++ [.lst (intD ms)] = S3 at *
  generalize S.length = m at *
  refine Loop_mk (fun i ρ S' => ∃ o3 o4 o5, ρ = [some (.tup (intD bs)), some (.int t), some (flD (flL bs t (ms.take i))), o3, o4, o5] ∧ Sub S3 S') ⟨none, none, none, rfl, Sub.refl _⟩ (by rintro i ρ' S' ⟨o3, o4, o5, rfl, h⟩; exact h _ _ e4) ?_ ?_
  · rintro i d ρ' S' hi ⟨o3, o4, o5, rfl, h⟩
    obtain ⟨x, hx, rfl⟩ := intD_get hi
    ((with_reducible conv => whnf); repeat (first | (rw [natD_len]; with_reducible conv => whnf) | (rw [intD_len]; with_reducible conv => whnf) | (refine And.intro (okII _ _) ?_; rw [eqD_ii]; with_reducible conv => whnf) | (refine And.intro (by first | assumption | exact Exists.intro _ (by assumption) | exact ⟨rfl, rfl, by decide, by decide⟩ | exact Nat.le_of_ble_eq_true rfl | exact rfl) ?_; with_reducible conv => whnf) | (rw [isLst_at (by assumption)]; with_reducible conv => whnf) | (refine ifT rfl ?_; with_reducible conv => whnf) | (refine ifF rfl ?_; with_reducible conv => whnf) | (refine it_at (by assumption) ?_; with_reducible conv => whnf)))
    refine ⟨_, _, _, rfl, hl, hb, ht, fun S4 h4 => ?_⟩
    have hstep : flL bs t (ms.take (i + 1)) = flStep bs t (flL bs t (ms.take i)) x := by
      rw [List.take_add_one, hx]
      simp [flL]
    rw [hstep]
    have htl := th_len bs t x
    generalize flL bs t (ms.take i) = o at *
    ((with_reducible conv => whnf); repeat (first | (rw [natD_len]; with_reducible conv => whnf) | (rw [intD_len]; with_reducible conv => whnf) | (refine And.intro (okII _ _) ?_; rw [eqD_ii]; with_reducible conv => whnf) | (refine And.intro (by first | assumption | exact Exists.intro _ (by assumption) | exact ⟨rfl, rfl, by decide, by decide⟩ | exact Nat.le_of_ble_eq_true rfl | exact rfl) ?_; with_reducible conv => whnf) | (rw [isLst_at (by assumption)]; with_reducible conv => whnf) | (refine ifT rfl ?_; with_reducible conv => whnf) | (refine ifF rfl ?_; with_reducible conv => whnf) | (refine it_at (by assumption) ?_; with_reducible conv => whnf)))
    have fin : ∀ S5, Sub S4 S5 → ∃ o3 o4 o5, [some (.tup (intD bs)), some (.int t), some (flD (flStep bs t o x)), some (.int x), some (.tup (natD (thL bs t x))), some (.int (payL bs t x))] = [some (.tup (intD bs)), some (.int t), some (flD (flStep bs t o x)), o3, o4, o5] ∧ Sub S3 S5 := fun S5 h5 => ⟨_, _, _, rfl, (h.trans h4).trans h5⟩
    cases o with
    | none =>
      ((with_reducible conv => whnf); repeat (first | (rw [natD_len]; with_reducible conv => whnf) | (rw [intD_len]; with_reducible conv => whnf) | (refine And.intro (okII _ _) ?_; rw [eqD_ii]; with_reducible conv => whnf) | (refine And.intro (by first | assumption | exact Exists.intro _ (by assumption) | exact ⟨rfl, rfl, by decide, by decide⟩ | exact Nat.le_of_ble_eq_true rfl | exact rfl) ?_; with_reducible conv => whnf) | (rw [isLst_at (by assumption)]; with_reducible conv => whnf) | (refine ifT rfl ?_; with_reducible conv => whnf) | (refine ifF rfl ?_; with_reducible conv => whnf) | (refine it_at (by assumption) ?_; with_reducible conv => whnf)))
      try rw [natD_len]
      refine ⟨smallMul' (by omega), ?_⟩
      ((with_reducible conv => whnf); repeat (first | (rw [natD_len]; with_reducible conv => whnf) | (rw [intD_len]; with_reducible conv => whnf) | (refine And.intro (okII _ _) ?_; rw [eqD_ii]; with_reducible conv => whnf) | (refine And.intro (by first | assumption | exact Exists.intro _ (by assumption) | exact ⟨rfl, rfl, by decide, by decide⟩ | exact Nat.le_of_ble_eq_true rfl | exact rfl) ?_; with_reducible conv => whnf) | (rw [isLst_at (by assumption)]; with_reducible conv => whnf) | (refine ifT rfl ?_; with_reducible conv => whnf) | (refine ifF rfl ?_; with_reducible conv => whnf) | (refine it_at (by assumption) ?_; with_reducible conv => whnf)))
      exact fin S4 (Sub.refl _)
    | some bg =>
      obtain ⟨b, g⟩ := bg
      ((with_reducible conv => whnf); repeat (first | (rw [natD_len]; with_reducible conv => whnf) | (rw [intD_len]; with_reducible conv => whnf) | (refine And.intro (okII _ _) ?_; rw [eqD_ii]; with_reducible conv => whnf) | (refine And.intro (by first | assumption | exact Exists.intro _ (by assumption) | exact ⟨rfl, rfl, by decide, by decide⟩ | exact Nat.le_of_ble_eq_true rfl | exact rfl) ?_; with_reducible conv => whnf) | (rw [isLst_at (by assumption)]; with_reducible conv => whnf) | (refine ifT rfl ?_; with_reducible conv => whnf) | (refine ifF rfl ?_; with_reducible conv => whnf) | (refine it_at (by assumption) ?_; with_reducible conv => whnf)))
      try rw [natD_len]
      refine ⟨smallMul' (by omega), ?_⟩
      ((with_reducible conv => whnf); repeat (first | (rw [natD_len]; with_reducible conv => whnf) | (rw [intD_len]; with_reducible conv => whnf) | (refine And.intro (okII _ _) ?_; rw [eqD_ii]; with_reducible conv => whnf) | (refine And.intro (by first | assumption | exact Exists.intro _ (by assumption) | exact ⟨rfl, rfl, by decide, by decide⟩ | exact Nat.le_of_ble_eq_true rfl | exact rfl) ?_; with_reducible conv => whnf) | (rw [isLst_at (by assumption)]; with_reducible conv => whnf) | (refine ifT rfl ?_; with_reducible conv => whnf) | (refine ifF rfl ?_; with_reducible conv => whnf) | (refine it_at (by assumption) ?_; with_reducible conv => whnf)))
      refine ⟨_, rfl, ?_⟩
      ((with_reducible conv => whnf); repeat (first | (rw [natD_len]; with_reducible conv => whnf) | (rw [intD_len]; with_reducible conv => whnf) | (refine And.intro (okII _ _) ?_; rw [eqD_ii]; with_reducible conv => whnf) | (refine And.intro (by first | assumption | exact Exists.intro _ (by assumption) | exact ⟨rfl, rfl, by decide, by decide⟩ | exact Nat.le_of_ble_eq_true rfl | exact rfl) ?_; with_reducible conv => whnf) | (rw [isLst_at (by assumption)]; with_reducible conv => whnf) | (refine ifT rfl ?_; with_reducible conv => whnf) | (refine ifF rfl ?_; with_reducible conv => whnf) | (refine it_at (by assumption) ?_; with_reducible conv => whnf)))
      refine ite_d (fun hc => ?_) fun hc => ?_
      · ((with_reducible conv => whnf); repeat (first | (rw [natD_len]; with_reducible conv => whnf) | (rw [intD_len]; with_reducible conv => whnf) | (refine And.intro (okII _ _) ?_; rw [eqD_ii]; with_reducible conv => whnf) | (refine And.intro (by first | assumption | exact Exists.intro _ (by assumption) | exact ⟨rfl, rfl, by decide, by decide⟩ | exact Nat.le_of_ble_eq_true rfl | exact rfl) ?_; with_reducible conv => whnf) | (rw [isLst_at (by assumption)]; with_reducible conv => whnf) | (refine ifT rfl ?_; with_reducible conv => whnf) | (refine ifF rfl ?_; with_reducible conv => whnf) | (refine it_at (by assumption) ?_; with_reducible conv => whnf)))
        try rw [natD_len]
        refine ⟨smallMul' (by omega), ?_⟩
        ((with_reducible conv => whnf); repeat (first | (rw [natD_len]; with_reducible conv => whnf) | (rw [intD_len]; with_reducible conv => whnf) | (refine And.intro (okII _ _) ?_; rw [eqD_ii]; with_reducible conv => whnf) | (refine And.intro (by first | assumption | exact Exists.intro _ (by assumption) | exact ⟨rfl, rfl, by decide, by decide⟩ | exact Nat.le_of_ble_eq_true rfl | exact rfl) ?_; with_reducible conv => whnf) | (rw [isLst_at (by assumption)]; with_reducible conv => whnf) | (refine ifT rfl ?_; with_reducible conv => whnf) | (refine ifF rfl ?_; with_reducible conv => whnf) | (refine it_at (by assumption) ?_; with_reducible conv => whnf)))
        rw [show flStep bs t (some (b, g)) x = some ((thL bs t x).length * payL bs t x, x) from if_pos hc] at fin ⊢
        exact fin S4 (Sub.refl _)
      · rw [show flStep bs t (some (b, g)) x = some (b, g) from if_neg hc] at fin ⊢
        exact fin S4 (Sub.refl _)
  · rintro ρ' S' ⟨o3, o4, o5, rfl, h⟩
    have hne : ms ≠ [] := fun e => by
      have := (hm 0).mpr (by simp)
      rw [e] at this
      cases this
    obtain ⟨b, g, e⟩ := flL_some bs t ms hne
    rw [intD_len, List.take_length, e]
    ((with_reducible conv => whnf); repeat (first | (rw [natD_len]; with_reducible conv => whnf) | (rw [intD_len]; with_reducible conv => whnf) | (refine And.intro (okII _ _) ?_; rw [eqD_ii]; with_reducible conv => whnf) | (refine And.intro (by first | assumption | exact Exists.intro _ (by assumption) | exact ⟨rfl, rfl, by decide, by decide⟩ | exact Nat.le_of_ble_eq_true rfl | exact rfl) ?_; with_reducible conv => whnf) | (rw [isLst_at (by assumption)]; with_reducible conv => whnf) | (refine ifT rfl ?_; with_reducible conv => whnf) | (refine ifF rfl ?_; with_reducible conv => whnf) | (refine it_at (by assumption) ?_; with_reducible conv => whnf)))
    have := k ms S' ha hm (hs3.trans h)
    unfold flR at this
    rw [e] at this
    exact ⟨_, rfl, this⟩
@[reducible] def sp_bids : Spc := fun ds S Q => ∃ n c m, ds = [.ref n, .int c, .int m] ∧ 0 ≤ c ∧ 0 ≤ m ∧ m ≤ 40 ∧ Dr n S ∧ ∀ bs S', (bs.length : Int) = m → (∀ x ∈ bs, 0 ≤ x) → Dr n S' → Ch n S S' → Q (.tup (intD bs)) S'
theorem body_law_bids : Body 6 3 (w_law_bids sp_take) sp_bids := by
  rintro ds S Q _ ⟨n, c, m, rfl, hc, hm0, hm1, hd, k⟩
  unfold w_law_bids
  (simp only [start, List.map_cons, List.map_nil, List.length_cons, List.length_nil, Nat.reduceAdd, Nat.reduceSub, List.replicate_succ, List.replicate_zero, List.cons_append, List.nil_append, Nat.sub_self, Nat.zero_add])
  ((with_reducible conv => whnf); repeat (first | (rw [natD_len]; with_reducible conv => whnf) | (rw [intD_len]; with_reducible conv => whnf) | (refine And.intro (okII _ _) ?_; rw [eqD_ii]; with_reducible conv => whnf) | (refine And.intro (by first | assumption | exact Exists.intro _ (by assumption) | exact ⟨rfl, rfl, by decide, by decide⟩ | exact Nat.le_of_ble_eq_true rfl | exact rfl) ?_; with_reducible conv => whnf) | (rw [isLst_at (by assumption)]; with_reducible conv => whnf) | (refine ifT rfl ?_; with_reducible conv => whnf) | (refine ifF rfl ?_; with_reducible conv => whnf) | (refine it_at (by assumption) ?_; with_reducible conv => whnf)))
  refine ⟨_, _, rfl, by decide, hd, fun st S1 h0 h1 hd1 hc1 => ?_⟩
  ((with_reducible conv => whnf); repeat (first | (rw [natD_len]; with_reducible conv => whnf) | (rw [intD_len]; with_reducible conv => whnf) | (refine And.intro (okII _ _) ?_; rw [eqD_ii]; with_reducible conv => whnf) | (refine And.intro (by first | assumption | exact Exists.intro _ (by assumption) | exact ⟨rfl, rfl, by decide, by decide⟩ | exact Nat.le_of_ble_eq_true rfl | exact rfl) ?_; with_reducible conv => whnf) | (rw [isLst_at (by assumption)]; with_reducible conv => whnf) | (refine ifT rfl ?_; with_reducible conv => whnf) | (refine ifF rfl ?_; with_reducible conv => whnf) | (refine it_at (by assumption) ?_; with_reducible conv => whnf)))
  have e0 := at_push S1 (.lst [])
  have hs0 := hc1.app [.lst []]
  have hd2 := hd1.app [.lst []]
  have hnl := hd1.lt
  have hlen := hc1.len hnl
  generalize S1.length = nf at *
  generalize S1 ++ [.lst []] = S2 at *
  refine ⟨⟨by omega, by omega⟩, ?_⟩
  refine Loop_mk (fun i ρ S' => ∃ o5 bs, ρ = [some (.ref n), some (.int c), some (.int m), some (.int st), some (.ref nf), o5] ∧ S'[nf]? = some (.lst (intD bs)) ∧ bs.length = i ∧ (∀ x ∈ bs, 0 ≤ x) ∧ Dr n S' ∧ Ch n S S') ⟨none, [], rfl, e0, rfl, by simp, hd2, hs0⟩ (by intros; trivial) ?_ ?_
  · rintro i d ρ' S' hi ⟨o5, bs, rfl, f1, f2, f3, f4, f5⟩
    obtain ⟨hi1, rfl⟩ := rangeD_get hi
    ((with_reducible conv => whnf); repeat (first | (rw [natD_len]; with_reducible conv => whnf) | (rw [intD_len]; with_reducible conv => whnf) | (refine And.intro (okII _ _) ?_; rw [eqD_ii]; with_reducible conv => whnf) | (refine And.intro (by first | assumption | exact Exists.intro _ (by assumption) | exact ⟨rfl, rfl, by decide, by decide⟩ | exact Nat.le_of_ble_eq_true rfl | exact rfl) ?_; with_reducible conv => whnf) | (rw [isLst_at (by assumption)]; with_reducible conv => whnf) | (refine ifT rfl ?_; with_reducible conv => whnf) | (refine ifF rfl ?_; with_reducible conv => whnf) | (refine it_at (by assumption) ?_; with_reducible conv => whnf)))
    refine ⟨_, _, rfl, by decide, f4, fun r1 T1 a0 a1 ad ac => ?_⟩
    have f1 := ac nf _ (by omega) f1
    have f5 := f5.trans ac
    ((with_reducible conv => whnf); repeat (first | (rw [natD_len]; with_reducible conv => whnf) | (rw [intD_len]; with_reducible conv => whnf) | (refine And.intro (okII _ _) ?_; rw [eqD_ii]; with_reducible conv => whnf) | (refine And.intro (by first | assumption | exact Exists.intro _ (by assumption) | exact ⟨rfl, rfl, by decide, by decide⟩ | exact Nat.le_of_ble_eq_true rfl | exact rfl) ?_; with_reducible conv => whnf) | (rw [isLst_at (by assumption)]; with_reducible conv => whnf) | (refine ifT rfl ?_; with_reducible conv => whnf) | (refine ifF rfl ?_; with_reducible conv => whnf) | (refine it_at (by assumption) ?_; with_reducible conv => whnf)))
    refine ⟨_, _, rfl, by decide, ad, fun r2 T2 b0 b1 bd bc => ?_⟩
    have f1 := bc nf _ (by omega) f1
    have f5 := f5.trans bc
    ((with_reducible conv => whnf); repeat (first | (rw [natD_len]; with_reducible conv => whnf) | (rw [intD_len]; with_reducible conv => whnf) | (refine And.intro (okII _ _) ?_; rw [eqD_ii]; with_reducible conv => whnf) | (refine And.intro (by first | assumption | exact Exists.intro _ (by assumption) | exact ⟨rfl, rfl, by decide, by decide⟩ | exact Nat.le_of_ble_eq_true rfl | exact rfl) ?_; with_reducible conv => whnf) | (rw [isLst_at (by assumption)]; with_reducible conv => whnf) | (refine ifT rfl ?_; with_reducible conv => whnf) | (refine ifF rfl ?_; with_reducible conv => whnf) | (refine it_at (by assumption) ?_; with_reducible conv => whnf)))
    refine ⟨_, _, rfl, by decide, bd, fun r3 T3 c0 c1 cd cc => ?_⟩
    have f1 := cc nf _ (by omega) f1
    have f5 := f5.trans cc
    ((with_reducible conv => whnf); repeat (first | (rw [natD_len]; with_reducible conv => whnf) | (rw [intD_len]; with_reducible conv => whnf) | (refine And.intro (okII _ _) ?_; rw [eqD_ii]; with_reducible conv => whnf) | (refine And.intro (by first | assumption | exact Exists.intro _ (by assumption) | exact ⟨rfl, rfl, by decide, by decide⟩ | exact Nat.le_of_ble_eq_true rfl | exact rfl) ?_; with_reducible conv => whnf) | (rw [isLst_at (by assumption)]; with_reducible conv => whnf) | (refine ifT rfl ?_; with_reducible conv => whnf) | (refine ifF rfl ?_; with_reducible conv => whnf) | (refine it_at (by assumption) ?_; with_reducible conv => whnf)))
    refine ⟨_, _, rfl, by decide, cd, fun r4 T4 d0 d1 dd dc => ?_⟩
    have f1 := dc nf _ (by omega) f1
    have f5 := f5.trans dc
    ((with_reducible conv => whnf); repeat (first | (rw [natD_len]; with_reducible conv => whnf) | (rw [intD_len]; with_reducible conv => whnf) | (refine And.intro (okII _ _) ?_; rw [eqD_ii]; with_reducible conv => whnf) | (refine And.intro (by first | assumption | exact Exists.intro _ (by assumption) | exact ⟨rfl, rfl, by decide, by decide⟩ | exact Nat.le_of_ble_eq_true rfl | exact rfl) ?_; with_reducible conv => whnf) | (rw [isLst_at (by assumption)]; with_reducible conv => whnf) | (refine ifT rfl ?_; with_reducible conv => whnf) | (refine ifF rfl ?_; with_reducible conv => whnf) | (refine it_at (by assumption) ?_; with_reducible conv => whnf)))
    have g1 := at_push T4 (.lst (intD [c, c + 1, r4]))
    have f1 := push_at f1 [.lst (intD [c, c + 1, r4])]
    have f5 := f5.app [.lst (intD [c, c + 1, r4])]
    have hd5 := dd.app [.lst (intD [c, c + 1, r4])]
    have hlt := dd.lt
    generalize T4.length = n4 at *
    refine ⟨_, _, rfl, by decide, hd5, fun r5 T5 p0 p1 pd pc => ?_⟩
    have f1 := pc nf _ (by omega) f1
    have f5 := f5.trans pc
    have g1 := pc n4 _ (by omega) g1
    ((with_reducible conv => whnf); repeat (first | (rw [natD_len]; with_reducible conv => whnf) | (rw [intD_len]; with_reducible conv => whnf) | (refine And.intro (okII _ _) ?_; rw [eqD_ii]; with_reducible conv => whnf) | (refine And.intro (by first | assumption | exact Exists.intro _ (by assumption) | exact ⟨rfl, rfl, by decide, by decide⟩ | exact Nat.le_of_ble_eq_true rfl | exact rfl) ?_; with_reducible conv => whnf) | (rw [isLst_at (by assumption)]; with_reducible conv => whnf) | (refine ifT rfl ?_; with_reducible conv => whnf) | (refine ifF rfl ?_; with_reducible conv => whnf) | (refine it_at (by assumption) ?_; with_reducible conv => whnf)))
    have hq : ∀ x ∈ [c, c + 1, r4], 0 ≤ x := by simp; omega
    have hz := atZ_intD (ns := [c, c + 1, r4]) p0 p1
    have hq2 : 0 ≤ [c, c + 1, r4].getD r5.toNat 0 := by
      have hl5 : r5.toNat < [c, c + 1, r4].length := by simp; omega
      rw [List.getD_eq_getElem?_getD, List.getElem?_eq_getElem hl5]
      exact hq _ (List.getElem_mem _)
    generalize [c, c + 1, r4].getD r5.toNat 0 = v at *
    refine ⟨_, hz, ?_⟩
    ((with_reducible conv => whnf); repeat (first | (rw [natD_len]; with_reducible conv => whnf) | (rw [intD_len]; with_reducible conv => whnf) | (refine And.intro (okII _ _) ?_; rw [eqD_ii]; with_reducible conv => whnf) | (refine And.intro (by first | assumption | exact Exists.intro _ (by assumption) | exact ⟨rfl, rfl, by decide, by decide⟩ | exact Nat.le_of_ble_eq_true rfl | exact rfl) ?_; with_reducible conv => whnf) | (rw [isLst_at (by assumption)]; with_reducible conv => whnf) | (refine ifT rfl ?_; with_reducible conv => whnf) | (refine ifF rfl ?_; with_reducible conv => whnf) | (refine it_at (by assumption) ?_; with_reducible conv => whnf)))
    have g2 := at_push T5 (.lst (intD [r1, r2, r3, v]))
    have f1 := push_at f1 [.lst (intD [r1, r2, r3, v])]
    have f5 := f5.app [.lst (intD [r1, r2, r3, v])]
    have hd6 := pd.app [.lst (intD [r1, r2, r3, v])]
    ((with_reducible conv => whnf); repeat (first | (rw [natD_len]; with_reducible conv => whnf) | (rw [intD_len]; with_reducible conv => whnf) | (refine And.intro (okII _ _) ?_; rw [eqD_ii]; with_reducible conv => whnf) | (refine And.intro (by first | assumption | exact Exists.intro _ (by assumption) | exact ⟨rfl, rfl, by decide, by decide⟩ | exact Nat.le_of_ble_eq_true rfl | exact rfl) ?_; with_reducible conv => whnf) | (rw [isLst_at (by assumption)]; with_reducible conv => whnf) | (refine ifT rfl ?_; with_reducible conv => whnf) | (refine ifF rfl ?_; with_reducible conv => whnf) | (refine it_at (by assumption) ?_; with_reducible conv => whnf)))
    have hz := atZ_intD (ns := [r1, r2, r3, v]) h0 h1
    have hq3 : 0 ≤ [r1, r2, r3, v].getD st.toNat 0 := by
      have hl5 : st.toNat < [r1, r2, r3, v].length := by simp; omega
      rw [List.getD_eq_getElem?_getD, List.getElem?_eq_getElem hl5]
      have hq : ∀ x ∈ [r1, r2, r3, v], 0 ≤ x := by simp; omega
      exact hq _ (List.getElem_mem _)
    generalize [r1, r2, r3, v].getD st.toNat 0 = u at *
    refine ⟨_, hz, ?_⟩
    ((with_reducible conv => whnf); repeat (first | (rw [natD_len]; with_reducible conv => whnf) | (rw [intD_len]; with_reducible conv => whnf) | (refine And.intro (okII _ _) ?_; rw [eqD_ii]; with_reducible conv => whnf) | (refine And.intro (by first | assumption | exact Exists.intro _ (by assumption) | exact ⟨rfl, rfl, by decide, by decide⟩ | exact Nat.le_of_ble_eq_true rfl | exact rfl) ?_; with_reducible conv => whnf) | (rw [isLst_at (by assumption)]; with_reducible conv => whnf) | (refine ifT rfl ?_; with_reducible conv => whnf) | (refine ifF rfl ?_; with_reducible conv => whnf) | (refine it_at (by assumption) ?_; with_reducible conv => whnf)))
    refine ⟨by unfold szL; omega, ?_⟩
    refine ⟨_, bs ++ [u], rfl, ?_, by simp [f2], ?_, hd6.put (by omega), f5.put (by omega)⟩
    · exact (at_set f1).trans (by simp [intD])
    · intro x hx
      rcases List.mem_append.mp hx with h | h
      · exact f3 x h
      · rw [List.mem_singleton.mp h]; exact hq3
  · rintro ρ' S' ⟨o5, bs, rfl, f1, f2, f3, f4, f5⟩
    rw [rangeD_len] at f2
    ((with_reducible conv => whnf); repeat (first | (rw [natD_len]; with_reducible conv => whnf) | (rw [intD_len]; with_reducible conv => whnf) | (refine And.intro (okII _ _) ?_; rw [eqD_ii]; with_reducible conv => whnf) | (refine And.intro (by first | assumption | exact Exists.intro _ (by assumption) | exact ⟨rfl, rfl, by decide, by decide⟩ | exact Nat.le_of_ble_eq_true rfl | exact rfl) ?_; with_reducible conv => whnf) | (rw [isLst_at (by assumption)]; with_reducible conv => whnf) | (refine ifT rfl ?_; with_reducible conv => whnf) | (refine ifF rfl ?_; with_reducible conv => whnf) | (refine it_at (by assumption) ?_; with_reducible conv => whnf)))
    exact k _ _ (by omega) f3 f4 f5
end K97
set_option linter.all false
set_option maxRecDepth 100000
set_option maxHeartbeats 4000000
namespace K97
open DL
theorem setD {bs : List Int} {k : Nat} (x : Int) (hk : k < bs.length) : cut (intD bs) none (some (k : Int)) ++ [.int x] ++ cut (intD bs) (some ((k : Int) + 1)) none = intD (bs.set k x) := by
  rw [cut_take _ (by omega), cut_drop _ (by omega), List.set_eq_take_append_cons_drop, if_pos hk]
  simp [intD]
theorem cutl {bs : List Int} {a b : Option Int} : (cut (intD bs) a b).length ≤ bs.length := by
  unfold cut
  rw [List.length_take, List.length_drop, intD_len]
  omega
@[reducible] def sp_true : Spc := fun ds S Q => ∃ n bs t, ∃ k : Nat, ds = [.ref n, .tup (intD bs), .int t, .int k] ∧ bs.length ≤ 9 ∧ k < bs.length ∧ (∀ x ∈ bs, 0 ≤ x) ∧ 1 ≤ t ∧ Dr n S ∧ ∀ S', Dr n S' → Ch n S S' → Q (.bl true) S'
theorem set_nn {bs : List Int} {k : Nat} {x : Int} (h : ∀ y ∈ bs, 0 ≤ y) (hx : 0 ≤ x) : ∀ y ∈ bs.set k x, 0 ≤ y := fun y hy => by
  rcases List.mem_or_eq_of_mem_set hy with h1 | h1
  · exact h y h1
  · rw [h1]; exact hx
theorem get_nn {bs : List Int} (h : ∀ y ∈ bs, 0 ≤ y) (k : Nat) : 0 ≤ bs.getD k 0 := by
  rw [List.getD_eq_getElem?_getD]
  cases e : bs[k]? with
  | none => exact Int.le_refl 0
  | some x => exact h x (List.mem_of_getElem? e)
theorem body_law_true_bid : Body 11 4 (w_law_true_bid sp_take sp_gain sp_gain (sp_same 3)) sp_true := by
  rintro ds S Q _ ⟨n, bs, t, k, rfl, hl, hk, hb, ht, hd, kk⟩
  unfold w_law_true_bid
  (simp only [start, List.map_cons, List.map_nil, List.length_cons, List.length_nil, Nat.reduceAdd, Nat.reduceSub, List.replicate_succ, List.replicate_zero, List.cons_append, List.nil_append, Nat.sub_self, Nat.zero_add])
  ((with_reducible conv => whnf); repeat (first | (rw [natD_len]; with_reducible conv => whnf) | (rw [intD_len]; with_reducible conv => whnf) | (refine And.intro (okII _ _) ?_; rw [eqD_ii]; with_reducible conv => whnf) | (refine And.intro (by first | assumption | exact Exists.intro _ (by assumption) | exact ⟨rfl, rfl, by decide, by decide⟩ | exact Nat.le_of_ble_eq_true rfl | exact rfl) ?_; with_reducible conv => whnf) | (rw [isLst_at (by assumption)]; with_reducible conv => whnf) | (refine ifT rfl ?_; with_reducible conv => whnf) | (refine ifF rfl ?_; with_reducible conv => whnf) | (refine it_at (by assumption) ?_; with_reducible conv => whnf)))
  refine ⟨_, _, rfl, by decide, hd, fun r1 S1 a0 a1 ad ac => ?_⟩
  ((with_reducible conv => whnf); repeat (first | (rw [natD_len]; with_reducible conv => whnf) | (rw [intD_len]; with_reducible conv => whnf) | (refine And.intro (okII _ _) ?_; rw [eqD_ii]; with_reducible conv => whnf) | (refine And.intro (by first | assumption | exact Exists.intro _ (by assumption) | exact ⟨rfl, rfl, by decide, by decide⟩ | exact Nat.le_of_ble_eq_true rfl | exact rfl) ?_; with_reducible conv => whnf) | (rw [isLst_at (by assumption)]; with_reducible conv => whnf) | (refine ifT rfl ?_; with_reducible conv => whnf) | (refine ifF rfl ?_; with_reducible conv => whnf) | (refine it_at (by assumption) ?_; with_reducible conv => whnf)))
  refine ⟨_, _, rfl, by omega, ad, fun r2 S2 b0 b1 bd bc => ?_⟩
  have ac := ac.trans bc
  ((with_reducible conv => whnf); repeat (first | (rw [natD_len]; with_reducible conv => whnf) | (rw [intD_len]; with_reducible conv => whnf) | (refine And.intro (okII _ _) ?_; rw [eqD_ii]; with_reducible conv => whnf) | (refine And.intro (by first | assumption | exact Exists.intro _ (by assumption) | exact ⟨rfl, rfl, by decide, by decide⟩ | exact Nat.le_of_ble_eq_true rfl | exact rfl) ?_; with_reducible conv => whnf) | (rw [isLst_at (by assumption)]; with_reducible conv => whnf) | (refine ifT rfl ?_; with_reducible conv => whnf) | (refine ifF rfl ?_; with_reducible conv => whnf) | (refine it_at (by assumption) ?_; with_reducible conv => whnf)))
  refine ⟨_, atZ_intD b0 b1, ?_⟩
  ((with_reducible conv => whnf); repeat (first | (rw [natD_len]; with_reducible conv => whnf) | (rw [intD_len]; with_reducible conv => whnf) | (refine And.intro (okII _ _) ?_; rw [eqD_ii]; with_reducible conv => whnf) | (refine And.intro (by first | assumption | exact Exists.intro _ (by assumption) | exact ⟨rfl, rfl, by decide, by decide⟩ | exact Nat.le_of_ble_eq_true rfl | exact rfl) ?_; with_reducible conv => whnf) | (rw [isLst_at (by assumption)]; with_reducible conv => whnf) | (refine ifT rfl ?_; with_reducible conv => whnf) | (refine ifF rfl ?_; with_reducible conv => whnf) | (refine it_at (by assumption) ?_; with_reducible conv => whnf)))
  refine ⟨_, _, rfl, by decide, bd, fun r3 S3 c0 c1 cd cc => ?_⟩
  have ac := ac.trans cc
  ((with_reducible conv => whnf); repeat (first | (rw [natD_len]; with_reducible conv => whnf) | (rw [intD_len]; with_reducible conv => whnf) | (refine And.intro (okII _ _) ?_; rw [eqD_ii]; with_reducible conv => whnf) | (refine And.intro (by first | assumption | exact Exists.intro _ (by assumption) | exact ⟨rfl, rfl, by decide, by decide⟩ | exact Nat.le_of_ble_eq_true rfl | exact rfl) ?_; with_reducible conv => whnf) | (rw [isLst_at (by assumption)]; with_reducible conv => whnf) | (refine ifT rfl ?_; with_reducible conv => whnf) | (refine ifF rfl ?_; with_reducible conv => whnf) | (refine it_at (by assumption) ?_; with_reducible conv => whnf)))
  refine ⟨bs, rfl, by omega, fun m hm1 hm2 => ?_⟩
  have hm0 := hb m hm1
  ((with_reducible conv => whnf); repeat (first | (rw [natD_len]; with_reducible conv => whnf) | (rw [intD_len]; with_reducible conv => whnf) | (refine And.intro (okII _ _) ?_; rw [eqD_ii]; with_reducible conv => whnf) | (refine And.intro (by first | assumption | exact Exists.intro _ (by assumption) | exact ⟨rfl, rfl, by decide, by decide⟩ | exact Nat.le_of_ble_eq_true rfl | exact rfl) ?_; with_reducible conv => whnf) | (rw [isLst_at (by assumption)]; with_reducible conv => whnf) | (refine ifT rfl ?_; with_reducible conv => whnf) | (refine ifF rfl ?_; with_reducible conv => whnf) | (refine it_at (by assumption) ?_; with_reducible conv => whnf)))
  have hg0 := get_nn hb r2.toNat
  generalize bs.getD r2.toNat 0 = q at *
  have e1 := at_push S3 (.lst (intD [r1, q + r3, m + 5]))
  have dd := cd.app [.lst (intD [r1, q + r3, m + 5])]
  have ac := ac.app [.lst (intD [r1, q + r3, m + 5])]
  have hlt := cd.lt
  generalize S3.length = n3 at *
  refine ⟨_, _, rfl, by decide, dd, fun r5 S5 p0 p1 pd pc => ?_⟩
  have e1 := pc _ _ (by omega) e1
  have ac := ac.trans pc
  ((with_reducible conv => whnf); repeat (first | (rw [natD_len]; with_reducible conv => whnf) | (rw [intD_len]; with_reducible conv => whnf) | (refine And.intro (okII _ _) ?_; rw [eqD_ii]; with_reducible conv => whnf) | (refine And.intro (by first | assumption | exact Exists.intro _ (by assumption) | exact ⟨rfl, rfl, by decide, by decide⟩ | exact Nat.le_of_ble_eq_true rfl | exact rfl) ?_; with_reducible conv => whnf) | (rw [isLst_at (by assumption)]; with_reducible conv => whnf) | (refine ifT rfl ?_; with_reducible conv => whnf) | (refine ifF rfl ?_; with_reducible conv => whnf) | (refine it_at (by assumption) ?_; with_reducible conv => whnf)))
  have hz := atZ_intD (ns := [r1, q + r3, m + 5]) p0 p1
  have hw := get_nn (bs := [r1, q + r3, m + 5]) (by simp; omega) r5.toNat
  generalize [r1, q + r3, m + 5].getD r5.toNat 0 = w at *
  refine ⟨_, hz, ?_⟩
  have hll : (cut (intD bs) none (some (k : Int))).length ≤ bs.length := cutl
  have hlr : (cut (intD bs) (some ((k : Int) + 1)) none).length ≤ bs.length := cutl
  ((with_reducible conv => whnf); repeat (first | (rw [natD_len]; with_reducible conv => whnf) | (rw [intD_len]; with_reducible conv => whnf) | (refine And.intro (okII _ _) ?_; rw [eqD_ii]; with_reducible conv => whnf) | (refine And.intro (by first | assumption | exact Exists.intro _ (by assumption) | exact ⟨rfl, rfl, by decide, by decide⟩ | exact Nat.le_of_ble_eq_true rfl | exact rfl) ?_; with_reducible conv => whnf) | (rw [isLst_at (by assumption)]; with_reducible conv => whnf) | (refine ifT rfl ?_; with_reducible conv => whnf) | (refine ifF rfl ?_; with_reducible conv => whnf) | (refine it_at (by assumption) ?_; with_reducible conv => whnf)))
  refine ⟨by rw [List.length_singleton]; unfold szL; omega, ?_⟩
  ((with_reducible conv => whnf); repeat (first | (rw [natD_len]; with_reducible conv => whnf) | (rw [intD_len]; with_reducible conv => whnf) | (refine And.intro (okII _ _) ?_; rw [eqD_ii]; with_reducible conv => whnf) | (refine And.intro (by first | assumption | exact Exists.intro _ (by assumption) | exact ⟨rfl, rfl, by decide, by decide⟩ | exact Nat.le_of_ble_eq_true rfl | exact rfl) ?_; with_reducible conv => whnf) | (rw [isLst_at (by assumption)]; with_reducible conv => whnf) | (refine ifT rfl ?_; with_reducible conv => whnf) | (refine ifF rfl ?_; with_reducible conv => whnf) | (refine it_at (by assumption) ?_; with_reducible conv => whnf)))
  refine ⟨by rw [List.length_append, List.length_singleton]; unfold szL; omega, ?_⟩
  rw [setD w hk]
  ((with_reducible conv => whnf); repeat (first | (rw [natD_len]; with_reducible conv => whnf) | (rw [intD_len]; with_reducible conv => whnf) | (refine And.intro (okII _ _) ?_; rw [eqD_ii]; with_reducible conv => whnf) | (refine And.intro (by first | assumption | exact Exists.intro _ (by assumption) | exact ⟨rfl, rfl, by decide, by decide⟩ | exact Nat.le_of_ble_eq_true rfl | exact rfl) ?_; with_reducible conv => whnf) | (rw [isLst_at (by assumption)]; with_reducible conv => whnf) | (refine ifT rfl ?_; with_reducible conv => whnf) | (refine ifF rfl ?_; with_reducible conv => whnf) | (refine it_at (by assumption) ?_; with_reducible conv => whnf)))
  refine ⟨w, _, t, k, rfl, by rw [List.length_set]; omega, set_nn hb hw, by omega, fun S6 h6 => ?_⟩
  ((with_reducible conv => whnf); repeat (first | (rw [natD_len]; with_reducible conv => whnf) | (rw [intD_len]; with_reducible conv => whnf) | (refine And.intro (okII _ _) ?_; rw [eqD_ii]; with_reducible conv => whnf) | (refine And.intro (by first | assumption | exact Exists.intro _ (by assumption) | exact ⟨rfl, rfl, by decide, by decide⟩ | exact Nat.le_of_ble_eq_true rfl | exact rfl) ?_; with_reducible conv => whnf) | (rw [isLst_at (by assumption)]; with_reducible conv => whnf) | (refine ifT rfl ?_; with_reducible conv => whnf) | (refine ifF rfl ?_; with_reducible conv => whnf) | (refine it_at (by assumption) ?_; with_reducible conv => whnf)))
  refine ⟨w, _, t, k, rfl, by rw [List.length_set]; omega, set_nn hb hw, by omega, fun S7 h7 => ?_⟩
  ((with_reducible conv => whnf); repeat (first | (rw [natD_len]; with_reducible conv => whnf) | (rw [intD_len]; with_reducible conv => whnf) | (refine And.intro (okII _ _) ?_; rw [eqD_ii]; with_reducible conv => whnf) | (refine And.intro (by first | assumption | exact Exists.intro _ (by assumption) | exact ⟨rfl, rfl, by decide, by decide⟩ | exact Nat.le_of_ble_eq_true rfl | exact rfl) ?_; with_reducible conv => whnf) | (rw [isLst_at (by assumption)]; with_reducible conv => whnf) | (refine ifT rfl ?_; with_reducible conv => whnf) | (refine ifF rfl ?_; with_reducible conv => whnf) | (refine it_at (by assumption) ?_; with_reducible conv => whnf)))
  refine ⟨_, rfl, rfl, rfl, Nat.zero_le _, fun S8 h8 => ?_⟩
  ((with_reducible conv => whnf); repeat (first | (rw [natD_len]; with_reducible conv => whnf) | (rw [intD_len]; with_reducible conv => whnf) | (refine And.intro (okII _ _) ?_; rw [eqD_ii]; with_reducible conv => whnf) | (refine And.intro (by first | assumption | exact Exists.intro _ (by assumption) | exact ⟨rfl, rfl, by decide, by decide⟩ | exact Nat.le_of_ble_eq_true rfl | exact rfl) ?_; with_reducible conv => whnf) | (rw [isLst_at (by assumption)]; with_reducible conv => whnf) | (refine ifT rfl ?_; with_reducible conv => whnf) | (refine ifF rfl ?_; with_reducible conv => whnf) | (refine it_at (by assumption) ?_; with_reducible conv => whnf)))
  have h0 := (gain_true (o := 0) hk ht hw).2
  refine ite_d (fun hc => by omega) fun hc => ?_
  ((with_reducible conv => whnf); repeat (first | (rw [natD_len]; with_reducible conv => whnf) | (rw [intD_len]; with_reducible conv => whnf) | (refine And.intro (okII _ _) ?_; rw [eqD_ii]; with_reducible conv => whnf) | (refine And.intro (by first | assumption | exact Exists.intro _ (by assumption) | exact ⟨rfl, rfl, by decide, by decide⟩ | exact Nat.le_of_ble_eq_true rfl | exact rfl) ?_; with_reducible conv => whnf) | (rw [isLst_at (by assumption)]; with_reducible conv => whnf) | (refine ifT rfl ?_; with_reducible conv => whnf) | (refine ifF rfl ?_; with_reducible conv => whnf) | (refine it_at (by assumption) ?_; with_reducible conv => whnf)))
  have q6 : Sub S5 S8 := (h6.trans h7).trans h8
  refine Lc_lm (xs := bs) (e := D.int) (fun b => .int (b + 1)) (by unfold szL; omega) (by intros; trivial) (fun x S9 R hx h9 hR => ?_) fun S9 h9 => ?_
  · ((with_reducible conv => whnf); repeat (first | (rw [natD_len]; with_reducible conv => whnf) | (rw [intD_len]; with_reducible conv => whnf) | (refine And.intro (okII _ _) ?_; rw [eqD_ii]; with_reducible conv => whnf) | (refine And.intro (by first | assumption | exact Exists.intro _ (by assumption) | exact ⟨rfl, rfl, by decide, by decide⟩ | exact Nat.le_of_ble_eq_true rfl | exact rfl) ?_; with_reducible conv => whnf) | (rw [isLst_at (by assumption)]; with_reducible conv => whnf) | (refine ifT rfl ?_; with_reducible conv => whnf) | (refine ifF rfl ?_; with_reducible conv => whnf) | (refine it_at (by assumption) ?_; with_reducible conv => whnf)))
    exact hR _ (Sub.refl _)
  · have e2 := at_push S9 (.lst (bs.map fun b => D.int (b + 1)))
    have q9 := (q6.trans h9).app [.lst (bs.map fun b => D.int (b + 1))]
    generalize S9 ++ [.lst (bs.map fun b => D.int (b + 1))] = S10 at *
    ((with_reducible conv => whnf); repeat (first | (rw [natD_len]; with_reducible conv => whnf) | (rw [intD_len]; with_reducible conv => whnf) | (refine And.intro (okII _ _) ?_; rw [eqD_ii]; with_reducible conv => whnf) | (refine And.intro (by first | assumption | exact Exists.intro _ (by assumption) | exact ⟨rfl, rfl, by decide, by decide⟩ | exact Nat.le_of_ble_eq_true rfl | exact rfl) ?_; with_reducible conv => whnf) | (rw [isLst_at (by assumption)]; with_reducible conv => whnf) | (refine ifT rfl ?_; with_reducible conv => whnf) | (refine ifF rfl ?_; with_reducible conv => whnf) | (refine it_at (by assumption) ?_; with_reducible conv => whnf)))
    rw [List.length_map]
    refine ⟨by unfold szL; omega, ?_⟩
    ((with_reducible conv => whnf); repeat (first | (rw [natD_len]; with_reducible conv => whnf) | (rw [intD_len]; with_reducible conv => whnf) | (refine And.intro (okII _ _) ?_; rw [eqD_ii]; with_reducible conv => whnf) | (refine And.intro (by first | assumption | exact Exists.intro _ (by assumption) | exact ⟨rfl, rfl, by decide, by decide⟩ | exact Nat.le_of_ble_eq_true rfl | exact rfl) ?_; with_reducible conv => whnf) | (rw [isLst_at (by assumption)]; with_reducible conv => whnf) | (refine ifT rfl ?_; with_reducible conv => whnf) | (refine ifF rfl ?_; with_reducible conv => whnf) | (refine it_at (by assumption) ?_; with_reducible conv => whnf)))
    refine ⟨by simp only [List.length_append, List.length_map, intD_len, List.length_cons, List.length_nil]; unfold szL; omega, ?_⟩
    refine ⟨bs ++ bs.map (fun b => b + 1) ++ [0, w + 1, max (w - 1) 0], ?_, ?_⟩
    · show some (intD bs ++ (bs.map fun b => D.int (b + 1)) ++ [D.int 0, D.int (w + 1), D.int (max (w - 1) 0)]) = _
      simp [intD]
    refine ⟨by simp; omega, fun ms ha hm => ?_⟩
    have e3 := at_push S10 (.lst (intD ms))
    have q10 := q9.app [.lst (intD ms)]
    ((with_reducible conv => whnf); repeat (first | (rw [natD_len]; with_reducible conv => whnf) | (rw [intD_len]; with_reducible conv => whnf) | (refine And.intro (okII _ _) ?_; rw [eqD_ii]; with_reducible conv => whnf) | (refine And.intro (by first | assumption | exact Exists.intro _ (by assumption) | exact ⟨rfl, rfl, by decide, by decide⟩ | exact Nat.le_of_ble_eq_true rfl | exact rfl) ?_; with_reducible conv => whnf) | (rw [isLst_at (by assumption)]; with_reducible conv => whnf) | (refine ifT rfl ?_; with_reducible conv => whnf) | (refine ifF rfl ?_; with_reducible conv => whnf) | (refine it_at (by assumption) ?_; with_reducible conv => whnf)))
    generalize S10 ++ [.lst (intD ms)] = S11 at *
    generalize S10.length = n10 at *
    refine Loop_mk (fun i ρ S' => ∃ o7 o9 o10, ρ = [some (.ref n), some (.tup (intD bs)), some (.int t), some (.int k), some (.int w), some (.tup (intD (bs.set k w))), some (.int (gainL w (bs.set k w) t k)), o7, none, o9, o10] ∧ Sub S11 S') ⟨none, none, none, rfl, Sub.refl _⟩ (by rintro i ρ S' ⟨o7, o9, o10, rfl, h⟩; exact h _ _ e3) ?_ ?_
    · rintro i d ρ' S' hi ⟨o7, o9, o10, rfl, h⟩
      obtain ⟨x, hx, rfl⟩ := intD_get hi
      have hx0 : 0 ≤ x := by
        have := (hm x).mp (List.mem_of_getElem? hx)
        simp at this
        rcases this with h | ⟨a, h, e⟩ | h | h | h
        · exact hb x h
        · have := hb a h; omega
        · omega
        · omega
        · omega
      ((with_reducible conv => whnf); repeat (first | (rw [natD_len]; with_reducible conv => whnf) | (rw [intD_len]; with_reducible conv => whnf) | (refine And.intro (okII _ _) ?_; rw [eqD_ii]; with_reducible conv => whnf) | (refine And.intro (by first | assumption | exact Exists.intro _ (by assumption) | exact ⟨rfl, rfl, by decide, by decide⟩ | exact Nat.le_of_ble_eq_true rfl | exact rfl) ?_; with_reducible conv => whnf) | (rw [isLst_at (by assumption)]; with_reducible conv => whnf) | (refine ifT rfl ?_; with_reducible conv => whnf) | (refine ifF rfl ?_; with_reducible conv => whnf) | (refine it_at (by assumption) ?_; with_reducible conv => whnf)))
      refine ⟨by rw [List.length_singleton]; unfold szL; omega, ?_⟩
      ((with_reducible conv => whnf); repeat (first | (rw [natD_len]; with_reducible conv => whnf) | (rw [intD_len]; with_reducible conv => whnf) | (refine And.intro (okII _ _) ?_; rw [eqD_ii]; with_reducible conv => whnf) | (refine And.intro (by first | assumption | exact Exists.intro _ (by assumption) | exact ⟨rfl, rfl, by decide, by decide⟩ | exact Nat.le_of_ble_eq_true rfl | exact rfl) ?_; with_reducible conv => whnf) | (rw [isLst_at (by assumption)]; with_reducible conv => whnf) | (refine ifT rfl ?_; with_reducible conv => whnf) | (refine ifF rfl ?_; with_reducible conv => whnf) | (refine it_at (by assumption) ?_; with_reducible conv => whnf)))
      refine ⟨by rw [List.length_append, List.length_singleton]; unfold szL; omega, ?_⟩
      rw [setD x hk]
      ((with_reducible conv => whnf); repeat (first | (rw [natD_len]; with_reducible conv => whnf) | (rw [intD_len]; with_reducible conv => whnf) | (refine And.intro (okII _ _) ?_; rw [eqD_ii]; with_reducible conv => whnf) | (refine And.intro (by first | assumption | exact Exists.intro _ (by assumption) | exact ⟨rfl, rfl, by decide, by decide⟩ | exact Nat.le_of_ble_eq_true rfl | exact rfl) ?_; with_reducible conv => whnf) | (rw [isLst_at (by assumption)]; with_reducible conv => whnf) | (refine ifT rfl ?_; with_reducible conv => whnf) | (refine ifF rfl ?_; with_reducible conv => whnf) | (refine it_at (by assumption) ?_; with_reducible conv => whnf)))
      refine ⟨w, _, t, k, rfl, by rw [List.length_set]; omega, set_nn hb hx0, by omega, fun T6 h6 => ?_⟩
      ((with_reducible conv => whnf); repeat (first | (rw [natD_len]; with_reducible conv => whnf) | (rw [intD_len]; with_reducible conv => whnf) | (refine And.intro (okII _ _) ?_; rw [eqD_ii]; with_reducible conv => whnf) | (refine And.intro (by first | assumption | exact Exists.intro _ (by assumption) | exact ⟨rfl, rfl, by decide, by decide⟩ | exact Nat.le_of_ble_eq_true rfl | exact rfl) ?_; with_reducible conv => whnf) | (rw [isLst_at (by assumption)]; with_reducible conv => whnf) | (refine ifT rfl ?_; with_reducible conv => whnf) | (refine ifF rfl ?_; with_reducible conv => whnf) | (refine it_at (by assumption) ?_; with_reducible conv => whnf)))
      refine ⟨w, _, t, k, rfl, by rw [List.length_set]; omega, set_nn hb hx0, by omega, fun T7 h7 => ?_⟩
      ((with_reducible conv => whnf); repeat (first | (rw [natD_len]; with_reducible conv => whnf) | (rw [intD_len]; with_reducible conv => whnf) | (refine And.intro (okII _ _) ?_; rw [eqD_ii]; with_reducible conv => whnf) | (refine And.intro (by first | assumption | exact Exists.intro _ (by assumption) | exact ⟨rfl, rfl, by decide, by decide⟩ | exact Nat.le_of_ble_eq_true rfl | exact rfl) ?_; with_reducible conv => whnf) | (rw [isLst_at (by assumption)]; with_reducible conv => whnf) | (refine ifT rfl ?_; with_reducible conv => whnf) | (refine ifF rfl ?_; with_reducible conv => whnf) | (refine it_at (by assumption) ?_; with_reducible conv => whnf)))
      refine ⟨_, rfl, rfl, rfl, Nat.zero_le _, fun T8 h8 => ?_⟩
      ((with_reducible conv => whnf); repeat (first | (rw [natD_len]; with_reducible conv => whnf) | (rw [intD_len]; with_reducible conv => whnf) | (refine And.intro (okII _ _) ?_; rw [eqD_ii]; with_reducible conv => whnf) | (refine And.intro (by first | assumption | exact Exists.intro _ (by assumption) | exact ⟨rfl, rfl, by decide, by decide⟩ | exact Nat.le_of_ble_eq_true rfl | exact rfl) ?_; with_reducible conv => whnf) | (rw [isLst_at (by assumption)]; with_reducible conv => whnf) | (refine ifT rfl ?_; with_reducible conv => whnf) | (refine ifF rfl ?_; with_reducible conv => whnf) | (refine it_at (by assumption) ?_; with_reducible conv => whnf)))
      have h0 := (gain_true (o := x) hk ht hw).1
      refine ite_d (fun hc => by omega) fun hc => ?_
      ((with_reducible conv => whnf); repeat (first | (rw [natD_len]; with_reducible conv => whnf) | (rw [intD_len]; with_reducible conv => whnf) | (refine And.intro (okII _ _) ?_; rw [eqD_ii]; with_reducible conv => whnf) | (refine And.intro (by first | assumption | exact Exists.intro _ (by assumption) | exact ⟨rfl, rfl, by decide, by decide⟩ | exact Nat.le_of_ble_eq_true rfl | exact rfl) ?_; with_reducible conv => whnf) | (rw [isLst_at (by assumption)]; with_reducible conv => whnf) | (refine ifT rfl ?_; with_reducible conv => whnf) | (refine ifF rfl ?_; with_reducible conv => whnf) | (refine it_at (by assumption) ?_; with_reducible conv => whnf)))
      exact ⟨_, _, _, rfl, ((h.trans h6).trans h7).trans h8⟩
    · rintro ρ' S' ⟨o7, o9, o10, rfl, h⟩
      ((with_reducible conv => whnf); repeat (first | (rw [natD_len]; with_reducible conv => whnf) | (rw [intD_len]; with_reducible conv => whnf) | (refine And.intro (okII _ _) ?_; rw [eqD_ii]; with_reducible conv => whnf) | (refine And.intro (by first | assumption | exact Exists.intro _ (by assumption) | exact ⟨rfl, rfl, by decide, by decide⟩ | exact Nat.le_of_ble_eq_true rfl | exact rfl) ?_; with_reducible conv => whnf) | (rw [isLst_at (by assumption)]; with_reducible conv => whnf) | (refine ifT rfl ?_; with_reducible conv => whnf) | (refine ifF rfl ?_; with_reducible conv => whnf) | (refine it_at (by assumption) ?_; with_reducible conv => whnf)))
      have := q10.trans h
      exact kk S' (pd.sub this) (ac.trans this.ch)
theorem gain2 (w x o : Int) (ho : 0 ≤ o) : gainL w [o, x] 1 1 = if o < x then w - o else 0 := by
  have h1 : aheadF 2 (bt [o, x]) 1 = if o < x then 0 else 1 := by
    show (List.countP (fun i => bef (bt [o, x]) i 1) [0, 1]) = _
    rw [List.countP_cons, List.countP_cons, List.countP_nil]
    have a : bef (bt [o, x]) 0 1 = decide (¬ o < x) := by
      rw [Bool.eq_iff_iff, bef_iff, decide_eq_true_eq]
      simp [bt]
      omega
    have b : bef (bt [o, x]) 1 1 = false := by rw [bef_no]; omega
    rw [a, b]
    by_cases h : o < x <;> simp [h]
  have h0 : aheadF 2 (bt [o, x]) 0 = if o < x then 1 else 0 := by
    show (List.countP (fun i => bef (bt [o, x]) i 0) [0, 1]) = _
    rw [List.countP_cons, List.countP_cons, List.countP_nil]
    have a : bef (bt [o, x]) 1 0 = decide (o < x) := by
      rw [Bool.eq_iff_iff, bef_iff, decide_eq_true_eq]
      simp [bt]
    have b : bef (bt [o, x]) 0 0 = false := by rw [bef_no]; omega
    rw [a, b]
    by_cases h : o < x <;> simp [h]
  unfold gainL
  by_cases h : o < x
  · rw [if_pos h] at h0 h1
    have : (1 : Nat) ∈ winL [o, x] 1 := mem_win.mpr ⟨by simp, by show (aheadF 2 (bt [o, x]) 1 : Int) < 1; omega⟩
    rw [if_pos this, if_pos h]
    have : priceL [o, x] 1 = o := by
      show mx (((List.range 2).filter fun k => !decide ((aheadF 2 (bt [o, x]) k : Int) < 1)).map (bt [o, x])) = o
      have e : (List.range 2).filter (fun k => !decide ((aheadF 2 (bt [o, x]) k : Int) < 1)) = [0] := by
        show [0, 1].filter _ = _
        simp [h0, h1]
      rw [e]
      show max (bt [o, x] 0) 0 = o
      exact Int.max_eq_left ho
    rw [this]
  · rw [if_neg h] at h0 h1
    have : ¬ (1 : Nat) ∈ winL [o, x] 1 := fun c => by
      have := (mem_win.mp c).2
      have : (aheadF 2 (bt [o, x]) 1 : Int) < 1 := this
      omega
    rw [if_neg this, if_neg h]
def tl (w x : Int) (i : Nat) : Int := if (i : Int) < x then max (w - i) 0 - (w - i) else max (w - i) 0
@[reducible] def sp_more : Spc := fun ds S Q => ∃ n, ds = [.ref n] ∧ Dr n S ∧ ∀ S', Dr n S' → Ch n S S' → Q (.bl true) S'
theorem body_law_somewhere_more : Body 7 1 (w_law_somewhere_more sp_take sp_gain (sp_same 3)) sp_more := by
  rintro ds S Q _ ⟨n, rfl, hd, kk⟩
  unfold w_law_somewhere_more
  (simp only [start, List.map_cons, List.map_nil, List.length_cons, List.length_nil, Nat.reduceAdd, Nat.reduceSub, List.replicate_succ, List.replicate_zero, List.cons_append, List.nil_append, Nat.sub_self, Nat.zero_add])
  ((with_reducible conv => whnf); repeat (first | (rw [natD_len]; with_reducible conv => whnf) | (rw [intD_len]; with_reducible conv => whnf) | (refine And.intro (okII _ _) ?_; rw [eqD_ii]; with_reducible conv => whnf) | (refine And.intro (by first | assumption | exact Exists.intro _ (by assumption) | exact ⟨rfl, rfl, by decide, by decide⟩ | exact Nat.le_of_ble_eq_true rfl | exact rfl) ?_; with_reducible conv => whnf) | (rw [isLst_at (by assumption)]; with_reducible conv => whnf) | (refine ifT rfl ?_; with_reducible conv => whnf) | (refine ifF rfl ?_; with_reducible conv => whnf) | (refine it_at (by assumption) ?_; with_reducible conv => whnf)))
  refine ⟨_, _, rfl, by decide, hd, fun r1 S1 a0 a1 ad ac => ?_⟩
  ((with_reducible conv => whnf); repeat (first | (rw [natD_len]; with_reducible conv => whnf) | (rw [intD_len]; with_reducible conv => whnf) | (refine And.intro (okII _ _) ?_; rw [eqD_ii]; with_reducible conv => whnf) | (refine And.intro (by first | assumption | exact Exists.intro _ (by assumption) | exact ⟨rfl, rfl, by decide, by decide⟩ | exact Nat.le_of_ble_eq_true rfl | exact rfl) ?_; with_reducible conv => whnf) | (rw [isLst_at (by assumption)]; with_reducible conv => whnf) | (refine ifT rfl ?_; with_reducible conv => whnf) | (refine ifF rfl ?_; with_reducible conv => whnf) | (refine it_at (by assumption) ?_; with_reducible conv => whnf)))
  refine ⟨_, _, rfl, by decide, ad, fun r2 S2 b0 b1 bd bc => ?_⟩
  have ac := ac.trans bc
  ((with_reducible conv => whnf); repeat (first | (rw [natD_len]; with_reducible conv => whnf) | (rw [intD_len]; with_reducible conv => whnf) | (refine And.intro (okII _ _) ?_; rw [eqD_ii]; with_reducible conv => whnf) | (refine And.intro (by first | assumption | exact Exists.intro _ (by assumption) | exact ⟨rfl, rfl, by decide, by decide⟩ | exact Nat.le_of_ble_eq_true rfl | exact rfl) ?_; with_reducible conv => whnf) | (rw [isLst_at (by assumption)]; with_reducible conv => whnf) | (refine ifT rfl ?_; with_reducible conv => whnf) | (refine ifF rfl ?_; with_reducible conv => whnf) | (refine it_at (by assumption) ?_; with_reducible conv => whnf)))
  have hlt := bd.lt
  generalize hw : 2 + r1 = w at *
  have main : ∀ x : Int, 0 ≤ x → x ≤ 60 → x ≠ w → sSeq (sAsg (wLst wNil) (gN 3))
    (sSeq (sFor (wR1 (wOp rAdd (wB rMax2 (wCons (wVar 1) (wCons (wVar 2) wNil))) (wC (.int 2)))) (gN 4) (sSeq (sAsg (wCall 4 sp_gain (wCons (wVar 1) (wCons (wTup (wCons (wVar 4) (wCons (wVar 1) wNil))) (wCons (wC (.int 1)) (wCons (wC (.int 1)) wNil))))) (gN 5))
    (sSeq (sAsg (wCall 4 sp_gain (wCons (wVar 1) (wCons (wTup (wCons (wVar 4) (wCons (wVar 2) wNil))) (wCons (wC (.int 1)) (wCons (wC (.int 1)) wNil))))) (gN 6))
    (sSeq (sIf (wtOr (wtNot (wtVal (wCall 2 (sp_same 3) (wCons (wVar 5) (wCons (wB rMax2 (wCons (wOp rSub (wVar 1) (wVar 4)) (wCons (wC (.int 0)) wNil))) wNil))))) (wtNot (wtVal (wCall 2 (sp_same 3) (wCons (wVar 6) (wCons (wOp rMul (wOp rSub (wVar 1) (wVar 4)) (wB rInt (wCons (wOp rGt (wVar 2) (wVar 4)) wNil))) wNil)))))) (sRet (wC (.bl false))) sNext)
    (sDrop (wM rAppend (wVar 3) (wCons (wOp rSub (wVar 5) (wVar 6)) wNil)))))))
    (sRet (wAnd (wOp rGe (wB rMin (wCons (wVar 3) wNil)) (wC (.int 0))) (wOp rEq (wOp rGt (wB rMax (wCons (wVar 3) wNil)) (wC (.int 0))) (wOr (wOp rLt (wVar 2) (wVar 1)) (wOp rGt (wVar 2) (wOp rAdd (wVar 1) (wC (.int 1))))))))) { nx := fun x S' => Q D.non S', rt := Q, bk := fun x x_1 => False, ct := fun x x_1 => False } [some (.ref n), some (.int w), some (.int x), none, none, none, none] S2 := by
    intro x x0 x1 xw
    ((with_reducible conv => whnf); repeat (first | (rw [natD_len]; with_reducible conv => whnf) | (rw [intD_len]; with_reducible conv => whnf) | (refine And.intro (okII _ _) ?_; rw [eqD_ii]; with_reducible conv => whnf) | (refine And.intro (by first | assumption | exact Exists.intro _ (by assumption) | exact ⟨rfl, rfl, by decide, by decide⟩ | exact Nat.le_of_ble_eq_true rfl | exact rfl) ?_; with_reducible conv => whnf) | (rw [isLst_at (by assumption)]; with_reducible conv => whnf) | (refine ifT rfl ?_; with_reducible conv => whnf) | (refine ifF rfl ?_; with_reducible conv => whnf) | (refine it_at (by assumption) ?_; with_reducible conv => whnf)))
    have e1 := at_push S2 (.lst [])
    have hSn := ac.len bd.lt
    have bd := bd.app [.lst []]
    have ac := ac.app [.lst []]
    generalize S2 ++ [.lst []] = S3 at *
    refine ⟨⟨by omega, by omega⟩, ?_⟩
    generalize hnt : S2.length = nt at *
    refine Loop_mk (fun i ρ S' => ∃ o4 o5 o6, ρ = [some (.ref n), some (.int w), some (.int x), some (.ref nt), o4, o5, o6] ∧ S'[nt]? = some (.lst (intD ((List.range i).map (tl w x)))) ∧ Dr n S' ∧ Ch n S S') ⟨none, none, none, rfl, e1, bd, ac⟩ (by intros; trivial) ?_ ?_
    · rintro i d ρ' S' hi ⟨o4, o5, o6, rfl, f1, f2, f3⟩
      obtain ⟨hi1, rfl⟩ := rangeD_get hi
      rw [Int.zero_add]
      ((with_reducible conv => whnf); repeat (first | (rw [natD_len]; with_reducible conv => whnf) | (rw [intD_len]; with_reducible conv => whnf) | (refine And.intro (okII _ _) ?_; rw [eqD_ii]; with_reducible conv => whnf) | (refine And.intro (by first | assumption | exact Exists.intro _ (by assumption) | exact ⟨rfl, rfl, by decide, by decide⟩ | exact Nat.le_of_ble_eq_true rfl | exact rfl) ?_; with_reducible conv => whnf) | (rw [isLst_at (by assumption)]; with_reducible conv => whnf) | (refine ifT rfl ?_; with_reducible conv => whnf) | (refine ifF rfl ?_; with_reducible conv => whnf) | (refine it_at (by assumption) ?_; with_reducible conv => whnf)))
      refine ⟨w, [(i : Int), w], 1, 1, rfl, by simp, by simp; omega, by decide, fun T1 h1 => ?_⟩
      rw [gain2 _ _ _ (by omega)]
      ((with_reducible conv => whnf); repeat (first | (rw [natD_len]; with_reducible conv => whnf) | (rw [intD_len]; with_reducible conv => whnf) | (refine And.intro (okII _ _) ?_; rw [eqD_ii]; with_reducible conv => whnf) | (refine And.intro (by first | assumption | exact Exists.intro _ (by assumption) | exact ⟨rfl, rfl, by decide, by decide⟩ | exact Nat.le_of_ble_eq_true rfl | exact rfl) ?_; with_reducible conv => whnf) | (rw [isLst_at (by assumption)]; with_reducible conv => whnf) | (refine ifT rfl ?_; with_reducible conv => whnf) | (refine ifF rfl ?_; with_reducible conv => whnf) | (refine it_at (by assumption) ?_; with_reducible conv => whnf)))
      refine ⟨w, [(i : Int), x], 1, 1, rfl, by simp, by simp; omega, by decide, fun T2 h2 => ?_⟩
      rw [gain2 _ _ _ (by omega)]
      ((with_reducible conv => whnf); repeat (first | (rw [natD_len]; with_reducible conv => whnf) | (rw [intD_len]; with_reducible conv => whnf) | (refine And.intro (okII _ _) ?_; rw [eqD_ii]; with_reducible conv => whnf) | (refine And.intro (by first | assumption | exact Exists.intro _ (by assumption) | exact ⟨rfl, rfl, by decide, by decide⟩ | exact Nat.le_of_ble_eq_true rfl | exact rfl) ?_; with_reducible conv => whnf) | (rw [isLst_at (by assumption)]; with_reducible conv => whnf) | (refine ifT rfl ?_; with_reducible conv => whnf) | (refine ifF rfl ?_; with_reducible conv => whnf) | (refine it_at (by assumption) ?_; with_reducible conv => whnf)))
      have g1 : (if (i : Int) < w then w - i else 0) = max (w - i) 0 := by split <;> omega
      rw [g1]
      refine ⟨_, rfl, rfl, rfl, Nat.zero_le _, fun T3 h3 => ?_⟩
      ((with_reducible conv => whnf); repeat (first | (rw [natD_len]; with_reducible conv => whnf) | (rw [intD_len]; with_reducible conv => whnf) | (refine And.intro (okII _ _) ?_; rw [eqD_ii]; with_reducible conv => whnf) | (refine And.intro (by first | assumption | exact Exists.intro _ (by assumption) | exact ⟨rfl, rfl, by decide, by decide⟩ | exact Nat.le_of_ble_eq_true rfl | exact rfl) ?_; with_reducible conv => whnf) | (rw [isLst_at (by assumption)]; with_reducible conv => whnf) | (refine ifT rfl ?_; with_reducible conv => whnf) | (refine ifF rfl ?_; with_reducible conv => whnf) | (refine it_at (by assumption) ?_; with_reducible conv => whnf)))
      refine ⟨smallMul (by split <;> decide), ?_⟩
      ((with_reducible conv => whnf); repeat (first | (rw [natD_len]; with_reducible conv => whnf) | (rw [intD_len]; with_reducible conv => whnf) | (refine And.intro (okII _ _) ?_; rw [eqD_ii]; with_reducible conv => whnf) | (refine And.intro (by first | assumption | exact Exists.intro _ (by assumption) | exact ⟨rfl, rfl, by decide, by decide⟩ | exact Nat.le_of_ble_eq_true rfl | exact rfl) ?_; with_reducible conv => whnf) | (rw [isLst_at (by assumption)]; with_reducible conv => whnf) | (refine ifT rfl ?_; with_reducible conv => whnf) | (refine ifF rfl ?_; with_reducible conv => whnf) | (refine it_at (by assumption) ?_; with_reducible conv => whnf)))
      have g2 : (w - i) * (if decide ((i : Int) < x) = true then 1 else 0) = (if (i : Int) < x then w - i else 0) := by
        by_cases h : (i : Int) < x <;> simp [h]
      rw [g2]
      refine ⟨_, rfl, rfl, rfl, Nat.zero_le _, fun T4 h4 => ?_⟩
      have hs := ((h1.trans h2).trans h3).trans h4
      have f1 := hs _ _ f1
      ((with_reducible conv => whnf); repeat (first | (rw [natD_len]; with_reducible conv => whnf) | (rw [intD_len]; with_reducible conv => whnf) | (refine And.intro (okII _ _) ?_; rw [eqD_ii]; with_reducible conv => whnf) | (refine And.intro (by first | assumption | exact Exists.intro _ (by assumption) | exact ⟨rfl, rfl, by decide, by decide⟩ | exact Nat.le_of_ble_eq_true rfl | exact rfl) ?_; with_reducible conv => whnf) | (rw [isLst_at (by assumption)]; with_reducible conv => whnf) | (refine ifT rfl ?_; with_reducible conv => whnf) | (refine ifF rfl ?_; with_reducible conv => whnf) | (refine it_at (by assumption) ?_; with_reducible conv => whnf)))
      refine ⟨by rw [List.length_map, List.length_range]; unfold szL; omega, ?_⟩
      refine ⟨_, _, _, rfl, ?_, (f2.sub hs).put (by omega), (f3.trans hs.ch).put hSn⟩
      rw [at_set f1, List.range_succ, List.map_append]
      have : tl w x i = max (w - i) 0 - if (i : Int) < x then w - i else 0 := by unfold tl; split <;> omega
      simp [intD, this]
    · rintro ρ' S' ⟨o4, o5, o6, rfl, f1, f2, f3⟩
      rw [rangeD_len] at f1
      have hmem : ∀ y, y ∈ (List.range (max w x + 2 - 0).toNat).map (tl w x) ↔ ∃ i : Nat, (i : Int) < max w x + 2 ∧ y = tl w x i := by
        intro y
        rw [List.mem_map]
        constructor
        · rintro ⟨i, h, e⟩; exact ⟨i, by have := List.mem_range.mp h; omega, e.symm⟩
        · rintro ⟨i, h, e⟩; exact ⟨i, List.mem_range.mpr (by omega), e.symm⟩
      have hlen : 0 < ((List.range (max w x + 2 - 0).toNat).map (tl w x)).length := by rw [List.length_map, List.length_range]; omega
      generalize (List.range (max w x + 2 - 0).toNat).map (tl w x) = ts at *
      have f4 : itemsAt (.ref nt) S' = some (intD ts) := by
        show (match S'[nt]? with | some (.lst xs) => some xs | _ => none) = _
        rw [f1]
      ((with_reducible conv => whnf); repeat (first | (rw [natD_len]; with_reducible conv => whnf) | (rw [intD_len]; with_reducible conv => whnf) | (refine And.intro (okII _ _) ?_; rw [eqD_ii]; with_reducible conv => whnf) | (refine And.intro (by first | assumption | exact Exists.intro _ (by assumption) | exact ⟨rfl, rfl, by decide, by decide⟩ | exact Nat.le_of_ble_eq_true rfl | exact rfl) ?_; with_reducible conv => whnf) | (rw [isLst_at (by assumption)]; with_reducible conv => whnf) | (refine ifT rfl ?_; with_reducible conv => whnf) | (refine ifF rfl ?_; with_reducible conv => whnf) | (refine it_at (by assumption) ?_; with_reducible conv => whnf)))
      refine ⟨ts, f4, hlen, fun mn m1 m2 => ?_⟩
      ((with_reducible conv => whnf); repeat (first | (rw [natD_len]; with_reducible conv => whnf) | (rw [intD_len]; with_reducible conv => whnf) | (refine And.intro (okII _ _) ?_; rw [eqD_ii]; with_reducible conv => whnf) | (refine And.intro (by first | assumption | exact Exists.intro _ (by assumption) | exact ⟨rfl, rfl, by decide, by decide⟩ | exact Nat.le_of_ble_eq_true rfl | exact rfl) ?_; with_reducible conv => whnf) | (rw [isLst_at (by assumption)]; with_reducible conv => whnf) | (refine ifT rfl ?_; with_reducible conv => whnf) | (refine ifF rfl ?_; with_reducible conv => whnf) | (refine it_at (by assumption) ?_; with_reducible conv => whnf)))
      have hmn : 0 ≤ mn := by
        obtain ⟨i, _, rfl⟩ := (hmem mn).mp m1
        unfold tl
        split <;> omega
      refine ite_d (fun hc => ?_) fun hc => absurd hmn hc
      ((with_reducible conv => whnf); repeat (first | (rw [natD_len]; with_reducible conv => whnf) | (rw [intD_len]; with_reducible conv => whnf) | (refine And.intro (okII _ _) ?_; rw [eqD_ii]; with_reducible conv => whnf) | (refine And.intro (by first | assumption | exact Exists.intro _ (by assumption) | exact ⟨rfl, rfl, by decide, by decide⟩ | exact Nat.le_of_ble_eq_true rfl | exact rfl) ?_; with_reducible conv => whnf) | (rw [isLst_at (by assumption)]; with_reducible conv => whnf) | (refine ifT rfl ?_; with_reducible conv => whnf) | (refine ifF rfl ?_; with_reducible conv => whnf) | (refine it_at (by assumption) ?_; with_reducible conv => whnf)))
      refine ⟨ts, f4, hlen, fun mm m3 m4 => ?_⟩
      ((with_reducible conv => whnf); repeat (first | (rw [natD_len]; with_reducible conv => whnf) | (rw [intD_len]; with_reducible conv => whnf) | (refine And.intro (okII _ _) ?_; rw [eqD_ii]; with_reducible conv => whnf) | (refine And.intro (by first | assumption | exact Exists.intro _ (by assumption) | exact ⟨rfl, rfl, by decide, by decide⟩ | exact Nat.le_of_ble_eq_true rfl | exact rfl) ?_; with_reducible conv => whnf) | (rw [isLst_at (by assumption)]; with_reducible conv => whnf) | (refine ifT rfl ?_; with_reducible conv => whnf) | (refine ifF rfl ?_; with_reducible conv => whnf) | (refine it_at (by assumption) ?_; with_reducible conv => whnf)))
      have key : 0 < mm ↔ (x < w ∨ w + 1 < x) := by
        constructor
        · intro h
          obtain ⟨i, _, rfl⟩ := (hmem mm).mp m3
          unfold tl at h
          split at h <;> omega
        · rintro (h | h)
          · have := m4 _ ((hmem _).mpr ⟨x.toNat, by omega, rfl⟩)
            unfold tl at this
            split at this <;> omega
          · have := m4 _ ((hmem _).mpr ⟨(w + 1).toNat, by omega, rfl⟩)
            unfold tl at this
            split at this <;> omega
      have fin := kk S' f2 f3
      refine ite_d (fun hc => ?_) fun hc => ?_
      · ((with_reducible conv => whnf); repeat (first | (rw [natD_len]; with_reducible conv => whnf) | (rw [intD_len]; with_reducible conv => whnf) | (refine And.intro (okII _ _) ?_; rw [eqD_ii]; with_reducible conv => whnf) | (refine And.intro (by first | assumption | exact Exists.intro _ (by assumption) | exact ⟨rfl, rfl, by decide, by decide⟩ | exact Nat.le_of_ble_eq_true rfl | exact rfl) ?_; with_reducible conv => whnf) | (rw [isLst_at (by assumption)]; with_reducible conv => whnf) | (refine ifT rfl ?_; with_reducible conv => whnf) | (refine ifF rfl ?_; with_reducible conv => whnf) | (refine it_at (by assumption) ?_; with_reducible conv => whnf)))
        refine ⟨⟨rfl, rfl, Nat.zero_le _, Nat.zero_le _⟩, ?_⟩
        have : eqD (.bl (decide (0 < mm))) (.bl true) = true := by
          show (decide (0 < mm) == true) = true
          simp
          omega
        rw [this]
        exact fin
      · ((with_reducible conv => whnf); repeat (first | (rw [natD_len]; with_reducible conv => whnf) | (rw [intD_len]; with_reducible conv => whnf) | (refine And.intro (okII _ _) ?_; rw [eqD_ii]; with_reducible conv => whnf) | (refine And.intro (by first | assumption | exact Exists.intro _ (by assumption) | exact ⟨rfl, rfl, by decide, by decide⟩ | exact Nat.le_of_ble_eq_true rfl | exact rfl) ?_; with_reducible conv => whnf) | (rw [isLst_at (by assumption)]; with_reducible conv => whnf) | (refine ifT rfl ?_; with_reducible conv => whnf) | (refine ifF rfl ?_; with_reducible conv => whnf) | (refine it_at (by assumption) ?_; with_reducible conv => whnf)))
        refine ⟨⟨rfl, rfl, Nat.zero_le _, Nat.zero_le _⟩, ?_⟩
        have : eqD (.bl (decide (0 < mm))) (.bl (decide (w + 1 < x))) = true := by
          show (decide (0 < mm) == decide (w + 1 < x)) = true
          rw [beq_iff_eq, decide_eq_decide]
          omega
        rw [this]
        exact fin
  refine ite_d (fun hc => ?_) fun hc => ?_
  · exact main (w + 2) (by omega) (by omega) (by omega)
  · exact main r2 (by omega) (by omega) hc
end K97
set_option linter.all false
set_option maxRecDepth 100000
set_option maxHeartbeats 4000000
namespace K97
open DL
@[reducible] def sp_law : Spc := fun ds S Q => ∃ ns, ds = [.rol (intD ns)] ∧ ns.length ≤ 63 ∧ ∀ S', Q (.bl true) S'
theorem natF (l : List Nat) : flat (.tup (natD l)) = true := flats_int _
theorem natS (l : List Nat) (hl : l.length ≤ 50) : slim (.tup (natD l)) = true := by
  show (decide ((natD l).length ≤ szL) && slims (natD l)) = true
  rw [slims_int, natD_len, Bool.and_true, decide_eq_true_eq]
  unfold szL; omega
theorem natP (l : List Nat) : deep (.tup (natD l)) ≤ 3 := by
  show deeps (natD l) + 1 ≤ 3
  rw [deeps_int]
  decide
theorem withF (bs : List Int) (t f : Int) : flat (withD bs t f) = true := by
  show (flats (natD (thL bs t f)) && true) = true
  rw [flats_int]; rfl
theorem withS (bs : List Int) (t f : Int) (hl : bs.length ≤ 50) : slim (withD bs t f) = true := by
  have := th_len bs t f
  show (decide (2 ≤ szL) && ((decide ((natD (thL bs t f)).length ≤ szL) && slims (natD (thL bs t f))) && true)) = true
  rw [slims_int, natD_len, decide_eq_true (show (thL bs t f).length ≤ szL by unfold szL; omega)]
  rfl
theorem withP (bs : List Int) (t f : Int) : deep (withD bs t f) ≤ 3 := by
  show max (deeps (natD (thL bs t f)) + 1) 0 + 1 ≤ 3
  rw [deeps_int]
  decide
theorem fl_fix : flR [3, 5, 1] 2 [0, 1, 3, 5] = 3 := by decide
theorem win_fix : winL [3, 5, 3] 2 = [0, 1] := by decide
theorem price_fix : priceL [3, 5, 3] 2 = 3 := by decide
theorem gain_fix : gainL 4 [3, 5, 3] 2 0 = 1 := by decide
theorem with_fix : withD [3, 5, 1] 2 4 = .tup [.tup [.int 1], .int 4] := by
  have h1 : thL [3, 5, 1] 2 4 = [1] := by decide
  have h2 : payL [3, 5, 1] 2 4 = 4 := by decide
  unfold withD
  rw [h1, h2]
  rfl
theorem with_fix0 : withD [] 1 6 = .tup [.tup [], .int 6] := by
  have h1 : thL [] 1 6 = [] := by decide
  have h2 : payL [] 1 6 = 6 := by decide
  unfold withD
  rw [h1, h2]
  rfl
theorem paid_fix : ((winL [7] 1).length : Int) * priceL [7] 1 = 0 := by decide
theorem body_law : Body 8 1 (w_law sp_draws sp_cell sp_take sp_bids sp_win sp_win (sp_same 3) sp_price sp_price sp_paid sp_with sp_with sp_floor sp_floor sp_gain sp_gain sp_true sp_more) sp_law := by
  rintro ds S Q _ ⟨ns, rfl, hl, kk⟩
  unfold w_law
  (simp only [start, List.map_cons, List.map_nil, List.length_cons, List.length_nil, Nat.reduceAdd, Nat.reduceSub, List.replicate_succ, List.replicate_zero, List.cons_append, List.nil_append, Nat.sub_self, Nat.zero_add])
  ((with_reducible conv => whnf); repeat (first | (rw [natD_len]; with_reducible conv => whnf) | (rw [intD_len]; with_reducible conv => whnf) | (refine And.intro (okII _ _) ?_; rw [eqD_ii]; with_reducible conv => whnf) | (refine And.intro (by first | assumption | exact Exists.intro _ (by assumption) | exact ⟨rfl, rfl, by decide, by decide⟩ | exact Nat.le_of_ble_eq_true rfl | exact rfl) ?_; with_reducible conv => whnf) | (rw [isLst_at (by assumption)]; with_reducible conv => whnf) | (refine ifT rfl ?_; with_reducible conv => whnf) | (refine ifF rfl ?_; with_reducible conv => whnf) | (refine it_at (by assumption) ?_; with_reducible conv => whnf)))
  refine ⟨ns, 160, rfl, hl, by decide, by decide, fun n S1 d1 h1 hn => ?_⟩
  ((with_reducible conv => whnf); repeat (first | (rw [natD_len]; with_reducible conv => whnf) | (rw [intD_len]; with_reducible conv => whnf) | (refine And.intro (okII _ _) ?_; rw [eqD_ii]; with_reducible conv => whnf) | (refine And.intro (by first | assumption | exact Exists.intro _ (by assumption) | exact ⟨rfl, rfl, by decide, by decide⟩ | exact Nat.le_of_ble_eq_true rfl | exact rfl) ?_; with_reducible conv => whnf) | (rw [isLst_at (by assumption)]; with_reducible conv => whnf) | (refine ifT rfl ?_; with_reducible conv => whnf) | (refine ifF rfl ?_; with_reducible conv => whnf) | (refine it_at (by assumption) ?_; with_reducible conv => whnf)))
  refine ⟨ns, n, rfl, hl, d1, fun x S2 d2 h2 => ?_⟩
  ((with_reducible conv => whnf); repeat (first | (rw [natD_len]; with_reducible conv => whnf) | (rw [intD_len]; with_reducible conv => whnf) | (refine And.intro (okII _ _) ?_; rw [eqD_ii]; with_reducible conv => whnf) | (refine And.intro (by first | assumption | exact Exists.intro _ (by assumption) | exact ⟨rfl, rfl, by decide, by decide⟩ | exact Nat.le_of_ble_eq_true rfl | exact rfl) ?_; with_reducible conv => whnf) | (rw [isLst_at (by assumption)]; with_reducible conv => whnf) | (refine ifT rfl ?_; with_reducible conv => whnf) | (refine ifF rfl ?_; with_reducible conv => whnf) | (refine it_at (by assumption) ?_; with_reducible conv => whnf)))
  generalize hcell : (x.natAbs : Int) = cell at *
  have hcell0 : 0 ≤ cell := by omega
  clear h2 h1 hn
  refine ⟨⟨by decide, by decide⟩, ?_⟩
  refine Loop_mk (fun i ρ S' => ∃ o3 o4 o5 o6 o7, ρ = [some (.rol (intD ns)), some (.ref n), some (.int cell), o3, o4, o5, o6, o7] ∧ Dr n S' ∧ (0 < i → ∃ bs t, o4 = some (.tup (intD bs)) ∧ o5 = some (.int t) ∧ bs.length ≤ 50 ∧ 0 ≤ t)) ⟨none, none, none, none, none, rfl, d2, by omega⟩ (by intros; trivial) ?_ ?_
  · rintro i d ρ' S' hi ⟨o3, o4, o5, o6, o7, rfl, d3, _⟩
    obtain ⟨hi1, rfl⟩ := rangeD_get hi
    ((with_reducible conv => whnf); repeat (first | (rw [natD_len]; with_reducible conv => whnf) | (rw [intD_len]; with_reducible conv => whnf) | (refine And.intro (okII _ _) ?_; rw [eqD_ii]; with_reducible conv => whnf) | (refine And.intro (by first | assumption | exact Exists.intro _ (by assumption) | exact ⟨rfl, rfl, by decide, by decide⟩ | exact Nat.le_of_ble_eq_true rfl | exact rfl) ?_; with_reducible conv => whnf) | (rw [isLst_at (by assumption)]; with_reducible conv => whnf) | (refine ifT rfl ?_; with_reducible conv => whnf) | (refine ifF rfl ?_; with_reducible conv => whnf) | (refine it_at (by assumption) ?_; with_reducible conv => whnf)))
    refine ⟨_, _, rfl, by decide, d3, fun r1 S3 a0 a1 d3 _ => ?_⟩
    ((with_reducible conv => whnf); repeat (first | (rw [natD_len]; with_reducible conv => whnf) | (rw [intD_len]; with_reducible conv => whnf) | (refine And.intro (okII _ _) ?_; rw [eqD_ii]; with_reducible conv => whnf) | (refine And.intro (by first | assumption | exact Exists.intro _ (by assumption) | exact ⟨rfl, rfl, by decide, by decide⟩ | exact Nat.le_of_ble_eq_true rfl | exact rfl) ?_; with_reducible conv => whnf) | (rw [isLst_at (by assumption)]; with_reducible conv => whnf) | (refine ifT rfl ?_; with_reducible conv => whnf) | (refine ifF rfl ?_; with_reducible conv => whnf) | (refine it_at (by assumption) ?_; with_reducible conv => whnf)))
    refine ⟨_, _, _, rfl, hcell0, a0, by omega, d3, fun bs S4 hbl hb d4 _ => ?_⟩
    ((with_reducible conv => whnf); repeat (first | (rw [natD_len]; with_reducible conv => whnf) | (rw [intD_len]; with_reducible conv => whnf) | (refine And.intro (okII _ _) ?_; rw [eqD_ii]; with_reducible conv => whnf) | (refine And.intro (by first | assumption | exact Exists.intro _ (by assumption) | exact ⟨rfl, rfl, by decide, by decide⟩ | exact Nat.le_of_ble_eq_true rfl | exact rfl) ?_; with_reducible conv => whnf) | (rw [isLst_at (by assumption)]; with_reducible conv => whnf) | (refine ifT rfl ?_; with_reducible conv => whnf) | (refine ifF rfl ?_; with_reducible conv => whnf) | (refine it_at (by assumption) ?_; with_reducible conv => whnf)))
    refine ⟨_, _, rfl, by decide, d4, fun r2 S5 b0 b1 d5 _ => ?_⟩
    ((with_reducible conv => whnf); repeat (first | (rw [natD_len]; with_reducible conv => whnf) | (rw [intD_len]; with_reducible conv => whnf) | (refine And.intro (okII _ _) ?_; rw [eqD_ii]; with_reducible conv => whnf) | (refine And.intro (by first | assumption | exact Exists.intro _ (by assumption) | exact ⟨rfl, rfl, by decide, by decide⟩ | exact Nat.le_of_ble_eq_true rfl | exact rfl) ?_; with_reducible conv => whnf) | (rw [isLst_at (by assumption)]; with_reducible conv => whnf) | (refine ifT rfl ?_; with_reducible conv => whnf) | (refine ifF rfl ?_; with_reducible conv => whnf) | (refine it_at (by assumption) ?_; with_reducible conv => whnf)))
    generalize ht : 1 + r2 = t at *
    have hbl8 : bs.length ≤ 8 := by omega
    have hbl50 : bs.length ≤ 50 := by omega
    have ht0 : 0 ≤ t := by omega
    have hwl := win_len bs t
    refine ⟨_, _, rfl, hbl50, ht0, fun S6 h6 => ?_⟩
    ((with_reducible conv => whnf); repeat (first | (rw [natD_len]; with_reducible conv => whnf) | (rw [intD_len]; with_reducible conv => whnf) | (refine And.intro (okII _ _) ?_; rw [eqD_ii]; with_reducible conv => whnf) | (refine And.intro (by first | assumption | exact Exists.intro _ (by assumption) | exact ⟨rfl, rfl, by decide, by decide⟩ | exact Nat.le_of_ble_eq_true rfl | exact rfl) ?_; with_reducible conv => whnf) | (rw [isLst_at (by assumption)]; with_reducible conv => whnf) | (refine ifT rfl ?_; with_reducible conv => whnf) | (refine ifF rfl ?_; with_reducible conv => whnf) | (refine it_at (by assumption) ?_; with_reducible conv => whnf)))
    refine ⟨_, _, rfl, hbl50, ht0, fun S7 h7 => ?_⟩
    ((with_reducible conv => whnf); repeat (first | (rw [natD_len]; with_reducible conv => whnf) | (rw [intD_len]; with_reducible conv => whnf) | (refine And.intro (okII _ _) ?_; rw [eqD_ii]; with_reducible conv => whnf) | (refine And.intro (by first | assumption | exact Exists.intro _ (by assumption) | exact ⟨rfl, rfl, by decide, by decide⟩ | exact Nat.le_of_ble_eq_true rfl | exact rfl) ?_; with_reducible conv => whnf) | (rw [isLst_at (by assumption)]; with_reducible conv => whnf) | (refine ifT rfl ?_; with_reducible conv => whnf) | (refine ifF rfl ?_; with_reducible conv => whnf) | (refine it_at (by assumption) ?_; with_reducible conv => whnf)))
    refine ⟨_, rfl, natF _, natS (winL bs t) (by omega), natP _, fun S8 h8 => ?_⟩
    ((with_reducible conv => whnf); repeat (first | (rw [natD_len]; with_reducible conv => whnf) | (rw [intD_len]; with_reducible conv => whnf) | (refine And.intro (okII _ _) ?_; rw [eqD_ii]; with_reducible conv => whnf) | (refine And.intro (by first | assumption | exact Exists.intro _ (by assumption) | exact ⟨rfl, rfl, by decide, by decide⟩ | exact Nat.le_of_ble_eq_true rfl | exact rfl) ?_; with_reducible conv => whnf) | (rw [isLst_at (by assumption)]; with_reducible conv => whnf) | (refine ifT rfl ?_; with_reducible conv => whnf) | (refine ifF rfl ?_; with_reducible conv => whnf) | (refine it_at (by assumption) ?_; with_reducible conv => whnf)))
    refine ⟨_, _, rfl, hbl50, hb, ht0, fun S9 h9 => ?_⟩
    ((with_reducible conv => whnf); repeat (first | (rw [natD_len]; with_reducible conv => whnf) | (rw [intD_len]; with_reducible conv => whnf) | (refine And.intro (okII _ _) ?_; rw [eqD_ii]; with_reducible conv => whnf) | (refine And.intro (by first | assumption | exact Exists.intro _ (by assumption) | exact ⟨rfl, rfl, by decide, by decide⟩ | exact Nat.le_of_ble_eq_true rfl | exact rfl) ?_; with_reducible conv => whnf) | (rw [isLst_at (by assumption)]; with_reducible conv => whnf) | (refine ifT rfl ?_; with_reducible conv => whnf) | (refine ifF rfl ?_; with_reducible conv => whnf) | (refine it_at (by assumption) ?_; with_reducible conv => whnf)))
    refine ⟨_, _, rfl, hbl50, hb, ht0, fun S10 h10 => ?_⟩
    ((with_reducible conv => whnf); repeat (first | (rw [natD_len]; with_reducible conv => whnf) | (rw [intD_len]; with_reducible conv => whnf) | (refine And.intro (okII _ _) ?_; rw [eqD_ii]; with_reducible conv => whnf) | (refine And.intro (by first | assumption | exact Exists.intro _ (by assumption) | exact ⟨rfl, rfl, by decide, by decide⟩ | exact Nat.le_of_ble_eq_true rfl | exact rfl) ?_; with_reducible conv => whnf) | (rw [isLst_at (by assumption)]; with_reducible conv => whnf) | (refine ifT rfl ?_; with_reducible conv => whnf) | (refine ifF rfl ?_; with_reducible conv => whnf) | (refine it_at (by assumption) ?_; with_reducible conv => whnf)))
    refine ⟨_, rfl, rfl, rfl, Nat.zero_le _, fun S11 h11 => ?_⟩
    ((with_reducible conv => whnf); repeat (first | (rw [natD_len]; with_reducible conv => whnf) | (rw [intD_len]; with_reducible conv => whnf) | (refine And.intro (okII _ _) ?_; rw [eqD_ii]; with_reducible conv => whnf) | (refine And.intro (by first | assumption | exact Exists.intro _ (by assumption) | exact ⟨rfl, rfl, by decide, by decide⟩ | exact Nat.le_of_ble_eq_true rfl | exact rfl) ?_; with_reducible conv => whnf) | (rw [isLst_at (by assumption)]; with_reducible conv => whnf) | (refine ifT rfl ?_; with_reducible conv => whnf) | (refine ifF rfl ?_; with_reducible conv => whnf) | (refine it_at (by assumption) ?_; with_reducible conv => whnf)))
    have d6 := d5.sub (h6.trans (h7.trans (h8.trans (h9.trans (h10.trans h11)))))
    clear h6 h7 h8 h9 h10 h11
    refine ⟨_, _, rfl, hbl50, hb, ht0, fun S12 h6 => ?_⟩
    ((with_reducible conv => whnf); repeat (first | (rw [natD_len]; with_reducible conv => whnf) | (rw [intD_len]; with_reducible conv => whnf) | (refine And.intro (okII _ _) ?_; rw [eqD_ii]; with_reducible conv => whnf) | (refine And.intro (by first | assumption | exact Exists.intro _ (by assumption) | exact ⟨rfl, rfl, by decide, by decide⟩ | exact Nat.le_of_ble_eq_true rfl | exact rfl) ?_; with_reducible conv => whnf) | (rw [isLst_at (by assumption)]; with_reducible conv => whnf) | (refine ifT rfl ?_; with_reducible conv => whnf) | (refine ifF rfl ?_; with_reducible conv => whnf) | (refine it_at (by assumption) ?_; with_reducible conv => whnf)))
    refine ⟨_, _, rfl, hbl50, ht0, fun S13 h7 => ?_⟩
    ((with_reducible conv => whnf); repeat (first | (rw [natD_len]; with_reducible conv => whnf) | (rw [intD_len]; with_reducible conv => whnf) | (refine And.intro (okII _ _) ?_; rw [eqD_ii]; with_reducible conv => whnf) | (refine And.intro (by first | assumption | exact Exists.intro _ (by assumption) | exact ⟨rfl, rfl, by decide, by decide⟩ | exact Nat.le_of_ble_eq_true rfl | exact rfl) ?_; with_reducible conv => whnf) | (rw [isLst_at (by assumption)]; with_reducible conv => whnf) | (refine ifT rfl ?_; with_reducible conv => whnf) | (refine ifF rfl ?_; with_reducible conv => whnf) | (refine it_at (by assumption) ?_; with_reducible conv => whnf)))
    refine ⟨_, _, rfl, hbl50, hb, ht0, fun S14 h8 => ?_⟩
    ((with_reducible conv => whnf); repeat (first | (rw [natD_len]; with_reducible conv => whnf) | (rw [intD_len]; with_reducible conv => whnf) | (refine And.intro (okII _ _) ?_; rw [eqD_ii]; with_reducible conv => whnf) | (refine And.intro (by first | assumption | exact Exists.intro _ (by assumption) | exact ⟨rfl, rfl, by decide, by decide⟩ | exact Nat.le_of_ble_eq_true rfl | exact rfl) ?_; with_reducible conv => whnf) | (rw [isLst_at (by assumption)]; with_reducible conv => whnf) | (refine ifT rfl ?_; with_reducible conv => whnf) | (refine ifF rfl ?_; with_reducible conv => whnf) | (refine it_at (by assumption) ?_; with_reducible conv => whnf)))
    refine ⟨smallMul' (by omega), ?_⟩
    ((with_reducible conv => whnf); repeat (first | (rw [natD_len]; with_reducible conv => whnf) | (rw [intD_len]; with_reducible conv => whnf) | (refine And.intro (okII _ _) ?_; rw [eqD_ii]; with_reducible conv => whnf) | (refine And.intro (by first | assumption | exact Exists.intro _ (by assumption) | exact ⟨rfl, rfl, by decide, by decide⟩ | exact Nat.le_of_ble_eq_true rfl | exact rfl) ?_; with_reducible conv => whnf) | (rw [isLst_at (by assumption)]; with_reducible conv => whnf) | (refine ifT rfl ?_; with_reducible conv => whnf) | (refine ifF rfl ?_; with_reducible conv => whnf) | (refine it_at (by assumption) ?_; with_reducible conv => whnf)))
    refine ⟨_, rfl, rfl, rfl, Nat.zero_le _, fun S15 h9 => ?_⟩
    ((with_reducible conv => whnf); repeat (first | (rw [natD_len]; with_reducible conv => whnf) | (rw [intD_len]; with_reducible conv => whnf) | (refine And.intro (okII _ _) ?_; rw [eqD_ii]; with_reducible conv => whnf) | (refine And.intro (by first | assumption | exact Exists.intro _ (by assumption) | exact ⟨rfl, rfl, by decide, by decide⟩ | exact Nat.le_of_ble_eq_true rfl | exact rfl) ?_; with_reducible conv => whnf) | (rw [isLst_at (by assumption)]; with_reducible conv => whnf) | (refine ifT rfl ?_; with_reducible conv => whnf) | (refine ifF rfl ?_; with_reducible conv => whnf) | (refine it_at (by assumption) ?_; with_reducible conv => whnf)))
    have d7 := d6.sub (h6.trans (h7.trans (h8.trans h9)))
    clear h6 h7 h8 h9
    refine ⟨_, _, rfl, hbl50, hb, by omega, fun S16 h6 => ?_⟩
    ((with_reducible conv => whnf); repeat (first | (rw [natD_len]; with_reducible conv => whnf) | (rw [intD_len]; with_reducible conv => whnf) | (refine And.intro (okII _ _) ?_; rw [eqD_ii]; with_reducible conv => whnf) | (refine And.intro (by first | assumption | exact Exists.intro _ (by assumption) | exact ⟨rfl, rfl, by decide, by decide⟩ | exact Nat.le_of_ble_eq_true rfl | exact rfl) ?_; with_reducible conv => whnf) | (rw [isLst_at (by assumption)]; with_reducible conv => whnf) | (refine ifT rfl ?_; with_reducible conv => whnf) | (refine ifF rfl ?_; with_reducible conv => whnf) | (refine it_at (by assumption) ?_; with_reducible conv => whnf)))
    refine ⟨_, _, rfl, hbl50, hb, by omega, fun S17 h7 => ?_⟩
    ((with_reducible conv => whnf); repeat (first | (rw [natD_len]; with_reducible conv => whnf) | (rw [intD_len]; with_reducible conv => whnf) | (refine And.intro (okII _ _) ?_; rw [eqD_ii]; with_reducible conv => whnf) | (refine And.intro (by first | assumption | exact Exists.intro _ (by assumption) | exact ⟨rfl, rfl, by decide, by decide⟩ | exact Nat.le_of_ble_eq_true rfl | exact rfl) ?_; with_reducible conv => whnf) | (rw [isLst_at (by assumption)]; with_reducible conv => whnf) | (refine ifT rfl ?_; with_reducible conv => whnf) | (refine ifF rfl ?_; with_reducible conv => whnf) | (refine it_at (by assumption) ?_; with_reducible conv => whnf)))
    refine ⟨_, rfl, rfl, rfl, Nat.zero_le _, fun S18 h8 => ?_⟩
    ((with_reducible conv => whnf); repeat (first | (rw [natD_len]; with_reducible conv => whnf) | (rw [intD_len]; with_reducible conv => whnf) | (refine And.intro (okII _ _) ?_; rw [eqD_ii]; with_reducible conv => whnf) | (refine And.intro (by first | assumption | exact Exists.intro _ (by assumption) | exact ⟨rfl, rfl, by decide, by decide⟩ | exact Nat.le_of_ble_eq_true rfl | exact rfl) ?_; with_reducible conv => whnf) | (rw [isLst_at (by assumption)]; with_reducible conv => whnf) | (refine ifT rfl ?_; with_reducible conv => whnf) | (refine ifF rfl ?_; with_reducible conv => whnf) | (refine it_at (by assumption) ?_; with_reducible conv => whnf)))
    refine ⟨_, _, rfl, hbl50, hb, by omega, fun S19 h9 => ?_⟩
    ((with_reducible conv => whnf); repeat (first | (rw [natD_len]; with_reducible conv => whnf) | (rw [intD_len]; with_reducible conv => whnf) | (refine And.intro (okII _ _) ?_; rw [eqD_ii]; with_reducible conv => whnf) | (refine And.intro (by first | assumption | exact Exists.intro _ (by assumption) | exact ⟨rfl, rfl, by decide, by decide⟩ | exact Nat.le_of_ble_eq_true rfl | exact rfl) ?_; with_reducible conv => whnf) | (rw [isLst_at (by assumption)]; with_reducible conv => whnf) | (refine ifT rfl ?_; with_reducible conv => whnf) | (refine ifF rfl ?_; with_reducible conv => whnf) | (refine it_at (by assumption) ?_; with_reducible conv => whnf)))
    refine ⟨_, _, rfl, hbl50, hb, ht0, fun S20 h10 => ?_⟩
    ((with_reducible conv => whnf); repeat (first | (rw [natD_len]; with_reducible conv => whnf) | (rw [intD_len]; with_reducible conv => whnf) | (refine And.intro (okII _ _) ?_; rw [eqD_ii]; with_reducible conv => whnf) | (refine And.intro (by first | assumption | exact Exists.intro _ (by assumption) | exact ⟨rfl, rfl, by decide, by decide⟩ | exact Nat.le_of_ble_eq_true rfl | exact rfl) ?_; with_reducible conv => whnf) | (rw [isLst_at (by assumption)]; with_reducible conv => whnf) | (refine ifT rfl ?_; with_reducible conv => whnf) | (refine ifF rfl ?_; with_reducible conv => whnf) | (refine it_at (by assumption) ?_; with_reducible conv => whnf)))
    have hpm := price_mono bs.length (bt bs) t
    refine ite_d (fun hc => absurd hc (Int.not_lt.mpr hpm)) fun hc => ?_
    ((with_reducible conv => whnf); repeat (first | (rw [natD_len]; with_reducible conv => whnf) | (rw [intD_len]; with_reducible conv => whnf) | (refine And.intro (okII _ _) ?_; rw [eqD_ii]; with_reducible conv => whnf) | (refine And.intro (by first | assumption | exact Exists.intro _ (by assumption) | exact ⟨rfl, rfl, by decide, by decide⟩ | exact Nat.le_of_ble_eq_true rfl | exact rfl) ?_; with_reducible conv => whnf) | (rw [isLst_at (by assumption)]; with_reducible conv => whnf) | (refine ifT rfl ?_; with_reducible conv => whnf) | (refine ifF rfl ?_; with_reducible conv => whnf) | (refine it_at (by assumption) ?_; with_reducible conv => whnf)))
    have d8 := d7.sub (h6.trans (h7.trans (h8.trans (h9.trans h10))))
    clear h6 h7 h8 h9 h10
    refine ⟨by rw [List.length_singleton]; unfold szL; omega, ?_⟩
    refine ⟨0 :: bs, rfl, by simp, fun m m1 m2 => ?_⟩
    ((with_reducible conv => whnf); repeat (first | (rw [natD_len]; with_reducible conv => whnf) | (rw [intD_len]; with_reducible conv => whnf) | (refine And.intro (okII _ _) ?_; rw [eqD_ii]; with_reducible conv => whnf) | (refine And.intro (by first | assumption | exact Exists.intro _ (by assumption) | exact ⟨rfl, rfl, by decide, by decide⟩ | exact Nat.le_of_ble_eq_true rfl | exact rfl) ?_; with_reducible conv => whnf) | (rw [isLst_at (by assumption)]; with_reducible conv => whnf) | (refine ifT rfl ?_; with_reducible conv => whnf) | (refine ifF rfl ?_; with_reducible conv => whnf) | (refine it_at (by assumption) ?_; with_reducible conv => whnf)))
    refine ⟨_, _, rfl, by decide, d8, fun r3 S21 c0 c1 d9 _ => ?_⟩
    ((with_reducible conv => whnf); repeat (first | (rw [natD_len]; with_reducible conv => whnf) | (rw [intD_len]; with_reducible conv => whnf) | (refine And.intro (okII _ _) ?_; rw [eqD_ii]; with_reducible conv => whnf) | (refine And.intro (by first | assumption | exact Exists.intro _ (by assumption) | exact ⟨rfl, rfl, by decide, by decide⟩ | exact Nat.le_of_ble_eq_true rfl | exact rfl) ?_; with_reducible conv => whnf) | (rw [isLst_at (by assumption)]; with_reducible conv => whnf) | (refine ifT rfl ?_; with_reducible conv => whnf) | (refine ifF rfl ?_; with_reducible conv => whnf) | (refine it_at (by assumption) ?_; with_reducible conv => whnf)))
    have e1 := at_push S21 (.lst [.int 0, .int cell, .int (m + 1), .int r3])
    have d9 := d9.app [.lst [.int 0, .int cell, .int (m + 1), .int r3]]
    generalize S21 ++ [.lst [.int 0, .int cell, .int (m + 1), .int r3]] = S22 at *
    have e2 := at_push S22 (.lst (cut (intD bs) none (some 2)))
    have e1 := push_at e1 [.lst (cut (intD bs) none (some 2))]
    have d9 := d9.app [.lst (cut (intD bs) none (some 2))]
    generalize S22 ++ [.lst (cut (intD bs) none (some 2))] = S23 at *
    have hcl : (cut (intD bs) none (some 2)).length ≤ bs.length := cutl
    ((with_reducible conv => whnf); repeat (first | (rw [natD_len]; with_reducible conv => whnf) | (rw [intD_len]; with_reducible conv => whnf) | (refine And.intro (okII _ _) ?_; rw [eqD_ii]; with_reducible conv => whnf) | (refine And.intro (by first | assumption | exact Exists.intro _ (by assumption) | exact ⟨rfl, rfl, by decide, by decide⟩ | exact Nat.le_of_ble_eq_true rfl | exact rfl) ?_; with_reducible conv => whnf) | (rw [isLst_at (by assumption)]; with_reducible conv => whnf) | (refine ifT rfl ?_; with_reducible conv => whnf) | (refine ifF rfl ?_; with_reducible conv => whnf) | (refine it_at (by assumption) ?_; with_reducible conv => whnf)))
    refine ⟨by simp only [List.length_cons, List.length_nil]; unfold szL; omega, ?_⟩
    rw [cut_take _ (by decide)]
    have hfl : [D.int 0, .int cell, .int (m + 1), .int r3] ++ (intD bs).take (Int.toNat 2) = intD ([0, cell, m + 1, r3] ++ bs.take 2) := by simp [intD]
    rw [hfl]
    have e3 := at_push S23 (.lst (intD ([0, cell, m + 1, r3] ++ bs.take 2)))
    have d9 := d9.app [.lst (intD ([0, cell, m + 1, r3] ++ bs.take 2))]
    generalize S23 ++ [.lst (intD ([0, cell, m + 1, r3] ++ bs.take 2))] = S24 at *
    generalize S23.length = nf at *
    ((with_reducible conv => whnf); repeat (first | (rw [natD_len]; with_reducible conv => whnf) | (rw [intD_len]; with_reducible conv => whnf) | (refine And.intro (okII _ _) ?_; rw [eqD_ii]; with_reducible conv => whnf) | (refine And.intro (by first | assumption | exact Exists.intro _ (by assumption) | exact ⟨rfl, rfl, by decide, by decide⟩ | exact Nat.le_of_ble_eq_true rfl | exact rfl) ?_; with_reducible conv => whnf) | (rw [isLst_at (by assumption)]; with_reducible conv => whnf) | (refine ifT rfl ?_; with_reducible conv => whnf) | (refine ifF rfl ?_; with_reducible conv => whnf) | (refine it_at (by assumption) ?_; with_reducible conv => whnf)))
    refine Loop_mk (fun _ ρ S' => ∃ o6, ρ = [some (.rol (intD ns)), some (.ref n), some (.int cell), some (.int (0 + i)), some (.tup (intD bs)), some (.int t), o6, o7] ∧ Dr n S' ∧ Sub S24 S') ⟨o6, rfl, d9, Sub.refl _⟩ (by rintro i ρ S' ⟨_, _, _, h⟩; exact h _ _ e3) ?_ ?_
    · rintro q d ρ' S' hq ⟨o6, rfl, d10, h10⟩
      obtain ⟨f, hf, rfl⟩ := intD_get hq
      ((with_reducible conv => whnf); repeat (first | (rw [natD_len]; with_reducible conv => whnf) | (rw [intD_len]; with_reducible conv => whnf) | (refine And.intro (okII _ _) ?_; rw [eqD_ii]; with_reducible conv => whnf) | (refine And.intro (by first | assumption | exact Exists.intro _ (by assumption) | exact ⟨rfl, rfl, by decide, by decide⟩ | exact Nat.le_of_ble_eq_true rfl | exact rfl) ?_; with_reducible conv => whnf) | (rw [isLst_at (by assumption)]; with_reducible conv => whnf) | (refine ifT rfl ?_; with_reducible conv => whnf) | (refine ifF rfl ?_; with_reducible conv => whnf) | (refine it_at (by assumption) ?_; with_reducible conv => whnf)))
      refine ⟨_, _, _, rfl, hbl50, hb, ht0, fun T1 g1 => ?_⟩
      ((with_reducible conv => whnf); repeat (first | (rw [natD_len]; with_reducible conv => whnf) | (rw [intD_len]; with_reducible conv => whnf) | (refine And.intro (okII _ _) ?_; rw [eqD_ii]; with_reducible conv => whnf) | (refine And.intro (by first | assumption | exact Exists.intro _ (by assumption) | exact ⟨rfl, rfl, by decide, by decide⟩ | exact Nat.le_of_ble_eq_true rfl | exact rfl) ?_; with_reducible conv => whnf) | (rw [isLst_at (by assumption)]; with_reducible conv => whnf) | (refine ifT rfl ?_; with_reducible conv => whnf) | (refine ifF rfl ?_; with_reducible conv => whnf) | (refine it_at (by assumption) ?_; with_reducible conv => whnf)))
      refine ⟨_, _, _, rfl, hbl50, hb, ht0, fun T2 g2 => ?_⟩
      ((with_reducible conv => whnf); repeat (first | (rw [natD_len]; with_reducible conv => whnf) | (rw [intD_len]; with_reducible conv => whnf) | (refine And.intro (okII _ _) ?_; rw [eqD_ii]; with_reducible conv => whnf) | (refine And.intro (by first | assumption | exact Exists.intro _ (by assumption) | exact ⟨rfl, rfl, by decide, by decide⟩ | exact Nat.le_of_ble_eq_true rfl | exact rfl) ?_; with_reducible conv => whnf) | (rw [isLst_at (by assumption)]; with_reducible conv => whnf) | (refine ifT rfl ?_; with_reducible conv => whnf) | (refine ifF rfl ?_; with_reducible conv => whnf) | (refine it_at (by assumption) ?_; with_reducible conv => whnf)))
      refine ⟨_, rfl, withF _ _ _, withS bs _ _ hbl50, withP _ _ _, fun T3 g3 => ?_⟩
      ((with_reducible conv => whnf); repeat (first | (rw [natD_len]; with_reducible conv => whnf) | (rw [intD_len]; with_reducible conv => whnf) | (refine And.intro (okII _ _) ?_; rw [eqD_ii]; with_reducible conv => whnf) | (refine And.intro (by first | assumption | exact Exists.intro _ (by assumption) | exact ⟨rfl, rfl, by decide, by decide⟩ | exact Nat.le_of_ble_eq_true rfl | exact rfl) ?_; with_reducible conv => whnf) | (rw [isLst_at (by assumption)]; with_reducible conv => whnf) | (refine ifT rfl ?_; with_reducible conv => whnf) | (refine ifF rfl ?_; with_reducible conv => whnf) | (refine it_at (by assumption) ?_; with_reducible conv => whnf)))
      have g := g1.trans (g2.trans g3)
      exact ⟨_, rfl, d10.sub g, h10.trans g⟩
    · rintro ρ' S' ⟨o6', rfl, d10, h10⟩
      ((with_reducible conv => whnf); repeat (first | (rw [natD_len]; with_reducible conv => whnf) | (rw [intD_len]; with_reducible conv => whnf) | (refine And.intro (okII _ _) ?_; rw [eqD_ii]; with_reducible conv => whnf) | (refine And.intro (by first | assumption | exact Exists.intro _ (by assumption) | exact ⟨rfl, rfl, by decide, by decide⟩ | exact Nat.le_of_ble_eq_true rfl | exact rfl) ?_; with_reducible conv => whnf) | (rw [isLst_at (by assumption)]; with_reducible conv => whnf) | (refine ifT rfl ?_; with_reducible conv => whnf) | (refine ifF rfl ?_; with_reducible conv => whnf) | (refine it_at (by assumption) ?_; with_reducible conv => whnf)))
      refine ⟨_, _, rfl, hbl50, hb, ht0, fun ms1 T1 a1 a2 g1 => ?_⟩
      ((with_reducible conv => whnf); repeat (first | (rw [natD_len]; with_reducible conv => whnf) | (rw [intD_len]; with_reducible conv => whnf) | (refine And.intro (okII _ _) ?_; rw [eqD_ii]; with_reducible conv => whnf) | (refine And.intro (by first | assumption | exact Exists.intro _ (by assumption) | exact ⟨rfl, rfl, by decide, by decide⟩ | exact Nat.le_of_ble_eq_true rfl | exact rfl) ?_; with_reducible conv => whnf) | (rw [isLst_at (by assumption)]; with_reducible conv => whnf) | (refine ifT rfl ?_; with_reducible conv => whnf) | (refine ifF rfl ?_; with_reducible conv => whnf) | (refine it_at (by assumption) ?_; with_reducible conv => whnf)))
      refine ⟨_, _, rfl, hbl50, hb, ht0, fun ms2 T2 a3 a4 g2 => ?_⟩
      have hms : ms1 = ms2 := asc_one a1 a3 fun k => by rw [a2, a4]
      subst hms
      ((with_reducible conv => whnf); repeat (first | (rw [natD_len]; with_reducible conv => whnf) | (rw [intD_len]; with_reducible conv => whnf) | (refine And.intro (okII _ _) ?_; rw [eqD_ii]; with_reducible conv => whnf) | (refine And.intro (by first | assumption | exact Exists.intro _ (by assumption) | exact ⟨rfl, rfl, by decide, by decide⟩ | exact Nat.le_of_ble_eq_true rfl | exact rfl) ?_; with_reducible conv => whnf) | (rw [isLst_at (by assumption)]; with_reducible conv => whnf) | (refine ifT rfl ?_; with_reducible conv => whnf) | (refine ifF rfl ?_; with_reducible conv => whnf) | (refine it_at (by assumption) ?_; with_reducible conv => whnf)))
      refine ⟨_, rfl, rfl, rfl, Nat.zero_le _, fun T3 g3 => ?_⟩
      ((with_reducible conv => whnf); repeat (first | (rw [natD_len]; with_reducible conv => whnf) | (rw [intD_len]; with_reducible conv => whnf) | (refine And.intro (okII _ _) ?_; rw [eqD_ii]; with_reducible conv => whnf) | (refine And.intro (by first | assumption | exact Exists.intro _ (by assumption) | exact ⟨rfl, rfl, by decide, by decide⟩ | exact Nat.le_of_ble_eq_true rfl | exact rfl) ?_; with_reducible conv => whnf) | (rw [isLst_at (by assumption)]; with_reducible conv => whnf) | (refine ifT rfl ?_; with_reducible conv => whnf) | (refine ifF rfl ?_; with_reducible conv => whnf) | (refine it_at (by assumption) ?_; with_reducible conv => whnf)))
      refine ⟨⟨by omega, by omega⟩, ?_⟩
      have d11 := d10.sub (g1.trans (g2.trans g3))
      refine Loop_mk (fun j ρ S' => ∃ o7, ρ = [some (.rol (intD ns)), some (.ref n), some (.int cell), some (.int (0 + i)), some (.tup (intD bs)), some (.int t), o6', o7] ∧ Dr n S') ⟨o7, rfl, d11⟩ (by intros; trivial) ?_ ?_
      · rintro j d ρ' S' hj ⟨o7', rfl, d12⟩
        obtain ⟨hj1, rfl⟩ := rangeD_get hj
        have hjb : j < bs.length := by omega
        rw [Int.zero_add]
        ((with_reducible conv => whnf); repeat (first | (rw [natD_len]; with_reducible conv => whnf) | (rw [intD_len]; with_reducible conv => whnf) | (refine And.intro (okII _ _) ?_; rw [eqD_ii]; with_reducible conv => whnf) | (refine And.intro (by first | assumption | exact Exists.intro _ (by assumption) | exact ⟨rfl, rfl, by decide, by decide⟩ | exact Nat.le_of_ble_eq_true rfl | exact rfl) ?_; with_reducible conv => whnf) | (rw [isLst_at (by assumption)]; with_reducible conv => whnf) | (refine ifT rfl ?_; with_reducible conv => whnf) | (refine ifF rfl ?_; with_reducible conv => whnf) | (refine it_at (by assumption) ?_; with_reducible conv => whnf)))
        refine ⟨_, _, _, j, rfl, hbl50, hb, ht0, fun U1 u1 => ?_⟩
        ((with_reducible conv => whnf); repeat (first | (rw [natD_len]; with_reducible conv => whnf) | (rw [intD_len]; with_reducible conv => whnf) | (refine And.intro (okII _ _) ?_; rw [eqD_ii]; with_reducible conv => whnf) | (refine And.intro (by first | assumption | exact Exists.intro _ (by assumption) | exact ⟨rfl, rfl, by decide, by decide⟩ | exact Nat.le_of_ble_eq_true rfl | exact rfl) ?_; with_reducible conv => whnf) | (rw [isLst_at (by assumption)]; with_reducible conv => whnf) | (refine ifT rfl ?_; with_reducible conv => whnf) | (refine ifF rfl ?_; with_reducible conv => whnf) | (refine it_at (by assumption) ?_; with_reducible conv => whnf)))
        refine ⟨_, _, _, j, rfl, hbl50, hb, ht0, fun U2 u2 => ?_⟩
        ((with_reducible conv => whnf); repeat (first | (rw [natD_len]; with_reducible conv => whnf) | (rw [intD_len]; with_reducible conv => whnf) | (refine And.intro (okII _ _) ?_; rw [eqD_ii]; with_reducible conv => whnf) | (refine And.intro (by first | assumption | exact Exists.intro _ (by assumption) | exact ⟨rfl, rfl, by decide, by decide⟩ | exact Nat.le_of_ble_eq_true rfl | exact rfl) ?_; with_reducible conv => whnf) | (rw [isLst_at (by assumption)]; with_reducible conv => whnf) | (refine ifT rfl ?_; with_reducible conv => whnf) | (refine ifF rfl ?_; with_reducible conv => whnf) | (refine it_at (by assumption) ?_; with_reducible conv => whnf)))
        refine ⟨_, rfl, rfl, rfl, Nat.zero_le _, fun U3 u3 => ?_⟩
        ((with_reducible conv => whnf); repeat (first | (rw [natD_len]; with_reducible conv => whnf) | (rw [intD_len]; with_reducible conv => whnf) | (refine And.intro (okII _ _) ?_; rw [eqD_ii]; with_reducible conv => whnf) | (refine And.intro (by first | assumption | exact Exists.intro _ (by assumption) | exact ⟨rfl, rfl, by decide, by decide⟩ | exact Nat.le_of_ble_eq_true rfl | exact rfl) ?_; with_reducible conv => whnf) | (rw [isLst_at (by assumption)]; with_reducible conv => whnf) | (refine ifT rfl ?_; with_reducible conv => whnf) | (refine ifF rfl ?_; with_reducible conv => whnf) | (refine it_at (by assumption) ?_; with_reducible conv => whnf)))
        refine ⟨n, bs, t, j, rfl, by omega, hjb, hb, by omega, d12.sub (u1.trans (u2.trans u3)), fun U4 d13 _ => ?_⟩
        ((with_reducible conv => whnf); repeat (first | (rw [natD_len]; with_reducible conv => whnf) | (rw [intD_len]; with_reducible conv => whnf) | (refine And.intro (okII _ _) ?_; rw [eqD_ii]; with_reducible conv => whnf) | (refine And.intro (by first | assumption | exact Exists.intro _ (by assumption) | exact ⟨rfl, rfl, by decide, by decide⟩ | exact Nat.le_of_ble_eq_true rfl | exact rfl) ?_; with_reducible conv => whnf) | (rw [isLst_at (by assumption)]; with_reducible conv => whnf) | (refine ifT rfl ?_; with_reducible conv => whnf) | (refine ifF rfl ?_; with_reducible conv => whnf) | (refine it_at (by assumption) ?_; with_reducible conv => whnf)))
        exact ⟨_, rfl, d13⟩
      · rintro ρ' S' ⟨o7', rfl, d12⟩
        ((with_reducible conv => whnf); repeat (first | (rw [natD_len]; with_reducible conv => whnf) | (rw [intD_len]; with_reducible conv => whnf) | (refine And.intro (okII _ _) ?_; rw [eqD_ii]; with_reducible conv => whnf) | (refine And.intro (by first | assumption | exact Exists.intro _ (by assumption) | exact ⟨rfl, rfl, by decide, by decide⟩ | exact Nat.le_of_ble_eq_true rfl | exact rfl) ?_; with_reducible conv => whnf) | (rw [isLst_at (by assumption)]; with_reducible conv => whnf) | (refine ifT rfl ?_; with_reducible conv => whnf) | (refine ifF rfl ?_; with_reducible conv => whnf) | (refine it_at (by assumption) ?_; with_reducible conv => whnf)))
        exact ⟨_, _, _, _, _, rfl, d12, fun _ => ⟨bs, t, rfl, rfl, hbl50, ht0⟩⟩
  · rintro ρ' S' ⟨o3, o4, o5, o6, o7, rfl, d3, hx⟩
    obtain ⟨bs, t, rfl, rfl, hbl, ht0⟩ := hx (by decide)
    ((with_reducible conv => whnf); repeat (first | (rw [natD_len]; with_reducible conv => whnf) | (rw [intD_len]; with_reducible conv => whnf) | (refine And.intro (okII _ _) ?_; rw [eqD_ii]; with_reducible conv => whnf) | (refine And.intro (by first | assumption | exact Exists.intro _ (by assumption) | exact ⟨rfl, rfl, by decide, by decide⟩ | exact Nat.le_of_ble_eq_true rfl | exact rfl) ?_; with_reducible conv => whnf) | (rw [isLst_at (by assumption)]; with_reducible conv => whnf) | (refine ifT rfl ?_; with_reducible conv => whnf) | (refine ifF rfl ?_; with_reducible conv => whnf) | (refine it_at (by assumption) ?_; with_reducible conv => whnf)))
    refine ⟨_, rfl, d3, fun S3 d4 _ => ?_⟩
    ((with_reducible conv => whnf); repeat (first | (rw [natD_len]; with_reducible conv => whnf) | (rw [intD_len]; with_reducible conv => whnf) | (refine And.intro (okII _ _) ?_; rw [eqD_ii]; with_reducible conv => whnf) | (refine And.intro (by first | assumption | exact Exists.intro _ (by assumption) | exact ⟨rfl, rfl, by decide, by decide⟩ | exact Nat.le_of_ble_eq_true rfl | exact rfl) ?_; with_reducible conv => whnf) | (rw [isLst_at (by assumption)]; with_reducible conv => whnf) | (refine ifT rfl ?_; with_reducible conv => whnf) | (refine ifF rfl ?_; with_reducible conv => whnf) | (refine it_at (by assumption) ?_; with_reducible conv => whnf)))
    refine ⟨[3, 5, 3], 2, rfl, by decide, by decide, fun S4 _ => ?_⟩
    rw [win_fix]
    ((with_reducible conv => whnf); repeat (first | (rw [natD_len]; with_reducible conv => whnf) | (rw [intD_len]; with_reducible conv => whnf) | (refine And.intro (okII _ _) ?_; rw [eqD_ii]; with_reducible conv => whnf) | (refine And.intro (by first | assumption | exact Exists.intro _ (by assumption) | exact ⟨rfl, rfl, by decide, by decide⟩ | exact Nat.le_of_ble_eq_true rfl | exact rfl) ?_; with_reducible conv => whnf) | (rw [isLst_at (by assumption)]; with_reducible conv => whnf) | (refine ifT rfl ?_; with_reducible conv => whnf) | (refine ifF rfl ?_; with_reducible conv => whnf) | (refine it_at (by assumption) ?_; with_reducible conv => whnf)))
    refine ⟨_, rfl, rfl, rfl, by decide, fun S5 _ => ?_⟩
    ((with_reducible conv => whnf); repeat (first | (rw [natD_len]; with_reducible conv => whnf) | (rw [intD_len]; with_reducible conv => whnf) | (refine And.intro (okII _ _) ?_; rw [eqD_ii]; with_reducible conv => whnf) | (refine And.intro (by first | assumption | exact Exists.intro _ (by assumption) | exact ⟨rfl, rfl, by decide, by decide⟩ | exact Nat.le_of_ble_eq_true rfl | exact rfl) ?_; with_reducible conv => whnf) | (rw [isLst_at (by assumption)]; with_reducible conv => whnf) | (refine ifT rfl ?_; with_reducible conv => whnf) | (refine ifF rfl ?_; with_reducible conv => whnf) | (refine it_at (by assumption) ?_; with_reducible conv => whnf)))
    refine ⟨[3, 5, 3], 2, rfl, by decide, by decide, by decide, fun S6 _ => ?_⟩
    rw [price_fix]
    ((with_reducible conv => whnf); repeat (first | (rw [natD_len]; with_reducible conv => whnf) | (rw [intD_len]; with_reducible conv => whnf) | (refine And.intro (okII _ _) ?_; rw [eqD_ii]; with_reducible conv => whnf) | (refine And.intro (by first | assumption | exact Exists.intro _ (by assumption) | exact ⟨rfl, rfl, by decide, by decide⟩ | exact Nat.le_of_ble_eq_true rfl | exact rfl) ?_; with_reducible conv => whnf) | (rw [isLst_at (by assumption)]; with_reducible conv => whnf) | (refine ifT rfl ?_; with_reducible conv => whnf) | (refine ifF rfl ?_; with_reducible conv => whnf) | (refine it_at (by assumption) ?_; with_reducible conv => whnf)))
    refine ⟨_, rfl, rfl, rfl, Nat.zero_le _, fun S7 _ => ?_⟩
    ((with_reducible conv => whnf); repeat (first | (rw [natD_len]; with_reducible conv => whnf) | (rw [intD_len]; with_reducible conv => whnf) | (refine And.intro (okII _ _) ?_; rw [eqD_ii]; with_reducible conv => whnf) | (refine And.intro (by first | assumption | exact Exists.intro _ (by assumption) | exact ⟨rfl, rfl, by decide, by decide⟩ | exact Nat.le_of_ble_eq_true rfl | exact rfl) ?_; with_reducible conv => whnf) | (rw [isLst_at (by assumption)]; with_reducible conv => whnf) | (refine ifT rfl ?_; with_reducible conv => whnf) | (refine ifF rfl ?_; with_reducible conv => whnf) | (refine it_at (by assumption) ?_; with_reducible conv => whnf)))
    refine ⟨4, [3, 5, 3], 2, 0, rfl, by decide, by decide, by decide, fun S8 _ => ?_⟩
    rw [gain_fix]
    ((with_reducible conv => whnf); repeat (first | (rw [natD_len]; with_reducible conv => whnf) | (rw [intD_len]; with_reducible conv => whnf) | (refine And.intro (okII _ _) ?_; rw [eqD_ii]; with_reducible conv => whnf) | (refine And.intro (by first | assumption | exact Exists.intro _ (by assumption) | exact ⟨rfl, rfl, by decide, by decide⟩ | exact Nat.le_of_ble_eq_true rfl | exact rfl) ?_; with_reducible conv => whnf) | (rw [isLst_at (by assumption)]; with_reducible conv => whnf) | (refine ifT rfl ?_; with_reducible conv => whnf) | (refine ifF rfl ?_; with_reducible conv => whnf) | (refine it_at (by assumption) ?_; with_reducible conv => whnf)))
    refine ⟨_, rfl, rfl, rfl, Nat.zero_le _, fun S9 _ => ?_⟩
    ((with_reducible conv => whnf); repeat (first | (rw [natD_len]; with_reducible conv => whnf) | (rw [intD_len]; with_reducible conv => whnf) | (refine And.intro (okII _ _) ?_; rw [eqD_ii]; with_reducible conv => whnf) | (refine And.intro (by first | assumption | exact Exists.intro _ (by assumption) | exact ⟨rfl, rfl, by decide, by decide⟩ | exact Nat.le_of_ble_eq_true rfl | exact rfl) ?_; with_reducible conv => whnf) | (rw [isLst_at (by assumption)]; with_reducible conv => whnf) | (refine ifT rfl ?_; with_reducible conv => whnf) | (refine ifF rfl ?_; with_reducible conv => whnf) | (refine it_at (by assumption) ?_; with_reducible conv => whnf)))
    refine ⟨[3, 5, 1], 2, 4, rfl, by decide, by decide, by decide, fun S10 _ => ?_⟩
    rw [with_fix]
    ((with_reducible conv => whnf); repeat (first | (rw [natD_len]; with_reducible conv => whnf) | (rw [intD_len]; with_reducible conv => whnf) | (refine And.intro (okII _ _) ?_; rw [eqD_ii]; with_reducible conv => whnf) | (refine And.intro (by first | assumption | exact Exists.intro _ (by assumption) | exact ⟨rfl, rfl, by decide, by decide⟩ | exact Nat.le_of_ble_eq_true rfl | exact rfl) ?_; with_reducible conv => whnf) | (rw [isLst_at (by assumption)]; with_reducible conv => whnf) | (refine ifT rfl ?_; with_reducible conv => whnf) | (refine ifF rfl ?_; with_reducible conv => whnf) | (refine it_at (by assumption) ?_; with_reducible conv => whnf)))
    refine ⟨_, rfl, rfl, rfl, by decide, fun S11 _ => ?_⟩
    ((with_reducible conv => whnf); repeat (first | (rw [natD_len]; with_reducible conv => whnf) | (rw [intD_len]; with_reducible conv => whnf) | (refine And.intro (okII _ _) ?_; rw [eqD_ii]; with_reducible conv => whnf) | (refine And.intro (by first | assumption | exact Exists.intro _ (by assumption) | exact ⟨rfl, rfl, by decide, by decide⟩ | exact Nat.le_of_ble_eq_true rfl | exact rfl) ?_; with_reducible conv => whnf) | (rw [isLst_at (by assumption)]; with_reducible conv => whnf) | (refine ifT rfl ?_; with_reducible conv => whnf) | (refine ifF rfl ?_; with_reducible conv => whnf) | (refine it_at (by assumption) ?_; with_reducible conv => whnf)))
    refine ⟨[3, 5, 1], 2, rfl, by decide, by decide, by decide, fun ms S12 m1 m2 _ => ?_⟩
    have hms : ms = [0, 1, 3, 5] := asc_one m1 (by decide) fun k => by rw [m2]; simp; omega
    rw [hms, fl_fix]
    ((with_reducible conv => whnf); repeat (first | (rw [natD_len]; with_reducible conv => whnf) | (rw [intD_len]; with_reducible conv => whnf) | (refine And.intro (okII _ _) ?_; rw [eqD_ii]; with_reducible conv => whnf) | (refine And.intro (by first | assumption | exact Exists.intro _ (by assumption) | exact ⟨rfl, rfl, by decide, by decide⟩ | exact Nat.le_of_ble_eq_true rfl | exact rfl) ?_; with_reducible conv => whnf) | (rw [isLst_at (by assumption)]; with_reducible conv => whnf) | (refine ifT rfl ?_; with_reducible conv => whnf) | (refine ifF rfl ?_; with_reducible conv => whnf) | (refine it_at (by assumption) ?_; with_reducible conv => whnf)))
    refine ⟨_, rfl, rfl, rfl, Nat.zero_le _, fun S13 _ => ?_⟩
    ((with_reducible conv => whnf); repeat (first | (rw [natD_len]; with_reducible conv => whnf) | (rw [intD_len]; with_reducible conv => whnf) | (refine And.intro (okII _ _) ?_; rw [eqD_ii]; with_reducible conv => whnf) | (refine And.intro (by first | assumption | exact Exists.intro _ (by assumption) | exact ⟨rfl, rfl, by decide, by decide⟩ | exact Nat.le_of_ble_eq_true rfl | exact rfl) ?_; with_reducible conv => whnf) | (rw [isLst_at (by assumption)]; with_reducible conv => whnf) | (refine ifT rfl ?_; with_reducible conv => whnf) | (refine ifF rfl ?_; with_reducible conv => whnf) | (refine it_at (by assumption) ?_; with_reducible conv => whnf)))
    refine ⟨[7], 1, rfl, by decide, by decide, by decide, fun S14 _ => ?_⟩
    rw [paid_fix]
    ((with_reducible conv => whnf); repeat (first | (rw [natD_len]; with_reducible conv => whnf) | (rw [intD_len]; with_reducible conv => whnf) | (refine And.intro (okII _ _) ?_; rw [eqD_ii]; with_reducible conv => whnf) | (refine And.intro (by first | assumption | exact Exists.intro _ (by assumption) | exact ⟨rfl, rfl, by decide, by decide⟩ | exact Nat.le_of_ble_eq_true rfl | exact rfl) ?_; with_reducible conv => whnf) | (rw [isLst_at (by assumption)]; with_reducible conv => whnf) | (refine ifT rfl ?_; with_reducible conv => whnf) | (refine ifF rfl ?_; with_reducible conv => whnf) | (refine it_at (by assumption) ?_; with_reducible conv => whnf)))
    refine ⟨_, rfl, rfl, rfl, Nat.zero_le _, fun S15 _ => ?_⟩
    ((with_reducible conv => whnf); repeat (first | (rw [natD_len]; with_reducible conv => whnf) | (rw [intD_len]; with_reducible conv => whnf) | (refine And.intro (okII _ _) ?_; rw [eqD_ii]; with_reducible conv => whnf) | (refine And.intro (by first | assumption | exact Exists.intro _ (by assumption) | exact ⟨rfl, rfl, by decide, by decide⟩ | exact Nat.le_of_ble_eq_true rfl | exact rfl) ?_; with_reducible conv => whnf) | (rw [isLst_at (by assumption)]; with_reducible conv => whnf) | (refine ifT rfl ?_; with_reducible conv => whnf) | (refine ifF rfl ?_; with_reducible conv => whnf) | (refine it_at (by assumption) ?_; with_reducible conv => whnf)))
    refine ⟨[], 1, 6, rfl, by decide, by decide, by decide, fun S16 _ => ?_⟩
    rw [with_fix0]
    ((with_reducible conv => whnf); repeat (first | (rw [natD_len]; with_reducible conv => whnf) | (rw [intD_len]; with_reducible conv => whnf) | (refine And.intro (okII _ _) ?_; rw [eqD_ii]; with_reducible conv => whnf) | (refine And.intro (by first | assumption | exact Exists.intro _ (by assumption) | exact ⟨rfl, rfl, by decide, by decide⟩ | exact Nat.le_of_ble_eq_true rfl | exact rfl) ?_; with_reducible conv => whnf) | (rw [isLst_at (by assumption)]; with_reducible conv => whnf) | (refine ifT rfl ?_; with_reducible conv => whnf) | (refine ifF rfl ?_; with_reducible conv => whnf) | (refine it_at (by assumption) ?_; with_reducible conv => whnf)))
    refine ⟨_, rfl, rfl, rfl, by decide, fun S17 _ => ?_⟩
    ((with_reducible conv => whnf); repeat (first | (rw [natD_len]; with_reducible conv => whnf) | (rw [intD_len]; with_reducible conv => whnf) | (refine And.intro (okII _ _) ?_; rw [eqD_ii]; with_reducible conv => whnf) | (refine And.intro (by first | assumption | exact Exists.intro _ (by assumption) | exact ⟨rfl, rfl, by decide, by decide⟩ | exact Nat.le_of_ble_eq_true rfl | exact rfl) ?_; with_reducible conv => whnf) | (rw [isLst_at (by assumption)]; with_reducible conv => whnf) | (refine ifT rfl ?_; with_reducible conv => whnf) | (refine ifF rfl ?_; with_reducible conv => whnf) | (refine it_at (by assumption) ?_; with_reducible conv => whnf)))
    refine ⟨_, _, rfl, hbl, ht0, fun S18 _ => ?_⟩
    ((with_reducible conv => whnf); repeat (first | (rw [natD_len]; with_reducible conv => whnf) | (rw [intD_len]; with_reducible conv => whnf) | (refine And.intro (okII _ _) ?_; rw [eqD_ii]; with_reducible conv => whnf) | (refine And.intro (by first | assumption | exact Exists.intro _ (by assumption) | exact ⟨rfl, rfl, by decide, by decide⟩ | exact Nat.le_of_ble_eq_true rfl | exact rfl) ?_; with_reducible conv => whnf) | (rw [isLst_at (by assumption)]; with_reducible conv => whnf) | (refine ifT rfl ?_; with_reducible conv => whnf) | (refine ifF rfl ?_; with_reducible conv => whnf) | (refine it_at (by assumption) ?_; with_reducible conv => whnf)))
    refine ⟨_, _, rfl, hbl, ht0, fun S19 _ => ?_⟩
    ((with_reducible conv => whnf); repeat (first | (rw [natD_len]; with_reducible conv => whnf) | (rw [intD_len]; with_reducible conv => whnf) | (refine And.intro (okII _ _) ?_; rw [eqD_ii]; with_reducible conv => whnf) | (refine And.intro (by first | assumption | exact Exists.intro _ (by assumption) | exact ⟨rfl, rfl, by decide, by decide⟩ | exact Nat.le_of_ble_eq_true rfl | exact rfl) ?_; with_reducible conv => whnf) | (rw [isLst_at (by assumption)]; with_reducible conv => whnf) | (refine ifT rfl ?_; with_reducible conv => whnf) | (refine ifF rfl ?_; with_reducible conv => whnf) | (refine it_at (by assumption) ?_; with_reducible conv => whnf)))
    have hwl := win_len bs t
    refine ⟨_, rfl, natF _, natS (winL bs t) (by omega), natP _, fun S20 _ => ?_⟩
    exact kk _
end K97
set_option Elab.async false
set_option linter.all false
set_option maxRecDepth 100000
set_option maxHeartbeats 8000000
/-! the end: oddsweighed_k97_whole_sales_by_bids -/
namespace K97
open PySem PySem.Spec DL
theorem all_mk {l : PySem.W.OpenLaw} {w : World} {K : PySem.W.Frag} {h : Heap} {mg : Str → Option Value} {fa f_by_bids f_winners f_price f_gain f_sum_paid f_with_floor f_best_floor f_law_draws f_law_take f_law_cell f_law_same f_law_bids f_law_winners f_law_price f_law_gain f_law_with f_law_floor f_law_true_bid f_law_somewhere_more f_law : Addr} (X : K.In h) (G : h.Ns mainGlobals mg) (hfa : mg "law" = some (.ref fa))
    {od_by_bids an_by_bids : Option Addr} {sl_by_bids : Array (Option Value)} {oc_by_bids kV_by_bids dc_by_bids pm_by_bids cd_by_bids ct_by_bids : Value}
    (a_by_bids : PySem.W.nsIn K mainGlobals "by_bids" = some (some (.ref f_by_bids))) (l_by_bids : K.lookup f_by_bids = some ⟨oc_by_bids, od_by_bids, .func (PySem.W.fnOf "by_bids" "by_bids" (L2.defArgs s_by_bids) (L2.defBody s_by_bids) (L2.defScope s_by_bids) .none kV_by_bids dc_by_bids pm_by_bids an_by_bids cd_by_bids ct_by_bids), sl_by_bids⟩) (c_by_bids : PySem.W.codeIn K cd_by_bids "by_bids" = true) (k_by_bids : PySem.W.keepIn K (.ref f_by_bids) = true)
    {od_winners an_winners : Option Addr} {sl_winners : Array (Option Value)} {oc_winners kV_winners dc_winners pm_winners cd_winners ct_winners : Value}
    (a_winners : PySem.W.nsIn K mainGlobals "winners" = some (some (.ref f_winners))) (l_winners : K.lookup f_winners = some ⟨oc_winners, od_winners, .func (PySem.W.fnOf "winners" "winners" (L2.defArgs s_winners) (L2.defBody s_winners) (L2.defScope s_winners) .none kV_winners dc_winners pm_winners an_winners cd_winners ct_winners), sl_winners⟩) (c_winners : PySem.W.codeIn K cd_winners "winners" = true) (k_winners : PySem.W.keepIn K (.ref f_winners) = true)
    {od_price an_price : Option Addr} {sl_price : Array (Option Value)} {oc_price kV_price dc_price pm_price cd_price ct_price : Value}
    (a_price : PySem.W.nsIn K mainGlobals "price" = some (some (.ref f_price))) (l_price : K.lookup f_price = some ⟨oc_price, od_price, .func (PySem.W.fnOf "price" "price" (L2.defArgs s_price) (L2.defBody s_price) (L2.defScope s_price) .none kV_price dc_price pm_price an_price cd_price ct_price), sl_price⟩) (c_price : PySem.W.codeIn K cd_price "price" = true) (k_price : PySem.W.keepIn K (.ref f_price) = true)
    {od_gain an_gain : Option Addr} {sl_gain : Array (Option Value)} {oc_gain kV_gain dc_gain pm_gain cd_gain ct_gain : Value}
    (a_gain : PySem.W.nsIn K mainGlobals "gain" = some (some (.ref f_gain))) (l_gain : K.lookup f_gain = some ⟨oc_gain, od_gain, .func (PySem.W.fnOf "gain" "gain" (L2.defArgs s_gain) (L2.defBody s_gain) (L2.defScope s_gain) .none kV_gain dc_gain pm_gain an_gain cd_gain ct_gain), sl_gain⟩) (c_gain : PySem.W.codeIn K cd_gain "gain" = true) (k_gain : PySem.W.keepIn K (.ref f_gain) = true)
    {od_sum_paid an_sum_paid : Option Addr} {sl_sum_paid : Array (Option Value)} {oc_sum_paid kV_sum_paid dc_sum_paid pm_sum_paid cd_sum_paid ct_sum_paid : Value}
    (a_sum_paid : PySem.W.nsIn K mainGlobals "sum_paid" = some (some (.ref f_sum_paid))) (l_sum_paid : K.lookup f_sum_paid = some ⟨oc_sum_paid, od_sum_paid, .func (PySem.W.fnOf "sum_paid" "sum_paid" (L2.defArgs s_sum_paid) (L2.defBody s_sum_paid) (L2.defScope s_sum_paid) .none kV_sum_paid dc_sum_paid pm_sum_paid an_sum_paid cd_sum_paid ct_sum_paid), sl_sum_paid⟩) (c_sum_paid : PySem.W.codeIn K cd_sum_paid "sum_paid" = true) (k_sum_paid : PySem.W.keepIn K (.ref f_sum_paid) = true)
    {od_with_floor an_with_floor : Option Addr} {sl_with_floor : Array (Option Value)} {oc_with_floor kV_with_floor dc_with_floor pm_with_floor cd_with_floor ct_with_floor : Value}
    (a_with_floor : PySem.W.nsIn K mainGlobals "with_floor" = some (some (.ref f_with_floor))) (l_with_floor : K.lookup f_with_floor = some ⟨oc_with_floor, od_with_floor, .func (PySem.W.fnOf "with_floor" "with_floor" (L2.defArgs s_with_floor) (L2.defBody s_with_floor) (L2.defScope s_with_floor) .none kV_with_floor dc_with_floor pm_with_floor an_with_floor cd_with_floor ct_with_floor), sl_with_floor⟩) (c_with_floor : PySem.W.codeIn K cd_with_floor "with_floor" = true) (k_with_floor : PySem.W.keepIn K (.ref f_with_floor) = true)
    {od_best_floor an_best_floor : Option Addr} {sl_best_floor : Array (Option Value)} {oc_best_floor kV_best_floor dc_best_floor pm_best_floor cd_best_floor ct_best_floor : Value}
    (a_best_floor : PySem.W.nsIn K mainGlobals "best_floor" = some (some (.ref f_best_floor))) (l_best_floor : K.lookup f_best_floor = some ⟨oc_best_floor, od_best_floor, .func (PySem.W.fnOf "best_floor" "best_floor" (L2.defArgs s_best_floor) (L2.defBody s_best_floor) (L2.defScope s_best_floor) .none kV_best_floor dc_best_floor pm_best_floor an_best_floor cd_best_floor ct_best_floor), sl_best_floor⟩) (c_best_floor : PySem.W.codeIn K cd_best_floor "best_floor" = true) (k_best_floor : PySem.W.keepIn K (.ref f_best_floor) = true)
    {od_law_draws an_law_draws : Option Addr} {sl_law_draws : Array (Option Value)} {oc_law_draws kV_law_draws dc_law_draws pm_law_draws cd_law_draws ct_law_draws : Value}
    (a_law_draws : PySem.W.nsIn K mainGlobals "_law_draws" = some (some (.ref f_law_draws))) (l_law_draws : K.lookup f_law_draws = some ⟨oc_law_draws, od_law_draws, .func (PySem.W.fnOf "_law_draws" "_law_draws" (L2.defArgs s_law_draws) (L2.defBody s_law_draws) (L2.defScope s_law_draws) .none kV_law_draws dc_law_draws pm_law_draws an_law_draws cd_law_draws ct_law_draws), sl_law_draws⟩) (c_law_draws : PySem.W.codeIn K cd_law_draws "_law_draws" = true) (k_law_draws : PySem.W.keepIn K (.ref f_law_draws) = true)
    {od_law_take an_law_take : Option Addr} {sl_law_take : Array (Option Value)} {oc_law_take kV_law_take dc_law_take pm_law_take cd_law_take ct_law_take : Value}
    (a_law_take : PySem.W.nsIn K mainGlobals "_law_take" = some (some (.ref f_law_take))) (l_law_take : K.lookup f_law_take = some ⟨oc_law_take, od_law_take, .func (PySem.W.fnOf "_law_take" "_law_take" (L2.defArgs s_law_take) (L2.defBody s_law_take) (L2.defScope s_law_take) .none kV_law_take dc_law_take pm_law_take an_law_take cd_law_take ct_law_take), sl_law_take⟩) (c_law_take : PySem.W.codeIn K cd_law_take "_law_take" = true) (k_law_take : PySem.W.keepIn K (.ref f_law_take) = true)
    {od_law_cell an_law_cell : Option Addr} {sl_law_cell : Array (Option Value)} {oc_law_cell kV_law_cell dc_law_cell pm_law_cell cd_law_cell ct_law_cell : Value}
    (a_law_cell : PySem.W.nsIn K mainGlobals "_law_cell" = some (some (.ref f_law_cell))) (l_law_cell : K.lookup f_law_cell = some ⟨oc_law_cell, od_law_cell, .func (PySem.W.fnOf "_law_cell" "_law_cell" (L2.defArgs s_law_cell) (L2.defBody s_law_cell) (L2.defScope s_law_cell) .none kV_law_cell dc_law_cell pm_law_cell an_law_cell cd_law_cell ct_law_cell), sl_law_cell⟩) (c_law_cell : PySem.W.codeIn K cd_law_cell "_law_cell" = true) (k_law_cell : PySem.W.keepIn K (.ref f_law_cell) = true)
    {od_law_same an_law_same : Option Addr} {sl_law_same : Array (Option Value)} {oc_law_same kV_law_same dc_law_same pm_law_same cd_law_same ct_law_same : Value}
    (a_law_same : PySem.W.nsIn K mainGlobals "_law_same" = some (some (.ref f_law_same))) (l_law_same : K.lookup f_law_same = some ⟨oc_law_same, od_law_same, .func (PySem.W.fnOf "_law_same" "_law_same" (L2.defArgs s_law_same) (L2.defBody s_law_same) (L2.defScope s_law_same) .none kV_law_same dc_law_same pm_law_same an_law_same cd_law_same ct_law_same), sl_law_same⟩) (c_law_same : PySem.W.codeIn K cd_law_same "_law_same" = true) (k_law_same : PySem.W.keepIn K (.ref f_law_same) = true)
    {od_law_bids an_law_bids : Option Addr} {sl_law_bids : Array (Option Value)} {oc_law_bids kV_law_bids dc_law_bids pm_law_bids cd_law_bids ct_law_bids : Value}
    (a_law_bids : PySem.W.nsIn K mainGlobals "_law_bids" = some (some (.ref f_law_bids))) (l_law_bids : K.lookup f_law_bids = some ⟨oc_law_bids, od_law_bids, .func (PySem.W.fnOf "_law_bids" "_law_bids" (L2.defArgs s_law_bids) (L2.defBody s_law_bids) (L2.defScope s_law_bids) .none kV_law_bids dc_law_bids pm_law_bids an_law_bids cd_law_bids ct_law_bids), sl_law_bids⟩) (c_law_bids : PySem.W.codeIn K cd_law_bids "_law_bids" = true) (k_law_bids : PySem.W.keepIn K (.ref f_law_bids) = true)
    {od_law_winners an_law_winners : Option Addr} {sl_law_winners : Array (Option Value)} {oc_law_winners kV_law_winners dc_law_winners pm_law_winners cd_law_winners ct_law_winners : Value}
    (a_law_winners : PySem.W.nsIn K mainGlobals "_law_winners" = some (some (.ref f_law_winners))) (l_law_winners : K.lookup f_law_winners = some ⟨oc_law_winners, od_law_winners, .func (PySem.W.fnOf "_law_winners" "_law_winners" (L2.defArgs s_law_winners) (L2.defBody s_law_winners) (L2.defScope s_law_winners) .none kV_law_winners dc_law_winners pm_law_winners an_law_winners cd_law_winners ct_law_winners), sl_law_winners⟩) (c_law_winners : PySem.W.codeIn K cd_law_winners "_law_winners" = true) (k_law_winners : PySem.W.keepIn K (.ref f_law_winners) = true)
    {od_law_price an_law_price : Option Addr} {sl_law_price : Array (Option Value)} {oc_law_price kV_law_price dc_law_price pm_law_price cd_law_price ct_law_price : Value}
    (a_law_price : PySem.W.nsIn K mainGlobals "_law_price" = some (some (.ref f_law_price))) (l_law_price : K.lookup f_law_price = some ⟨oc_law_price, od_law_price, .func (PySem.W.fnOf "_law_price" "_law_price" (L2.defArgs s_law_price) (L2.defBody s_law_price) (L2.defScope s_law_price) .none kV_law_price dc_law_price pm_law_price an_law_price cd_law_price ct_law_price), sl_law_price⟩) (c_law_price : PySem.W.codeIn K cd_law_price "_law_price" = true) (k_law_price : PySem.W.keepIn K (.ref f_law_price) = true)
    {od_law_gain an_law_gain : Option Addr} {sl_law_gain : Array (Option Value)} {oc_law_gain kV_law_gain dc_law_gain pm_law_gain cd_law_gain ct_law_gain : Value}
    (a_law_gain : PySem.W.nsIn K mainGlobals "_law_gain" = some (some (.ref f_law_gain))) (l_law_gain : K.lookup f_law_gain = some ⟨oc_law_gain, od_law_gain, .func (PySem.W.fnOf "_law_gain" "_law_gain" (L2.defArgs s_law_gain) (L2.defBody s_law_gain) (L2.defScope s_law_gain) .none kV_law_gain dc_law_gain pm_law_gain an_law_gain cd_law_gain ct_law_gain), sl_law_gain⟩) (c_law_gain : PySem.W.codeIn K cd_law_gain "_law_gain" = true) (k_law_gain : PySem.W.keepIn K (.ref f_law_gain) = true)
    {od_law_with an_law_with : Option Addr} {sl_law_with : Array (Option Value)} {oc_law_with kV_law_with dc_law_with pm_law_with cd_law_with ct_law_with : Value}
    (a_law_with : PySem.W.nsIn K mainGlobals "_law_with" = some (some (.ref f_law_with))) (l_law_with : K.lookup f_law_with = some ⟨oc_law_with, od_law_with, .func (PySem.W.fnOf "_law_with" "_law_with" (L2.defArgs s_law_with) (L2.defBody s_law_with) (L2.defScope s_law_with) .none kV_law_with dc_law_with pm_law_with an_law_with cd_law_with ct_law_with), sl_law_with⟩) (c_law_with : PySem.W.codeIn K cd_law_with "_law_with" = true) (k_law_with : PySem.W.keepIn K (.ref f_law_with) = true)
    {od_law_floor an_law_floor : Option Addr} {sl_law_floor : Array (Option Value)} {oc_law_floor kV_law_floor dc_law_floor pm_law_floor cd_law_floor ct_law_floor : Value}
    (a_law_floor : PySem.W.nsIn K mainGlobals "_law_floor" = some (some (.ref f_law_floor))) (l_law_floor : K.lookup f_law_floor = some ⟨oc_law_floor, od_law_floor, .func (PySem.W.fnOf "_law_floor" "_law_floor" (L2.defArgs s_law_floor) (L2.defBody s_law_floor) (L2.defScope s_law_floor) .none kV_law_floor dc_law_floor pm_law_floor an_law_floor cd_law_floor ct_law_floor), sl_law_floor⟩) (c_law_floor : PySem.W.codeIn K cd_law_floor "_law_floor" = true) (k_law_floor : PySem.W.keepIn K (.ref f_law_floor) = true)
    {od_law_true_bid an_law_true_bid : Option Addr} {sl_law_true_bid : Array (Option Value)} {oc_law_true_bid kV_law_true_bid dc_law_true_bid pm_law_true_bid cd_law_true_bid ct_law_true_bid : Value}
    (a_law_true_bid : PySem.W.nsIn K mainGlobals "_law_true_bid" = some (some (.ref f_law_true_bid))) (l_law_true_bid : K.lookup f_law_true_bid = some ⟨oc_law_true_bid, od_law_true_bid, .func (PySem.W.fnOf "_law_true_bid" "_law_true_bid" (L2.defArgs s_law_true_bid) (L2.defBody s_law_true_bid) (L2.defScope s_law_true_bid) .none kV_law_true_bid dc_law_true_bid pm_law_true_bid an_law_true_bid cd_law_true_bid ct_law_true_bid), sl_law_true_bid⟩) (c_law_true_bid : PySem.W.codeIn K cd_law_true_bid "_law_true_bid" = true) (k_law_true_bid : PySem.W.keepIn K (.ref f_law_true_bid) = true)
    {od_law_somewhere_more an_law_somewhere_more : Option Addr} {sl_law_somewhere_more : Array (Option Value)} {oc_law_somewhere_more kV_law_somewhere_more dc_law_somewhere_more pm_law_somewhere_more cd_law_somewhere_more ct_law_somewhere_more : Value}
    (a_law_somewhere_more : PySem.W.nsIn K mainGlobals "_law_somewhere_more" = some (some (.ref f_law_somewhere_more))) (l_law_somewhere_more : K.lookup f_law_somewhere_more = some ⟨oc_law_somewhere_more, od_law_somewhere_more, .func (PySem.W.fnOf "_law_somewhere_more" "_law_somewhere_more" (L2.defArgs s_law_somewhere_more) (L2.defBody s_law_somewhere_more) (L2.defScope s_law_somewhere_more) .none kV_law_somewhere_more dc_law_somewhere_more pm_law_somewhere_more an_law_somewhere_more cd_law_somewhere_more ct_law_somewhere_more), sl_law_somewhere_more⟩) (c_law_somewhere_more : PySem.W.codeIn K cd_law_somewhere_more "_law_somewhere_more" = true) (k_law_somewhere_more : PySem.W.keepIn K (.ref f_law_somewhere_more) = true)
    {od_law an_law : Option Addr} {sl_law : Array (Option Value)} {oc_law kV_law dc_law pm_law cd_law ct_law : Value}
    (a_law : PySem.W.nsIn K mainGlobals "law" = some (some (.ref f_law))) (l_law : K.lookup f_law = some ⟨oc_law, od_law, .func (PySem.W.fnOf "law" "law" (L2.defArgs s_law) (L2.defBody s_law) (L2.defScope s_law) .none kV_law dc_law pm_law an_law cd_law ct_law), sl_law⟩) (c_law : PySem.W.codeIn K cd_law "law" = true) (k_law : PySem.W.keepIn K (.ref f_law) = true)
    (z_len : PySem.W.nsIn K mainGlobals "len" = some none)
    (z_range : PySem.W.nsIn K mainGlobals "range" = some none)
    (z_sorted : PySem.W.nsIn K mainGlobals "sorted" = some none)
    (z_tuple : PySem.W.nsIn K mainGlobals "tuple" = some none)
    (z_max : PySem.W.nsIn K mainGlobals "max" = some none)
    (z_list : PySem.W.nsIn K mainGlobals "list" = some none)
    (z_set : PySem.W.nsIn K mainGlobals "set" = some none)
    (z_int : PySem.W.nsIn K mainGlobals "int" = some none)
    (z_bool : PySem.W.nsIn K mainGlobals "bool" = some none)
    (z_isinstance : PySem.W.nsIn K mainGlobals "isinstance" = some none)
    (z_str : PySem.W.nsIn K mainGlobals "str" = some none)
    (z_min : PySem.W.nsIn K mainGlobals "min" = some none)
    (z_abs : PySem.W.nsIn K mainGlobals "abs" = some none)
    : ∃ fd : FuncData, (∀ (s : Shared) (v : Value), BindsTo s fd ⟨[v], []⟩ [("script", v)]) ∧ ∀ base : Heap, K.In base → base.Ns mainGlobals mg → L2.FnOk l.prog w K mg base L2.CX0 6 fa fd ["script"] (spOf K 1 (sp_law)) := by
  have e := hfa.symm.trans (PySem.W.mg_of X G a_law)
  cases e
  have F_by_bids := L2.fun_mk (st := s_by_bids) l_by_bids c_by_bids k_by_bids
  have m_by_bids : mg "by_bids" = some (.ref f_by_bids) := PySem.W.mg_of X G a_by_bids
  have F_winners := L2.fun_mk (st := s_winners) l_winners c_winners k_winners
  have m_winners : mg "winners" = some (.ref f_winners) := PySem.W.mg_of X G a_winners
  have F_price := L2.fun_mk (st := s_price) l_price c_price k_price
  have m_price : mg "price" = some (.ref f_price) := PySem.W.mg_of X G a_price
  have F_gain := L2.fun_mk (st := s_gain) l_gain c_gain k_gain
  have m_gain : mg "gain" = some (.ref f_gain) := PySem.W.mg_of X G a_gain
  have F_sum_paid := L2.fun_mk (st := s_sum_paid) l_sum_paid c_sum_paid k_sum_paid
  have m_sum_paid : mg "sum_paid" = some (.ref f_sum_paid) := PySem.W.mg_of X G a_sum_paid
  have F_with_floor := L2.fun_mk (st := s_with_floor) l_with_floor c_with_floor k_with_floor
  have m_with_floor : mg "with_floor" = some (.ref f_with_floor) := PySem.W.mg_of X G a_with_floor
  have F_best_floor := L2.fun_mk (st := s_best_floor) l_best_floor c_best_floor k_best_floor
  have m_best_floor : mg "best_floor" = some (.ref f_best_floor) := PySem.W.mg_of X G a_best_floor
  have F_law_draws := L2.fun_mk (st := s_law_draws) l_law_draws c_law_draws k_law_draws
  have m_law_draws : mg "_law_draws" = some (.ref f_law_draws) := PySem.W.mg_of X G a_law_draws
  have F_law_take := L2.fun_mk (st := s_law_take) l_law_take c_law_take k_law_take
  have m_law_take : mg "_law_take" = some (.ref f_law_take) := PySem.W.mg_of X G a_law_take
  have F_law_cell := L2.fun_mk (st := s_law_cell) l_law_cell c_law_cell k_law_cell
  have m_law_cell : mg "_law_cell" = some (.ref f_law_cell) := PySem.W.mg_of X G a_law_cell
  have F_law_same := L2.fun_mk (st := s_law_same) l_law_same c_law_same k_law_same
  have m_law_same : mg "_law_same" = some (.ref f_law_same) := PySem.W.mg_of X G a_law_same
  have F_law_bids := L2.fun_mk (st := s_law_bids) l_law_bids c_law_bids k_law_bids
  have m_law_bids : mg "_law_bids" = some (.ref f_law_bids) := PySem.W.mg_of X G a_law_bids
  have F_law_winners := L2.fun_mk (st := s_law_winners) l_law_winners c_law_winners k_law_winners
  have m_law_winners : mg "_law_winners" = some (.ref f_law_winners) := PySem.W.mg_of X G a_law_winners
  have F_law_price := L2.fun_mk (st := s_law_price) l_law_price c_law_price k_law_price
  have m_law_price : mg "_law_price" = some (.ref f_law_price) := PySem.W.mg_of X G a_law_price
  have F_law_gain := L2.fun_mk (st := s_law_gain) l_law_gain c_law_gain k_law_gain
  have m_law_gain : mg "_law_gain" = some (.ref f_law_gain) := PySem.W.mg_of X G a_law_gain
  have F_law_with := L2.fun_mk (st := s_law_with) l_law_with c_law_with k_law_with
  have m_law_with : mg "_law_with" = some (.ref f_law_with) := PySem.W.mg_of X G a_law_with
  have F_law_floor := L2.fun_mk (st := s_law_floor) l_law_floor c_law_floor k_law_floor
  have m_law_floor : mg "_law_floor" = some (.ref f_law_floor) := PySem.W.mg_of X G a_law_floor
  have F_law_true_bid := L2.fun_mk (st := s_law_true_bid) l_law_true_bid c_law_true_bid k_law_true_bid
  have m_law_true_bid : mg "_law_true_bid" = some (.ref f_law_true_bid) := PySem.W.mg_of X G a_law_true_bid
  have F_law_somewhere_more := L2.fun_mk (st := s_law_somewhere_more) l_law_somewhere_more c_law_somewhere_more k_law_somewhere_more
  have m_law_somewhere_more : mg "_law_somewhere_more" = some (.ref f_law_somewhere_more) := PySem.W.mg_of X G a_law_somewhere_more
  have F_law := L2.fun_mk (st := s_law) l_law c_law k_law
  have m_law : mg "law" = some (.ref _) := PySem.W.mg_of X G a_law
  have z_len := PySem.W.mg_none_of X G z_len
  have z_range := PySem.W.mg_none_of X G z_range
  have z_sorted := PySem.W.mg_none_of X G z_sorted
  have z_tuple := PySem.W.mg_none_of X G z_tuple
  have z_max := PySem.W.mg_none_of X G z_max
  have z_list := PySem.W.mg_none_of X G z_list
  have z_set := PySem.W.mg_none_of X G z_set
  have z_int := PySem.W.mg_none_of X G z_int
  have z_bool := PySem.W.mg_none_of X G z_bool
  have z_isinstance := PySem.W.mg_none_of X G z_isinstance
  have z_str := PySem.W.mg_none_of X G z_str
  have z_min := PySem.W.mg_none_of X G z_min
  have z_abs := PySem.W.mg_none_of X G z_abs
  refine ⟨PySem.W.fnOf "law" "law" (L2.defArgs s_law) (L2.defBody s_law) (L2.defScope s_law) .none kV_law dc_law pm_law an_law cd_law ct_law, fun s v => .of_eq rfl, fun base _ _ => ?_⟩
  have C_law_draws : Callee l.prog w K mg base "_law_draws" 1 2 (sp_draws) := ok_law_draws (k := 0) F_law_draws m_law_draws z_int z_len z_list z_range  body_law_draws
  have C_law_take : Callee l.prog w K mg base "_law_take" 1 2 (sp_take) := ok_law_take (k := 0) F_law_take m_law_take z_len z_int  body_law_take
  have C_law_cell : Callee l.prog w K mg base "_law_cell" 2 2 (sp_cell) := ok_law_cell (k := 1) F_law_cell m_law_cell z_len z_int C_law_take (by decide) body_law_cell
  have C_law_bids : Callee l.prog w K mg base "_law_bids" 2 3 (sp_bids) := ok_law_bids (k := 1) F_law_bids m_law_bids z_range z_tuple C_law_take (by decide) body_law_bids
  have C_law_winners : Callee l.prog w K mg base "_law_winners" 1 2 (sp_win) := ok_law_winners (k := 0) F_law_winners m_law_winners z_len z_range z_tuple  body_law_winners
  have C_by_bids : Callee l.prog w K mg base "by_bids" 1 1 (sp_by) := ok_by_bids (k := 0) F_by_bids m_by_bids z_len z_range z_sorted  body_by_bids
  have C_winners : Callee l.prog w K mg base "winners" 2 2 (sp_win) := ok_winners (k := 1) F_winners m_winners z_sorted z_tuple C_by_bids (by decide) body_winners
  have N_law_same : Callee l.prog w K mg base "_law_same" 0 2 spNo := callee_none F_law_same m_law_same (F_law_same.binds (ps := ["actual", "due"]) fun _ _ _ _ _ _ us hl => match us, hl with | [_, _], _ => rfl) (fun _ _ _ h => h)
  have C_law_same_0 : Callee l.prog w K mg base "_law_same" 1 2 (sp_same 0) := ok_law_same (k := 0) F_law_same m_law_same z_bool z_isinstance z_int z_str z_tuple z_len z_range N_law_same (by decide) (body_law_same _ 0 (by decide) (.inl rfl))
  have C_law_same_1 : Callee l.prog w K mg base "_law_same" 2 2 (sp_same 1) := ok_law_same (k := 1) F_law_same m_law_same z_bool z_isinstance z_int z_str z_tuple z_len z_range C_law_same_0 (by decide) (body_law_same _ 1 (by decide) (.inr ⟨_, rfl, rfl⟩))
  have C_law_same_2 : Callee l.prog w K mg base "_law_same" 3 2 (sp_same 2) := ok_law_same (k := 2) F_law_same m_law_same z_bool z_isinstance z_int z_str z_tuple z_len z_range C_law_same_1 (by decide) (body_law_same _ 2 (by decide) (.inr ⟨_, rfl, rfl⟩))
  have C_law_same : Callee l.prog w K mg base "_law_same" 4 2 (sp_same 3) := ok_law_same (k := 3) F_law_same m_law_same z_bool z_isinstance z_int z_str z_tuple z_len z_range C_law_same_2 (by decide) (body_law_same _ 3 (by decide) (.inr ⟨_, rfl, rfl⟩))
  have C_law_price : Callee l.prog w K mg base "_law_price" 2 2 (sp_price) := ok_law_price (k := 1) F_law_price m_law_price z_len z_range z_max C_law_winners (by decide) body_law_price
  have C_price : Callee l.prog w K mg base "price" 2 2 (sp_price) := ok_price (k := 1) F_price m_price z_len C_by_bids (by decide) body_price
  have C_sum_paid : Callee l.prog w K mg base "sum_paid" 3 2 (sp_paid) := ok_sum_paid (k := 2) F_sum_paid m_sum_paid z_len C_winners (by decide) C_price (by decide) body_sum_paid
  have C_law_with : Callee l.prog w K mg base "_law_with" 3 3 (sp_with) := ok_law_with (k := 2) F_law_with m_law_with z_tuple z_len z_max C_law_winners (by decide) C_law_price (by decide) body_law_with
  have C_with_floor : Callee l.prog w K mg base "with_floor" 3 3 (sp_with) := ok_with_floor (k := 2) F_with_floor m_with_floor z_tuple z_len z_max C_winners (by decide) C_price (by decide) body_with_floor
  have C_law_floor : Callee l.prog w K mg base "_law_floor" 4 2 (sp_floor) := ok_law_floor (k := 3) F_law_floor m_law_floor z_sorted z_set z_len C_law_with (by decide) body_law_floor
  have C_best_floor : Callee l.prog w K mg base "best_floor" 4 2 (sp_floor) := ok_best_floor (k := 3) F_best_floor m_best_floor z_list z_sorted z_set z_len C_with_floor (by decide) body_best_floor
  have C_law_gain : Callee l.prog w K mg base "_law_gain" 3 4 (sp_gain) := ok_law_gain (k := 2) F_law_gain m_law_gain  C_law_winners (by decide) C_law_price (by decide) body_law_gain
  have C_gain : Callee l.prog w K mg base "gain" 3 4 (sp_gain) := ok_gain (k := 2) F_gain m_gain  C_winners (by decide) C_price (by decide) body_gain
  have C_law_true_bid : Callee l.prog w K mg base "_law_true_bid" 5 4 (sp_true) := ok_law_true_bid (k := 4) F_law_true_bid m_law_true_bid z_max z_len z_tuple z_sorted z_set C_law_take (by decide) C_gain (by decide) C_law_gain (by decide) C_law_same (by decide) body_law_true_bid
  have C_law_somewhere_more : Callee l.prog w K mg base "_law_somewhere_more" 5 1 (sp_more) := ok_law_somewhere_more (k := 4) F_law_somewhere_more m_law_somewhere_more z_max z_range z_int z_min C_law_take (by decide) C_gain (by decide) C_law_same (by decide) body_law_somewhere_more
  exact ok_law (k := 5) F_law m_law z_abs z_range z_len z_max z_list z_min C_law_draws (by decide) C_law_cell (by decide) C_law_take (by decide) C_law_bids (by decide) C_law_winners (by decide) C_winners (by decide) C_law_same (by decide) C_law_price (by decide) C_price (by decide) C_sum_paid (by decide) C_law_with (by decide) C_with_floor (by decide) C_law_floor (by decide) C_best_floor (by decide) C_law_gain (by decide) C_gain (by decide) C_law_true_bid (by decide) C_law_somewhere_more (by decide) body_law
end K97
open PySem PySem.W PyProof.Rows in
set_option maxRecDepth 100000 in
set_option maxHeartbeats 0 in
theorem PySem.Challenge.cw_oddsweighed_k97_whole_sales_by_bids_holds : PySem.Challenge.rw_oddsweighed_k97_whole_sales_by_bids.Holds := by
  w_on; o_law; k_head; (case hw => w_witness2)
  k_fill
  refine L2.walk_of (l := PySem.Challenge.rw_oddsweighed_k97_whole_sales_by_bids) (n := 63) (k := 6) (x := "script") (CX := fun _ => L2.CX0) (sp := fun w => DL.spOf _ 1 (K97.sp_law)) rfl (by decide) rfl ⟨rfl, by decide, by decide⟩ (fun w h Y => PySem.W.kIn_of Y) ?F (fun _ _ a ns hl hO hS => DL.law_sp hO hS ⟨ns, rfl, hl, fun _ => rfl⟩) (fun _ _ _ _ _ h => h)
  case F =>
    intro w mg fa h KX G hmg
    refine' K97.all_mk KX G hmg ?a_by_bids ?l_by_bids ?c_by_bids ?k_by_bids ?a_winners ?l_winners ?c_winners ?k_winners ?a_price ?l_price ?c_price ?k_price ?a_gain ?l_gain ?c_gain ?k_gain ?a_sum_paid ?l_sum_paid ?c_sum_paid ?k_sum_paid ?a_with_floor ?l_with_floor ?c_with_floor ?k_with_floor ?a_best_floor ?l_best_floor ?c_best_floor ?k_best_floor ?a_law_draws ?l_law_draws ?c_law_draws ?k_law_draws ?a_law_take ?l_law_take ?c_law_take ?k_law_take ?a_law_cell ?l_law_cell ?c_law_cell ?k_law_cell ?a_law_same ?l_law_same ?c_law_same ?k_law_same ?a_law_bids ?l_law_bids ?c_law_bids ?k_law_bids ?a_law_winners ?l_law_winners ?c_law_winners ?k_law_winners ?a_law_price ?l_law_price ?c_law_price ?k_law_price ?a_law_gain ?l_law_gain ?c_law_gain ?k_law_gain ?a_law_with ?l_law_with ?c_law_with ?k_law_with ?a_law_floor ?l_law_floor ?c_law_floor ?k_law_floor ?a_law_true_bid ?l_law_true_bid ?c_law_true_bid ?k_law_true_bid ?a_law_somewhere_more ?l_law_somewhere_more ?c_law_somewhere_more ?k_law_somewhere_more ?a_law ?l_law ?c_law ?k_law ?z_len ?z_range ?z_sorted ?z_tuple ?z_max ?z_list ?z_set ?z_int ?z_bool ?z_isinstance ?z_str ?z_min ?z_abs
    (case a_by_bids => k_is)
    (case l_by_bids => k_is)
    (case c_by_bids => k_is)
    (case k_by_bids => k_is)
    (case a_winners => k_is)
    (case l_winners => k_is)
    (case c_winners => k_is)
    (case k_winners => k_is)
    (case a_price => k_is)
    (case l_price => k_is)
    (case c_price => k_is)
    (case k_price => k_is)
    (case a_gain => k_is)
    (case l_gain => k_is)
    (case c_gain => k_is)
    (case k_gain => k_is)
    (case a_sum_paid => k_is)
    (case l_sum_paid => k_is)
    (case c_sum_paid => k_is)
    (case k_sum_paid => k_is)
    (case a_with_floor => k_is)
    (case l_with_floor => k_is)
    (case c_with_floor => k_is)
    (case k_with_floor => k_is)
    (case a_best_floor => k_is)
    (case l_best_floor => k_is)
    (case c_best_floor => k_is)
    (case k_best_floor => k_is)
    (case a_law_draws => k_is)
    (case l_law_draws => k_is)
    (case c_law_draws => k_is)
    (case k_law_draws => k_is)
    (case a_law_take => k_is)
    (case l_law_take => k_is)
    (case c_law_take => k_is)
    (case k_law_take => k_is)
    (case a_law_cell => k_is)
    (case l_law_cell => k_is)
    (case c_law_cell => k_is)
    (case k_law_cell => k_is)
    (case a_law_same => k_is)
    (case l_law_same => k_is)
    (case c_law_same => k_is)
    (case k_law_same => k_is)
    (case a_law_bids => k_is)
    (case l_law_bids => k_is)
    (case c_law_bids => k_is)
    (case k_law_bids => k_is)
    (case a_law_winners => k_is)
    (case l_law_winners => k_is)
    (case c_law_winners => k_is)
    (case k_law_winners => k_is)
    (case a_law_price => k_is)
    (case l_law_price => k_is)
    (case c_law_price => k_is)
    (case k_law_price => k_is)
    (case a_law_gain => k_is)
    (case l_law_gain => k_is)
    (case c_law_gain => k_is)
    (case k_law_gain => k_is)
    (case a_law_with => k_is)
    (case l_law_with => k_is)
    (case c_law_with => k_is)
    (case k_law_with => k_is)
    (case a_law_floor => k_is)
    (case l_law_floor => k_is)
    (case c_law_floor => k_is)
    (case k_law_floor => k_is)
    (case a_law_true_bid => k_is)
    (case l_law_true_bid => k_is)
    (case c_law_true_bid => k_is)
    (case k_law_true_bid => k_is)
    (case a_law_somewhere_more => k_is)
    (case l_law_somewhere_more => k_is)
    (case c_law_somewhere_more => k_is)
    (case k_law_somewhere_more => k_is)
    (case a_law => k_is)
    (case l_law => k_is)
    (case c_law => k_is)
    (case k_law => k_is)
    (case z_len => k_is)
    (case z_range => k_is)
    (case z_sorted => k_is)
    (case z_tuple => k_is)
    (case z_max => k_is)
    (case z_list => k_is)
    (case z_set => k_is)
    (case z_int => k_is)
    (case z_bool => k_is)
    (case z_isinstance => k_is)
    (case z_str => k_is)
    (case z_min => k_is)
    (case z_abs => k_is)
