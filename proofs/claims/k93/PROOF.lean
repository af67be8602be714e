import PyProof.Rows.All
import PySem.Str
import PySem.PyData
import Wide.All
import OpenK.AllK
import Wide.FinOn
import HandS.ForMost
import HandS.Wide
import HandS.Gcd
import HandS.IsInst
import HandS.TupAny
import HandS.TupLe
import HandS.Style
import HandS.Flow
import HandS.Deep
import KE.SortData
import HandS.SortInts
import KE.DataMinMax
import KE.KTupSum
import HandS.Steps
import HandS.More
import HandS.SetFor
import HandS.Strs
import HandS.SetKeys
import PyProof.TupleOfSeq
import PySem.Challenge.RW_oddsweighed_k93_whole_wheels_turned_agai
set_option linter.all false
/-! DL0: plain data, a store of lists, and what a piece of a program asks of them (weakest preconditions by parts). No model in sight. -/
namespace DL
open PySem (Str)

/-- a value: tuples by value, a list of one's own by its place in the store, rol: a list that is only read -/
inductive D where
  | non | bl (b : Bool) | int (i : Int) | str (x : Str) | tup (xs : List D) | rol (xs : List D) | ref (n : Nat) | ty (n : String)

inductive O where
  | lst (xs : List D)
  | dic (kvs : List (D × D))

abbrev Sto := List O
abbrev Env := List (Option D)
abbrev VK := D → Sto → Prop
abbrev WE := Env → Sto → VK → Prop
abbrev WT := Env → Sto → (Bool → Sto → Prop) → Prop
abbrev WA := Env → Sto → (List D → Sto → Prop) → Prop
abbrev WG := D → Env → Sto → (Env → Sto → Prop) → Prop
abbrev WI := Env → Sto → (List D → (Sto → Prop) → Sto → Prop) → Prop
abbrev WP := Env → Sto → (Option Int → Sto → Prop) → Prop
structure Ends where
  nx : Env → Sto → Prop
  rt : VK
  bk : Env → Sto → Prop
  ct : Env → Sto → Prop
abbrev WS := Ends → Env → Sto → Prop
abbrev R1 := D → Sto → VK → Prop
abbrev R2 := D → D → Sto → VK → Prop
abbrev RL := List D → Sto → VK → Prop
abbrev RM := D → List D → Sto → VK → Prop
abbrev Spc := List D → Sto → VK → Prop

def szL : Nat := 16777216

/-! ### equality, order of plain data -/
mutual
def eqD : D → D → Bool
  | .non, .non => true
  | .bl a, .bl b => a == b
  | .bl a, .int j => (if a then 1 else 0) == j
  | .int i, .bl b => i == (if b then 1 else 0)
  | .int i, .int j => decide (i = j)
  | .str x, .str y => decide (x = y)
  | .tup xs, .tup ys => eqDs xs ys
  | _, _ => false
def eqDs : List D → List D → Bool
  | [], [] => true
  | x :: xs, y :: ys => eqD x y && eqDs xs ys
  | [], _ :: _ => false
  | _ :: _, [] => false
end
/-! without lists -/
mutual
def flat : D → Bool
  | .non | .bl _ | .int _ => true
  | .str x => x.cps.all (· < 0x110000)
  | .tup xs => flats xs
  | .rol _ | .ref _ | .ty _ => false
def flats : List D → Bool
  | [] => true
  | x :: xs => flat x && flats xs
end
mutual
def deep : D → Nat
  | .tup xs => deeps xs + 1
  | _ => 0
def deeps : List D → Nat
  | [] => 0
  | x :: xs => max (deep x) (deeps xs)
end
mutual
def toPy : D → PySem.PyData
  | .non => .none
  | .bl b => .bool b
  | .int i => .int i
  | .str x => .str x
  | .tup xs => .tuple (toPys xs)
  | .rol _ => .none
  | .ref _ => .none
  | .ty _ => .none
def toPys : List D → List PySem.PyData
  | [] => []
  | x :: xs => toPy x :: toPys xs
end
/-- intD all through, as tuples of one length or single -/
abbrev intD (ns : List Int) : List D := ns.map D.int

/-! ### the environment -/
@[reducible] def lk : Env → Nat → Option D
  | [], _ => none
  | x :: _, 0 => x
  | _ :: r, n + 1 => lk r n
@[reducible] def up : Env → Nat → Option D → Env
  | [], _, _ => []
  | _ :: r, 0, d => d :: r
  | x :: r, n + 1, d => x :: up r n d
@[reducible] def wipe (ρ : Env) : List Nat → Env
  | [] => ρ
  | i :: r => up (wipe ρ r) i none
def start (n : Nat) (ds : List D) : Env := ds.map some ++ List.replicate (n - ds.length) none

/-! ### expressions -/
@[reducible] def wVar (i : Nat) : WE := fun ρ S Q => match lk ρ i with
  | some d => Q d S
  | none => False
@[reducible] def wC (d : D) : WE := fun _ S Q => Q d S
@[reducible] def wOp (r : R2) (a b : WE) : WE := fun ρ S Q => a ρ S fun x S1 => b ρ S1 fun y S2 => r x y S2 Q
@[reducible] def wUn (r : R1) (a : WE) : WE := fun ρ S Q => a ρ S fun x S1 => r x S1 Q
@[reducible] def wNil : WA := fun _ S Q => Q [] S
@[reducible] def wCons (a : WE) (r : WA) : WA := fun ρ S Q => a ρ S fun x S1 => r ρ S1 fun xs S2 => Q (x :: xs) S2
@[reducible] def wTup (a : WA) : WE := fun ρ S Q => a ρ S fun xs S1 => xs.length ≤ szL ∧ Q (.tup xs) S1
@[reducible] def wLst (a : WA) : WE := fun ρ S Q => a ρ S fun xs S1 => xs.length ≤ szL ∧ Q (.ref S1.length) (S1 ++ [.lst xs])
@[reducible] def wCall (n : Nat) (sp : Spc) (a : WA) : WE := fun ρ S Q => a ρ S fun ds S1 => ds.length = n ∧ sp ds S1 Q
@[reducible] def wB (r : RL) (a : WA) : WE := fun ρ S Q => a ρ S fun ds S1 => r ds S1 Q
/-- a list there -/
@[reducible] def isL : D → Sto → Prop
  | .ref n, S => ∃ xs, S[n]? = some (.lst xs)
  | _, _ => False
/-- o.m(..), o a list of one's own -/
@[reducible] def wM (r : RM) (o : WE) (a : WA) : WE := fun ρ S Q => o ρ S fun x S1 => isL x S1 ∧ a ρ S1 fun ds S2 => r x ds S2 Q
@[reducible] def wM0 (r : RM) (o : WE) : WE := fun ρ S Q => o ρ S fun x S1 => isL x S1 ∧ r x [] S1 Q
@[reducible] def wPNo : WP := fun _ S Q => Q none S
@[reducible] def wPAt (a : WE) : WP := fun ρ S Q => a ρ S fun x S1 => match x with
  | .int i => Q (some i) S1
  | _ => False
@[reducible] def wSl (r : D → Option Int → Option Int → Sto → VK → Prop) (o : WE) (l u : WP) : WE := fun ρ S Q => o ρ S fun x S1 => l ρ S1 fun i S2 => u ρ S2 fun j S3 => r x i j S3 Q
/-! tests -/
@[reducible] def wtVal (a : WE) : WT := fun ρ S Q => a ρ S fun x S1 => match x with
  | .bl b => Q b S1
  | _ => False
@[reducible] def wtAnd (a b : WT) : WT := fun ρ S Q => a ρ S fun c S1 => if c = true then b ρ S1 Q else Q false S1
@[reducible] def wtOr (a b : WT) : WT := fun ρ S Q => a ρ S fun c S1 => if c = true then Q true S1 else b ρ S1 Q
@[reducible] def wtNot (a : WT) : WT := fun ρ S Q => a ρ S fun c S1 => Q (!c) S1
@[reducible] def wAnd (a b : WE) : WE := fun ρ S Q => a ρ S fun x S1 => match x with
  | .bl c => if c = true then b ρ S1 Q else Q (.bl false) S1
  | _ => False
@[reducible] def wOr (a b : WE) : WE := fun ρ S Q => a ρ S fun x S1 => match x with
  | .bl c => if c = true then Q (.bl true) S1 else b ρ S1 Q
  | _ => False
@[reducible] def wNot (a : WE) : WE := fun ρ S Q => a ρ S fun x S1 => match x with
  | .bl c => Q (.bl (!c)) S1
  | _ => False
@[reducible] def wIf (c : WT) (a b : WE) : WE := fun ρ S Q => c ρ S fun k S1 => if k = true then a ρ S1 Q else b ρ S1 Q
@[reducible] def wChain (r r' : R2) (a b c : WE) : WE := fun ρ S Q => a ρ S fun x S1 => b ρ S1 fun y S2 => r x y S2 fun z S3 => match z with
  | .bl k => if k = true then c ρ S3 fun u S4 => r' y u S4 Q else Q (.bl false) S3
  | _ => False

/-! ### what is walked -/
@[reducible] def wIt (a : WE) : WI := fun ρ S R => a ρ S fun x S1 => match x with
  | .tup xs => R xs (fun _ => True) S1
  | .rol xs => R xs (fun _ => True) S1
  | .ref n => match S1[n]? with
    | some (.lst xs) => R xs (fun S' => S'[n]? = some (.lst xs)) S1
    | _ => False
  | _ => False
/-- lo, lo + 1, .. below hi -/
def rangeD (lo hi : Int) : List D := (List.range (hi - lo).toNat).map fun (i : Nat) => D.int (lo + i)
def smallI (i : Int) : Prop := -(2 ^ 62) ≤ i ∧ i < 2 ^ 62
@[reducible] def wR1 (a : WE) : WI := fun ρ S R => a ρ S fun x S1 => match x with
  | .int j => smallI j ∧ R (rangeD 0 j) (fun _ => True) S1
  | _ => False
@[reducible] def wR2 (a b : WE) : WI := fun ρ S R => a ρ S fun x S1 => b ρ S1 fun y S2 => match x, y with
  | .int i, .int j => smallI i ∧ smallI j ∧ R (rangeD i j) (fun _ => True) S2
  | _, _ => False

/-! ### targets: a name, a tuple of names -/
@[reducible] def gN (i : Nat) : WG := fun d ρ S Q => Q (up ρ i (some d)) S
@[reducible] def gNs : List Nat → List D → Env → Option Env
  | [], [], ρ => some ρ
  | i :: r, d :: ds, ρ => gNs r ds (up ρ i (some d))
  | _, _, _ => none
@[reducible] def gT (is : List Nat) : WG := fun d ρ S Q => match d with
  | .tup ds => match gNs is ds ρ with
    | some ρ' => Q ρ' S
    | none => False
  | _ => False

/-! ### comprehensions: one clause, at most one test -/
@[reducible] def wtYes : WT := fun _ S Q => Q true S
/-- I: by the turn, what is made so far, the store; a step tells what it adds -/
def Lc (items : List D) (guard : Sto → Prop) (S1 : Sto) (step : D → Sto → (Option D → Sto → Prop) → Prop) (Q : VK) : Prop := items.length ≤ szL ∧ ∃ I : Nat → List D → Sto → Prop,
  I 0 [] S1 ∧ (∀ i acc S', I i acc S' → guard S') ∧
  (∀ i d acc S', items[i]? = some d → I i acc S' → step d S' fun o S2 => I (i + 1) (acc ++ o.toList) S2) ∧
  ∀ acc S', I items.length acc S' → Q (.ref S'.length) (S' ++ [.lst acc])
@[reducible] def wLc (wi : WI) (g : WG) (tt : WT) (te : WE) (vs : List Nat) : WE := fun ρ S Q => wi ρ S fun items guard S1 =>
  Lc items guard S1 (fun d S' R => g d (wipe ρ vs) S' fun ρ2 S2 => tt ρ2 S2 fun b S3 => if b = true then te ρ2 S3 fun y S4 => R (some y) S4 else R none S3) Q

/-! ### statements -/
@[reducible] def sNext : WS := fun E ρ S => E.nx ρ S
@[reducible] def sSeq (a b : WS) : WS := fun E ρ S => a { E with nx := b E } ρ S
@[reducible] def sBreak : WS := fun E ρ S => E.bk ρ S
@[reducible] def sCont : WS := fun E ρ S => E.ct ρ S
@[reducible] def sDrop (a : WE) : WS := fun E ρ S => a ρ S fun _ S1 => E.nx ρ S1
@[reducible] def sRet (a : WE) : WS := fun E ρ S => a ρ S E.rt
@[reducible] def sRetN : WS := fun E _ S => E.rt .non S
@[reducible] def sIf (c : WT) (a b : WS) : WS := fun E ρ S => c ρ S fun k S1 => if k = true then a E ρ S1 else b E ρ S1
@[reducible] def sNever : WS := fun _ _ _ => False
@[reducible] def sAsg (a : WE) (g : WG) : WS := fun E ρ S => a ρ S fun d S1 => g d ρ S1 E.nx
/-- a, b = x, y by names -/
@[reducible] def sPar (i j : Nat) (a b : WE) : WS := fun E ρ S => a ρ S fun x S1 => b ρ S1 fun y S2 => E.nx (up (up ρ i (some x)) j (some y)) S2
@[reducible] def sAug (i : Nat) (a : WE) (r : R2) : WS := fun E ρ S => match lk ρ i with
  | some x => a ρ S fun y S1 => r x y S1 fun z S2 => E.nx (up ρ i (some z)) S2
  | none => False
/-- o[i] = e -/
@[reducible] def sSub (r : D → D → D → Sto → (Sto → Prop) → Prop) (e o i : WE) : WS := fun E ρ S => e ρ S fun d S1 => o ρ S1 fun x S2 => i ρ S2 fun k S3 => r x k d S3 fun S4 => E.nx ρ S4
/-- o[i] op= e -/
@[reducible] def sAugSub (rg : R2) (rop : R2) (rs : D → D → D → Sto → (Sto → Prop) → Prop) (o i e : WE) : WS := fun E ρ S => o ρ S fun x S1 => i ρ S1 fun k S2 => rg x k S2 fun v S3 => e ρ S3 fun y S4 => rop v y S4 fun z S5 => rs x k z S5 fun S6 => E.nx ρ S6
/-- for: I by the turn -/
def Loop (items : List D) (guard : Sto → Prop) (step : D → Env → Sto → (Env → Sto → Prop) → Prop) (done : Env → Sto → Prop) (ρ : Env) (S : Sto) : Prop := ∃ I : Nat → Env → Sto → Prop,
  I 0 ρ S ∧ (∀ i ρ' S', I i ρ' S' → guard S') ∧ (∀ i d ρ' S', items[i]? = some d → I i ρ' S' → step d ρ' S' (I (i + 1))) ∧ ∀ ρ' S', I items.length ρ' S' → done ρ' S'
@[reducible] def sFor (wi : WI) (g : WG) (b : WS) : WS := fun E ρ S => wi ρ S fun items guard S1 =>
  Loop items guard (fun d ρ' S' N => g d ρ' S' fun ρ2 S2 => b { nx := N, rt := E.rt, bk := E.nx, ct := N } ρ2 S2) E.nx ρ S1
/-- while: I by a measure -/
@[reducible] def sWhile (c : WT) (b : WS) : WS := fun E ρ S => ∃ I : Nat → Env → Sto → Prop, (∃ m, I m ρ S) ∧
  ∀ m ρ' S', I m ρ' S' → c ρ' S' fun k S2 => if k = true then b { nx := fun ρ3 S3 => ∃ m', m' < m ∧ I m' ρ3 S3, rt := E.rt, bk := E.nx, ct := fun ρ3 S3 => ∃ m', m' < m ∧ I m' ρ3 S3 } ρ' S2 else E.nx ρ' S2
/-- a def's body keeps what is asked of it -/
def Body (n k : Nat) (w : WS) (sp : Spc) : Prop := ∀ ds S Q, ds.length = k → sp ds S Q → w { nx := fun _ S' => Q .non S', rt := Q, bk := fun _ _ => False, ct := fun _ _ => False } (start n ds) S

/-! ### operations by values -/
def MulOk (i j : Int) : Prop := (i.natAbs < 2 ^ 64 ∨ j.natAbs < 2 ^ 64) ∨ ∃ a b : Nat, i.natAbs < 2 ^ a ∧ j.natAbs < 2 ^ b ∧ a + b ≤ 1000000
def DivOk (j : Int) : Prop := j ≠ 0 ∧ j.natAbs < 2 ^ 9000
def PowOk (i j : Int) : Prop := 0 ≤ j ∧ j ≤ 1000000 ∧ i.natAbs < 2 ^ 64
def isLst (S : Sto) (n : Nat) (P : List D → Prop) : Prop := match S[n]? with
  | some (.lst xs) => P xs
  | _ => False
@[reducible] def rAdd : R2
  | .int i, .int j, S, Q => Q (.int (i + j)) S
  | .tup xs, .tup ys, S, Q => xs.length + ys.length ≤ szL ∧ Q (.tup (xs ++ ys)) S
  | .str x, .str y, S, Q => x.length + y.length ≤ szL ∧ Q (.str (x ++ y)) S
  | .ref m, .ref n, S, Q => isLst S m fun xs => isLst S n fun ys => xs.length + ys.length ≤ szL ∧ Q (.ref S.length) (S ++ [.lst (xs ++ ys)])
  | _, _, _, _ => False
@[reducible] def rSub : R2
  | .int i, .int j, S, Q => Q (.int (i - j)) S
  | _, _, _, _ => False
@[reducible] def rMul : R2
  | .int i, .int j, S, Q => MulOk i j ∧ Q (.int (i * j)) S
  | .ref m, .int k, S, Q => isLst S m fun xs => (-(2 ^ 63) ≤ k ∧ k < 2 ^ 63) ∧ xs.length * k.toNat ≤ szL ∧ Q (.ref S.length) (S ++ [.lst (List.replicate k.toNat xs).flatten])
  | _, _, _, _ => False
@[reducible] def rMul' : R2
  | .int i, .int j, S, Q => MulOk i j ∧ Q (.int (i * j)) S
  | _, _, _, _ => False
@[reducible] def rDiv : R2
  | .int i, .int j, S, Q => DivOk j ∧ Q (.int (i.fdiv j)) S
  | _, _, _, _ => False
@[reducible] def rMod : R2
  | .int i, .int j, S, Q => j ≠ 0 ∧ Q (.int (i.fmod j)) S
  | _, _, _, _ => False
@[reducible] def rPow : R2
  | .int i, .int j, S, Q => PowOk i j ∧ Q (.int (i ^ j.toNat)) S
  | _, _, _, _ => False
@[reducible] def rNeg : R1
  | .int i, S, Q => Q (.int (-i)) S
  | _, _, _ => False
@[reducible] def rCmp (f : Int → Int → Bool) : R2
  | .int i, .int j, S, Q => Q (.bl (f i j)) S
  | _, _, _, _ => False
abbrev rLt : R2 := rCmp fun i j => decide (i < j)
abbrev rLe : R2 := rCmp fun i j => decide (i ≤ j)
abbrev rGt : R2 := rCmp fun i j => decide (j < i)
abbrev rGe : R2 := rCmp fun i j => decide (j ≤ i)
@[reducible] def rEq : R2 := fun x y S Q => (flat x = true ∧ flat y = true ∧ deep x ≤ 64 ∧ deep y ≤ 64) ∧ Q (.bl (eqD x y)) S
@[reducible] def rNe : R2 := fun x y S Q => (flat x = true ∧ flat y = true ∧ deep x ≤ 64 ∧ deep y ≤ 64) ∧ Q (.bl (!eqD x y)) S
def isNon : D → Bool
  | .non => true
  | _ => false
@[reducible] def rIs : R2
  | x, .non, S, Q => Q (.bl (isNon x)) S
  | .bl a, .bl b, S, Q => Q (.bl (decide (a = b))) S
  | _, _, _, _ => False
@[reducible] def rIsNot : R2
  | x, .non, S, Q => Q (.bl (!isNon x)) S
  | .bl a, .bl b, S, Q => Q (.bl (!decide (a = b))) S
  | _, _, _, _ => False
/-- place i, from the end if negative -/
def ixZ (n : Nat) (i : Int) : Option Nat := if 0 ≤ i then (if i < n then some i.toNat else none) else if -(n : Int) ≤ i then some (i + n).toNat else none
def atZ {α : Type} (xs : List α) (i : Int) : Option α := (ixZ xs.length i).bind fun j => xs[j]?
@[reducible] def rIx : R2
  | .tup xs, .int i, S, Q => ∃ d, atZ xs i = some d ∧ Q d S
  | .rol xs, .int i, S, Q => ∃ d, atZ xs i = some d ∧ Q d S
  | .ref n, .int i, S, Q => isLst S n fun xs => ∃ d, atZ xs i = some d ∧ Q d S
  | .str z, .int i, S, Q => z.length ≤ szL ∧ ∃ c, atZ z.cps.toList i = some c ∧ Q (.str ⟨#[c]⟩) S
  | _, _, _, _ => False
def sIx (n d : Nat) : Option Int → Nat
  | none => d
  | some i => if i < 0 then (i + n).toNat else min i.toNat n
def cut {α : Type} (xs : List α) (lo hi : Option Int) : List α := (xs.drop (sIx xs.length 0 lo)).take (sIx xs.length xs.length hi - sIx xs.length 0 lo)
@[reducible] def rSl : D → Option Int → Option Int → Sto → VK → Prop
  | .tup xs, lo, hi, S, Q => Q (.tup (cut xs lo hi)) S
  | .ref n, lo, hi, S, Q => isLst S n fun xs => Q (.ref S.length) (S ++ [.lst (cut xs lo hi)])
  | _, _, _, _, _ => False
@[reducible] def rRev : R1
  | .tup xs, S, Q => Q (.tup xs.reverse) S
  | .ref n, S, Q => isLst S n fun xs => Q (.ref S.length) (S ++ [.lst xs.reverse])
  | _, _, _ => False
/-- plain things, for in -/
def flat0 : D → Bool
  | .non | .bl _ | .int _ | .str _ => true
  | _ => false
@[reducible] def rIn (neg : Bool) : R2
  | x, .tup ys, S, Q => (flat0 x = true ∧ ys.all flat0 = true) ∧ Q (.bl (if neg then !ys.any fun y => eqD y x else ys.any fun y => eqD y x)) S
  | x, .ref n, S, Q => isLst S n fun ys => (flat x = true ∧ flats ys = true ∧ deep x ≤ 63 ∧ deeps ys ≤ 63) ∧ Q (.bl (if neg then !ys.any fun y => eqD y x else ys.any fun y => eqD y x)) S
  | _, _, _, _ => False
/-! built-ins -/
@[reducible] def rLen : RL
  | [.tup xs], S, Q => Q (.int xs.length) S
  | [.rol xs], S, Q => Q (.int xs.length) S
  | [.str z], S, Q => z.length ≤ szL ∧ Q (.int z.length) S
  | [.ref n], S, Q => isLst S n fun xs => Q (.int xs.length) S
  | _, _, _ => False
@[reducible] def rAbs : RL
  | [.int i], S, Q => Q (.int i.natAbs) S
  | _, _, _ => False
@[reducible] def rInt : RL
  | [.int i], S, Q => Q (.int i) S
  | [.bl b], S, Q => Q (.int (if b = true then 1 else 0)) S
  | _, _, _ => False
@[reducible] def rMax2 : RL
  | [.int i, .int j], S, Q => Q (.int (max i j)) S
  | _, _, _ => False
@[reducible] def rMin2 : RL
  | [.int i, .int j], S, Q => Q (.int (min i j)) S
  | _, _, _ => False
@[reducible] def rList : RL
  | [.tup xs], S, Q => Q (.ref S.length) (S ++ [.lst xs])
  | [.rol xs], S, Q => Q (.ref S.length) (S ++ [.lst xs])
  | [.ref n], S, Q => isLst S n fun xs => Q (.ref S.length) (S ++ [.lst xs])
  | _, _, _ => False
@[reducible] def rTuple : RL
  | [.tup xs], S, Q => Q (.tup xs) S
  | [.rol xs], S, Q => Q (.tup xs) S
  | [.ref n], S, Q => isLst S n fun xs => Q (.tup xs) S
  | _, _, _ => False
/-- intD all through -/
def intsOf : List D → Option (List Int)
  | [] => some []
  | .int i :: r => (intsOf r).map (i :: ·)
  | _ => none
def bsOf : List D → Option (List Bool)
  | [] => some []
  | .bl i :: r => (bsOf r).map (i :: ·)
  | _ => none
/-- the list behind a list of one's own or a tuple -/
def itemsAt : D → Sto → Option (List D)
  | .tup xs, _ => some xs
  | .ref n, S => match S[n]? with
    | some (.lst xs) => some xs
    | _ => none
  | _, _ => none
@[reducible] def withInts (d : D) (S : Sto) (P : List Int → Prop) : Prop := ∃ ns, itemsAt d S = some (intD ns) ∧ P ns
@[reducible] def rSum : RL
  | [d], S, Q => withInts d S fun ns => Q (.int ns.sum) S
  | _, _, _ => False
@[reducible] def rMax : RL
  | [d], S, Q => withInts d S fun ns => 0 < ns.length ∧ ∀ m, m ∈ ns → (∀ y, y ∈ ns → y ≤ m) → Q (.int m) S
  | _, _, _ => False
@[reducible] def rMin : RL
  | [d], S, Q => withInts d S fun ns => 0 < ns.length ∧ ∀ m, m ∈ ns → (∀ y, y ∈ ns → m ≤ y) → Q (.int m) S
  | _, _, _ => False
@[reducible] def rAll : RL
  | [.ref n], S, Q => ∃ bs : List Bool, S[n]? = some (.lst (bs.map .bl)) ∧ Q (.bl (bs.all id)) S
  | _, _, _ => False
@[reducible] def rAny : RL
  | [.ref n], S, Q => ∃ bs : List Bool, S[n]? = some (.lst (bs.map .bl)) ∧ Q (.bl (bs.any id)) S
  | _, _, _ => False
@[reducible] def rGcd : RL
  | [.int a, .int b], S, Q => Q (.int (Nat.gcd a.natAbs b.natAbs : Nat)) S
  | _, _, _ => False
/-- isinstance(x, T): T one of bool, int, str, tuple, list -/
def isT : D → String → Option Bool
  | .non, t => if t ∈ ["bool", "int", "str", "tuple", "list"] then some false else none
  | .bl _, t => if t ∈ ["bool", "int"] then some true else if t ∈ ["str", "tuple", "list"] then some false else none
  | .int _, t => if t = "int" then some true else if t ∈ ["bool", "str", "tuple", "list"] then some false else none
  | .str _, t => if t = "str" then some true else if t ∈ ["bool", "int", "tuple", "list"] then some false else none
  | .tup _, t => if t = "tuple" then some true else if t ∈ ["bool", "int", "str", "list"] then some false else none
  | .ref _, t => if t = "list" then some true else if t ∈ ["bool", "int", "str", "tuple"] then some false else none
  | _, _ => none
@[reducible] def rIsi : RL
  | [d, .ty t], S, Q => ∃ b, isT d t = some b ∧ Q (.bl b) S
  | _, _, _ => False
/-! sorting -/
mutual
def ltD : D → D → Bool
  | .int i, .int j => decide (i < j)
  | .str x, .str y => decide (x.cps.toList < y.cps.toList)
  | .tup xs, .tup ys => ltDs xs ys
  | _, _ => false
def ltDs : List D → List D → Bool
  | [], [] => false
  | [], _ :: _ => true
  | _ :: _, [] => false
  | x :: xs, y :: ys => if eqD x y = true then ltDs xs ys else ltD x y
end
mutual
def akin : D → D → Bool
  | .int _, .int _ => true
  | .str _, .str _ => true
  | .tup xs, .tup ys => akins xs ys
  | _, _ => false
def akins : List D → List D → Bool
  | x :: xs, y :: ys => akin x y && akins xs ys
  | _, _ => true
end
/-- all ints, all texts, or all tuples with an item -/
def sortOk (xs : List D) : Prop := flats xs = true ∧ deeps xs ≤ 60 ∧ (∀ a ∈ xs, ∀ b ∈ xs, akin a b = true) ∧ ((∀ a ∈ xs, ∃ x r, a = .tup (x :: r)) ∨ ∀ a ∈ xs, a ≠ .non ∧ ∀ ys, a ≠ .tup ys)
@[reducible] def rSorted : RL
  | [.ref n], S, Q => isLst S n fun xs => sortOk xs ∧ ∀ ys, ys.Perm xs → ys.Pairwise (fun a b => ltD b a = false) → Q (.ref S.length) (S ++ [.lst ys])
  | _, _, _ => False
/-- sorted(set(a)) of ints -/
@[reducible] def wSortedSet (a : WE) : WE := fun ρ S Q => a ρ S fun d S1 => withInts d S1 fun ns => ns.length < 60 ∧ ∀ ms : List Int, ms.Pairwise (· < ·) → (∀ k, k ∈ ms ↔ k ∈ ns) → Q (.ref S1.length) (S1 ++ [.lst (intD ms)])
/-! methods of lists -/
@[reducible] def rAppend : RM
  | .ref n, [d], S, Q => isLst S n fun xs => xs.length < szL ∧ Q .non (S.set n (.lst (xs ++ [d])))
  | _, _, _, _ => False
@[reducible] def rPop : RM
  | .ref n, [], S, Q => isLst S n fun xs => ∃ d, xs[xs.length - 1]? = some d ∧ Q d (S.set n (.lst xs.dropLast))
  | _, _, _, _ => False
@[reducible] def rPopAt : RM
  | .ref n, [.int i], S, Q => isLst S n fun xs => (-(2 ^ 63) ≤ i ∧ i < 2 ^ 63) ∧ ∃ j d, ixZ xs.length i = some j ∧ xs[j]? = some d ∧ Q d (S.set n (.lst (xs.eraseIdx j)))
  | _, _, _, _ => False
@[reducible] def rReverse : RM
  | .ref n, [], S, Q => isLst S n fun xs => Q .non (S.set n (.lst xs.reverse))
  | _, _, _, _ => False
@[reducible] def rInsert : RM
  | .ref n, [.int i, d], S, Q => isLst S n fun xs => xs.length < szL ∧ (0 ≤ i ∧ i < 2 ^ 63) ∧ Q .non (S.set n (.lst (xs.take i.toNat ++ [d] ++ xs.drop i.toNat)))
  | _, _, _, _ => False
/-- o[i] = d -/
@[reducible] def rPut : D → D → D → Sto → (Sto → Prop) → Prop
  | .ref n, .int i, d, S, Q => isLst S n fun xs => ∃ j, ixZ xs.length i = some j ∧ Q (S.set n (.lst (xs.set j d)))
  | _, _, _, _, _ => False
end DL
set_option Elab.async false
set_option linter.all false
set_option maxRecDepth 100000
set_option maxHeartbeats 4000000
/-! DL1: the parts of DL0 hold of the model, rule by rule. -/
namespace DL
open PySem PySem.Spec
open L2 (V Hp HO St TE TT TA TS TG TI TO PE PT PW PA PS PSs PG PI PO Cx Inv RelV Vals SqL SqT Rd upd upd_same upd_ne ne_of ne_of_none OpR UnR CallR MtR IxR SlR It thn)

/-! ### how plain data lies in the heap -/
/-- a list that is only read -/
def RoL (K : PySem.W.Frag) (H : Hp) (a : Addr) (vs : List V) : Prop := (∃ o, H a = some (.frz o (.lst vs))) ∨
    ∃ (o : Obj) (its : Array Value) (n : Nat), K.lookup a = some o ∧ o.cls = .type "list" ∧ o.dict = none ∧ o.data = .seq its n ∧ its.size ≤ sizeLine ∧ Vals vs its.toList
theorem RoL.seq {K : PySem.W.Frag} {H : Hp} {a : Addr} {vs : List V} (h : RoL K H a vs) : SqL K H a vs := by
  rcases h with h | h
  · exact .inl (.inr h)
  · exact .inr h
mutual
def Rep (K : PySem.W.Frag) (H : Hp) (m : List Addr) : D → V → Prop
  | .non, v => v = .non
  | .bl b, v => v = .bl b
  | .int i, v => v = .int i
  | .str x, v => v = .str x
  | .ty n, v => v = .ty n
  | .ref n, v => ∃ a, m[n]? = some a ∧ v = .ref a
  | .tup ds, v => ∃ a vs, v = .ref a ∧ SqT K H a vs ∧ Reps K H m ds vs
  | .rol ds, v => ∃ a vs, v = .ref a ∧ RoL K H a vs ∧ Reps K H m ds vs
def Reps (K : PySem.W.Frag) (H : Hp) (m : List Addr) : List D → List V → Prop
  | [], vs => vs = []
  | d :: ds, vs => ∃ v r, vs = v :: r ∧ Rep K H m d v ∧ Reps K H m ds r
end
/-- from one heap to a later one: what is not ours stands, what is ours may have grown -/
structure Ext (m : List Addr) (H : Hp) (m' : List Addr) (H' : Hp) : Prop where
  pre : ∀ (n : Nat) (a : Addr), m[n]? = some a → m'[n]? = some a
  keep : ∀ (b : Addr) (o : HO), H b = some o → b ∉ m → H' b = some o
  new : ∀ b : Addr, b ∈ m' → b ∈ m ∨ H b = none
  lst : ∀ (b : Addr) (o : HO), H b = some o → (∀ xs, o ≠ .lst xs) → H' b = some o
theorem Ext.refl (m : List Addr) (H : Hp) : Ext m H m H := ⟨fun _ _ h => h, fun _ _ h _ => h, fun _ h => .inl h, fun _ _ h _ => h⟩
theorem Ext.trans {m m1 m2 : List Addr} {H H1 H2 : Hp} (a : Ext m H m1 H1) (b : Ext m1 H1 m2 H2) : Ext m H m2 H2 where
  pre := fun n x h => b.pre n x (a.pre n x h)
  keep := fun c o h hn => b.keep c o (a.keep c o h hn) fun z => by
    rcases a.new c z with z | z
    · exact hn z
    · rw [z] at h; cases h
  new := fun c h => by
    rcases b.new c h with z | z
    · exact a.new c z
    · by_cases hc : c ∈ m
      · exact .inl hc
      · refine .inr ?_
        cases e : H c with
        | none => rfl
        | some o => rw [a.keep c o e hc] at z; cases z
  lst := fun c o h hn => b.lst c o (a.lst c o h hn) hn
theorem Ext.sqT {m m' : List Addr} {H H' : Hp} (e : Ext m H m' H') {K : PySem.W.Frag} {a : Addr} {vs : List V} (h : SqT K H a vs) : SqT K H' a vs := by
  rcases h with (h | ⟨o, h⟩) | h
  · exact .inl (.inl (e.lst _ _ h fun _ z => nomatch z))
  · exact .inl (.inr ⟨o, e.lst _ _ h fun _ z => nomatch z⟩)
  · exact .inr h
theorem Ext.ro {m m' : List Addr} {H H' : Hp} (e : Ext m H m' H') {K : PySem.W.Frag} {a : Addr} {vs : List V} (h : RoL K H a vs) : RoL K H' a vs := by
  rcases h with ⟨o, h⟩ | h
  · exact .inl ⟨o, e.lst _ _ h fun _ z => nomatch z⟩
  · exact .inr h
section
variable {K : PySem.W.Frag} {m m' m1 : List Addr} {H H' H1 : Hp} {S S' : Sto}
mutual
theorem Rep.ext (e : Ext m H m' H') : ∀ (d : D) (v : V), Rep K H m d v → Rep K H' m' d v
  | .non, _, h => h
  | .bl _, _, h => h
  | .int _, _, h => h
  | .str _, _, h => h
  | .ty _, _, h => h
  | .ref _, _, ⟨a, h1, h2⟩ => ⟨a, e.pre _ _ h1, h2⟩
  | .tup ds, _, ⟨a, vs, h1, h2, h3⟩ => ⟨a, vs, h1, e.sqT h2, Reps.ext e ds vs h3⟩
  | .rol ds, _, ⟨a, vs, h1, h2, h3⟩ => ⟨a, vs, h1, e.ro h2, Reps.ext e ds vs h3⟩
theorem Reps.ext (e : Ext m H m' H') : ∀ (ds : List D) (vs : List V), Reps K H m ds vs → Reps K H' m' ds vs
  | [], _, h => h
  | d :: ds, _, ⟨v, r, h1, h2, h3⟩ => ⟨v, r, h1, Rep.ext e d v h2, Reps.ext e ds r h3⟩
end
theorem Reps.len : ∀ {ds : List D} {vs : List V}, Reps K H m ds vs → vs.length = ds.length
  | [], _, h => by rw [show _ = ([] : List V) from h]; rfl
  | d :: ds, _, ⟨v, r, h1, h2, h3⟩ => by rw [h1, List.length_cons, List.length_cons, Reps.len h3]
theorem Reps.get : ∀ {ds : List D} {vs : List V}, Reps K H m ds vs → ∀ (i : Nat) (d : D), ds[i]? = some d → ∃ v, vs[i]? = some v ∧ Rep K H m d v
  | [], _, h, i, d, e => by simp at e
  | d :: ds, _, ⟨v, r, h1, h2, h3⟩, 0, d', e => by
    simp at e
    subst e
    exact ⟨v, by rw [h1]; rfl, h2⟩
  | d :: ds, _, ⟨v, r, h1, h2, h3⟩, i + 1, d', e => by
    obtain ⟨w, e1, e2⟩ := Reps.get h3 i d' (by simpa using e)
    exact ⟨w, by rw [h1]; simpa using e1, e2⟩
theorem Reps.get' : ∀ {ds : List D} {vs : List V}, Reps K H m ds vs → ∀ (i : Nat) (v : V), vs[i]? = some v → ∃ d, ds[i]? = some d ∧ Rep K H m d v
  | [], _, h, i, d, e => by
    rw [show _ = ([] : List V) from h] at e
    simp at e
  | d :: ds, _, ⟨v, r, h1, h2, h3⟩, 0, d', e => by
    rw [h1] at e
    simp at e
    subst e
    exact ⟨d, rfl, h2⟩
  | d :: ds, _, ⟨v, r, h1, h2, h3⟩, i + 1, d', e => by
    rw [h1] at e
    obtain ⟨w, e1, e2⟩ := Reps.get' h3 i d' (by simpa using e)
    exact ⟨w, by simpa using e1, e2⟩
theorem Reps.app : ∀ {ds es : List D} {vs us : List V}, Reps K H m ds vs → Reps K H m es us → Reps K H m (ds ++ es) (vs ++ us)
  | [], _, _, _, h, q => by rw [show _ = ([] : List V) from h]; exact q
  | d :: ds, _, _, _, ⟨v, r, h1, h2, h3⟩, q => ⟨v, r ++ _, by rw [h1]; rfl, h2, Reps.app h3 q⟩
theorem Reps.one {d : D} {v : V} (h : Rep K H m d v) : Reps K H m [d] [v] := ⟨v, [], rfl, h, rfl⟩
theorem Reps.drop : ∀ {ds : List D} {vs : List V} (n : Nat), Reps K H m ds vs → Reps K H m (ds.drop n) (vs.drop n)
  | _, _, 0, h => h
  | [], _, n + 1, h => by rw [show _ = ([] : List V) from h]; rfl
  | d :: ds, _, n + 1, ⟨v, r, h1, h2, h3⟩ => by rw [h1]; exact Reps.drop n h3
theorem Reps.take : ∀ {ds : List D} {vs : List V} (n : Nat), Reps K H m ds vs → Reps K H m (ds.take n) (vs.take n)
  | _, _, 0, h => rfl
  | [], _, n + 1, h => by rw [show _ = ([] : List V) from h]; rfl
  | d :: ds, _, n + 1, ⟨v, r, h1, h2, h3⟩ => by rw [h1]; exact ⟨v, _, rfl, h2, Reps.take n h3⟩
theorem Reps.rev : ∀ {ds : List D} {vs : List V}, Reps K H m ds vs → Reps K H m ds.reverse vs.reverse
  | [], _, h => by rw [show _ = ([] : List V) from h]; rfl
  | d :: ds, _, ⟨v, r, h1, h2, h3⟩ => by
    rw [h1, List.reverse_cons, List.reverse_cons]
    exact Reps.app (Reps.rev h3) (Reps.one h2)
theorem Reps.set : ∀ {ds : List D} {vs : List V} {d : D} {v : V} (i : Nat), Reps K H m ds vs → Rep K H m d v → Reps K H m (ds.set i d) (vs.set i v)
  | [], _, _, _, i, h, q => by rw [show _ = ([] : List V) from h]; rfl
  | d :: ds, _, _, _, 0, ⟨v, r, h1, h2, h3⟩, q => by rw [h1]; exact ⟨_, _, rfl, q, h3⟩
  | d :: ds, _, _, _, i + 1, ⟨v, r, h1, h2, h3⟩, q => by rw [h1]; exact ⟨_, _, rfl, h2, Reps.set i h3 q⟩
theorem Reps.erase : ∀ {ds : List D} {vs : List V} (i : Nat), Reps K H m ds vs → Reps K H m (ds.eraseIdx i) (vs.eraseIdx i)
  | [], _, i, h => by rw [show _ = ([] : List V) from h]; cases i <;> rfl
  | d :: ds, _, 0, ⟨v, r, h1, h2, h3⟩ => by rw [h1]; exact h3
  | d :: ds, _, i + 1, ⟨v, r, h1, h2, h3⟩ => by rw [h1]; exact ⟨_, _, rfl, h2, Reps.erase i h3⟩
theorem Reps.dropLast {ds : List D} {vs : List V} (h : Reps K H m ds vs) : Reps K H m ds.dropLast vs.dropLast := by
  rw [List.dropLast_eq_take, List.dropLast_eq_take, h.len]
  exact h.take _
theorem Reps.rep {ds : List D} {vs : List V} (h : Reps K H m ds vs) : ∀ k : Nat, Reps K H m (List.replicate k ds).flatten (List.replicate k vs).flatten
  | 0 => rfl
  | k + 1 => by
    rw [List.replicate_succ, List.replicate_succ, List.flatten_cons, List.flatten_cons]
    exact Reps.app h (Reps.rep h k)
theorem Reps.ints : ∀ {ns : List Int} {vs : List V}, Reps K H m (intD ns) vs → vs = ns.map V.int
  | [], _, h => h
  | n :: ns, _, ⟨v, r, h1, h2, h3⟩ => by rw [h1, show v = V.int n from h2, Reps.ints h3]; rfl
theorem Reps.bls : ∀ {ns : List Bool} {vs : List V}, Reps K H m (ns.map D.bl) vs → vs = ns.map V.bl
  | [], _, h => h
  | n :: ns, _, ⟨v, r, h1, h2, h3⟩ => by rw [h1, show v = V.bl n from h2, Reps.bls h3]; rfl
theorem Reps.of_ints : ∀ {ns : List Int}, Reps K H m (DL.intD ns) (ns.map V.int)
  | [] => rfl
  | n :: ns => ⟨_, _, rfl, rfl, Reps.of_ints⟩

/-- one object of the store -/
def RepO (K : PySem.W.Frag) (H : Hp) (m : List Addr) : O → Addr → Prop
  | .lst ds, a => ∃ vs, H a = some (.lst vs) ∧ Reps K H m ds vs
  | .dic _, _ => False
structure RepS (K : PySem.W.Frag) (H : Hp) (m : List Addr) (S : Sto) : Prop where
  len : m.length = S.length
  nd : ∀ (i j : Nat) (a : Addr), m[i]? = some a → m[j]? = some a → i = j
  obj : ∀ (n : Nat) (o : O), S[n]? = some o → ∃ a, m[n]? = some a ∧ RepO K H m o a
theorem RepS.lst (h : RepS K H m S) {n : Nat} {ds : List D} (e : S[n]? = some (.lst ds)) : ∃ a vs, m[n]? = some a ∧ H a = some (.lst vs) ∧ Reps K H m ds vs := by
  obtain ⟨a, h1, vs, h2, h3⟩ := h.obj n _ e
  exact ⟨a, vs, h1, h2, h3⟩
theorem RepS.mem (h : RepS K H m S) {b : Addr} (hb : b ∈ m) : ∃ vs, H b = some (.lst vs) := by
  obtain ⟨n, hn, e⟩ := List.getElem_of_mem hb
  have e' : m[n]? = some b := by rw [List.getElem?_eq_getElem hn, e]
  have hs : n < S.length := by rw [← h.len]; exact hn
  obtain ⟨a, h1, h2⟩ := h.obj n S[n] (List.getElem?_eq_getElem hs)
  rw [e'] at h1
  cases h1
  cases hq : S[n] with
  | lst ds => rw [hq] at h2; obtain ⟨vs, h2, _⟩ := h2; exact ⟨vs, h2⟩
  | dic _ => rw [hq] at h2; exact h2.elim
theorem RepS.notin (h : RepS K H m S) {p : Addr} (hp : H p = none) : p ∉ m := fun z => by
  obtain ⟨vs, e⟩ := h.mem z
  rw [hp] at e; cases e
/-- a new thing that is not a list of ours -/
theorem Ext.fresh (hp : H p = none) (o : HO) : Ext m H m (upd H p o) where
  pre := fun _ _ h => h
  keep := fun b u h _ => by rw [upd_ne (ne_of_none h hp)]; exact h
  new := fun _ h => .inl h
  lst := fun b u h _ => by rw [upd_ne (ne_of_none h hp)]; exact h
theorem Ext.pushed (hp : H p = none) (o : HO) : Ext m H (m ++ [p]) (upd H p o) where
  pre := fun n a h => by
    rw [List.getElem?_append_left]
    · exact h
    · exact (List.getElem?_eq_some_iff.mp h).1
  keep := fun b u h _ => by rw [upd_ne (ne_of_none h hp)]; exact h
  new := fun b h => by
    rcases List.mem_append.mp h with z | z
    · exact .inl z
    · refine .inr ?_
      rw [List.mem_singleton.mp z]
      exact hp
  lst := fun b u h _ => by rw [upd_ne (ne_of_none h hp)]; exact h
theorem Ext.wrote {a : Addr} {vs us : List V} (ha : a ∈ m) (h : H a = some (.lst vs)) : Ext m H m (upd H a (.lst us)) where
  pre := fun _ _ h => h
  keep := fun b u q hn => by
    rw [upd_ne (a := a) (b := b) (fun z => hn (by rw [z]; exact ha))]
    exact q
  new := fun _ h => .inl h
  lst := fun b u q hl => by
    have hne : b ≠ a := fun z => by
      rw [z, h] at q
      exact hl vs (Option.some.inj q).symm
    rw [upd_ne hne]
    exact q
theorem RepS.fresh (h : RepS K H m S) (hp : H p = none) (o : HO) : RepS K (upd H p o) m S where
  len := h.len
  nd := h.nd
  obj := fun n u e => by
    obtain ⟨a, h1, h2⟩ := h.obj n u e
    refine ⟨a, h1, ?_⟩
    cases u with
    | lst ds =>
      obtain ⟨vs, h2, h3⟩ := h2
      exact ⟨vs, by rw [upd_ne (ne_of_none h2 hp)]; exact h2, Reps.ext (Ext.fresh hp o) _ _ h3⟩
    | dic _ => exact h2.elim
theorem RepS.push (h : RepS K H m S) (hp : H p = none) {ds : List D} {vs : List V} (r : Reps K H m ds vs) : RepS K (upd H p (.lst vs)) (m ++ [p]) (S ++ [.lst ds]) where
  len := by rw [List.length_append, List.length_append, h.len]; rfl
  nd := fun i j a h1 h2 => by
    have hn := h.notin hp
    have pos : ∀ (i : Nat) (a : Addr), (m ++ [p])[i]? = some a → (m[i]? = some a ∧ a ≠ p) ∨ (i = m.length ∧ a = p) := fun i a e => by
      by_cases hi : i < m.length
      · rw [List.getElem?_append_left hi] at e
        exact .inl ⟨e, fun z => hn (z ▸ List.mem_of_getElem? e)⟩
      · have hi' := (List.getElem?_eq_some_iff.mp e).1
        rw [List.length_append] at hi'
        have : i = m.length := by simp at hi'; omega
        subst this
        simp at e
        exact .inr ⟨rfl, e.symm⟩
    rcases pos i a h1 with ⟨e1, n1⟩ | ⟨e1, n1⟩ <;> rcases pos j a h2 with ⟨e2, n2⟩ | ⟨e2, n2⟩
    · exact h.nd i j a e1 e2
    · exact absurd n2 n1
    · exact absurd n1 n2
    · rw [e1, e2]
  obj := fun n u e => by
    by_cases hn : n < S.length
    · rw [List.getElem?_append_left hn] at e
      obtain ⟨a, h1, h2⟩ := h.obj n u e
      refine ⟨a, (Ext.pushed (m := m) hp (.lst vs)).pre _ _ h1, ?_⟩
      cases u with
      | lst ds =>
        obtain ⟨ws, h2, h3⟩ := h2
        exact ⟨ws, by rw [upd_ne (ne_of_none h2 hp)]; exact h2, Reps.ext (Ext.pushed hp _) _ _ h3⟩
      | dic _ => exact h2.elim
    · have hi' := (List.getElem?_eq_some_iff.mp e).1
      rw [List.length_append] at hi'
      have : n = S.length := by simp at hi'; omega
      subst this
      simp at e
      subst e
      exact ⟨p, by rw [← h.len]; simp, vs, upd_same, Reps.ext (Ext.pushed hp _) _ _ r⟩
theorem RepS.set (h : RepS K H m S) {n : Nat} {a : Addr} {ds ds' : List D} {vs' : List V} (e : S[n]? = some (.lst ds)) (ha : m[n]? = some a) (r : Reps K H m ds' vs') :
    RepS K (upd H a (.lst vs')) m (S.set n (.lst ds')) := by
  obtain ⟨a', vs, h1, h2, h3⟩ := h.lst e
  rw [ha] at h1
  cases h1
  have ext : Ext m H m (upd H a (.lst vs')) := Ext.wrote (List.mem_of_getElem? ha) h2
  have hn : n < S.length := (List.getElem?_eq_some_iff.mp e).1
  refine ⟨by rw [List.length_set]; exact h.len, h.nd, fun i u q => ?_⟩
  by_cases hi : i = n
  · subst hi
    rw [List.getElem?_set_self hn] at q
    cases q
    exact ⟨a, ha, vs', upd_same, Reps.ext ext _ _ r⟩
  · rw [List.getElem?_set_ne (Ne.symm hi)] at q
    obtain ⟨b, g1, g2⟩ := h.obj i u q
    refine ⟨b, g1, ?_⟩
    cases u with
    | lst es =>
      obtain ⟨ws, g2, g3⟩ := g2
      refine ⟨ws, ?_, Reps.ext ext _ _ g3⟩
      have hne : b ≠ a := fun z => hi (h.nd i n a (by rw [← z]; exact g1) ha)
      rw [upd_ne hne]
      exact g2
    | dic _ => exact g2.elim

/-! ### slots -/
structure RepE (K : PySem.W.Frag) (H : Hp) (m : List Addr) (ρ : Env) (σ : St) : Prop where
  len : ρ.length = σ.length
  get : ∀ (i : Nat) (d : D), lk ρ i = some d → ∃ v, σ[i]? = some (some v) ∧ Rep K H m d v
theorem RepE.ext {ρ : Env} {σ : St} (r : RepE K H m ρ σ) (e : Ext m H m' H') : RepE K H' m' ρ σ := ⟨r.len, fun i d h => let ⟨v, h1, h2⟩ := r.get i d h; ⟨v, h1, Rep.ext e _ _ h2⟩⟩
theorem lk_up : ∀ (ρ : Env) (i j : Nat) (d : Option D), lk (up ρ i d) j = if j = i ∧ i < ρ.length then d else lk ρ j
  | [], i, j, d => by simp [up, lk]
  | x :: r, 0, 0, d => by simp [up, lk]
  | x :: r, 0, j + 1, d => by simp [up, lk]
  | x :: r, i + 1, 0, d => by simp [up, lk]
  | x :: r, i + 1, j + 1, d => by simp [up, lk, lk_up r i j d]
theorem up_len : ∀ (ρ : Env) (i : Nat) (d : Option D), (up ρ i d).length = ρ.length
  | [], _, _ => rfl
  | x :: r, 0, _ => rfl
  | x :: r, i + 1, d => by simp [up, up_len r i d]
theorem RepE.set {ρ : Env} {σ : St} (r : RepE K H m ρ σ) {d : D} {v : V} (q : Rep K H m d v) (i : Nat) : RepE K H m (up ρ i (some d)) (σ.set i (some v)) := by
  refine ⟨by rw [up_len, List.length_set]; exact r.len, fun j e h => ?_⟩
  rw [lk_up] at h
  by_cases hj : j = i ∧ i < ρ.length
  · rw [if_pos hj] at h
    cases h
    obtain ⟨rfl, hl⟩ := hj
    exact ⟨v, by rw [List.getElem?_set_self (by rw [← r.len]; exact hl)], q⟩
  · rw [if_neg hj] at h
    obtain ⟨w, h1, h2⟩ := r.get j e h
    refine ⟨w, ?_, h2⟩
    have hlt := (List.getElem?_eq_some_iff.mp h1).1
    by_cases hji : j = i
    · exact absurd ⟨hji, by rw [r.len, ← hji]; exact hlt⟩ hj
    · rw [List.getElem?_set_ne (Ne.symm hji)]
      exact h1
theorem RepE.drop1 {ρ : Env} {σ : St} (r : RepE K H m ρ σ) (i : Nat) : RepE K H m (up ρ i none) (σ.set i none) := by
  refine ⟨by rw [up_len, List.length_set]; exact r.len, fun j e h => ?_⟩
  rw [lk_up] at h
  by_cases hj : j = i ∧ i < ρ.length
  · rw [if_pos hj] at h; cases h
  · rw [if_neg hj] at h
    obtain ⟨w, h1, h2⟩ := r.get j e h
    have hlt := (List.getElem?_eq_some_iff.mp h1).1
    refine ⟨w, ?_, h2⟩
    by_cases hji : j = i
    · exact absurd ⟨hji, by rw [r.len, ← hji]; exact hlt⟩ hj
    · rw [List.getElem?_set_ne (Ne.symm hji)]
      exact h1
end
end DL
set_option Elab.async false
set_option linter.all false
set_option maxRecDepth 100000
set_option maxHeartbeats 4000000
/-! DL2: the parts as rules of the layer: tests, calls, displays, blocks, loops, comprehensions. -/
namespace DL
open PySem PySem.Spec
open L2 (V Hp HO St TE TT TA TS TG TI TO PE PT PW PA PS PSs PG PI PO Cx Inv RelV Vals SqL SqT Rd upd upd_same upd_ne ne_of ne_of_none OpR UnR CallR MtR IxR SlR It thn)

/-! ### from a part to the layer's reading -/
abbrev Kont (K : PySem.W.Frag) (m : List Addr) (H : Hp) (R : D → Sto → Prop) (Q : V → Hp → Prop) : Prop :=
  ∀ v d H' S' m', Ext m H m' H' → RepS K H' m' S' → Rep K H' m' d v → R d S' → Q v H'
def teOf (K : PySem.W.Frag) (w : WE) : TE := fun σ H Q => ∃ ρ S m R, RepE K H m ρ σ ∧ RepS K H m S ∧ w ρ S R ∧ Kont K m H R Q
def ttOf (K : PySem.W.Frag) (w : WT) : TT := fun σ H Q => ∃ ρ S m R, RepE K H m ρ σ ∧ RepS K H m S ∧ w ρ S R ∧ ∀ b H' S' m', Ext m H m' H' → RepS K H' m' S' → R b S' → Q b H'
def taOf (K : PySem.W.Frag) (w : WA) : TA := fun σ H Q => ∃ ρ S m R, RepE K H m ρ σ ∧ RepS K H m S ∧ w ρ S R ∧ ∀ vs ds H' S' m', Ext m H m' H' → RepS K H' m' S' → Reps K H' m' ds vs → R ds S' → Q vs H'
def toOf (K : PySem.W.Frag) (w : WP) : TO := fun σ H Q => ∃ ρ S m R, RepE K H m ρ σ ∧ RepS K H m S ∧ w ρ S R ∧ ∀ b H' S' m', Ext m H m' H' → RepS K H' m' S' → R b S' → Q b H'
/-- slots but those at vs as they were -/
def tgOf (K : PySem.W.Frag) (vs : List Nat) (g : WG) : TG := fun v σ H Q => ∃ d ρ S m R, RepE K H m ρ σ ∧ RepS K H m S ∧ Rep K H m d v ∧ g d ρ S R ∧
  ∀ σ' ρ' S' m' H', L2.wipe σ' vs = L2.wipe σ vs → Ext m H m' H' → RepS K H' m' S' → RepE K H' m' ρ' σ' → R ρ' S' → Q σ' H'
def tsOf (K : PySem.W.Frag) (w : WS) : TS := fun D σ H => ∃ ρ S m E, RepE K H m ρ σ ∧ RepS K H m S ∧ w E ρ S ∧
  (∀ σ' ρ' H' S' m', Ext m H m' H' → RepS K H' m' S' → RepE K H' m' ρ' σ' → E.nx ρ' S' → D.nx σ' H') ∧ Kont K m H E.rt D.rt ∧
  (∀ σ' ρ' H' S' m', Ext m H m' H' → RepS K H' m' S' → RepE K H' m' ρ' σ' → E.bk ρ' S' → D.bk σ' H') ∧
  (∀ σ' ρ' H' S' m', Ext m H m' H' → RepS K H' m' S' → RepE K H' m' ρ' σ' → E.ct ρ' S' → D.ct σ' H')
/-- the items that an iterator yields -/
def Yields (K : PySem.W.Frag) (J : It) (items : List D) (guard : Sto → Prop) (m0 : List Addr) (H0 : Hp) : Prop :=
  ∀ m H S, Ext m0 H0 m H → RepS K H m S → guard S → (∀ (i : Nat) (d : D), items[i]? = some d → J.go i H ∧ ∀ x H', J.yld i H x H' → ∃ m', Ext m H m' H' ∧ RepS K H' m' S ∧ Rep K H' m' d x) ∧ (∀ i : Nat, items.length ≤ i → J.stop i H)
def tiOf (K : PySem.W.Frag) (w : WI) : TI := fun σ H R => ∃ ρ S m Rd, RepE K H m ρ σ ∧ RepS K H m S ∧ w ρ S Rd ∧
  ∀ J items guard S' m' H', Ext m H m' H' → RepS K H' m' S' → Yields K J items guard m' H' → Rd items guard S' → R J H'
def r2Of (K : PySem.W.Frag) (r : R2) : L2.R2 := fun x y H Q => ∃ m S dx dy R, RepS K H m S ∧ Rep K H m dx x ∧ Rep K H m dy y ∧ r dx dy S R ∧ Kont K m H R Q
def r1Of (K : PySem.W.Frag) (r : R1) : V → Hp → L2.VK → Prop := fun x H Q => ∃ m S dx R, RepS K H m S ∧ Rep K H m dx x ∧ r dx S R ∧ Kont K m H R Q
def rlOf (K : PySem.W.Frag) (r : RL) : List V → Hp → L2.VK → Prop := fun xs H Q => ∃ m S ds R, RepS K H m S ∧ Reps K H m ds xs ∧ r ds S R ∧ Kont K m H R Q
def rmOf (K : PySem.W.Frag) (r : RM) : V → List V → Hp → L2.VK → Prop := fun x xs H Q => ∃ m S dx ds R, RepS K H m S ∧ Rep K H m dx x ∧ Reps K H m ds xs ∧ r dx ds S R ∧ Kont K m H R Q
def rsOf (K : PySem.W.Frag) (r : D → Option Int → Option Int → Sto → VK → Prop) : V → Option Int → Option Int → Hp → L2.VK → Prop := fun x lo hi H Q => ∃ m S dx R, RepS K H m S ∧ Rep K H m dx x ∧ r dx lo hi S R ∧ Kont K m H R Q
/-- a def's promise -/
def spOf (K : PySem.W.Frag) (n : Nat) (sp : Spc) : L2.Sp := fun vs H Q _ => ∃ m S ds R, RepS K H m S ∧ Reps K H m ds vs ∧ ds.length = n ∧ sp ds S R ∧ Kont K m H R Q

theorem Kont.ext {K : PySem.W.Frag} {m m1 : List Addr} {H H1 : Hp} {R : D → Sto → Prop} {Q : V → Hp → Prop} (k : Kont K m H R Q) (e : Ext m H m1 H1) : Kont K m1 H1 R Q :=
  fun v d H' S' m' e' s r q => k v d H' S' m' (e.trans e') s r q

section
variable {X : Cx} {e : Expr} {es : List Expr} {a b c : Expr} {pos : Pos}
theorem peI {t t' : TE} (h : PE X e t) (hi : ∀ σ H Q, t' σ H Q → t σ H Q) : PE X e t' := ⟨fun pins s σ H Q I q => h.run pins s σ H Q I (hi _ _ _ q)⟩
theorem ptI {t t' : TT} (h : PT X e t) (hi : ∀ σ H Q, t' σ H Q → t σ H Q) : PT X e t' := ⟨fun pins s σ H Q I q => h.run pins s σ H Q I (hi _ _ _ q)⟩
theorem pwI {t t' : TT} (h : PW X e t) (hi : ∀ σ H Q, t' σ H Q → t σ H Q) : PW X e t' := ⟨fun wh pins s σ H Q I q => h.run wh pins s σ H Q I (hi _ _ _ q)⟩
theorem paI {t t' : TA} (h : PA X es t) (hi : ∀ σ H Q, t' σ H Q → t σ H Q) : PA X es t' := ⟨fun p pins s σ H Q I q => h.run p pins s σ H Q I (hi _ _ _ q)⟩
theorem psI {st : Stmt} {t t' : TS} (h : PS X st t) (hi : ∀ D σ H, t' D σ H → t D σ H) : PS X st t' := ⟨fun pins s σ H D I q => h.run pins s σ H D I (hi _ _ _ q)⟩
theorem pssI {st : List Stmt} {t t' : TS} (h : PSs X st t) (hi : ∀ D σ H, t' D σ H → t D σ H) : PSs X st t' := ⟨fun pins s σ H D I q => h.run pins s σ H D I (hi _ _ _ q)⟩
theorem pgI {tg : Expr} {t t' : TG} (h : PG X tg t) (hi : ∀ v σ H Q, t' v σ H Q → t v σ H Q) : PG X tg t' := ⟨fun pins s σ H v u Q I r q => h.run pins s σ H v u Q I r (hi _ _ _ _ q)⟩
theorem piI {tg it : Expr} {t t' : TI} (h : PI X tg it t) (hi : ∀ σ H Q, t' σ H Q → t σ H Q) : PI X tg it t' := ⟨fun pins s σ H R I q => h.run pins s σ H R I (hi _ _ _ q)⟩

variable {wa wb wc : WE}
/-- the first part's end, the second part begun -/
theorem and2 {K : PySem.W.Frag} {σ : St} {H : Hp} {ρ : Env} {S : Sto} {m : List Addr} {R : D → D → Sto → Prop} {T : V → V → Hp → Prop} (hE : RepE K H m ρ σ) (hS : RepS K H m S)
    (h : wa ρ S fun x S1 => wb ρ S1 fun y S2 => R x y S2)
    (k : ∀ m2 H2 S2 v u x y, Ext m H m2 H2 → RepS K H2 m2 S2 → Rep K H2 m2 x v → Rep K H2 m2 y u → R x y S2 → T v u H2) :
    teOf K wa σ H fun v H1 => teOf K wb σ H1 fun u H2 => T v u H2 :=
  ⟨ρ, S, m, _, hE, hS, h, fun v x H1 S1 m1 e1 s1 r1 q1 => ⟨ρ, S1, m1, _, hE.ext e1, s1, q1, fun u y H2 S2 m2 e2 s2 r2 q2 => k m2 H2 S2 v u x y (e1.trans e2) s2 (Rep.ext e2 _ _ r1) r2 q2⟩⟩

/-! ### names, constants -/
theorem d_var (i : Nat) {x : Str} (hN : X.N[i]? = some x := by rfl) (hv : L2.Vis X.env.scope x := by first | exact Or.inl rfl | exact Or.inr (Or.inl rfl) | exact Or.inr (Or.inr rfl)) (hd : (x == ("__debug__" : Str)) = false := by decide)
    (hcd : (x == ("__classdict__" : Str)) = false := by decide) : PE X (.Name x pos) (teOf X.K (wVar i)) := peI (L2.pe_var (i := i) hN hv hd hcd) fun σ H Q ⟨ρ, S, m, R, hE, hS, h, k⟩ => by
  unfold wVar at h
  cases e : lk ρ i with
  | none => rw [e] at h; exact h.elim
  | some d =>
    rw [e] at h
    obtain ⟨v, h1, h2⟩ := hE.get i d e
    exact ⟨v, h1, k v d H S m (Ext.refl _ _) hS h2 h⟩
theorem d_int {i j} : PE X (.Constant (.int i) j pos) (teOf X.K (wC (.int i))) := peI L2.pe_int fun σ H Q ⟨ρ, S, m, R, hE, hS, h, k⟩ => k _ (.int i) H S m (Ext.refl _ _) hS rfl h
theorem d_bl {b j} : PE X (.Constant (.bool b) j pos) (teOf X.K (wC (.bl b))) := peI L2.pe_bl fun σ H Q ⟨ρ, S, m, R, hE, hS, h, k⟩ => k _ (.bl b) H S m (Ext.refl _ _) hS rfl h
theorem d_non {j} : PE X (.Constant .none j pos) (teOf X.K (wC .non)) := peI L2.pe_non fun σ H Q ⟨ρ, S, m, R, hE, hS, h, k⟩ => k _ .non H S m (Ext.refl _ _) hS rfl h
theorem d_str {x j} : PE X (.Constant (.str x) j pos) (teOf X.K (wC (.str x))) := peI L2.pe_str fun σ H Q ⟨ρ, S, m, R, hE, hS, h, k⟩ => k _ (.str x) H S m (Ext.refl _ _) hS rfl h
/-- a built-in type as a value -/
theorem d_ty {x : Str} {n : String} (hg : L2.Gl X x) (hm : X.mg x = none) (hv : bootBuiltins x = some (.type n)) (hn : x ≠ "__name__" := by decide) (hd : (x == ("__debug__" : Str)) = false := by decide) : PE X (.Name x pos) (teOf X.K (wC (.ty n))) :=
  peI (L2.pe_bltn (v := .ty n) hg hm hv rfl hn hd) fun σ H Q ⟨ρ, S, m, R, hE, hS, h, k⟩ => k _ (.ty n) H S m (Ext.refl _ _) hS rfl h
/-- a constant of the module -/
theorem d_glob {x : Str} {v : V} {u : Value} {d : D} (hg : L2.Gl X x) (hm : X.mg x = some u) (r : RelV v u) (hr : ∀ H m, Rep X.K H m d v) (hd : (x == ("__debug__" : Str)) = false := by decide) : PE X (.Name x pos) (teOf X.K (wC d)) :=
  peI (L2.pe_glob hg hm r hd) fun σ H Q ⟨ρ, S, m, R, hE, hS, h, k⟩ => k _ _ H S m (Ext.refl _ _) hS (hr H m) h

/-! ### operators -/
theorem d_op {op : Operator} {r : R2} (ho : OpR X (binaryOp op) (r2Of X.K r)) (ha : PE X a (teOf X.K wa)) (hb : PE X b (teOf X.K wb)) : PE X (.BinOp a op b pos) (teOf X.K (wOp r wa wb)) :=
  peI (L2.pe_op ho ha hb) fun σ H Q ⟨ρ, S, m, R, hE, hS, h, k⟩ => and2 hE hS h fun m2 H2 S2 v u x y e s rx ry q => ⟨m2, S2, x, y, R, s, rx, ry, q, k.ext e⟩
theorem d_un {op : UnaryOp} {r : R1} (ho : UnR X (unaryOp op) (r1Of X.K r)) (ha : PE X a (teOf X.K wa)) : PE X (.UnaryOp op a pos) (teOf X.K (wUn r wa)) :=
  peI (L2.pe_un ho ha) fun σ H Q ⟨ρ, S, m, R, hE, hS, h, k⟩ => ⟨ρ, S, m, _, hE, hS, h, fun v x H1 S1 m1 e1 s1 r1 q1 => ⟨m1, S1, x, R, s1, r1, q1, k.ext e1⟩⟩
theorem d_cmp {op : CmpOp} {r : R2} (ho : OpR X (compareOp op) (r2Of X.K r)) (ha : PE X a (teOf X.K wa)) (hb : PE X b (teOf X.K wb)) (hm : behindInMarks op b = false := by first | exact L2.nobehind _ (by decide) (by decide) | rfl) : PE X (.Compare a [op] [b] pos) (teOf X.K (wOp r wa wb)) :=
  peI (L2.pe_cmpR ho ha hb hm) fun σ H Q ⟨ρ, S, m, R, hE, hS, h, k⟩ => and2 hE hS h fun m2 H2 S2 v u x y e s rx ry q => ⟨m2, S2, x, y, R, s, rx, ry, q, k.ext e⟩
theorem d_ix {r : R2} (ho : IxR X (r2Of X.K r)) (ha : PE X a (teOf X.K wa)) (hb : PE X b (teOf X.K wb)) (hs : L2.PlainIx b := by intro _ _; rfl) : PE X (.Subscript a b pos) (teOf X.K (wOp r wa wb)) :=
  peI (L2.pe_ix ho ha hb hs) fun σ H Q ⟨ρ, S, m, R, hE, hS, h, k⟩ => and2 hE hS h fun m2 H2 S2 v u x y e s rx ry q => ⟨m2, S2, x, y, R, s, rx, ry, q, k.ext e⟩
theorem d_chain {op op' : CmpOp} {r r' : R2} (ho : OpR X (compareOp op) (r2Of X.K r)) (ho' : OpR X (compareOp op') (r2Of X.K r')) (ha : PE X a (teOf X.K wa)) (hb : PE X b (teOf X.K wb)) (hc : PE X c (teOf X.K wc)) (hm : lastMarks [op, op'] [b, c] = false := by rfl) :
    PE X (.Compare a [op, op'] [b, c] pos) (teOf X.K (wChain r r' wa wb wc)) :=
  peI (L2.pe_chain ho ho' ha hb hc (hm := hm)) fun σ H Q ⟨ρ, S, m, R, hE, hS, h, k⟩ => and2 hE hS h fun m2 H2 S2 v u x y e s rx ry q => ⟨m2, S2, x, y, _, s, rx, ry, q, fun z d H3 S3 m3 e3 s3 r3 q3 => by
    cases d with
    | bl kk =>
      refine ⟨kk, r3, ?_⟩
      have q3 : if kk = true then wc ρ S3 fun u S4 => r' y u S4 R else R (.bl false) S3 := q3
      by_cases hk : kk = true
      · rw [if_pos hk] at q3 ⊢
        exact ⟨ρ, S3, m3, _, hE.ext (e.trans e3), s3, q3, fun w d4 H4 S4 m4 e4 s4 r4 q4 => ⟨m4, S4, y, d4, R, s4, Rep.ext (e3.trans e4) _ _ ry, r4, q4, k.ext (e.trans (e3.trans e4))⟩⟩
      · rw [if_neg hk] at q3 ⊢
        exact k _ (.bl false) H3 S3 m3 (e.trans e3) s3 rfl q3
    | _ => exact (show False from q3).elim⟩

/-! ### tests -/
theorem dt_val (h : PE X e (teOf X.K wa)) (he : ∀ whole, isTrue e X.env whole = (do let v ← whole; standAt e.pos; holding [v] (truthy v)) := by intro _; rfl) : PT X e (ttOf X.K (wtVal wa)) :=
  ptI (L2.pt_val h he) fun σ H Q ⟨ρ, S, m, R, hE, hS, h, k⟩ => ⟨ρ, S, m, _, hE, hS, h, fun v d H' S' m' e s r q => by
    cases d with
    | bl b => exact ⟨b, r, k b H' S' m' e s q⟩
    | _ => exact (show False from q).elim⟩
theorem dt_cmp {op : CmpOp} {r : R2} (ho : OpR X (compareOp op) (r2Of X.K r)) (ha : PE X a (teOf X.K wa)) (hb : PE X b (teOf X.K wb)) (hm : behindInMarks op b = false := by first | exact L2.nobehind _ (by decide) (by decide) | rfl) : PT X (.Compare a [op] [b] pos) (ttOf X.K (wtVal (wOp r wa wb))) :=
  ptI (L2.pt_cmpR ho ha hb hm) fun σ H Q ⟨ρ, S, m, R, hE, hS, h, k⟩ => and2 hE hS h fun m2 H2 S2 v u x y e s rx ry q => ⟨m2, S2, x, y, _, s, rx, ry, q, fun z d H3 S3 m3 e3 s3 r3 q3 => by
    cases d with
    | bl kk => exact ⟨kk, r3, k kk H3 S3 m3 (e.trans e3) s3 q3⟩
    | _ => exact (show False from q3).elim⟩
theorem dt_chain {op op' : CmpOp} {r r' : R2} (ho : OpR X (compareOp op) (r2Of X.K r)) (ho' : OpR X (compareOp op') (r2Of X.K r')) (ha : PE X a (teOf X.K wa)) (hb : PE X b (teOf X.K wb)) (hc : PE X c (teOf X.K wc)) (hm : lastMarks [op, op'] [b, c] = false := by rfl) :
    PT X (.Compare a [op, op'] [b, c] pos) (ttOf X.K (wtVal (wChain r r' wa wb wc))) :=
  ptI (L2.pt_chain ho ho' ha hb hc (hm := hm)) fun σ H Q ⟨ρ, S, m, R, hE, hS, h, k⟩ => and2 hE hS h fun m2 H2 S2 v u x y e s rx ry q => ⟨m2, S2, x, y, _, s, rx, ry, q, fun z d H3 S3 m3 e3 s3 r3 q3 => by
    cases d with
    | bl kk =>
      refine ⟨kk, r3, ?_⟩
      have q3 : if kk = true then wc ρ S3 fun u S4 => r' y u S4 _ else _ := q3
      by_cases hk : kk = true
      · rw [if_pos hk] at q3 ⊢
        exact ⟨ρ, S3, m3, _, hE.ext (e.trans e3), s3, q3, fun w d4 H4 S4 m4 e4 s4 r4 q4 => ⟨m4, S4, y, d4, _, s4, Rep.ext (e3.trans e4) _ _ ry, r4, q4, fun v5 d5 H5 S5 m5 e5 s5 r5 q5 => by
          cases d5 with
          | bl k5 => exact ⟨k5, r5, k k5 H5 S5 m5 (e.trans (e3.trans (e4.trans e5))) s5 q5⟩
          | _ => exact (show False from q5).elim⟩⟩
      · rw [if_neg hk] at q3 ⊢
        exact ⟨false, rfl, k false H3 S3 m3 (e.trans e3) s3 q3⟩
    | _ => exact (show False from q3).elim⟩
variable {ta tb : WT} {rest : List Expr}
theorem dt_not (ha : PT X a (ttOf X.K ta)) : PT X (.UnaryOp .Not a pos) (ttOf X.K (wtNot ta)) :=
  ptI (L2.pt_not ha) fun σ H Q ⟨ρ, S, m, R, hE, hS, h, k⟩ => ⟨ρ, S, m, _, hE, hS, h, fun b H' S' m' e s q => k _ H' S' m' e s q⟩
theorem dw_and1 (ha : PT X a (ttOf X.K ta)) : PW X (.BoolOp .And [a] pos) (ttOf X.K ta) := L2.pw_and1 ha
theorem dw_or1 (ha : PT X a (ttOf X.K ta)) : PW X (.BoolOp .Or [a] pos) (ttOf X.K ta) := L2.pw_or1 ha
theorem dw_and (ha : PT X a (ttOf X.K ta)) (hb : PW X (.BoolOp .And (b :: rest) pos) (ttOf X.K tb)) : PW X (.BoolOp .And (a :: b :: rest) pos) (ttOf X.K (wtAnd ta tb)) :=
  pwI (L2.pw_and ha hb) fun σ H Q ⟨ρ, S, m, R, hE, hS, h, k⟩ => ⟨ρ, S, m, _, hE, hS, h, fun b H' S' m' e s q => by
    have q : if b = true then tb ρ S' R else R false S' := q
    show if b = true then ttOf X.K tb σ H' Q else Q false H'
    by_cases hb : b = true
    · rw [if_pos hb] at q ⊢
      exact ⟨ρ, S', m', R, hE.ext e, s, q, fun b2 H2 S2 m2 e2 s2 q2 => k b2 H2 S2 m2 (e.trans e2) s2 q2⟩
    · rw [if_neg hb] at q ⊢
      exact k _ H' S' m' e s q⟩
theorem dw_or (ha : PT X a (ttOf X.K ta)) (hb : PW X (.BoolOp .Or (b :: rest) pos) (ttOf X.K tb)) : PW X (.BoolOp .Or (a :: b :: rest) pos) (ttOf X.K (wtOr ta tb)) :=
  pwI (L2.pw_or ha hb) fun σ H Q ⟨ρ, S, m, R, hE, hS, h, k⟩ => ⟨ρ, S, m, _, hE, hS, h, fun b H' S' m' e s q => by
    have q : if b = true then R true S' else tb ρ S' R := q
    show if b = true then Q true H' else ttOf X.K tb σ H' Q
    by_cases hb : b = true
    · rw [if_pos hb] at q ⊢
      exact k _ H' S' m' e s q
    · rw [if_neg hb] at q ⊢
      exact ⟨ρ, S', m', R, hE.ext e, s, q, fun b2 H2 S2 m2 e2 s2 q2 => k b2 H2 S2 m2 (e.trans e2) s2 q2⟩⟩
/-! as values -/
theorem d_one {op} (h : PE X a (teOf X.K wa)) : PE X (.BoolOp op [a] pos) (teOf X.K wa) := L2.pe_one h
theorem d_and (ha : PE X a (teOf X.K wa)) (hb : PE X (.BoolOp .And (b :: rest) pos) (teOf X.K wb)) : PE X (.BoolOp .And (a :: b :: rest) pos) (teOf X.K (wAnd wa wb)) :=
  peI (L2.pe_and ha hb) fun σ H Q ⟨ρ, S, m, R, hE, hS, h, k⟩ => ⟨ρ, S, m, _, hE, hS, h, fun v d H' S' m' e s r q => by
    cases d with
    | bl c =>
      refine ⟨c, r, ?_⟩
      have q : if c = true then wb ρ S' R else R (.bl false) S' := q
      by_cases hb : c = true
      · rw [if_pos hb] at q ⊢
        exact ⟨ρ, S', m', R, hE.ext e, s, q, k.ext e⟩
      · rw [if_neg hb] at q ⊢
        exact k _ (.bl false) H' S' m' e s rfl q
    | _ => exact (show False from q).elim⟩
theorem d_or (ha : PE X a (teOf X.K wa)) (hb : PE X (.BoolOp .Or (b :: rest) pos) (teOf X.K wb)) : PE X (.BoolOp .Or (a :: b :: rest) pos) (teOf X.K (wOr wa wb)) :=
  peI (L2.pe_or ha hb) fun σ H Q ⟨ρ, S, m, R, hE, hS, h, k⟩ => ⟨ρ, S, m, _, hE, hS, h, fun v d H' S' m' e s r q => by
    cases d with
    | bl c =>
      refine ⟨c, r, ?_⟩
      have q : if c = true then R (.bl true) S' else wb ρ S' R := q
      by_cases hb : c = true
      · rw [if_pos hb] at q ⊢
        exact k _ (.bl true) H' S' m' e s rfl q
      · rw [if_neg hb] at q ⊢
        exact ⟨ρ, S', m', R, hE.ext e, s, q, k.ext e⟩
    | _ => exact (show False from q).elim⟩
theorem d_not (ha : PE X a (teOf X.K wa)) : PE X (.UnaryOp .Not a pos) (teOf X.K (wNot wa)) :=
  peI (L2.pe_not ha) fun σ H Q ⟨ρ, S, m, R, hE, hS, h, k⟩ => ⟨ρ, S, m, _, hE, hS, h, fun v d H' S' m' e s r q => by
    cases d with
    | bl c => exact ⟨c, r, k _ (.bl (!c)) H' S' m' e s rfl q⟩
    | _ => exact (show False from q).elim⟩
theorem d_if (hc : PT X c (ttOf X.K ta)) (ha : PE X a (teOf X.K wa)) (hb : PE X b (teOf X.K wb)) : PE X (.IfExp c a b pos) (teOf X.K (wIf ta wa wb)) :=
  peI (L2.pe_ifExp hc ha hb) fun σ H Q ⟨ρ, S, m, R, hE, hS, h, k⟩ => ⟨ρ, S, m, _, hE, hS, h, fun c H' S' m' e s q => by
    have q : if c = true then wa ρ S' R else wb ρ S' R := q
    show if c = true then teOf X.K wa σ H' Q else teOf X.K wb σ H' Q
    by_cases hb : c = true
    · rw [if_pos hb] at q ⊢
      exact ⟨ρ, S', m', R, hE.ext e, s, q, k.ext e⟩
    · rw [if_neg hb] at q ⊢
      exact ⟨ρ, S', m', R, hE.ext e, s, q, k.ext e⟩⟩

/-! ### displays, calls -/
variable {va : WA}
theorem da_nil : PA X [] (taOf X.K wNil) := paI L2.pa_nil fun σ H Q ⟨ρ, S, m, R, hE, hS, h, k⟩ => k [] [] H S m (Ext.refl _ _) hS rfl h
theorem da_cons (ha : PE X e (teOf X.K wa)) (hr : PA X es (taOf X.K va)) (hs : starEach (e :: es) X.env = (false, eval e X.env) :: starEach es X.env := by rfl) : PA X (e :: es) (taOf X.K (wCons wa va)) :=
  paI (L2.pa_cons ha hr hs) fun σ H Q ⟨ρ, S, m, R, hE, hS, h, k⟩ => ⟨ρ, S, m, _, hE, hS, h, fun v x H1 S1 m1 e1 s1 r1 q1 => ⟨ρ, S1, m1, _, hE.ext e1, s1, q1, fun vs xs H2 S2 m2 e2 s2 r2 q2 =>
    k (v :: vs) (x :: xs) H2 S2 m2 (e1.trans e2) s2 ⟨_, _, rfl, Rep.ext e2 _ _ r1, r2⟩ q2⟩⟩
theorem d_tup {x1} (h : PA X es (taOf X.K va)) : PE X (.Tuple es x1 pos) (teOf X.K (wTup va)) :=
  peI (L2.pe_tup h) fun σ H Q ⟨ρ, S, m, R, hE, hS, h, k⟩ => ⟨ρ, S, m, _, hE, hS, h, fun vs ds H1 S1 m1 e1 s1 r1 ⟨z, q1⟩ => ⟨by rw [r1.len]; exact z, fun p hp =>
    k _ (.tup ds) _ S1 m1 (e1.trans (Ext.fresh hp _)) (s1.fresh hp _) ⟨p, vs, rfl, L2.SqT.of upd_same, Reps.ext (Ext.fresh hp _) _ _ r1⟩ q1⟩⟩
theorem d_lst (h : PA X es (taOf X.K va)) : PE X (.List es pos) (teOf X.K (wLst va)) :=
  peI (L2.pe_lst h) fun σ H Q ⟨ρ, S, m, R, hE, hS, h, k⟩ => ⟨ρ, S, m, _, hE, hS, h, fun vs ds H1 S1 m1 e1 s1 r1 ⟨z, q1⟩ => ⟨by rw [r1.len]; exact z, fun p hp =>
    k _ (.ref S1.length) _ _ (m1 ++ [p]) (e1.trans (Ext.pushed hp _)) (s1.push hp r1) ⟨p, by rw [← s1.len]; simp, rfl⟩ q1⟩⟩
theorem d_call {n kk : Nat} {f : Addr} {fd : FuncData} {ps : List Str} {sp : Spc} {x : Str} {p : Pos} (F : L2.FnOk X.prog X.w X.K X.mg X.base L2.CX0 kk f fd ps (spOf X.K n sp)) (hr : L2.Room kk X.A) (hg : L2.Gl X x) (hm : X.mg x = some (.ref f))
    (hk : PySem.W.keepIn X.K (.ref f) = true) (hb : L2.Binds X.K fd ps []) (ha : PA X (e :: es) (taOf X.K va)) (hd : (x == ("__debug__" : Str)) = false := by decide)
    (he : starEach (e :: es) X.env = (false, eval e X.env) :: starEach es X.env := by rfl) (hpl : (backTo pos (starEach es X.env)).any (·.1) = false := by rfl) :
    PE X (.Call (.Name x p) (e :: es) [] pos) (teOf X.K (wCall n sp va)) :=
  peI (L2.pe_call (dvs := []) (ds := []) (E := L2.E0) F hr hg hm hk hb .nil L2.pass0 ha hd he hpl) fun σ H Q ⟨ρ, S, m, R, hE, hS, h, k⟩ => ⟨ρ, S, m, _, hE, hS, h, fun vs ds H1 S1 m1 e1 s1 r1 ⟨z, q1⟩ =>
    ⟨m1, S1, ds, R, s1, by rw [List.append_nil]; exact r1, z, q1, k.ext e1⟩⟩
theorem d_callB {id : String} {r : RL} {x : Str} {p : Pos} (hc : CallR X (.builtin id) (rlOf X.K r)) (hg : L2.Gl X x) (hm : X.mg x = none) (hv : bootBuiltins x = some (.builtin id)) (ha : PA X (e :: es) (taOf X.K va)) (hn : x ≠ "__name__" := by decide) (hdb : (x == ("__debug__" : Str)) = false := by decide)
    (he : starEach (e :: es) X.env = (false, eval e X.env) :: starEach es X.env := by rfl) (hpl : (backTo pos (starEach es X.env)).any (·.1) = false := by rfl) : PE X (.Call (.Name x p) (e :: es) [] pos) (teOf X.K (wB r va)) :=
  peI (L2.pe_callB hc hg hm hv ha hn hdb he hpl) fun σ H Q ⟨ρ, S, m, R, hE, hS, h, k⟩ => ⟨ρ, S, m, _, hE, hS, h, fun vs ds H1 S1 m1 e1 s1 r1 q1 => ⟨m1, S1, ds, R, s1, r1, q1, k.ext e1⟩⟩
theorem d_callT {id : String} {r : RL} {x : Str} {p : Pos} (hc : CallR X (.type id) (rlOf X.K r)) (hg : L2.Gl X x) (hm : X.mg x = none) (hv : bootBuiltins x = some (.type id)) (ha : PA X (e :: es) (taOf X.K va)) (hn : x ≠ "__name__" := by decide) (hdb : (x == ("__debug__" : Str)) = false := by decide)
    (he : starEach (e :: es) X.env = (false, eval e X.env) :: starEach es X.env := by rfl) (hpl : (backTo pos (starEach es X.env)).any (·.1) = false := by rfl) : PE X (.Call (.Name x p) (e :: es) [] pos) (teOf X.K (wB r va)) :=
  peI (L2.pe_callTy hc hg hm hv ha hn hdb he hpl) fun σ H Q ⟨ρ, S, m, R, hE, hS, h, k⟩ => ⟨ρ, S, m, _, hE, hS, h, fun vs ds H1 S1 m1 e1 s1 r1 q1 => ⟨m1, S1, ds, R, s1, r1, q1, k.ext e1⟩⟩
/-- a name of the module that holds a built-in function (math.gcd) -/
theorem d_callF {id : String} {r : RL} {x : Str} {p : Pos} (hc : CallR X (.builtin id) (rlOf X.K r)) (hg : L2.Gl X x) (hm : X.mg x = some (.builtin id)) (ha : PA X (e :: es) (taOf X.K va)) (hdb : (x == ("__debug__" : Str)) = false := by decide)
    (he : starEach (e :: es) X.env = (false, eval e X.env) :: starEach es X.env := by rfl) (hpl : (backTo pos (starEach es X.env)).any (·.1) = false := by rfl) : PE X (.Call (.Name x p) (e :: es) [] pos) (teOf X.K (wB r va)) :=
  peI (L2.pe_callBfun hc hg hm ha hdb he hpl) fun σ H Q ⟨ρ, S, m, R, hE, hS, h, k⟩ => ⟨ρ, S, m, _, hE, hS, h, fun vs ds H1 S1 m1 e1 s1 r1 q1 => ⟨m1, S1, ds, R, s1, r1, q1, k.ext e1⟩⟩
theorem isL_ty {K : PySem.W.Frag} {H : Hp} {m : List Addr} {S : Sto} {x : D} {v : V} (s : RepS K H m S) (r : Rep K H m x v) (h : isL x S) : L2.tyV K "list" v H := by
  cases x with
  | ref n =>
    obtain ⟨xs, h⟩ := h
    obtain ⟨a, vs, h1, h2, h3⟩ := s.lst h
    obtain ⟨b, g1, rfl⟩ := r
    rw [h1] at g1
    cases g1
    exact .inl ⟨rfl, vs, L2.SqL.of h2⟩
  | _ => exact (show False from h).elim
variable {o : Expr} {wo : WE}
theorem d_m {name : Str} {id : String} {r : RM} {apos cpos : Pos} (slot : Slot "list" name id) (hty : typeOf (.builtin id) = pure (.type "method_descriptor")) (hm : MtR X id (rmOf X.K r)) (ho : PE X o (teOf X.K wo)) (ha : PA X (e :: es) (taOf X.K va))
    (hbase : attributeBase o name X.env (eval o X.env) = eval o X.env := by rfl)
    (hfew : ((backTo cpos (starEach (e :: es) X.env)).all (fun x => !x.1) && (backToKw cpos (keywordEach [] X.env)).all (fun x => x.1.isSome)
      && decide ((e :: es).length + ([] : List Keyword).length + (if ([] : List Keyword).isEmpty then 0 else 1) < 30)) = true := by rfl)
    (hline : (apos.endLine == cpos.line) = true := by rfl) (hs : starEach (e :: es) X.env = (false, eval e X.env) :: starEach es X.env := by rfl) (hplain : (backTo cpos (starEach es X.env)).any (·.1) = false := by rfl) :
    PE X (.Call (.Attribute o name apos) (e :: es) [] cpos) (teOf X.K (wM r wo va)) :=
  peI (L2.pe_bm PySem.F.plainAttrs_list slot hty hm ho ha hbase hfew hline hs hplain) fun σ H Q ⟨ρ, S, m, R, hE, hS, h, k⟩ => ⟨ρ, S, m, _, hE, hS, h, fun v x H1 S1 m1 e1 s1 r1 ⟨z, q1⟩ =>
    ⟨isL_ty s1 r1 z, ρ, S1, m1, _, hE.ext e1, s1, q1, fun vs ds H2 S2 m2 e2 s2 r2 q2 => ⟨m2, S2, x, ds, R, s2, Rep.ext e2 _ _ r1, r2, q2, k.ext (e1.trans e2)⟩⟩⟩
theorem d_m0 {name : Str} {id : String} {r : RM} {apos cpos : Pos} (slot : Slot "list" name id) (hty : typeOf (.builtin id) = pure (.type "method_descriptor")) (hm : MtR X id (rmOf X.K r)) (ho : PE X o (teOf X.K wo))
    (hbase : attributeBase o name X.env (eval o X.env) = eval o X.env := by rfl) (hline : (apos.endLine == cpos.line) = true := by rfl) :
    PE X (.Call (.Attribute o name apos) [] [] cpos) (teOf X.K (wM0 r wo)) :=
  peI (L2.pe_bm0 PySem.F.plainAttrs_list slot hty hm ho hbase hline) fun σ H Q ⟨ρ, S, m, R, hE, hS, h, k⟩ => ⟨ρ, S, m, _, hE, hS, h, fun v x H1 S1 m1 e1 s1 r1 ⟨z, q1⟩ =>
    ⟨isL_ty s1 r1 z, m1, S1, x, [], R, s1, r1, rfl, q1, k.ext e1⟩⟩
/-! slices -/
theorem dp_no : PO X none (toOf X.K wPNo) := ⟨fun pins s σ H Q I ⟨ρ, S, m, R, hE, hS, h, k⟩ => L2.po_none.run pins s σ H Q I (k none H S m (Ext.refl _ _) hS h)⟩
theorem dp_at (h : PE X e (teOf X.K wa)) : PO X (some e) (toOf X.K (wPAt wa)) := ⟨fun pins s σ H Q I ⟨ρ, S, m, R, hE, hS, hw, k⟩ => (L2.po_some h).run pins s σ H Q I ⟨ρ, S, m, _, hE, hS, hw, fun v d H1 S1 m1 e1 s1 r1 q1 => by
    cases d with
    | int i => exact ⟨i, r1, k _ H1 S1 m1 e1 s1 q1⟩
    | _ => exact (show False from q1).elim⟩⟩
theorem d_sl {r : D → Option Int → Option Int → Sto → VK → Prop} {lo hi : Option Expr} {wl wh : WP} {p2 : Pos} (hr : SlR X (rsOf X.K r)) (ho : PE X o (teOf X.K wo)) (hl : PO X lo (toOf X.K wl)) (hh : PO X hi (toOf X.K wh)) :
    PE X (.Subscript o (.Slice lo hi none p2) pos) (teOf X.K (wSl r wo wl wh)) :=
  peI (L2.pe_slice hr ho hl hh) fun σ H Q ⟨ρ, S, m, R, hE, hS, h, k⟩ => ⟨ρ, S, m, _, hE, hS, h, fun v x H1 S1 m1 e1 s1 r1 q1 => ⟨ρ, S1, m1, _, hE.ext e1, s1, q1, fun i H2 S2 m2 e2 s2 q2 => ⟨ρ, S2, m2, _, hE.ext (e1.trans e2), s2, q2, fun j H3 S3 m3 e3 s3 q3 =>
    ⟨m3, S3, x, R, s3, Rep.ext (e2.trans e3) _ _ r1, q3, k.ext (e1.trans (e2.trans e3))⟩⟩⟩⟩
end
end DL
set_option Elab.async false
set_option linter.all false
set_option maxRecDepth 100000
set_option maxHeartbeats 4000000
/-! DL3: what is walked, targets, statements, loops, comprehensions, defs. -/
namespace DL
open PySem PySem.Spec
open L2 (V Hp HO St TE TT TA TS TG TI TO PE PT PW PA PS PSs PG PI PO Cx Inv RelV Vals SqL SqT Rd upd upd_same upd_ne ne_of ne_of_none OpR UnR CallR MtR IxR SlR It thn)

/-! ### what is walked -/
theorem yields_list {K : PySem.W.Frag} {m : List Addr} {H : Hp} {S : Sto} {n : Nat} {a : Addr} {xs : List D} (ha : m[n]? = some a) : Yields K (L2.Itl K a) xs (fun S' => S'[n]? = some (.lst xs)) m H := by
  intro m1 H1 S1 e s g
  obtain ⟨b, vs, h1, h2, h3⟩ := s.lst g
  have hb := e.pre n a ha
  rw [h1] at hb
  cases hb
  refine ⟨fun i d hd => ?_, fun i hi => ⟨vs, SqL.of h2, by rw [h3.len]; exact hi⟩⟩
  obtain ⟨v, g1, g2⟩ := h3.get i d hd
  exact ⟨⟨vs, v, SqL.of h2, g1⟩, fun x H' ⟨q1, q2⟩ => by
    subst q1
    have ex := q2 vs (SqL.of h2)
    rw [g1] at ex
    cases ex
    exact ⟨m1, Ext.refl _ _, s, g2⟩⟩
theorem yields_tup {K : PySem.W.Frag} {m : List Addr} {H : Hp} {a : Addr} {xs : List D} {vs : List V} (hT : SqT K H a vs) (r : Reps K H m xs vs) : Yields K (L2.Itt K a) xs (fun _ => True) m H := by
  intro m1 H1 S1 e s g
  have h3 := Reps.ext e _ _ r
  refine ⟨fun i d hd => ?_, fun i hi => ⟨vs, e.sqT hT, by rw [h3.len]; exact hi⟩⟩
  obtain ⟨v, g1, g2⟩ := h3.get i d hd
  exact ⟨⟨vs, v, e.sqT hT, g1⟩, fun x H' ⟨q1, q2⟩ => by
    subst q1
    have ex := q2 vs (e.sqT hT)
    rw [g1] at ex
    cases ex
    exact ⟨m1, Ext.refl _ _, s, g2⟩⟩
theorem yields_rol {K : PySem.W.Frag} {m : List Addr} {H : Hp} {a : Addr} {xs : List D} {vs : List V} (hT : RoL K H a vs) (r : Reps K H m xs vs) : Yields K (L2.Itl K a) xs (fun _ => True) m H := by
  intro m1 H1 S1 e s g
  have h3 := Reps.ext e _ _ r
  refine ⟨fun i d hd => ?_, fun i hi => ⟨vs, (e.ro hT).seq, by rw [h3.len]; exact hi⟩⟩
  obtain ⟨v, g1, g2⟩ := h3.get i d hd
  exact ⟨⟨vs, v, (e.ro hT).seq, g1⟩, fun x H' ⟨q1, q2⟩ => by
    subst q1
    have ex := q2 vs (e.ro hT).seq
    rw [g1] at ex
    cases ex
    exact ⟨m1, Ext.refl _ _, s, g2⟩⟩
theorem rangeD_getM {lo hi : Int} {i : Nat} {d : D} (h : (rangeD lo hi)[i]? = some d) : i < (hi - lo).toNat ∧ d = .int (lo + i) := by
  unfold rangeD at h
  rw [List.getElem?_map] at h
  by_cases hi : i < (hi - lo).toNat
  · rw [List.getElem?_range hi] at h
    exact ⟨hi, (Option.some.inj h).symm⟩
  · rw [List.getElem?_eq_none (by simpa using hi)] at h
    cases h
theorem rangeD_lenM (lo hi : Int) : (rangeD lo hi).length = (hi - lo).toNat := by simp [rangeD]
theorem yields_rng {K : PySem.W.Frag} {m : List Addr} {H : Hp} {lo hi : Int} : Yields K (L2.Itr lo (hi - lo).toNat) (rangeD lo hi) (fun _ => True) m H := by
  intro m1 H1 S1 e s g
  refine ⟨fun i d hd => ?_, fun i hi => by rw [rangeD_lenM] at hi; exact hi⟩
  obtain ⟨h1, h2⟩ := rangeD_getM hd
  exact ⟨h1, fun x H' ⟨q1, q2⟩ => ⟨m1, by rw [q1]; exact Ext.refl _ _, by rw [q1]; exact s, by rw [q2, h2]; rfl⟩⟩
section
variable {X : Cx} {tg : Expr} {wa wb : WE} {a b : Expr} {p pos : Pos}
theorem di_it {l : Expr} (hl : PE X l (teOf X.K wa)) : PI X tg l (tiOf X.K (wIt wa)) := by
  refine ⟨fun pins s σ H R I ⟨ρ, S, m, Rd, hE, hS, hw, k⟩ => ?_⟩
  refine thn (hl.run pins s σ H (fun v H1 => ∃ d S1 m1, Ext m H m1 H1 ∧ RepS X.K H1 m1 S1 ∧ Rep X.K H1 m1 d v ∧ (match d with
    | .tup xs => Rd xs (fun _ => True) S1
    | .rol xs => Rd xs (fun _ => True) S1
    | .ref n => match S1[n]? with
      | some (.lst xs) => Rd xs (fun S' => S'[n]? = some (.lst xs)) S1
      | _ => False
    | _ => False)) I ⟨ρ, S, m, _, hE, hS, hw, fun v d H1 S1 m1 e1 s1 r1 q1 => ⟨d, S1, m1, e1, s1, r1, q1⟩⟩) fun u s1 ⟨v, H1, I1, ru, d, S1, m1, e1, hs, rd, q⟩ => ?_
  have new : ∀ b ∈ [s1.heap.objs.size], L2.FpOk X pins H1 b := fun b hb => by
    rw [List.mem_singleton.mp hb]
    exact I1.fpOk (Nat.le_refl _) (I1.hok.fresh (Nat.le_refl _))
  cases d with
  | tup xs =>
    obtain ⟨a, vs, rfl, hT, rs⟩ := rd
    cases ru
    obtain ⟨its, rv, pt, _⟩ := I1.tuple hT
    refine wpAny_pyIter_tuple (show s1.heap.IsTuple a its.toArray from pt) ?_
    exact ⟨_, [s1.heap.objs.size], _, _, H1, rfl, I1.kept (t' := s1.toks) fun _ _ e => Heap.get?_push_of_some _ e, L2.turn_tuple a _, ⟨_, Heap.get?_push_size _ rfl, rfl, rfl⟩, new, k _ _ _ _ _ _ e1 hs (yields_tup hT rs) q⟩
  | rol xs =>
    obtain ⟨a, vs, rfl, hT, rs⟩ := rd
    cases ru
    obtain ⟨its, rv, pl, _⟩ := I1.list hT.seq
    refine wpAny_pyIter_list pl.isList ?_
    exact ⟨_, [s1.heap.objs.size], _, _, H1, rfl, I1.kept (t' := s1.toks) fun _ _ e => Heap.get?_push_of_some _ e, L2.turn_list a _, ⟨_, Heap.get?_push_size _ rfl, rfl, rfl⟩, new, k _ _ _ _ _ _ e1 hs (yields_rol hT rs) q⟩
  | ref n =>
    obtain ⟨a, ha, rfl⟩ := rd
    have q : (match S1[n]? with
      | some (.lst xs) => Rd xs (fun S' => S'[n]? = some (.lst xs)) S1
      | _ => False) := q
    split at q
    · rename_i xs hx
      obtain ⟨b, vs, h1, h2, h3⟩ := hs.lst hx
      rw [ha] at h1
      cases h1
      cases ru
      obtain ⟨its, rv, pl, _⟩ := I1.list (SqL.of h2)
      refine wpAny_pyIter_list pl.isList ?_
      exact ⟨_, [s1.heap.objs.size], _, _, H1, rfl, I1.kept (t' := s1.toks) fun _ _ e => Heap.get?_push_of_some _ e, L2.turn_list a _, ⟨_, Heap.get?_push_size _ rfl, rfl, rfl⟩, new, k _ _ _ _ _ _ e1 hs (yields_list (S := S1) ha) q⟩
    · exact q.elim
  | _ => exact (show False from q).elim
theorem di_r1 (hg : L2.Gl X "range") (hm : X.mg "range" = none) (ha : PE X a (teOf X.K wa)) (h1 : starEach [a] X.env = [(false, eval a X.env)] := by rfl) : PI X tg (.Call (.Name "range" p) [a] [] pos) (tiOf X.K (wR1 wa)) :=
  piI (L2.pi_range1 hg hm (da_cons ha da_nil h1) h1) fun σ H Q ⟨ρ, S, m, R, hE, hS, h, k⟩ => ⟨ρ, S, m, fun ds S1 => match ds with
    | [.int j] => smallI j ∧ R (rangeD 0 j) (fun _ => True) S1
    | _ => False, hE, hS, (by
      show wa ρ S _
      refine cast (congrArg (wa ρ S) ?_) h
      funext x S1
      cases x <;> rfl), fun vs ds H' S' m' e s r q => by
      match ds, q, r with
      | [.int j], ⟨⟨q1, q2⟩, q3⟩, ⟨v, r', hv, rv, rn⟩ =>
        rw [show r' = [] from rn] at hv
        refine ⟨j, by rw [hv, show v = V.int j from rv], q1, q2, ?_⟩
        have y := yields_rng (K := X.K) (m := m') (H := H') (lo := 0) (hi := j)
        rw [show j - 0 = j by omega] at y
        exact k _ _ _ _ _ _ e s y q3⟩
theorem di_r2 (hg : L2.Gl X "range") (hm : X.mg "range" = none) (ha : PE X a (teOf X.K wa)) (hb : PE X b (teOf X.K wb)) (h1 : starEach [a, b] X.env = [(false, eval a X.env), (false, eval b X.env)] := by rfl) (h2 : starEach [b] X.env = [(false, eval b X.env)] := by rfl) : PI X tg (.Call (.Name "range" p) [a, b] [] pos) (tiOf X.K (wR2 wa wb)) :=
  piI (L2.pi_range2 hg hm (da_cons ha (da_cons hb da_nil h2) (by rw [h1, h2])) h1 h2) fun σ H Q ⟨ρ, S, m, R, hE, hS, h, k⟩ => ⟨ρ, S, m, fun ds S1 => match ds with
    | [.int i, .int j] => smallI i ∧ smallI j ∧ R (rangeD i j) (fun _ => True) S1
    | _ => False, hE, hS, (by
      show wa ρ S _
      refine cast (congrArg (wa ρ S) ?_) h
      funext x S1
      show wb ρ S1 _ = wb ρ S1 _
      refine congrArg (wb ρ S1) ?_
      funext y S2
      cases x <;> cases y <;> rfl), fun vs ds H' S' m' e s r q => by
      match ds, q, r with
      | [.int i, .int j], ⟨⟨q1, q2⟩, ⟨q3, q4⟩, q5⟩, ⟨v, r', hv, rv, ⟨v2, r2, hv2, rv2, rn⟩⟩ =>
        rw [show r2 = [] from rn] at hv2
        rw [hv2] at hv
        exact ⟨i, j, by rw [hv, show v = V.int i from rv, show v2 = V.int j from rv2], ⟨q1, q2, q3, q4⟩, k _ _ _ _ _ _ e s yields_rng q5⟩⟩

/-! ### targets -/
theorem wipe_get (σ : St) : ∀ (vs : List Nat) (j : Nat), (L2.wipe σ vs)[j]? = if j ∈ vs then (if j < σ.length then some none else none) else σ[j]?
  | [], j => by simp [L2.wipe]
  | v :: vs, j => by
    unfold L2.wipe
    by_cases h : j = v
    · subst h
      rw [List.getElem?_set]
      simp [L2.wipe_length]
    · rw [List.getElem?_set_ne (Ne.symm h), wipe_get σ vs j]
      simp [h]
theorem wipe_set {σ : St} {i : Nat} {x : Option V} {vs : List Nat} (h : i ∈ vs) : L2.wipe (σ.set i x) vs = L2.wipe σ vs := by
  apply List.ext_getElem?
  intro j
  rw [wipe_get, wipe_get, List.length_set]
  by_cases hj : j ∈ vs
  · rw [if_pos hj, if_pos hj]
  · rw [if_neg hj, if_neg hj, List.getElem?_set_ne]
    intro z
    exact hj (z ▸ h)
theorem RepE.wipe {K : PySem.W.Frag} {H : Hp} {m : List Addr} {ρ : Env} {σ : St} (r : RepE K H m ρ σ) : ∀ vs : List Nat, RepE K H m (wipe ρ vs) (L2.wipe σ vs)
  | [] => r
  | v :: vs => (RepE.wipe r vs).drop1 v
theorem dg_name (i : Nat) {x : Str} (hN : X.N.Nodup) (hi : X.N[i]? = some x := by rfl) (hx : L2.Loc X.env.scope x := by first | exact Or.inl rfl | exact Or.inr rfl) (hf : X.fn x = true ∨ X.env.scope.names.lookup x = some .local := by first | exact .inl rfl | exact .inr rfl | assumption) : PG X (.Name x pos) (tgOf X.K [i] (gN i)) :=
  pgI (L2.pg_name hN hi hx hf) fun v σ H Q ⟨d, ρ, S, m, R, hE, hS, r, h, k⟩ => k _ _ _ _ _ (wipe_set (List.mem_singleton.mpr rfl)) (Ext.refl _ _) hS (hE.set r i) h
/-- several names -/
inductive Gs (X : Cx) : List Expr → List Nat → Prop where
  | nil : Gs X [] []
  | cons {e : Expr} {es : List Expr} {i : Nat} {is : List Nat} : PG X e (L2.gName i) → (assignEach (e :: es) X.env).map (·.2) = assign e X.env :: (assignEach es X.env).map (·.2) → Gs X es is → Gs X (e :: es) (i :: is)
theorem dgs_one (i : Nat) {x : Str} {es : List Expr} {is : List Nat} (hN : X.N.Nodup) (r : Gs X es is) (hi : X.N[i]? = some x := by rfl) (hx : L2.Loc X.env.scope x := by first | exact Or.inl rfl | exact Or.inr rfl) (hf : X.fn x = true ∨ X.env.scope.names.lookup x = some .local := by first | exact .inl rfl | exact .inr rfl | assumption)
    (hs : (assignEach (.Name x pos :: es) X.env).map (·.2) = assign (.Name x pos) X.env :: (assignEach es X.env).map (·.2) := by rfl) : Gs X (.Name x pos :: es) (i :: is) := .cons (L2.pg_name hN hi hx hf) hs r
/-- the layer's reading of several names -/
def tgs : List Nat → L2.TGs
  | [] => L2.gNil
  | i :: is => L2.gCons (L2.gName i) (tgs is)
theorem pgs_of {es : List Expr} {is : List Nat} (g : Gs X es is) : L2.PGs X es (tgs is) := by
  induction g with
  | nil => exact L2.pgs_nil
  | cons h hs _ ih => exact L2.pgs_cons h ih hs
theorem tgs_run {K : PySem.W.Frag} {H : Hp} {m : List Addr} {vs0 : List Nat} : ∀ (is : List Nat) (ds : List D) (vs : List V) (ρ ρ' : Env) (σ : St) (Q : St → Hp → Prop), Reps K H m ds vs → RepE K H m ρ σ → gNs is ds ρ = some ρ' → (∀ i ∈ is, i ∈ vs0) →
    (∀ σ', L2.wipe σ' vs0 = L2.wipe σ vs0 → RepE K H m ρ' σ' → Q σ' H) → tgs is vs σ H Q
  | [], [], vs, ρ, ρ', σ, Q, r, hE, h, _, k => by
    have h : some ρ = some ρ' := h
    cases h
    exact ⟨r, k σ rfl hE⟩
  | i :: is, d :: ds, vs, ρ, ρ', σ, Q, ⟨v, rr, hv, r1, r2⟩, hE, h, hi, k =>
    ⟨v, rr, hv, tgs_run is ds rr (up ρ i (some d)) ρ' (σ.set i (some v)) Q r2 (hE.set r1 i) h (fun j hj => hi j (List.mem_cons_of_mem _ hj)) fun σ' w e => k σ' (by rw [w, wipe_set (hi i List.mem_cons_self)]) e⟩
  | [], d :: ds, _, _, _, _, _, _, _, h, _, _ => by cases (show (none : Option Env) = some _ from h)
  | i :: is, [], _, _, _, _, _, _, _, h, _, _ => by cases (show (none : Option Env) = some _ from h)
theorem gNs_len : ∀ (is : List Nat) (ds : List D) (ρ ρ' : Env), gNs is ds ρ = some ρ' → ds.length = is.length
  | [], [], _, _, _ => rfl
  | _ :: is, _ :: ds, ρ, ρ', h => by rw [List.length_cons, List.length_cons, gNs_len is ds _ ρ' h]
  | [], _ :: _, _, _, h => by cases (show (none : Option Env) = some _ from h)
  | _ :: _, [], _, _, h => by cases (show (none : Option Env) = some _ from h)
theorem dg_tup {es : List Expr} {k : Nat} {is : List Nat} (hc : X.calm = true) (g : Gs X es is) (hn : (assignEach es X.env).length = is.length := by rfl) (hst : (assignEach es X.env).findIdx? (·.1) = none := by rfl) : PG X (.Tuple es k pos) (tgOf X.K is (gT is)) :=
  pgI (L2.pg_tup hc (pgs_of g) hn hst) fun v σ H Q ⟨d, ρ, S, m, R, hE, hS, r, h, kk⟩ => by
    cases d with
    | tup ds =>
      obtain ⟨a, vs, rfl, hT, rs⟩ := r
      have h : (match gNs is ds ρ with
        | some ρ' => R ρ' S
        | none => False) := h
      split at h
      · rename_i ρ' hg
        exact ⟨a, vs, rfl, hT, by rw [rs.len, gNs_len _ _ _ _ hg], tgs_run is ds vs ρ ρ' σ Q rs hE hg (fun _ h => h) fun σ' w e => kk σ' ρ' S m H w (Ext.refl _ _) hS e h⟩
      · exact h.elim
    | _ => exact (show False from h).elim

/-! ### statements -/
variable {e : Expr} {st : Stmt} {rest : List Stmt} {ws wu : WS}
theorem dss_nil : PSs X [] (tsOf X.K sNext) := pssI L2.pss_nil fun D σ H ⟨ρ, S, m, E, hE, hS, h, k, _⟩ => k σ ρ H S m (Ext.refl _ _) hS hE h
theorem dss_cons (h1 : PS X st (tsOf X.K ws)) (h2 : PSs X rest (tsOf X.K wu)) : PSs X (st :: rest) (tsOf X.K (sSeq ws wu)) :=
  pssI (L2.pss_cons h1 h2) fun D σ H ⟨ρ, S, m, E, hE, hS, h, k1, k2, k3, k4⟩ => ⟨ρ, S, m, { E with nx := wu E }, hE, hS, h, fun σ' ρ' H' S' m' e s r q =>
    ⟨ρ', S', m', E, r, s, q, fun σ2 ρ2 H2 S2 m2 e2 s2 r2 q2 => k1 σ2 ρ2 H2 S2 m2 (e.trans e2) s2 r2 q2, k2.ext e, fun σ2 ρ2 H2 S2 m2 e2 s2 r2 q2 => k3 σ2 ρ2 H2 S2 m2 (e.trans e2) s2 r2 q2, fun σ2 ρ2 H2 S2 m2 e2 s2 r2 q2 => k4 σ2 ρ2 H2 S2 m2 (e.trans e2) s2 r2 q2⟩, k2, k3, k4⟩
theorem dss_one (h1 : PS X st (tsOf X.K ws)) : PSs X [st] (tsOf X.K ws) := L2.pss_one h1
theorem ds_pass : PS X (.Pass pos) (tsOf X.K sNext) := psI L2.ps_pass fun D σ H ⟨ρ, S, m, E, hE, hS, h, k, _⟩ => k σ ρ H S m (Ext.refl _ _) hS hE h
theorem ds_break : PS X (.Break pos) (tsOf X.K sBreak) := psI L2.ps_break fun D σ H ⟨ρ, S, m, E, hE, hS, h, _, _, k, _⟩ => k σ ρ H S m (Ext.refl _ _) hS hE h
theorem ds_continue : PS X (.Continue pos) (tsOf X.K sCont) := psI L2.ps_continue fun D σ H ⟨ρ, S, m, E, hE, hS, h, _, _, _, k⟩ => k σ ρ H S m (Ext.refl _ _) hS hE h
theorem ds_expr (he : PE X e (teOf X.K wa)) (hs : swapsWith e none pos.line X.env = pure false := by rfl) : PS X (.Expr e pos) (tsOf X.K (sDrop wa)) :=
  psI (L2.ps_expr he hs) fun D σ H ⟨ρ, S, m, E, hE, hS, h, k, _⟩ => ⟨ρ, S, m, _, hE, hS, h, fun v d H1 S1 m1 e1 s1 r1 q1 => k σ ρ H1 S1 m1 e1 s1 (hE.ext e1) q1⟩
theorem ds_ret (he : PE X e (teOf X.K wa)) : PS X (.Return (some e) pos) (tsOf X.K (sRet wa)) :=
  psI (L2.ps_ret he) fun D σ H ⟨ρ, S, m, E, hE, hS, h, _, k, _⟩ => ⟨ρ, S, m, E.rt, hE, hS, h, k⟩
theorem ds_retN : PS X (.Return none pos) (tsOf X.K sRetN) :=
  psI L2.ps_retN fun D σ H ⟨ρ, S, m, E, hE, hS, h, _, k, _⟩ => k _ .non H S m (Ext.refl _ _) hS rfl h
theorem ds_if {c : Expr} {a b : List Stmt} {tc : WT} (hc : PT X c (ttOf X.K tc)) (ha : PSs X a (tsOf X.K ws)) (hb : PSs X b (tsOf X.K wu)) : PS X (.If c a b pos) (tsOf X.K (sIf tc ws wu)) :=
  psI (L2.ps_if hc ha hb) fun D σ H ⟨ρ, S, m, E, hE, hS, h, k1, k2, k3, k4⟩ => ⟨ρ, S, m, _, hE, hS, h, fun c H1 S1 m1 e1 s1 q => by
    have q : if c = true then ws E ρ S1 else wu E ρ S1 := q
    have go : ∀ w : WS, w E ρ S1 → tsOf X.K w D σ H1 := fun w q => ⟨ρ, S1, m1, E, hE.ext e1, s1, q, fun σ2 ρ2 H2 S2 m2 e2 s2 r2 q2 => k1 σ2 ρ2 H2 S2 m2 (e1.trans e2) s2 r2 q2, k2.ext e1, fun σ2 ρ2 H2 S2 m2 e2 s2 r2 q2 => k3 σ2 ρ2 H2 S2 m2 (e1.trans e2) s2 r2 q2, fun σ2 ρ2 H2 S2 m2 e2 s2 r2 q2 => k4 σ2 ρ2 H2 S2 m2 (e1.trans e2) s2 r2 q2⟩
    show if c = true then tsOf X.K ws D σ H1 else tsOf X.K wu D σ H1
    by_cases hb : c = true
    · rw [if_pos hb] at q ⊢
      exact go _ q
    · rw [if_neg hb] at q ⊢
      exact go _ q⟩
theorem ds_never : PS X st (tsOf X.K sNever) := psI L2.ps_never fun D σ H ⟨ρ, S, m, E, hE, hS, h, _⟩ => h
theorem dss_never {sts : List Stmt} : PSs X sts (tsOf X.K sNever) := pssI L2.pss_never fun D σ H ⟨ρ, S, m, E, hE, hS, h, _⟩ => h
theorem ds_asg {tg : Expr} {vs : List Nat} {g : WG} (he : PE X e (teOf X.K wa)) (hg : PG X tg (tgOf X.K vs g)) (hs : swapsWithSole [tg] e pos.line X.env = pure false := by rfl) (hw : swappedStores [tg] e X.env = pure none := by rfl)
    (h1 : (assignEach [tg] X.env).map (·.2) = [assign tg X.env] := by rfl) : PS X (.Assign [tg] e pos) (tsOf X.K (sAsg wa g)) :=
  psI (L2.ps_asg he hg hs hw h1) fun D σ H ⟨ρ, S, m, E, hE, hS, h, k, _⟩ => ⟨ρ, S, m, _, hE, hS, h, fun v d H1 S1 m1 e1 s1 r1 q1 => ⟨d, ρ, S1, m1, E.nx, hE.ext e1, s1, r1, q1, fun σ' ρ' S' m' H' _ e2 s2 r2 q2 => k σ' ρ' H' S' m' (e1.trans e2) s2 r2 q2⟩⟩
theorem ds_set (i : Nat) {x : Str} {pos' : Pos} (hN : X.N.Nodup) (he : PE X e (teOf X.K wa)) (hi : X.N[i]? = some x := by rfl) (hx : L2.Loc X.env.scope x := by first | exact Or.inl rfl | exact Or.inr rfl) (hs : swapsWith e (some (.Name x pos')) pos.line X.env = pure false := by rfl)
    (hf : X.fn x = true ∨ X.env.scope.names.lookup x = some .local := by first | exact .inl rfl | exact .inr rfl | assumption) : PS X (.Assign [.Name x pos'] e pos) (tsOf X.K (sAsg wa (gN i))) :=
  psI (L2.ps_set hN hi hx he hs hf) fun D σ H ⟨ρ, S, m, E, hE, hS, h, k, _⟩ => ⟨ρ, S, m, _, hE, hS, h, fun v d H1 S1 m1 e1 s1 r1 q1 => k _ _ H1 S1 m1 e1 s1 ((hE.ext e1).set r1 i) q1⟩
theorem ds_par (i j : Nat) {x y : Str} {px py pt : Pos} {kt k2 pt2} (hc : X.calm = true) (hN : X.N.Nodup) (ha : PE X a (teOf X.K wa)) (hb : PE X b (teOf X.K wb)) (hi : X.N[i]? = some x := by rfl) (hj : X.N[j]? = some y := by rfl) (hij : i ≠ j := by decide)
    (hx : X.env.scope.names.lookup x = some .local := by rfl) (hy : X.env.scope.names.lookup y = some .local := by rfl)
    (hw : swappedStores [.Tuple [.Name x px, .Name y py] kt pt] (.Tuple [a, b] k2 pt2) X.env = pure (some [x, y]) := by rfl)
    (hs : swapsWithSole [.Tuple [.Name x px, .Name y py] kt pt] (.Tuple [a, b] k2 pt2) pos.line X.env = pure false := by rfl)
    (e1 : starEach [a, b] X.env = (false, eval a X.env) :: starEach [b] X.env := by rfl) (e2 : starEach [b] X.env = (false, eval b X.env) :: starEach [] X.env := by rfl) :
    PS X (.Assign [.Tuple [.Name x px, .Name y py] kt pt] (.Tuple [a, b] k2 pt2) pos) (tsOf X.K (sPar i j wa wb)) :=
  psI (L2.ps_par hc hN hi hj hij hx hy (da_cons ha (da_cons hb da_nil e2) e1) hw hs) fun D σ H ⟨ρ, S, m, E, hE, hS, h, k, _⟩ =>
    ⟨ρ, S, m, fun ds S2 => match ds with
      | [d, d2] => E.nx (up (up ρ i (some d)) j (some d2)) S2
      | _ => False, hE, hS, h, fun vs ds H2 S2 m2 e s r q => by
      match ds, q, r with
      | [d, d2], q, ⟨v, r', hv, rv, ⟨v2, r2, hv2, rv2, rn⟩⟩ =>
        rw [show r2 = [] from rn] at hv2
        rw [hv2] at hv
        exact ⟨v, v2, hv, k _ _ H2 S2 m2 e s (((hE.ext e).set rv i).set rv2 j) q⟩⟩
theorem ds_aug (i : Nat) {x : Str} {op : Operator} {r : R2} {pos' : Pos} (hN : X.N.Nodup) (ho : OpR X (inplaceOp op) (r2Of X.K r)) (he : PE X e (teOf X.K wa)) (hi : X.N[i]? = some x := by rfl) (hx : L2.Loc X.env.scope x := by first | exact Or.inl rfl | exact Or.inr rfl)
    (hf : X.fn x = true ∨ X.env.scope.names.lookup x = some .local := by first | exact .inl rfl | exact .inr rfl | assumption) : PS X (.AugAssign (.Name x pos') op e pos) (tsOf X.K (sAug i wa r)) :=
  psI (L2.ps_aug hN hi hx he ho hf) fun D σ H ⟨ρ, S, m, E, hE, hS, h, k, _⟩ => by
    unfold sAug at h
    cases el : lk ρ i with
    | none => rw [el] at h; exact h.elim
    | some d =>
      rw [el] at h
      obtain ⟨v, h1, h2⟩ := hE.get i d el
      exact ⟨v, h1, ρ, S, m, _, hE, hS, h, fun u y H1 S1 m1 e1 s1 r1 q1 => ⟨m1, S1, d, y, _, s1, Rep.ext e1 _ _ h2, r1, q1, fun w z H2 S2 m2 e2 s2 r2 q2 => k _ _ H2 S2 m2 (e1.trans e2) s2 ((hE.ext (e1.trans e2)).set r2 i) q2⟩⟩
def rpOf (K : PySem.W.Frag) (r : D → D → D → Sto → (Sto → Prop) → Prop) : V → V → V → Hp → (Hp → Prop) → Prop := fun o i v H Q => ∃ m S x k d R, RepS K H m S ∧ Rep K H m x o ∧ Rep K H m k i ∧ Rep K H m d v ∧ r x k d S R ∧
  ∀ H' S' m', Ext m H m' H' → RepS K H' m' S' → R S' → Q H'
theorem ds_sub {o i : Expr} {wo wi : WE} {r : D → D → D → Sto → (Sto → Prop) → Prop} {spos : Pos} (hp : L2.PSet X (rpOf X.K r)) (he : PE X e (teOf X.K wa)) (ho : PE X o (teOf X.K wo)) (hi : PE X i (teOf X.K wi))
    (ha : ∀ v, assign (.Subscript o i spos) X.env v = (do
      let ov ← holding [v] (eval o X.env)
      let iv ← holding [v, ov] (eval i X.env)
      standAt spos
      holding [v, ov, iv] (setItem ov iv v)
      release [v, ov, iv] []) := by intro _; rfl)
    (hs : swapsWithSole [.Subscript o i spos] e pos.line X.env = pure false := by rfl) (hw : swappedStores [.Subscript o i spos] e X.env = pure none := by rfl)
    (h1 : (assignEach [.Subscript o i spos] X.env).map (·.2) = [assign (.Subscript o i spos) X.env] := by rfl) : PS X (.Assign [.Subscript o i spos] e pos) (tsOf X.K (sSub r wa wo wi)) :=
  psI (L2.ps_asg he (L2.pg_sub ho hi hp ha) hs hw h1) fun D σ H ⟨ρ, S, m, E, hE, hS, h, k, _⟩ => ⟨ρ, S, m, _, hE, hS, h, fun v d H1 S1 m1 e1 s1 r1 q1 => ⟨ρ, S1, m1, _, hE.ext e1, s1, q1, fun v2 x H2 S2 m2 e2 s2 r2 q2 =>
    ⟨ρ, S2, m2, _, hE.ext (e1.trans e2), s2, q2, fun v3 j H3 S3 m3 e3 s3 r3 q3 => ⟨m3, S3, x, j, d, _, s3, Rep.ext e3 _ _ r2, r3, Rep.ext (e2.trans e3) _ _ r1, q3, fun H4 S4 m4 e4 s4 q4 =>
      k σ ρ H4 S4 m4 (e1.trans (e2.trans (e3.trans e4))) s4 (hE.ext (e1.trans (e2.trans (e3.trans e4)))) q4⟩⟩⟩⟩
def rgOf (K : PySem.W.Frag) (r : R2) : V → V → Hp → L2.VK → Prop := r2Of K r
theorem ds_augSub {o i : Expr} {wo wi : WE} {rg ro : R2} {rs : D → D → D → Sto → (Sto → Prop) → Prop} {op : Operator} {spos : Pos} (hg : L2.PGet X (r2Of X.K rg)) (hop : OpR X (inplaceOp op) (r2Of X.K ro)) (hp : L2.PSet X (rpOf X.K rs))
    (ho : PE X o (teOf X.K wo)) (hi : PE X i (teOf X.K wi)) (he : PE X e (teOf X.K wa))
    (ha : ∀ ov iv new, augStore i ov iv new = (do holding [new, ov, iv] (setItem ov iv new); release [new, ov, iv] []; pure .next) := by intros; rfl) :
    PS X (.AugAssign (.Subscript o i spos) op e pos) (tsOf X.K (sAugSub rg ro rs wo wi wa)) :=
  psI (L2.ps_augS ho hi hg he hop hp ha) fun D σ H ⟨ρ, S, m, E, hE, hS, h, k, _⟩ => ⟨ρ, S, m, _, hE, hS, h, fun v x H1 S1 m1 e1 s1 r1 q1 => ⟨ρ, S1, m1, _, hE.ext e1, s1, q1, fun v2 j H2 S2 m2 e2 s2 r2 q2 =>
    ⟨m2, S2, x, j, _, s2, Rep.ext e2 _ _ r1, r2, q2, fun v3 z H3 S3 m3 e3 s3 r3 q3 => ⟨ρ, S3, m3, _, hE.ext (e1.trans (e2.trans e3)), s3, q3, fun v4 y H4 S4 m4 e4 s4 r4 q4 => ⟨m4, S4, z, y, _, s4, Rep.ext e4 _ _ r3, r4, q4, fun v5 u H5 S5 m5 e5 s5 r5 q5 =>
      ⟨m5, S5, x, j, u, _, s5, Rep.ext (e2.trans (e3.trans (e4.trans e5))) _ _ r1, Rep.ext (e3.trans (e4.trans e5)) _ _ r2, r5, q5, fun H6 S6 m6 e6 s6 q6 =>
        k σ ρ H6 S6 m6 (e1.trans (e2.trans (e3.trans (e4.trans (e5.trans e6))))) s6 (hE.ext (e1.trans (e2.trans (e3.trans (e4.trans (e5.trans e6)))))) q6⟩⟩⟩⟩⟩⟩

/-! ### loops -/
theorem ds_for {iter : Expr} {body : List Stmt} {wi : WI} {vs : List Nat} {g : WG} (hc : X.calm = true) (hp : PassesOwn (model X.prog X.w) X.A X.env X.xe) (hi : PI X tg iter (tiOf X.K wi)) (hg : PG X tg (tgOf X.K vs g)) (hb : PSs X body (tsOf X.K ws))
    (hs : ∀ x, foldedSetIterable iter X.env x = pure x := by intro _; rfl) : PS X (.For tg iter body [] pos) (tsOf X.K (sFor wi g ws)) :=
  psI (L2.ps_for hp hc hi hg hb hs) fun D σ H ⟨ρ, S, m, E, hE, hS, h, k1, k2, k3, k4⟩ => ⟨ρ, S, m, _, hE, hS, h, fun J items guard S1 m1 H1 e1 s1 y ⟨I, i0, ig, it, ie⟩ => by
    refine ⟨fun i n σ' H' => n = items.length - i ∧ ∃ ρ' S' m', Ext m1 H1 m' H' ∧ RepS X.K H' m' S' ∧ RepE X.K H' m' ρ' σ' ∧ I i ρ' S' ∧ i ≤ items.length, ⟨_, rfl, ρ, S1, m1, Ext.refl _ _, s1, hE.ext e1, i0, Nat.zero_le _⟩, ?_⟩
    rintro i n σ2 H2 ⟨hn, ρ2, S2, m2, e2, s2, r2, hI, hle⟩
    obtain ⟨yg, ys⟩ := y m2 H2 S2 e2 s2 (ig _ _ _ hI)
    by_cases hlt : i < items.length
    · obtain ⟨go, yd⟩ := yg i items[i] (List.getElem?_eq_getElem hlt)
      refine .inr ⟨go, fun σ' H' => ∃ ρ' S' m', Ext m1 H1 m' H' ∧ RepS X.K H' m' S' ∧ RepE X.K H' m' ρ' σ' ∧ I (i + 1) ρ' S', fun σ' H' ⟨ρ', S', m', e', s', r', hI'⟩ => ⟨_, by omega, rfl, ρ', S', m', e', s', r', hI', hlt⟩, fun x H' hy => ?_⟩
      obtain ⟨m3, e3, s3, rx⟩ := yd x H' hy
      refine ⟨items[i], ρ2, S2, m3, _, r2.ext e3, s3, rx, it i _ ρ2 S2 (List.getElem?_eq_getElem hlt) hI, fun σ4 ρ4 S4 m4 H4 _ e4 s4 r4 q4 => ⟨ρ4, S4, m4, _, r4, s4, q4, fun σ5 ρ5 H5 S5 m5 e5 s5 r5 q5 => ⟨ρ5, S5, m5, e2.trans (e3.trans (e4.trans e5)), s5, r5, q5⟩,
        (k2.ext (e1.trans (e2.trans (e3.trans e4)))), fun σ5 ρ5 H5 S5 m5 e5 s5 r5 q5 => k1 σ5 ρ5 H5 S5 m5 (e1.trans (e2.trans (e3.trans (e4.trans e5)))) s5 r5 q5, fun σ5 ρ5 H5 S5 m5 e5 s5 r5 q5 => ⟨ρ5, S5, m5, e2.trans (e3.trans (e4.trans e5)), s5, r5, q5⟩⟩⟩
    · have ei : i = items.length := by omega
      subst ei
      exact .inl ⟨ys _ (Nat.le_refl _), k1 σ2 ρ2 H2 S2 m2 (e1.trans e2) s2 r2 (ie _ _ hI)⟩⟩
theorem ds_while {c : Expr} {body : List Stmt} {tc : WT} (hp : PassesOwn (model X.prog X.w) X.A X.env X.xe) (hc : PT X c (ttOf X.K tc)) (hb : PSs X body (tsOf X.K ws)) : PS X (.While c body [] pos) (tsOf X.K (sWhile tc ws)) :=
  psI (L2.ps_while hp hc hb) fun D σ H ⟨ρ, S, m, E, hE, hS, ⟨I, ⟨n0, i0⟩, it⟩, k1, k2, k3, k4⟩ => by
    refine ⟨fun n σ' H' => ∃ ρ' S' m', Ext m H m' H' ∧ RepS X.K H' m' S' ∧ RepE X.K H' m' ρ' σ' ∧ I n ρ' S', ⟨n0, ρ, S, m, Ext.refl _ _, hS, hE, i0⟩, ?_⟩
    rintro n σ2 H2 ⟨ρ2, S2, m2, e2, s2, r2, hI⟩
    refine ⟨ρ2, S2, m2, _, r2, s2, it n ρ2 S2 hI, fun b H3 S3 m3 e3 s3 q => ?_⟩
    by_cases hbt : b = true
    · rw [if_pos hbt] at q ⊢
      refine ⟨fun σ' H' => ∃ n', n' < n ∧ ∃ ρ' S' m', Ext m H m' H' ∧ RepS X.K H' m' S' ∧ RepE X.K H' m' ρ' σ' ∧ I n' ρ' S', fun σ' H' h => h, ρ2, S3, m3, _, r2.ext e3, s3, q, fun σ5 ρ5 H5 S5 m5 e5 s5 r5 ⟨n', hn, q5⟩ => ⟨n', hn, ρ5, S5, m5, e2.trans (e3.trans e5), s5, r5, q5⟩,
        k2.ext (e2.trans e3), fun σ5 ρ5 H5 S5 m5 e5 s5 r5 q5 => k1 σ5 ρ5 H5 S5 m5 (e2.trans (e3.trans e5)) s5 r5 q5, fun σ5 ρ5 H5 S5 m5 e5 s5 r5 ⟨n', hn, q5⟩ => ⟨n', hn, ρ5, S5, m5, e2.trans (e3.trans e5), s5, r5, q5⟩⟩
    · rw [if_neg hbt] at q ⊢
      exact k1 σ2 ρ2 H3 S3 m3 (e2.trans e3) s3 (r2.ext e3) q
end
end DL
set_option Elab.async false
set_option linter.all false
set_option maxRecDepth 100000
set_option maxHeartbeats 4000000
/-! DL4: comprehensions, defs, the script. -/
namespace DL
open PySem PySem.Spec
open L2 (V Hp HO St TE TT TA TS TG TI TO PE PT PW PA PS PSs PG PI PO Cx Inv RelV Vals SqL SqT Rd upd upd_same upd_ne ne_of ne_of_none OpR UnR CallR MtR IxR SlR It thn)
section
variable {K : PySem.W.Frag} {m m' m1 : List Addr} {H H' H1 : Hp} {S S' : Sto}
/-- places stay, all but lists stay -/
structure Ex0 (m : List Addr) (H : Hp) (m' : List Addr) (H' : Hp) : Prop where
  pre : ∀ (n : Nat) (a : Addr), m[n]? = some a → m'[n]? = some a
  lst : ∀ (b : Addr) (o : HO), H b = some o → (∀ xs, o ≠ .lst xs) → H' b = some o
theorem Ex0.sqT (e : Ex0 m H m' H') {a : Addr} {vs : List V} (h : SqT K H a vs) : SqT K H' a vs := by
  rcases h with (h | ⟨o, h⟩) | h
  · exact .inl (.inl (e.lst _ _ h fun _ z => nomatch z))
  · exact .inl (.inr ⟨o, e.lst _ _ h fun _ z => nomatch z⟩)
  · exact .inr h
theorem Ex0.ro (e : Ex0 m H m' H') {a : Addr} {vs : List V} (h : RoL K H a vs) : RoL K H' a vs := by
  rcases h with ⟨o, h⟩ | h
  · exact .inl ⟨o, e.lst _ _ h fun _ z => nomatch z⟩
  · exact .inr h
mutual
theorem Rep.ext0 (e : Ex0 m H m' H') : ∀ (d : D) (v : V), Rep K H m d v → Rep K H' m' d v
  | .non, _, h => h
  | .bl _, _, h => h
  | .int _, _, h => h
  | .str _, _, h => h
  | .ty _, _, h => h
  | .ref _, _, ⟨a, h1, h2⟩ => ⟨a, e.pre _ _ h1, h2⟩
  | .tup ds, _, ⟨a, vs, h1, h2, h3⟩ => ⟨a, vs, h1, e.sqT h2, Reps.ext0 e ds vs h3⟩
  | .rol ds, _, ⟨a, vs, h1, h2, h3⟩ => ⟨a, vs, h1, e.ro h2, Reps.ext0 e ds vs h3⟩
theorem Reps.ext0 (e : Ex0 m H m' H') : ∀ (ds : List D) (vs : List V), Reps K H m ds vs → Reps K H' m' ds vs
  | [], _, h => h
  | d :: ds, _, ⟨v, r, h1, h2, h3⟩ => ⟨v, r, h1, Rep.ext0 e d v h2, Reps.ext0 e ds r h3⟩
end
/-- a list beside the store is written -/
theorem Ex0.side {a : Addr} {vs us : List V} (h : H a = some (.lst vs)) : Ex0 m H m (upd H a (.lst us)) where
  pre := fun _ _ h => h
  lst := fun b o q hl => by
    have hne : b ≠ a := fun z => by
      rw [z, h] at q
      exact hl vs (Option.some.inj q).symm
    rw [upd_ne hne]
    exact q
theorem RepS.side {a : Addr} {vs us : List V} (s : RepS K H m S) (h : H a = some (.lst vs)) (hn : a ∉ m) : RepS K (upd H a (.lst us)) m S where
  len := s.len
  nd := s.nd
  obj := fun n o e => by
    obtain ⟨b, h1, h2⟩ := s.obj n o e
    refine ⟨b, h1, ?_⟩
    have hne : b ≠ a := fun z => hn (by rw [← z]; exact List.mem_of_getElem? h1)
    cases o with
    | lst ds =>
      obtain ⟨ws, g1, g2⟩ := h2
      exact ⟨ws, by rw [upd_ne hne]; exact g1, Reps.ext0 (Ex0.side h) _ _ g2⟩
    | dic _ => exact h2.elim
theorem Ext.side {a : Addr} {o : HO} (e : Ext m H m' H') (h : H a = none) (hn : a ∉ m') : Ext m H m' (upd H' a o) where
  pre := e.pre
  keep := fun b u q hb => by rw [upd_ne (ne_of_none q h)]; exact e.keep b u q hb
  new := e.new
  lst := fun b u q hl => by rw [upd_ne (ne_of_none q h)]; exact e.lst b u q hl
/-- a list beside the store stands -/
theorem Ext.own {a : Addr} {o : HO} (e : Ext m H m' H') (h : H a = some o) (hn : a ∉ m) : H' a = some o ∧ a ∉ m' :=
  ⟨e.keep a o h hn, fun z => by
    rcases e.new a z with q | q
    · exact hn q
    · rw [h] at q; cases q⟩
theorem Ext.adopt {a : Addr} (e : Ext m H m' H') (h : H a = none) : Ext m H (m' ++ [a]) H' where
  pre := fun n b q => by
    have z := e.pre n b q
    rw [List.getElem?_append_left (List.getElem?_eq_some_iff.mp z).1]
    exact z
  keep := e.keep
  new := fun b hb => by
    rcases List.mem_append.mp hb with z | z
    · exact e.new b z
    · rw [List.mem_singleton.mp z]; exact .inr h
  lst := e.lst
theorem RepS.adopt {a : Addr} {ds : List D} {vs : List V} (s : RepS K H m S) (h : H a = some (.lst vs)) (hn : a ∉ m) (r : Reps K H m ds vs) : RepS K H (m ++ [a]) (S ++ [.lst ds]) where
  len := by rw [List.length_append, List.length_append, s.len]; rfl
  nd := fun i j b h1 h2 => by
    have pos : ∀ (i : Nat) (b : Addr), (m ++ [a])[i]? = some b → (m[i]? = some b ∧ b ≠ a) ∨ (i = m.length ∧ b = a) := fun i b e => by
      by_cases hi : i < m.length
      · rw [List.getElem?_append_left hi] at e
        exact .inl ⟨e, fun z => hn (by rw [← z]; exact List.mem_of_getElem? e)⟩
      · have hi' := (List.getElem?_eq_some_iff.mp e).1
        rw [List.length_append] at hi'
        have : i = m.length := by simp at hi'; omega
        subst this
        simp at e
        exact .inr ⟨rfl, e.symm⟩
    rcases pos i b h1 with ⟨e1, n1⟩ | ⟨e1, n1⟩ <;> rcases pos j b h2 with ⟨e2, n2⟩ | ⟨e2, n2⟩
    · exact s.nd i j b e1 e2
    · exact absurd n2 n1
    · exact absurd n1 n2
    · rw [e1, e2]
  obj := fun n u e => by
    have ex : Ex0 m H (m ++ [a]) H := ⟨fun n b q => by rw [List.getElem?_append_left (List.getElem?_eq_some_iff.mp q).1]; exact q, fun _ _ q _ => q⟩
    by_cases hl : n < S.length
    · rw [List.getElem?_append_left hl] at e
      obtain ⟨b, h1, h2⟩ := s.obj n u e
      refine ⟨b, ex.pre _ _ h1, ?_⟩
      cases u with
      | lst ds =>
        obtain ⟨ws, h2, h3⟩ := h2
        exact ⟨ws, h2, Reps.ext0 ex _ _ h3⟩
      | dic _ => exact h2.elim
    · have hi' := (List.getElem?_eq_some_iff.mp e).1
      rw [List.length_append] at hi'
      have : n = S.length := by simp at hi'; omega
      subst this
      simp at e
      subst e
      exact ⟨a, by rw [← s.len]; simp, vs, h, Reps.ext0 ex _ _ r⟩
end
theorem wipe_idem (σ : St) (vs : List Nat) : L2.wipe (L2.wipe σ vs) vs = L2.wipe σ vs := by
  apply List.ext_getElem?
  intro j
  rw [wipe_get, wipe_get, L2.wipe_length]
  by_cases hj : j ∈ vs
  · rw [if_pos hj, if_pos hj]
  · rw [if_neg hj, if_neg hj]
theorem szL_eq : szL = sizeLine := by rfl
section
variable {X : Cx}
theorem dts_nil : L2.PTs X [] (ttOf X.K wtYes) := ⟨fun pins s σ H Q I ⟨ρ, S, m, R, hE, hS, h, k⟩ => L2.pts_nil.run pins s σ H Q I (k true H S m (Ext.refl _ _) hS h)⟩
theorem dts_one {c : Expr} {t : WT} (h : PT X c (ttOf X.K t)) : L2.PTs X [c] (ttOf X.K t) := L2.pts_one h
theorem lc_read {wi : WI} {g : WG} {tt : WT} {te : WE} {vs : List Nat} (K : PySem.W.Frag) (σ : St) (H : Hp) (Q : L2.VK) (h : teOf K (wLc wi g tt te vs) σ H Q) : L2.tLc (tiOf K wi) (tgOf K vs g) (ttOf K tt) (teOf K te) vs σ H Q := by
  obtain ⟨ρ, S, m, R, hE, hS, h, k⟩ := h
  refine ⟨ρ, S, m, _, hE, hS, h, fun J items guard S1 m1 H1 e1 s1 y ⟨hz, I, i0, ig, it, ie⟩ D hD => ?_⟩
  have nD := s1.notin hD
  refine ⟨fun i n H' => n = items.length - i ∧ ∃ S' m' acc av, Ext m1 H1 m' H' ∧ RepS K H' m' S' ∧ D ∉ m' ∧ H' D = some (.lst av) ∧ Reps K H' m' acc av ∧ acc.length ≤ i ∧ I i acc S' ∧ i ≤ items.length,
    ⟨_, rfl, S1, m1, [], [], Ext.fresh hD _, s1.fresh hD _, nD, upd_same, rfl, Nat.le_refl _, i0, Nat.zero_le _⟩, ?_⟩
  rintro i n H2 ⟨hn, S2, m2, acc, av, e2, s2, n2, a2, r2, hl, hI, hle⟩
  obtain ⟨yg, ys⟩ := y m2 H2 S2 e2 s2 (ig _ _ _ hI)
  by_cases hlt : i < items.length
  · obtain ⟨go, yd⟩ := yg i items[i] (List.getElem?_eq_getElem hlt)
    refine .inr ⟨go, fun H' => ∃ S' m' acc av, Ext m1 H1 m' H' ∧ RepS K H' m' S' ∧ D ∉ m' ∧ H' D = some (.lst av) ∧ Reps K H' m' acc av ∧ acc.length ≤ i + 1 ∧ I (i + 1) acc S', fun H' ⟨S', m', acc', av', q1, q2, q3, q4, q5, q6, q7⟩ => ⟨_, by omega, rfl, S', m', acc', av', q1, q2, q3, q4, q5, q6, q7, hlt⟩, fun x H' hy => ?_⟩
    obtain ⟨m3, e3, s3, rx⟩ := yd x H' hy
    obtain ⟨a3, n3⟩ := e3.own a2 n2
    refine ⟨items[i], wipe ρ vs, S2, m3, _, (hE.ext (e1.trans (e2.trans e3))).wipe vs, s3, rx, it i _ acc S2 (List.getElem?_eq_getElem hlt) hI, fun σ4 ρ4 S4 m4 H4 w4 e4 s4 r4 q4 => ⟨by rw [w4, wipe_idem], ρ4, S4, m4, _, r4, s4, q4, fun b H5 S5 m5 e5 s5 q5 => ?_⟩⟩
    obtain ⟨a4, n4⟩ := e4.own a3 n3
    obtain ⟨a5, n5⟩ := e5.own a4 n4
    by_cases hb : b = true
    · rw [if_pos hb] at q5 ⊢
      refine ⟨ρ4, S5, m5, _, r4.ext e5, s5, q5, fun v d H6 S6 m6 e6 s6 r6 q6 => ?_⟩
      obtain ⟨a6, n6⟩ := e6.own a5 n5
      have racc := Reps.ext (e3.trans (e4.trans (e5.trans e6))) _ _ r2
      refine ⟨av, a6, by rw [racc.len, ← szL_eq]; omega, S6, m6, acc ++ [d], av ++ [v], (e2.trans (e3.trans (e4.trans (e5.trans e6)))).side hD n6, s6.side a6 n6, n6, upd_same, ?_, by rw [List.length_append]; simp; omega, q6⟩
      exact Reps.app (Reps.ext0 (Ex0.side a6) _ _ racc) (Reps.one (Rep.ext0 (Ex0.side a6) _ _ r6))
    · rw [if_neg hb] at q5 ⊢
      exact ⟨S5, m5, acc, av, e2.trans (e3.trans (e4.trans e5)), s5, n5, a5, Reps.ext (e3.trans (e4.trans e5)) _ _ r2, by omega, by simpa using q5⟩
  · have ei : i = items.length := by omega
    subst ei
    refine .inl ⟨ys _ (Nat.le_refl _), k _ (.ref S2.length) H2 (S2 ++ [.lst acc]) (m2 ++ [D]) (e1.trans (e2.adopt hD)) (s2.adopt a2 n2 r2) ⟨D, by rw [← s2.len]; simp, rfl⟩ (ie _ _ hI)⟩
theorem d_lc {elt tg iter : Expr} {ifs : List Expr} {scope : Scope} {own : List (Str × Nat)} {pos : Pos} {wi : WI} {g : WG} {tt : WT} {te : WE} (hc : X.calm = true) (hN : X.N.Nodup) (hi : PI X tg iter (tiOf X.K wi)) (ok : L2.BlkOk X.N X.env.scope scope own)
    (hg : ∀ (s : Shared) (H : Hp) (C : Addr) (cl : List (Str × Addr)) (fp : List Addr), PG (X.blk s H scope (compEnvC scope cl C X.env) fp) tg (tgOf X.K (own.map (·.2)) g))
    (ht : ∀ (s : Shared) (H : Hp) (C : Addr) (cl : List (Str × Addr)) (fp : List Addr), L2.PTs (X.blk s H scope (compEnvC scope cl C X.env) fp) ifs (ttOf X.K tt))
    (he : ∀ (s : Shared) (H : Hp) (C : Addr) (cl : List (Str × Addr)) (fp : List Addr), PE (X.blk s H scope (compEnvC scope cl C X.env) fp) elt (teOf X.K te)) (hs : ∀ x, foldedSetIterable iter X.env x = pure x := by intro _; rfl) :
    PE X (.ListComp elt [⟨tg, iter, ifs, 0⟩] scope pos) (teOf X.K (wLc wi g tt te (own.map (·.2)))) :=
  peI (L2.pe_lc hc hN hi ok hg ht he hs) fun σ H Q h => lc_read X.K σ H Q h
/-- name = [..] on one line, the name a local -/
theorem ds_setLc (i : Nat) {y : Str} {py : Pos} {elt tg iter : Expr} {ifs : List Expr} {scope : Scope} {own : List (Str × Nat)} {pos spos : Pos} {wi : WI} {g : WG} {tt : WT} {te : WE} (hc : X.calm = true) (hN : X.N.Nodup) (hi : PI X tg iter (tiOf X.K wi)) (ok : L2.BlkOk X.N X.env.scope scope own)
    (hg : ∀ (s : Shared) (H : Hp) (C : Addr) (cl : List (Str × Addr)) (fp : List Addr), PG (X.blk s H scope (compEnvC scope cl C X.env) fp) tg (tgOf X.K (own.map (·.2)) g))
    (ht : ∀ (s : Shared) (H : Hp) (C : Addr) (cl : List (Str × Addr)) (fp : List Addr), L2.PTs (X.blk s H scope (compEnvC scope cl C X.env) fp) ifs (ttOf X.K tt))
    (he : ∀ (s : Shared) (H : Hp) (C : Addr) (cl : List (Str × Addr)) (fp : List Addr), PE (X.blk s H scope (compEnvC scope cl C X.env) fp) elt (teOf X.K te))
    (hsw : swapsWith (.ListComp elt [⟨tg, iter, ifs, 0⟩] scope pos) (some (.Name y py)) spos.line X.env = pure true) (hy : X.N[i]? = some y := by rfl) (hyl : X.env.scope.names.lookup y = some .local := by rfl)
    (hs : ∀ x, foldedSetIterable iter X.env x = pure x := by intro _; rfl) :
    PS X (.Assign [.Name y py] (.ListComp elt [⟨tg, iter, ifs, 0⟩] scope pos) spos) (tsOf X.K (sAsg (wLc wi g tt te (own.map (·.2))) (gN i))) :=
  psI (L2.ps_setLc hc hN hy hyl hsw hi ok hg ht he hs) fun Dd σ H ⟨ρ, S, m, E, hE, hS, h, k, _⟩ => lc_read X.K σ H _ ⟨ρ, S, m, _, hE, hS, h, fun v d H1 S1 m1 e1 s1 r1 q1 => k _ _ H1 S1 m1 e1 s1 ((hE.ext e1).set r1 i) q1⟩
end

/-! ### defs -/
theorem lk_start : ∀ (ds : List D) (n i : Nat) (d : D), lk (ds.map some ++ List.replicate n none) i = some d → ds[i]? = some d
  | [], n, i, d, h => by
    exfalso
    rw [List.map_nil, List.nil_append] at h
    induction n generalizing i with
    | zero => cases (show (none : Option D) = some d from h)
    | succ n ih =>
      rw [List.replicate_succ] at h
      cases i with
      | zero => cases (show (none : Option D) = some d from h)
      | succ i => exact ih i h
  | x :: ds, n, 0, d, h => by
    have h : some x = some d := h
    cases h
    rfl
  | x :: ds, n, i + 1, d, h => by
    have := lk_start ds n i d h
    simpa using this
theorem rep_start {K : PySem.W.Frag} {H : Hp} {m : List Addr} {ds : List D} {vs : List V} {N : List Str} (r : Reps K H m ds vs) : RepE K H m (start N.length ds) (L2.start N vs) := by
  refine ⟨by simp [start, L2.start, r.len], fun i d h => ?_⟩
  obtain ⟨v, h1, h2⟩ := r.get i d (lk_start _ _ _ _ h)
  refine ⟨v, ?_, h2⟩
  unfold L2.start
  rw [List.getElem?_append_left (by rw [List.length_map]; exact (List.getElem?_eq_some_iff.mp h1).1), List.getElem?_map, h1]
  rfl
section
variable {P : Program} {w : World} {K : PySem.W.Frag} {mg : Str → Option Value} {base : Heap}
/-- THE RULE for a def -/
theorem fn_body {x qual : Str} {st : Stmt} {f : Addr} {fd : FuncData} {N ps : List Str} {k n a : Nat} {sp : Spc} {ws : WS} (F : L2.Fun K x qual st f fd) (Sc : L2.FnScope N ps (L2.defScope st)) (hn : N.length = n) (ha : ps.length = a)
    (hw : ∀ (cdv : Value) (A : Around) (outer : List PySem.Env) (s : Shared) (H : Hp) (E : L2.XK), L2.Room k (A.deeper (PyProof.Rows.envOfC qual (L2.defScope st) s.heap.objs.size f cdv)) →
      PSs (L2.cxOf L2.CX0 P w K mg base N qual (L2.defScope st) f cdv A outer s H E).nox (L2.defBody st) (tsOf K ws)) (hb : Body n a ws sp) : L2.FnOk P w K mg base L2.CX0 (k + 1) f fd ps (spOf K a sp) := by
  refine F.ok Sc (fun vs H Q E ⟨m, S, ds, R, s, r, l, _⟩ => by rw [r.len, l, ha]) (fun cdv A outer s H vs Q E hr ⟨m, S, ds, R, hS, r, l, h, kk⟩ => ⟨_, hw cdv A outer s H E hr, ?_⟩)
  refine ⟨start N.length ds, S, m, { nx := fun _ S' => R .non S', rt := R, bk := fun _ _ => False, ct := fun _ _ => False }, rep_start r, hS, ?_, fun σ' ρ' H' S' m' e s r q => kk .non .non H' S' m' e s rfl q, kk, fun σ' ρ' H' S' m' e s r q => q.elim, fun σ' ρ' H' S' m' e s r q => q.elim⟩
  rw [hn]
  exact hb ds S R l h
/-- a law's promise from that of its def -/
theorem law_sp {sp : Spc} {H : Hp} {a : Addr} {ns : List Int} (hO : L2.Only H) (hS : SqL K H a (ns.map V.int)) (h : sp [.rol (intD ns)] [] fun d _ => d = .bl true) : spOf K 1 sp [.ref a] H (fun v _ => v = .bl true) fun _ _ _ => False := by
  refine ⟨[], [], [.rol (intD ns)], _, ⟨rfl, fun i j a h => by simp at h, fun n o h => by simp at h⟩, ⟨_, [], rfl, ⟨a, _, rfl, ?_, Reps.of_ints⟩, rfl⟩, rfl, h, fun v d H' S' m' e s r q => ?_⟩
  · rcases hS with (h | h) | h
    · rcases hO a with z | ⟨o, xs, z⟩
      · rw [h] at z; cases z
      · rw [h] at z; cases z
    · exact .inl h
    · exact .inr h
  · rw [q] at r
    exact r
end
end DL
set_option Elab.async false
set_option linter.all false
set_option maxRecDepth 100000
set_option maxHeartbeats 4000000
/-! DL5: operations by values. -/
namespace DL
open PySem PySem.Spec
open L2 (V Hp HO St TE TT TA TS TG TI TO PE PT PW PA PS PSs PG PI PO Cx Inv RelV Vals SqL SqT Rd upd upd_same upd_ne ne_of ne_of_none OpR UnR CallR MtR IxR SlR It thn)
section
variable {X : Cx}
/-- a rule between values, from one by the layer -/
theorem r2I {f : Value → Value → Sem Value} {r : L2.R2} {q : R2} (h : OpR X f r) (hi : ∀ x y H Q, r2Of X.K q x y H Q → r x y H Q) : OpR X f (r2Of X.K q) := fun pins s σ H x y v u Q I rx ry hq => h pins s σ H x y v u Q I rx ry (hi _ _ _ _ hq)
theorem r1I {f : Value → Sem Value} {r : V → Hp → L2.VK → Prop} {q : R1} (h : UnR X f r) (hi : ∀ x H Q, r1Of X.K q x H Q → r x H Q) : UnR X f (r1Of X.K q) := fun pins s σ H x v Q I rx hq => h pins s σ H x v Q I rx (hi _ _ _ hq)
theorem rlI {f : Value} {r : List V → Hp → L2.VK → Prop} {q : RL} (h : CallR X f r) (hi : ∀ x H Q, rlOf X.K q x H Q → r x H Q) : CallR X f (rlOf X.K q) := fun pins s σ H x v Q I rx hq => h pins s σ H x v Q I rx (hi _ _ _ hq)
theorem rmI {id : String} {r : V → List V → Hp → L2.VK → Prop} {q : RM} (h : MtR X id r) (hi : ∀ x xs H Q, rmOf X.K q x xs H Q → r x xs H Q) : MtR X id (rmOf X.K q) := fun pins s σ H x xs v us Q I rx rxs hq => h pins s σ H x xs v us Q I rx rxs (hi _ _ _ _ hq)
theorem rix {r : L2.R2} {q : R2} (h : IxR X r) (hi : ∀ x y H Q, r2Of X.K q x y H Q → r x y H Q) : IxR X (r2Of X.K q) := fun e1 e2 pins s σ H x y v u Q I rx ry hq hs => h e1 e2 pins s σ H x y v u Q I rx ry (hi _ _ _ _ hq) hs
theorem rsl {r : V → Option Int → Option Int → Hp → L2.VK → Prop} {q : D → Option Int → Option Int → Sto → VK → Prop} (h : SlR X r) (hi : ∀ x l u H Q, rsOf X.K q x l u H Q → r x l u H Q) : SlR X (rsOf X.K q) := fun pins s σ H x v vl vu lo hi' sl Q I rx hs p1 p2 hq => h pins s σ H x v vl vu lo hi' sl Q I rx hs p1 p2 (hi _ _ _ _ _ hq)
theorem isLst_iff {S : Sto} {n : Nat} {P : List D → Prop} : isLst S n P ↔ ∃ xs, S[n]? = some (.lst xs) ∧ P xs := by
  unfold isLst
  constructor
  · intro h
    split at h
    · rename_i xs e
      exact ⟨xs, e, h⟩
    · exact h.elim
  · rintro ⟨xs, e, h⟩
    rw [e]
    exact h
/-- a new tuple, a new list -/
theorem Kont.tup {K : PySem.W.Frag} {m : List Addr} {H : Hp} {S : Sto} {R : D → Sto → Prop} {Q : V → Hp → Prop} (k : Kont K m H R Q) (s : RepS K H m S) {ds : List D} {vs : List V} (r : Reps K H m ds vs) (q : R (.tup ds) S) : ∀ p, H p = none → Q (.ref p) (upd H p (.tup vs)) :=
  fun p hp => k _ (.tup ds) _ S m (Ext.fresh hp _) (s.fresh hp _) ⟨p, vs, rfl, SqT.of upd_same, Reps.ext (Ext.fresh hp _) _ _ r⟩ q
theorem Kont.lst {K : PySem.W.Frag} {m : List Addr} {H : Hp} {S : Sto} {R : D → Sto → Prop} {Q : V → Hp → Prop} (k : Kont K m H R Q) (s : RepS K H m S) {ds : List D} {vs : List V} (r : Reps K H m ds vs) (q : R (.ref S.length) (S ++ [.lst ds])) : ∀ p, H p = none → Q (.ref p) (upd H p (.lst vs)) :=
  fun p hp => k _ (.ref S.length) _ _ (m ++ [p]) (Ext.pushed hp _) (s.push hp r) ⟨p, by rw [← s.len]; simp, rfl⟩ q
/-- a list written -/
theorem Kont.put {K : PySem.W.Frag} {m : List Addr} {H : Hp} {S : Sto} {R : D → Sto → Prop} {Q : V → Hp → Prop} (k : Kont K m H R Q) (s : RepS K H m S) {n : Nat} {a : Addr} {ds ds' : List D} {vs vs' : List V} {d : D} {v : V} (e : S[n]? = some (.lst ds)) (ha : m[n]? = some a) (hv : H a = some (.lst vs)) (r : Reps K H m ds' vs')
    (rd : Rep K H m d v) (q : R d (S.set n (.lst ds'))) : Q v (upd H a (.lst vs')) :=
  k v d _ _ m (Ext.wrote (List.mem_of_getElem? ha) hv) (s.set e ha r) (Rep.ext (Ext.wrote (List.mem_of_getElem? ha) hv) _ _ rd) q

theorem szL' : szL = sizeLine := szL_eq
theorem o_add : OpR X (binaryOp .Add) (r2Of X.K rAdd) :=
  r2I ((((L2.op_add (X := X)).or L2.op_catA).or L2.op_add_str).or L2.op_cat) fun x y H Q ⟨m, S, d, e, R, s, rx, ry, h, k⟩ => by
    cases d with
    | int i => cases e with
      | int j => exact .inl (.inl (.inl ⟨i, j, rx, ry, k _ (.int (i + j)) H S m (Ext.refl _ _) s rfl h⟩))
      | _ => exact (show False from h).elim
    | tup xs => cases e with
      | tup ys =>
        obtain ⟨a, vs, rfl, hT, r1⟩ := rx
        obtain ⟨b, us, rfl, hU, r2⟩ := ry
        obtain ⟨hz, q⟩ := h
        refine .inl (.inl (.inr ⟨a, b, vs, us, rfl, rfl, hT, hU, by rw [r1.len, r2.len, ← szL']; exact hz, fun e => ?_, fun _ e => ?_, fun _ _ => k.tup s (r1.app r2) q⟩))
        · subst e
          have : xs = [] := List.eq_nil_of_length_eq_zero (by rw [← r1.len]; rfl)
          subst this
          exact k _ (.tup ys) H S m (Ext.refl _ _) s ⟨b, us, rfl, hU, r2⟩ q
        · subst e
          have : ys = [] := List.eq_nil_of_length_eq_zero (by rw [← r2.len]; rfl)
          subst this
          rw [List.append_nil] at q
          exact k _ (.tup xs) H S m (Ext.refl _ _) s ⟨a, vs, rfl, hT, r1⟩ q
      | _ => exact (show False from h).elim
    | str z => cases e with
      | str z' =>
        obtain ⟨hz, q⟩ := h
        exact .inl (.inr ⟨z, z', rx, ry, by rw [← szL']; exact hz, k _ (.str (z ++ z')) H S m (Ext.refl _ _) s rfl q⟩)
      | _ => exact (show False from h).elim
    | ref n => cases e with
      | ref n' =>
        obtain ⟨xs, e1, h⟩ := isLst_iff.mp h
        obtain ⟨ys, e2, hz, q⟩ := isLst_iff.mp h
        obtain ⟨a, vs, h1, h2, h3⟩ := s.lst e1
        obtain ⟨b, us, g1, g2, g3⟩ := s.lst e2
        obtain ⟨a', q1, rfl⟩ := rx
        obtain ⟨b', q2, rfl⟩ := ry
        rw [h1] at q1
        rw [g1] at q2
        cases q1
        cases q2
        exact .inr ⟨a, b, vs, us, rfl, rfl, h2, g2, by rw [h3.len, g3.len, ← szL']; exact hz, k.lst s (h3.app g3) q⟩
      | _ => exact (show False from h).elim
    | _ => exact (show False from h).elim
theorem o_sub : OpR X (binaryOp .Sub) (r2Of X.K rSub) := r2I L2.op_sub fun x y H Q ⟨m, S, d, e, R, s, rx, ry, h, k⟩ => by
  cases d with
  | int i => cases e with
    | int j => exact ⟨i, j, rx, ry, k _ (.int (i - j)) H S m (Ext.refl _ _) s rfl h⟩
    | _ => exact (show False from h).elim
  | _ => exact (show False from h).elim
theorem CMul_or {i j : Int} (h : MulOk i j) : IntMulOk i j := by
  rcases h with (h | h) | ⟨a, b, h1, h2, h3⟩
  · exact L2.CMul.ok (.inl (by have : (2 : Nat) ^ 64 = 18446744073709551616 := by decide
                               have : (2 : Int) ^ 64 = 18446744073709551616 := by decide
                               omega))
  · exact L2.CMul.ok (.inr (by have : (2 : Nat) ^ 64 = 18446744073709551616 := by decide
                               have : (2 : Int) ^ 64 = 18446744073709551616 := by decide
                               omega))
  · have w1 : i.natAbs < 2 ^ (a + 1) := Nat.lt_trans h1 (Nat.pow_lt_pow_right (by decide) (by omega))
    have w2 : j.natAbs < 2 ^ (b + 1) := Nat.lt_trans h2 (Nat.pow_lt_pow_right (by decide) (by omega))
    have x := PySem.Flt.log2_lt_of (by omega) w1
    have y := PySem.Flt.log2_lt_of (by omega) w2
    by_cases hc : i.natAbs.log2 + j.natAbs.log2 < 1000000
    · exact L2.CMulW.ok hc
    · have e1 : i.natAbs.log2 ≤ a := by omega
      have e2 : j.natAbs.log2 ≤ b := by omega
      exfalso
      have ha : a = i.natAbs.log2 := by omega
      have hb : b = j.natAbs.log2 := by omega
      by_cases h0 : i.natAbs = 0
      · rw [h0] at ha
        have : Nat.log2 0 = 0 := by decide
        rw [this] at ha
        have hb1 : 0 < b := by omega
        have := PySem.Flt.log2_lt_of hb1 h2
        omega
      · by_cases ha0 : a = 0
        · subst ha0
          have hb1 : 0 < b := by omega
          have := PySem.Flt.log2_lt_of hb1 h2
          omega
        · have := PySem.Flt.log2_lt_of (by omega : 0 < a) h1
          omega
theorem op_mulAny : OpR X (binaryOp .Mult) (L2.rI (fun i j => IntMulOk i j) fun i j => .int (i * j)) := L2.opI fun _ _ _ _ _ _ _ hc q => PyProof.Rows.mul_int q hc
theorem iop_mulAny : OpR X (inplaceOp .Mult) (L2.rI (fun i j => IntMulOk i j) fun i j => .int (i * j)) := L2.opI fun _ _ _ _ _ _ _ hc q => PyProof.Rows.imul_int q hc

/-- ints alone -/
theorem ii {K : PySem.W.Frag} {x y : V} {H : Hp} {Q : L2.VK} {C : Int → Int → Prop} {g : Int → Int → D} {gv : Int → Int → V} {r : R2} (hg : ∀ i j H m, Rep K H m (g i j) (gv i j)) (hr : ∀ d e S R, r d e S R → ∃ i j, d = .int i ∧ e = .int j ∧ C i j ∧ R (g i j) S) (h : r2Of K r x y H Q) : L2.rI C gv x y H Q := by
  obtain ⟨m, S, d, e, R, s, rx, ry, h, k⟩ := h
  obtain ⟨i, j, rfl, rfl, hc, q⟩ := hr d e S R h
  exact ⟨i, j, rx, ry, hc, k _ _ H S m (Ext.refl _ _) s (hg i j H m) q⟩
theorem o_mul : OpR X (binaryOp .Mult) (r2Of X.K rMul) := r2I ((op_mulAny (X := X)).or L2.op_rep) fun x y H Q ⟨m, S, d, e, R, s, rx, ry, h, k⟩ => by
  cases d with
  | int i => cases e with
    | int j => exact .inl ⟨i, j, rx, ry, CMul_or h.1, k _ (.int (i * j)) H S m (Ext.refl _ _) s rfl h.2⟩
    | _ => exact (show False from h).elim
  | ref n => cases e with
    | int j =>
      obtain ⟨xs, e1, ⟨h1, h2⟩, hz, q⟩ := isLst_iff.mp h
      obtain ⟨a, vs, g1, g2, g3⟩ := s.lst e1
      obtain ⟨a', q1, rfl⟩ := rx
      rw [g1] at q1
      cases q1
      exact .inr ⟨a, j, vs, rfl, ry, g2, h1, h2, by rw [g3.len, ← szL']; exact hz, k.lst s (g3.rep _) q⟩
    | _ => exact (show False from h).elim
  | _ => exact (show False from h).elim
theorem int_of {r : R2} {C : Int → Int → Prop} {g : Int → Int → D} {d e : D} {S : Sto} {R : D → Sto → Prop} (h : r d e S R) (h1 : ∀ i j, r (.int i) (.int j) S R → C i j ∧ R (g i j) S) (h2 : ∀ d e, r d e S R → ∃ i j, d = .int i ∧ e = .int j) : ∃ i j, d = .int i ∧ e = .int j ∧ C i j ∧ R (g i j) S := by
  obtain ⟨i, j, rfl, rfl⟩ := h2 d e h
  exact ⟨i, j, rfl, rfl, h1 i j h⟩
theorem only_ii {r : R2} {S : Sto} {R : D → Sto → Prop} (h0 : ∀ d e, (∀ i j, ¬ (d = .int i ∧ e = .int j)) → ¬ r d e S R) : ∀ d e, r d e S R → ∃ i j, d = .int i ∧ e = .int j := fun d e h => by
  cases d with
  | int i => cases e with
    | int j => exact ⟨i, j, rfl, rfl⟩
    | _ => exact absurd h (h0 _ _ fun _ _ z => nomatch z.2)
  | _ => exact absurd h (h0 _ _ fun _ _ z => nomatch z.1)
theorem i_mul : OpR X (inplaceOp .Mult) (r2Of X.K rMul') := r2I (iop_mulAny (X := X)) fun x y H Q h => ii (g := fun i j => .int (i * j)) (fun _ _ _ _ => rfl) (fun d e S R h => by
  cases d with
  | int i => cases e with
    | int j => exact ⟨i, j, rfl, rfl, CMul_or h.1, h.2⟩
    | _ => exact (show False from h).elim
  | _ => exact (show False from h).elim) h
theorem div_ok {j : Int} (h : DivOk j) (i : Int) : Builtin.divisionGoesByPylong i j = false := by
  refine PyProof.noPylong_of_log2 ?_
  exact PySem.Flt.log2_lt_of (by decide) h.2
theorem op_divAny : OpR X (binaryOp .FloorDiv) (L2.rI (fun _ j => DivOk j) fun i j => .int (i.fdiv j)) := L2.opI fun i j _ _ _ _ _ hc q => PyProof.Rows.floordiv_int hc.1 q (.inl (div_ok hc i))
theorem iop_divAny : OpR X (inplaceOp .FloorDiv) (L2.rI (fun _ j => DivOk j) fun i j => .int (i.fdiv j)) := L2.opI fun i j _ _ _ _ _ hc q => PyProof.Rows.ifloordiv_int hc.1 q (.inl (div_ok hc i))
theorem o_div : OpR X (binaryOp .FloorDiv) (r2Of X.K rDiv) := r2I (op_divAny (X := X)) fun x y H Q h => ii (g := fun i j => .int (i.fdiv j)) (fun _ _ _ _ => rfl) (fun d e S R h => by
  cases d with
  | int i => cases e with
    | int j => exact ⟨i, j, rfl, rfl, h.1, h.2⟩
    | _ => exact (show False from h).elim
  | _ => exact (show False from h).elim) h
theorem i_div : OpR X (inplaceOp .FloorDiv) (r2Of X.K rDiv) := r2I (iop_divAny (X := X)) fun x y H Q h => ii (g := fun i j => .int (i.fdiv j)) (fun _ _ _ _ => rfl) (fun d e S R h => by
  cases d with
  | int i => cases e with
    | int j => exact ⟨i, j, rfl, rfl, h.1, h.2⟩
    | _ => exact (show False from h).elim
  | _ => exact (show False from h).elim) h
theorem o_mod : OpR X (binaryOp .Mod) (r2Of X.K rMod) := r2I (L2.op_modN (X := X)) fun x y H Q h => ii (g := fun i j => .int (i.fmod j)) (fun _ _ _ _ => rfl) (fun d e S R h => by
  cases d with
  | int i => cases e with
    | int j => exact ⟨i, j, rfl, rfl, h.1, h.2⟩
    | _ => exact (show False from h).elim
  | _ => exact (show False from h).elim) h
theorem o_pow : OpR X (binaryOp .Pow) (r2Of X.K rPow) := r2I (L2.op_pow (X := X)) fun x y H Q h => ii (g := fun i j => .int (i ^ j.toNat)) (fun _ _ _ _ => rfl) (fun d e S R h => by
  cases d with
  | int i => cases e with
    | int j => exact ⟨i, j, rfl, rfl, h.1, h.2⟩
    | _ => exact (show False from h).elim
  | _ => exact (show False from h).elim) h
theorem u_neg : UnR X (unaryOp .USub) (r1Of X.K rNeg) := r1I L2.un_neg fun x H Q ⟨m, S, d, R, s, rx, h, k⟩ => by
  cases d with
  | int i => exact ⟨i, rx, k _ (.int (-i)) H S m (Ext.refl _ _) s rfl h⟩
  | _ => exact (show False from h).elim
theorem cmp_of {f : Value → Value → Sem Value} {g : Int → Int → Bool} (h : OpR X f (L2.rI0 fun i j => .bl (g i j))) : OpR X f (r2Of X.K (rCmp g)) := r2I h fun x y H Q ⟨m, S, d, e, R, s, rx, ry, h, k⟩ => by
  cases d with
  | int i => cases e with
    | int j => exact ⟨i, j, rx, ry, k _ (.bl (g i j)) H S m (Ext.refl _ _) s rfl h⟩
    | _ => exact (show False from h).elim
  | _ => exact (show False from h).elim
theorem c_lt : OpR X (compareOp .Lt) (r2Of X.K rLt) := cmp_of L2.op_lt
theorem c_le : OpR X (compareOp .LtE) (r2Of X.K rLe) := cmp_of L2.op_le
theorem c_gt : OpR X (compareOp .Gt) (r2Of X.K rGt) := cmp_of L2.op_gt
theorem c_ge : OpR X (compareOp .GtE) (r2Of X.K rGe) := cmp_of L2.op_ge
/-! equality of plain data -/
mutual
theorem toPy_dp {K : PySem.W.Frag} {H : Hp} {m : List Addr} : ∀ (d : D) (v : V), flat d = true → Rep K H m d v → L2.Dp K H v (toPy d)
  | .non, v, _, h => by rw [show v = .non from h]; exact .non
  | .bl b, v, _, h => by rw [show v = .bl b from h]; exact .bl b
  | .int b, v, _, h => by rw [show v = .int b from h]; exact .int b
  | .str b, v, _, h => by rw [show v = .str b from h]; exact .str b
  | .tup ds, v, f, ⟨a, vs, hv, hT, r⟩ => by rw [hv]; exact .tup hT (toPys_dp ds vs f r)
  | .rol _, _, f, _ => by cases (show false = true from f)
  | .ref _, _, f, _ => by cases (show false = true from f)
  | .ty _, _, f, _ => by cases (show false = true from f)
theorem toPys_dp {K : PySem.W.Frag} {H : Hp} {m : List Addr} : ∀ (ds : List D) (vs : List V), flats ds = true → Reps K H m ds vs → L2.DpAll K H vs (toPys ds)
  | [], vs, _, h => by rw [show vs = [] from h]; exact .nil
  | d :: ds, vs, f, ⟨v, r, hv, h1, h2⟩ => by
    rw [hv]
    have f := Bool.and_eq_true_iff.mp (show (flat d && flats ds) = true from f)
    exact .cons (toPy_dp d v f.1 h1) (toPys_dp ds r f.2 h2)
end
theorem strOk_of {K : PySem.W.Frag} : True := trivial
mutual
theorem eqv_eq : ∀ (d e : D), flat d = true → flat e = true → PyData.eqv (toPy d) (toPy e) = eqD d e
  | .non, .non, _, _ => rfl
  | .non, .bl _, _, _ => rfl
  | .non, .int _, _, _ => rfl
  | .non, .str _, _, _ => rfl
  | .non, .tup _, _, _ => rfl
  | .bl _, .non, _, _ => rfl
  | .bl _, .bl _, _, _ => rfl
  | .bl _, .int _, _, _ => rfl
  | .bl _, .str _, _, _ => rfl
  | .bl _, .tup _, _, _ => rfl
  | .int _, .non, _, _ => rfl
  | .int _, .bl _, _, _ => rfl
  | .int i, .int j, _, _ => by
    show (i == j) = decide (i = j)
    rw [Bool.beq_eq_decide_eq]
  | .int _, .str _, _, _ => rfl
  | .int _, .tup _, _, _ => rfl
  | .str _, .non, _, _ => rfl
  | .str _, .bl _, _, _ => rfl
  | .str _, .int _, _, _ => rfl
  | .str i, .str j, _, _ => by
    show (i == j) = decide (i = j)
    rw [Bool.beq_eq_decide_eq]
  | .str _, .tup _, _, _ => rfl
  | .tup _, .non, _, _ => rfl
  | .tup _, .bl _, _, _ => rfl
  | .tup _, .int _, _, _ => rfl
  | .tup _, .str _, _, _ => rfl
  | .tup xs, .tup ys, f, g => eqvs_eq xs ys f g
  | .rol _, _, f, _ => by cases (show false = true from f)
  | .ref _, _, f, _ => by cases (show false = true from f)
  | .ty _, _, f, _ => by cases (show false = true from f)
  | _, .rol _, _, f => by cases (show false = true from f)
  | _, .ref _, _, f => by cases (show false = true from f)
  | _, .ty _, _, f => by cases (show false = true from f)
theorem eqvs_eq : ∀ (ds es : List D), flats ds = true → flats es = true → PyData.eqvAll (toPys ds) (toPys es) = eqDs ds es
  | [], [], _, _ => rfl
  | [], _ :: _, _, _ => rfl
  | _ :: _, [], _, _ => rfl
  | d :: ds, e :: es, f, g => by
    have f := Bool.and_eq_true_iff.mp (show (flat d && flats ds) = true from f)
    have g := Bool.and_eq_true_iff.mp (show (flat e && flats es) = true from g)
    show (PyData.eqv (toPy d) (toPy e) && PyData.eqvAll (toPys ds) (toPys es)) = (eqD d e && eqDs ds es)
    rw [eqv_eq d e f.1 g.1, eqvs_eq ds es f.2 g.2]
end
mutual
theorem deep_eq : ∀ d : D, PyData.depth (toPy d) = deep d
  | .non => rfl
  | .bl _ => rfl
  | .int _ => rfl
  | .str _ => rfl
  | .tup ds => by
    show PyData.depthAll (toPys ds) + 1 = deeps ds + 1
    rw [deeps_eq ds]
  | .rol _ => rfl
  | .ref _ => rfl
  | .ty _ => rfl
theorem deeps_eq : ∀ ds : List D, PyData.depthAll (toPys ds) = deeps ds
  | [] => rfl
  | d :: ds => by
    show max (PyData.depth (toPy d)) (PyData.depthAll (toPys ds)) = max (deep d) (deeps ds)
    rw [deep_eq d, deeps_eq ds]
end

end
end DL
set_option Elab.async false
set_option linter.all false
set_option maxRecDepth 100000
set_option maxHeartbeats 4000000
/-! DL6: comparisons of data, subscripts, slices, built-ins, methods, stores. -/
namespace DL
open PySem PySem.Spec
open L2 (V Hp HO St TE TT TA TS TG TI TO PE PT PW PA PS PSs PG PI PO Cx Inv RelV Vals SqL SqT Rd upd upd_same upd_ne ne_of ne_of_none OpR UnR CallR MtR IxR SlR It thn)
section
variable {X : Cx}
mutual
theorem lay_of : ∀ d : D, flat d = true → PyData.canLay0 (toPy d) = true
  | .non, _ => rfl
  | .bl _, _ => rfl
  | .int _, _ => rfl
  | .str x, h => h
  | .tup ds, h => lays_of ds h
  | .rol _, h => by cases (show false = true from h)
  | .ref _, h => by cases (show false = true from h)
  | .ty _, h => by cases (show false = true from h)
theorem lays_of : ∀ ds : List D, flats ds = true → PyData.canLayAll0 (toPys ds) = true
  | [], _ => rfl
  | d :: ds, h => by
    have h := Bool.and_eq_true_iff.mp (show (flat d && flats ds) = true from h)
    show (PyData.canLay0 (toPy d) && PyData.canLayAll0 (toPys ds)) = true
    rw [lay_of d h.1, lays_of ds h.2]
    rfl
end
theorem shaped_of {d : D} (h : flat d = true) (h2 : deep d ≤ 64) : SeqAt.shaped (toPy d) = true := by
  unfold SeqAt.shaped
  rw [lay_of d h, deep_eq, Bool.true_and]
  exact decide_eq_true h2
theorem shapeds_of {ds : List D} (h : flats ds = true) (h2 : deeps ds ≤ 63) : SeqAt.shaped (.list (toPys ds)) = true := by
  unfold SeqAt.shaped
  have e : PyData.canLay0 (.list (toPys ds)) = true := lays_of ds h
  rw [e, Bool.true_and]
  refine decide_eq_true ?_
  show PyData.depthAll (toPys ds) + 1 ≤ 64
  rw [deeps_eq]
  omega
theorem c_eq {kk : Nat} (hr : L2.Room kk X.A) : OpR X (compareOp .Eq) (r2Of X.K rEq) := r2I (L2.op_eqD hr.units) fun x y H Q ⟨m, S, d, e, R, s, rx, ry, ⟨⟨f1, f2, g1, g2⟩, q⟩, k⟩ =>
  ⟨toPy d, toPy e, toPy_dp d x f1 rx, toPy_dp e y f2 ry, shaped_of f1 g1, shaped_of f2 g2, by rw [eqv_eq d e f1 f2]; exact k _ (.bl (eqD d e)) H S m (Ext.refl _ _) s rfl q⟩
theorem c_ne {kk : Nat} (hr : L2.Room kk X.A) : OpR X (compareOp .NotEq) (r2Of X.K rNe) := r2I (L2.op_neD hr.units) fun x y H Q ⟨m, S, d, e, R, s, rx, ry, ⟨⟨f1, f2, g1, g2⟩, q⟩, k⟩ =>
  ⟨toPy d, toPy e, toPy_dp d x f1 rx, toPy_dp e y f2 ry, shaped_of f1 g1, shaped_of f2 g2, by rw [eqv_eq d e f1 f2]; exact k _ (.bl (!eqD d e)) H S m (Ext.refl _ _) s rfl q⟩
theorem isNon_eq {K : PySem.W.Frag} {H : Hp} {m : List Addr} {d : D} {x : V} (r : Rep K H m d x) : isNon d = decide (x = .non) := by
  cases d with
  | non => rw [show x = .non from r]; rfl
  | bl b => rw [show x = .bl b from r]; rfl
  | int b => rw [show x = .int b from r]; rfl
  | str b => rw [show x = .str b from r]; rfl
  | ty b => rw [show x = .ty b from r]; rfl
  | tup b => obtain ⟨a, vs, rfl, _⟩ := r; rfl
  | rol b => obtain ⟨a, vs, rfl, _⟩ := r; rfl
  | ref b => obtain ⟨a, _, rfl⟩ := r; rfl
theorem c_is : OpR X (compareOp .Is) (r2Of X.K rIs) := r2I ((L2.op_isN (X := X)).or L2.op_is_bl) fun x y H Q ⟨m, S, d, e, R, s, rx, ry, h, k⟩ => by
  cases e with
  | non =>
    have h : R (.bl (isNon d)) S := by cases d <;> exact h
    exact .inl ⟨ry, by rw [← isNon_eq rx]; exact k _ (.bl (isNon d)) H S m (Ext.refl _ _) s rfl h⟩
  | bl b => cases d with
    | bl a => exact .inr ⟨a, b, rx, ry, k _ (.bl (decide (a = b))) H S m (Ext.refl _ _) s rfl h⟩
    | _ => exact (show False from h).elim
  | _ => cases d <;> exact (show False from h).elim
theorem c_isnot : OpR X (compareOp .IsNot) (r2Of X.K rIsNot) := r2I ((L2.op_notN (X := X)).or L2.op_isnot_bl) fun x y H Q ⟨m, S, d, e, R, s, rx, ry, h, k⟩ => by
  cases e with
  | non =>
    have h : R (.bl (!isNon d)) S := by cases d <;> exact h
    exact .inl ⟨ry, by rw [← isNon_eq rx]; exact k _ (.bl (!isNon d)) H S m (Ext.refl _ _) s rfl h⟩
  | bl b => cases d with
    | bl a => exact .inr ⟨a, b, rx, ry, k _ (.bl (!decide (a = b))) H S m (Ext.refl _ _) s rfl h⟩
    | _ => exact (show False from h).elim
  | _ => cases d <;> exact (show False from h).elim
/-! in -/
theorem flat0_V {K : PySem.W.Frag} {H : Hp} {m : List Addr} {d : D} {x : V} (r : Rep K H m d x) (h : flat0 d = true) : L2.flatV x = true := by
  cases d with
  | non => rw [show x = .non from r]; rfl
  | bl b => rw [show x = .bl b from r]; rfl
  | int b => rw [show x = .int b from r]; rfl
  | str b => rw [show x = .str b from r]; rfl
  | _ => cases (show false = true from h)
theorem eqV_eq {K : PySem.W.Frag} {H : Hp} {m : List Addr} {d e : D} {x y : V} (r : Rep K H m d x) (r' : Rep K H m e y) (h : flat0 d = true) (h' : flat0 e = true) : L2.eqV x y = eqD d e := by
  cases d with
  | non => cases e with
    | non => rw [show x = .non from r, show y = .non from r']; rfl
    | bl b => rw [show x = .non from r, show y = .bl b from r']; rfl
    | int b => rw [show x = .non from r, show y = .int b from r']; rfl
    | str b => rw [show x = .non from r, show y = .str b from r']; rfl
    | _ => cases (show false = true from h')
  | bl a => cases e with
    | non => rw [show x = .bl a from r, show y = .non from r']; rfl
    | bl b => rw [show x = .bl a from r, show y = .bl b from r']; rfl
    | int b => rw [show x = .bl a from r, show y = .int b from r']; rfl
    | str b => rw [show x = .bl a from r, show y = .str b from r']; rfl
    | _ => cases (show false = true from h')
  | int a => cases e with
    | non => rw [show x = .int a from r, show y = .non from r']; rfl
    | bl b => rw [show x = .int a from r, show y = .bl b from r']; rfl
    | int b =>
      rw [show x = .int a from r, show y = .int b from r']
      show (a == b) = decide (a = b)
      rw [Bool.beq_eq_decide_eq]
    | str b => rw [show x = .int a from r, show y = .str b from r']; rfl
    | _ => cases (show false = true from h')
  | str a => cases e with
    | non => rw [show x = .str a from r, show y = .non from r']; rfl
    | bl b => rw [show x = .str a from r, show y = .bl b from r']; rfl
    | int b => rw [show x = .str a from r, show y = .int b from r']; rfl
    | str b =>
      rw [show x = .str a from r, show y = .str b from r']
      show (a == b) = decide (a = b)
      rw [Bool.beq_eq_decide_eq]
    | _ => cases (show false = true from h')
  | _ => cases (show false = true from h)
theorem inV_eq {K : PySem.W.Frag} {H : Hp} {m : List Addr} {d : D} {x : V} (r : Rep K H m d x) (h : flat0 d = true) : ∀ (ds : List D) (vs : List V), Reps K H m ds vs → ds.all flat0 = true → L2.inV x vs = (ds.any fun y => eqD y d) ∧ vs.all L2.flatV = true
  | [], vs, rs, _ => by rw [show vs = [] from rs]; exact ⟨rfl, rfl⟩
  | e :: ds, vs, ⟨v, us, hv, r1, r2⟩, f => by
    rw [hv]
    have f := Bool.and_eq_true_iff.mp (show (flat0 e && ds.all flat0) = true from f)
    obtain ⟨h1, h2⟩ := inV_eq r h ds us r2 f.2
    refine ⟨?_, ?_⟩
    · show (L2.eqV v x || us.any fun y => L2.eqV y x) = (eqD e d || ds.any fun y => eqD y d)
      rw [eqV_eq r1 r f.1 h]
      exact congrArg (eqD e d || ·) h1
    · show (L2.flatV v && us.all L2.flatV) = true
      rw [flat0_V r1 f.1, h2]
      rfl
theorem any_py {d : D} (h : flat d = true) : ∀ ds : List D, flats ds = true → ((toPys ds).any fun z => PyData.eqv z (toPy d)) = ds.any fun y => eqD y d
  | [], _ => rfl
  | e :: ds, f => by
    have f := Bool.and_eq_true_iff.mp (show (flat e && flats ds) = true from f)
    show (PyData.eqv (toPy e) (toPy d) || (toPys ds).any fun z => PyData.eqv z (toPy d)) = (eqD e d || ds.any fun y => eqD y d)
    rw [eqv_eq e d f.1 h, any_py h ds f.2]
theorem room65 {kk : Nat} (hr : L2.Room kk X.A) : X.A.units + 65 < cLine := by
  have := hr.un
  omega
theorem c_in {kk : Nat} (hr : L2.Room kk X.A) : OpR X (compareOp .In) (r2Of X.K (rIn false)) := r2I (L2.op_in_seq.or (L2.op_inD (room65 hr))) fun x y H Q ⟨m, S, d, e, R, s, rx, ry, h, k⟩ => by
  cases e with
  | tup ys =>
    have h : (flat0 d = true ∧ ys.all flat0 = true) ∧ R (.bl (ys.any fun y => eqD y d)) S := by cases d <;> exact h
    obtain ⟨⟨f, g⟩, q⟩ := h
    obtain ⟨a, vs, rfl, hT, rs⟩ := ry
    obtain ⟨h1, h2⟩ := inV_eq rx f ys vs rs g
    refine .inl ⟨a, vs, rfl, .inr hT, flat0_V rx f, h2, ?_⟩
    show Q (.bl (L2.inV x vs)) H
    rw [h1]
    exact k _ (.bl (ys.any fun y => eqD y d)) H S m (Ext.refl _ _) s rfl q
  | ref n =>
    have h : isLst S n fun ys => (flat d = true ∧ flats ys = true ∧ deep d ≤ 63 ∧ deeps ys ≤ 63) ∧ R (.bl (ys.any fun y => eqD y d)) S := by cases d <;> exact h
    obtain ⟨ys, e1, ⟨f1, f2, g1, g2⟩, q⟩ := isLst_iff.mp h
    obtain ⟨a, vs, h1, h2, h3⟩ := s.lst e1
    obtain ⟨b, q1, rfl⟩ := ry
    rw [h1] at q1
    cases q1
    exact .inr ⟨toPy d, toPys ys, toPy_dp d x f1 rx, .lst (SqL.of h2) (toPys_dp ys vs f2 h3), shaped_of f1 (by omega), shapeds_of f2 g2, by rw [any_py f1 ys f2]; exact k _ (.bl (ys.any fun y => eqD y d)) H S m (Ext.refl _ _) s rfl q⟩
  | _ => cases d <;> exact (show False from h).elim
theorem c_notin {kk : Nat} (hr : L2.Room kk X.A) : OpR X (compareOp .NotIn) (r2Of X.K (rIn true)) := r2I (L2.op_notIn_seq.or (L2.op_notInD (room65 hr))) fun x y H Q ⟨m, S, d, e, R, s, rx, ry, h, k⟩ => by
  cases e with
  | tup ys =>
    have h : (flat0 d = true ∧ ys.all flat0 = true) ∧ R (.bl (!ys.any fun y => eqD y d)) S := by cases d <;> exact h
    obtain ⟨⟨f, g⟩, q⟩ := h
    obtain ⟨a, vs, rfl, hT, rs⟩ := ry
    obtain ⟨h1, h2⟩ := inV_eq rx f ys vs rs g
    refine .inl ⟨a, vs, rfl, .inr hT, flat0_V rx f, h2, ?_⟩
    show Q (.bl (!L2.inV x vs)) H
    rw [h1]
    exact k _ (.bl (!ys.any fun y => eqD y d)) H S m (Ext.refl _ _) s rfl q
  | ref n =>
    have h : isLst S n fun ys => (flat d = true ∧ flats ys = true ∧ deep d ≤ 63 ∧ deeps ys ≤ 63) ∧ R (.bl (!ys.any fun y => eqD y d)) S := by cases d <;> exact h
    obtain ⟨ys, e1, ⟨f1, f2, g1, g2⟩, q⟩ := isLst_iff.mp h
    obtain ⟨a, vs, h1, h2, h3⟩ := s.lst e1
    obtain ⟨b, q1, rfl⟩ := ry
    rw [h1] at q1
    cases q1
    exact .inr ⟨toPy d, toPys ys, toPy_dp d x f1 rx, .lst (SqL.of h2) (toPys_dp ys vs f2 h3), shaped_of f1 (by omega), shapeds_of f2 g2, by rw [any_py f1 ys f2]; exact k _ (.bl (!ys.any fun y => eqD y d)) H S m (Ext.refl _ _) s rfl q⟩
  | _ => cases d <;> exact (show False from h).elim
/-! subscripts -/
theorem atZ_rep {K : PySem.W.Frag} {H : Hp} {m : List Addr} {ds : List D} {vs : List V} (r : Reps K H m ds vs) {i : Int} {d : D} (h : atZ ds i = some d) : ∃ v, L2.atI vs i = some v ∧ Rep K H m d v := by
  unfold atZ at h
  unfold L2.atI
  rw [r.len]
  cases e : ixZ ds.length i with
  | none => rw [e] at h; cases h
  | some j =>
    rw [e] at h
    obtain ⟨v, h1, h2⟩ := r.get j d h
    have e' : L2.ixN ds.length i = some j := e
    exact ⟨v, by rw [e']; exact h1, h2⟩
theorem i_ix : IxR X (r2Of X.K rIx) := rix L2.ix_seq fun x y H Q ⟨m, S, d, e, R, s, rx, ry, h, k⟩ => by
  cases d with
  | tup xs => cases e with
    | int i =>
      obtain ⟨d, hd, q⟩ := h
      obtain ⟨a, vs, rfl, hT, rs⟩ := rx
      obtain ⟨v, h1, h2⟩ := atZ_rep rs hd
      exact .inr (.inl ⟨a, vs, i, v, rfl, ry, hT, h1, k _ _ H S m (Ext.refl _ _) s h2 q⟩)
    | _ => exact (show False from h).elim
  | rol xs => cases e with
    | int i =>
      obtain ⟨d, hd, q⟩ := h
      obtain ⟨a, vs, rfl, hT, rs⟩ := rx
      obtain ⟨v, h1, h2⟩ := atZ_rep rs hd
      exact .inl ⟨a, vs, i, v, rfl, ry, hT.seq, h1, k _ _ H S m (Ext.refl _ _) s h2 q⟩
    | _ => exact (show False from h).elim
  | ref n => cases e with
    | int i =>
      obtain ⟨xs, e1, d, hd, q⟩ := isLst_iff.mp h
      obtain ⟨a, vs, h1, h2, h3⟩ := s.lst e1
      obtain ⟨b, q1, rfl⟩ := rx
      rw [h1] at q1
      cases q1
      obtain ⟨v, g1, g2⟩ := atZ_rep h3 hd
      exact .inl ⟨a, vs, i, v, rfl, ry, SqL.of h2, g1, k _ _ H S m (Ext.refl _ _) s g2 q⟩
    | _ => exact (show False from h).elim
  | str z => cases e with
    | int i =>
      obtain ⟨hz, c, hc, q⟩ := h
      exact .inr (.inr ⟨z, i, c, rx, ry, by rw [← szL']; exact hz, hc, k _ (.str ⟨#[c]⟩) H S m (Ext.refl _ _) s rfl q⟩)
    | _ => exact (show False from h).elim
  | _ => cases e <;> exact (show False from h).elim
theorem sIx_eq (n d : Nat) (o : Option Int) : sIx n d o = HT.sIx n d o := by
  cases o with
  | none => rfl
  | some v =>
    show (if v < 0 then (v + n).toNat else min v.toNat n) = _
    rfl

theorem cut_rep {K : PySem.W.Frag} {H : Hp} {m : List Addr} {ds : List D} {vs : List V} (r : Reps K H m ds vs) (lo hi : Option Int) : Reps K H m (cut ds lo hi) (L2.cutV vs lo hi) := by
  unfold cut L2.cutV
  rw [r.len, sIx_eq, sIx_eq]
  exact (r.drop _).take _
theorem cut_full {K : PySem.W.Frag} {H : Hp} {m : List Addr} {ds : List D} {vs : List V} (r : Reps K H m ds vs) (lo hi : Option Int) (h : HT.sIx vs.length 0 lo = 0 ∧ HT.sIx vs.length vs.length hi = vs.length) : cut ds lo hi = ds := by
  unfold cut
  rw [sIx_eq, sIx_eq, ← r.len, h.1, h.2, List.drop_zero, Nat.sub_zero, r.len, List.take_length]
theorem s_cut : SlR X (rsOf X.K rSl) := rsl ((L2.sl_tupA (X := X)).or L2.sl_list) fun x l u H Q ⟨m, S, d, R, s, rx, h, k⟩ => by
  cases d with
  | tup xs =>
    obtain ⟨a, vs, rfl, hT, rs⟩ := rx
    refine .inl ⟨a, vs, rfl, hT, fun hf => ?_, fun _ => k.tup s (cut_rep rs l u) h⟩
    have h : R (.tup (cut xs l u)) S := h
    rw [cut_full rs l u hf] at h
    exact k _ (.tup xs) H S m (Ext.refl _ _) s ⟨a, vs, rfl, hT, rs⟩ h
  | ref n =>
    obtain ⟨xs, e1, q⟩ := isLst_iff.mp h
    obtain ⟨a, vs, h1, h2, h3⟩ := s.lst e1
    obtain ⟨b, q1, rfl⟩ := rx
    rw [h1] at q1
    cases q1
    exact .inr ⟨a, vs, rfl, SqL.of h2, k.lst s (cut_rep h3 l u) q⟩
  | _ => exact (show False from h).elim

/-! ### built-ins -/
theorem reps1 {K : PySem.W.Frag} {H : Hp} {m : List Addr} {d : D} {vs : List V} (r : Reps K H m [d] vs) : ∃ v, vs = [v] ∧ Rep K H m d v := by
  obtain ⟨v, us, hv, h1, h2⟩ := r
  exact ⟨v, by rw [hv, show us = [] from h2], h1⟩
theorem reps2 {K : PySem.W.Frag} {H : Hp} {m : List Addr} {d e : D} {vs : List V} (r : Reps K H m [d, e] vs) : ∃ v u, vs = [v, u] ∧ Rep K H m d v ∧ Rep K H m e u := by
  obtain ⟨v, us, hv, h1, h2⟩ := r
  obtain ⟨u, rfl, h3⟩ := reps1 h2
  exact ⟨v, u, hv, h1, h3⟩
theorem b_len : CallR X (.builtin "len") (rlOf X.K rLen) := rlI L2.call_len fun xs H Q ⟨m, S, ds, R, s, rx, h, k⟩ => by
  match ds, h, rx with
  | [.tup ys], h, rx =>
    obtain ⟨v, rfl, a, vs, rfl, hT, rs⟩ := reps1 rx
    exact ⟨_, vs.length, rfl, .inr ⟨vs, hT, rfl⟩, by rw [rs.len]; exact k _ (.int ys.length) H S m (Ext.refl _ _) s rfl h⟩
  | [.rol ys], h, rx =>
    obtain ⟨v, rfl, a, vs, rfl, hT, rs⟩ := reps1 rx
    exact ⟨_, vs.length, rfl, .inl ⟨vs, hT.seq, rfl⟩, by rw [rs.len]; exact k _ (.int ys.length) H S m (Ext.refl _ _) s rfl h⟩
  | [.str z], h, rx =>
    obtain ⟨v, rfl, hv⟩ := reps1 rx
    have hv : v = .str z := hv
    subst hv
    exact ⟨_, z.length, rfl, ⟨by rw [← szL']; exact h.1, rfl⟩, k _ (.int z.length) H S m (Ext.refl _ _) s rfl h.2⟩
  | [.ref n], h, rx =>
    obtain ⟨v, rfl, b, q1, rfl⟩ := reps1 rx
    obtain ⟨ys, e1, q⟩ := isLst_iff.mp h
    obtain ⟨a, vs, h1, h2, h3⟩ := s.lst e1
    rw [h1] at q1
    cases q1
    exact ⟨_, vs.length, rfl, .inl ⟨vs, SqL.of h2, rfl⟩, by rw [h3.len]; exact k _ (.int ys.length) H S m (Ext.refl _ _) s rfl q⟩
theorem b_abs : CallR X (.builtin "abs") (rlOf X.K rAbs) := rlI L2.call_abs fun xs H Q ⟨m, S, ds, R, s, rx, h, k⟩ => by
  match ds, h, rx with
  | [.int i], h, rx =>
    obtain ⟨v, rfl, hv⟩ := reps1 rx
    have hv : v = .int i := hv
    subst hv
    refine ⟨i, rfl, ?_⟩
    have e : (if i < 0 then -i else i) = (i.natAbs : Int) := by split <;> omega
    rw [e]
    exact k _ (.int i.natAbs) H S m (Ext.refl _ _) s rfl h
theorem b_int : CallR X (.type "int") (rlOf X.K rInt) := rlI L2.call_int1 fun xs H Q ⟨m, S, ds, R, s, rx, h, k⟩ => by
  match ds, h, rx with
  | [.int i], h, rx =>
    obtain ⟨v, rfl, hv⟩ := reps1 rx
    have hv : v = .int i := hv
    subst hv
    exact .inl ⟨i, rfl, k _ (.int i) H S m (Ext.refl _ _) s rfl h⟩
  | [.bl i], h, rx =>
    obtain ⟨v, rfl, hv⟩ := reps1 rx
    have hv : v = .bl i := hv
    subst hv
    exact .inr ⟨i, rfl, k _ (.int (if i = true then 1 else 0)) H S m (Ext.refl _ _) s rfl h⟩
theorem b_max2 (hc : X.calm = true) : CallR X (.builtin "max") (rlOf X.K rMax2) := rlI (L2.call_max2 hc) fun xs H Q ⟨m, S, ds, R, s, rx, h, k⟩ => by
  match ds, h, rx with
  | [.int i, .int j], h, rx =>
    obtain ⟨v, u, rfl, hv, hu⟩ := reps2 rx
    have hv : v = .int i := hv
    have hu : u = .int j := hu
    subst hv hu
    refine ⟨i, j, rfl, ?_⟩
    have e : (if j > i then j else i) = max i j := by split <;> omega
    rw [e]
    exact k _ (.int (max i j)) H S m (Ext.refl _ _) s rfl h
theorem b_min2 (hc : X.calm = true) : CallR X (.builtin "min") (rlOf X.K rMin2) := rlI (L2.call_min2 hc) fun xs H Q ⟨m, S, ds, R, s, rx, h, k⟩ => by
  match ds, h, rx with
  | [.int i, .int j], h, rx =>
    obtain ⟨v, u, rfl, hv, hu⟩ := reps2 rx
    have hv : v = .int i := hv
    have hu : u = .int j := hu
    subst hv hu
    refine ⟨i, j, rfl, ?_⟩
    have e : (if j < i then j else i) = min i j := by split <;> omega
    rw [e]
    exact k _ (.int (min i j)) H S m (Ext.refl _ _) s rfl h
theorem b_list : CallR X (.type "list") (rlOf X.K rList) := rlI L2.call_list_of fun xs H Q ⟨m, S, ds, R, s, rx, h, k⟩ => by
  match ds, h, rx with
  | [.tup ys], h, rx =>
    obtain ⟨v, rfl, a, vs, rfl, hT, rs⟩ := reps1 rx
    exact ⟨a, vs, rfl, .inr hT, k.lst s rs h⟩
  | [.rol ys], h, rx =>
    obtain ⟨v, rfl, a, vs, rfl, hT, rs⟩ := reps1 rx
    exact ⟨a, vs, rfl, .inl hT.seq, k.lst s rs h⟩
  | [.ref n], h, rx =>
    obtain ⟨v, rfl, b, q1, rfl⟩ := reps1 rx
    obtain ⟨ys, e1, q⟩ := isLst_iff.mp h
    obtain ⟨a, vs, h1, h2, h3⟩ := s.lst e1
    rw [h1] at q1
    cases q1
    exact ⟨b, vs, rfl, .inl (SqL.of h2), k.lst s h3 q⟩
theorem b_tuple : CallR X (.type "tuple") (rlOf X.K rTuple) := rlI L2.call_tuple_of fun xs H Q ⟨m, S, ds, R, s, rx, h, k⟩ => by
  match ds, h, rx with
  | [.tup ys], h, rx =>
    obtain ⟨v, rfl, a, vs, rfl, hT, rs⟩ := reps1 rx
    exact ⟨a, vs, rfl, .inr ⟨hT, k _ (.tup ys) H S m (Ext.refl _ _) s ⟨a, vs, rfl, hT, rs⟩ h⟩⟩
  | [.rol ys], h, rx =>
    obtain ⟨v, rfl, a, vs, rfl, hT, rs⟩ := reps1 rx
    exact ⟨a, vs, rfl, .inl ⟨hT.seq, k.tup s rs h⟩⟩
  | [.ref n], h, rx =>
    obtain ⟨v, rfl, b, q1, rfl⟩ := reps1 rx
    obtain ⟨ys, e1, q⟩ := isLst_iff.mp h
    obtain ⟨a, vs, h1, h2, h3⟩ := s.lst e1
    rw [h1] at q1
    cases q1
    exact ⟨b, vs, rfl, .inl ⟨SqL.of h2, k.tup s h3 q⟩⟩
theorem b_all (hc : X.calm = true) : CallR X (.builtin "all") (rlOf X.K rAll) := rlI (L2.cr_all hc) fun xs H Q ⟨m, S, ds, R, s, rx, h, k⟩ => by
  match ds, h, rx with
  | [.ref n], h, rx =>
    obtain ⟨v, rfl, b, q1, rfl⟩ := reps1 rx
    obtain ⟨bs, e1, q⟩ := h
    obtain ⟨a, vs, h1, h2, h3⟩ := s.lst e1
    rw [h1] at q1
    cases q1
    exact ⟨b, bs, rfl, by rw [← h3.bls]; exact SqL.of h2, k _ (.bl (bs.all id)) H S m (Ext.refl _ _) s rfl q⟩
theorem b_any (hc : X.calm = true) : CallR X (.builtin "any") (rlOf X.K rAny) := rlI (L2.cr_any hc) fun xs H Q ⟨m, S, ds, R, s, rx, h, k⟩ => by
  match ds, h, rx with
  | [.ref n], h, rx =>
    obtain ⟨v, rfl, b, q1, rfl⟩ := reps1 rx
    obtain ⟨bs, e1, q⟩ := h
    obtain ⟨a, vs, h1, h2, h3⟩ := s.lst e1
    rw [h1] at q1
    cases q1
    exact ⟨b, bs, rfl, by rw [← h3.bls]; exact SqL.of h2, k _ (.bl (bs.any id)) H S m (Ext.refl _ _) s rfl q⟩
theorem b_gcd : CallR X (.builtin "math.gcd") (rlOf X.K rGcd) := rlI L2.cr_gcd fun xs H Q ⟨m, S, ds, R, s, rx, h, k⟩ => by
  match ds, h, rx with
  | [.int i, .int j], h, rx =>
    obtain ⟨v, u, rfl, hv, hu⟩ := reps2 rx
    have hv : v = .int i := hv
    have hu : u = .int j := hu
    subst hv hu
    exact ⟨i, j, rfl, k _ (.int (Nat.gcd i.natAbs j.natAbs : Nat)) H S m (Ext.refl _ _) s rfl h⟩
theorem kit5 {K : PySem.W.Frag} {a t : String} {b : Bool} (h : (["bool", "int", "str", "tuple", "list"].all fun t => decide (L2.kitB a t = some (if t = a then true else if (a, t) = ("bool", "int") then true else false))) = true) (ht : t ∈ ["bool", "int", "str", "tuple", "list"])
    (hb : b = (if t = a then true else if (a, t) = ("bool", "int") then true else false)) : PySem.W.kitOne K (.type a) (.type t) = some b := by
  refine L2.kit_ty ?_
  rw [hb]
  exact of_decide_eq_true (List.all_eq_true.mp h t ht)
theorem b_isi : CallR X (.builtin "isinstance") (rlOf X.K rIsi) := rlI L2.call_isi fun xs H Q ⟨m, S, ds, R, s, rx, h, k⟩ => by
  match ds, h, rx with
  | [d, .ty t], ⟨b, hb, q⟩, rx =>
    obtain ⟨v, u, rfl, hv, hu⟩ := reps2 rx
    have hu : u = .ty t := hu
    subst hu
    have fin : ∀ {T : String}, L2.TyX X.K H v (.type T) → PySem.W.kitOne X.K (.type T) (.type t) = some b → L2.rIsi X.K [v, .ty t] H Q := fun ty e => ⟨v, .ty t, _, _, b, rfl, .ty t, ty, e, k _ (.bl b) H S m (Ext.refl _ _) s rfl q⟩
    cases d with
    | non =>
      have hv : v = .non := hv
      subst hv
      have hb : (if t ∈ ["bool", "int", "str", "tuple", "list"] then some false else none) = some b := hb
      split at hb
      · rename_i ht
        cases hb
        refine fin (.base .non) ?_
        simp at ht
        rcases ht with rfl | rfl | rfl | rfl | rfl
        · exact kit5 (by decide +kernel) (by decide) (by decide)
        · exact kit5 (by decide +kernel) (by decide) (by decide)
        · exact kit5 (by decide +kernel) (by decide) (by decide)
        · exact kit5 (by decide +kernel) (by decide) (by decide)
        · exact kit5 (by decide +kernel) (by decide) (by decide)
      · cases hb
    | bl c =>
      have hv : v = .bl c := hv
      subst hv
      have hb : (if t ∈ ["bool", "int"] then some true else if t ∈ ["str", "tuple", "list"] then some false else none) = some b := hb
      refine fin (.base (.bl c)) ?_
      split at hb
      · rename_i ht
        cases hb
        simp at ht
        rcases ht with rfl | rfl
        · exact kit5 (by decide +kernel) (by decide) (by decide)
        · exact kit5 (by decide +kernel) (by decide) (by decide)
      · split at hb
        · rename_i ht
          cases hb
          simp at ht
          rcases ht with rfl | rfl | rfl
          · exact kit5 (by decide +kernel) (by decide) (by decide)
          · exact kit5 (by decide +kernel) (by decide) (by decide)
          · exact kit5 (by decide +kernel) (by decide) (by decide)
        · cases hb
    | int c =>
      have hv : v = .int c := hv
      subst hv
      have hb : (if t = "int" then some true else if t ∈ ["bool", "str", "tuple", "list"] then some false else none) = some b := hb
      refine fin (.base (.int c)) ?_
      split at hb
      · rename_i ht
        cases hb
        subst ht
        exact kit5 (by decide +kernel) (by decide) (by decide)
      · split at hb
        · rename_i ht
          cases hb
          simp at ht
          rcases ht with rfl | rfl | rfl | rfl
          · exact kit5 (by decide +kernel) (by decide) (by decide)
          · exact kit5 (by decide +kernel) (by decide) (by decide)
          · exact kit5 (by decide +kernel) (by decide) (by decide)
          · exact kit5 (by decide +kernel) (by decide) (by decide)
        · cases hb
    | str c =>
      have hv : v = .str c := hv
      subst hv
      have hb : (if t = "str" then some true else if t ∈ ["bool", "int", "tuple", "list"] then some false else none) = some b := hb
      refine fin (.base (.str c)) ?_
      split at hb
      · rename_i ht
        cases hb
        subst ht
        exact kit5 (by decide +kernel) (by decide) (by decide)
      · split at hb
        · rename_i ht
          cases hb
          simp at ht
          rcases ht with rfl | rfl | rfl | rfl
          · exact kit5 (by decide +kernel) (by decide) (by decide)
          · exact kit5 (by decide +kernel) (by decide) (by decide)
          · exact kit5 (by decide +kernel) (by decide) (by decide)
          · exact kit5 (by decide +kernel) (by decide) (by decide)
        · cases hb
    | tup c =>
      obtain ⟨a, vs, rfl, hT, rs⟩ := hv
      have hb : (if t = "tuple" then some true else if t ∈ ["bool", "int", "str", "list"] then some false else none) = some b := hb
      have ty : L2.TyX X.K H (.ref a) (.type "tuple") := by
        rcases hT with (hT | ⟨o, hT⟩) | ⟨o, its, n, h1, h2, _⟩
        · exact .base (.tup hT)
        · exact .fTuple hT
        · exact .kTuple h1 h2
      refine fin ty ?_
      split at hb
      · rename_i ht
        cases hb
        subst ht
        exact kit5 (by decide +kernel) (by decide) (by decide)
      · split at hb
        · rename_i ht
          cases hb
          simp at ht
          rcases ht with rfl | rfl | rfl | rfl
          · exact kit5 (by decide +kernel) (by decide) (by decide)
          · exact kit5 (by decide +kernel) (by decide) (by decide)
          · exact kit5 (by decide +kernel) (by decide) (by decide)
          · exact kit5 (by decide +kernel) (by decide) (by decide)
        · cases hb
    | ref n =>
      obtain ⟨a, ha, rfl⟩ := hv
      have hb : (if t = "list" then some true else if t ∈ ["bool", "int", "str", "tuple"] then some false else none) = some b := hb
      obtain ⟨vs, hl⟩ := s.mem (List.mem_of_getElem? ha)
      refine fin (.base (.lst hl)) ?_
      split at hb
      · rename_i ht
        cases hb
        subst ht
        exact kit5 (by decide +kernel) (by decide) (by decide)
      · split at hb
        · rename_i ht
          cases hb
          simp at ht
          rcases ht with rfl | rfl | rfl | rfl
          · exact kit5 (by decide +kernel) (by decide) (by decide)
          · exact kit5 (by decide +kernel) (by decide) (by decide)
          · exact kit5 (by decide +kernel) (by decide) (by decide)
          · exact kit5 (by decide +kernel) (by decide) (by decide)
        · cases hb
    | _ => cases (show (none : Option Bool) = some b from hb)
end
end DL
set_option Elab.async false
set_option linter.all false
set_option maxRecDepth 100000
set_option maxHeartbeats 8000000
/-! DL7: sums, greatest and least, sorting, sorted sets of ints, methods of lists, stores. -/
namespace L2
open PySem PySem.Spec PyProof.Rows
section
variable {P : Program} {w : World} {A : Around} {E : Value → Shared → Prop} {s : Shared}
theorem set_ints_list {l : Addr} {items : Array Value} (ns : List Int) {Q : Value → Shared → Prop} (hh : A.handled = none) (hl : s.heap.IsList l items) (hit : IntsAre items.toList ns) (hb : ns.length + 1 < scanBound)
    (h : ∀ (h' : Heap) (tk c : Nat), SetR w h' s.heap.objs.size (fun j => decide (j ∈ ns)) c → c ≤ ns.length → (∀ b o, s.heap.get? b = some o → h'.get? b = some o) → Q (.ref s.heap.objs.size) { s with heap := h', toks := tk }) :
    wpAny (model P w) A (call (.type "set") [.ref l]) Q E s := by
  have hisz : items.size = ns.length := by
    have q := IntsAre.length hit
    rw [Array.length_toList] at q
    exact q
  obtain ⟨c, tl, hmro⟩ := F.called_set.mro
  have hmade := F.called_set.made
  have hsub := F.called_set.sub
  refine wpAny_call (codeAny_of_tree ?_)
  show wpAny _ _ (callAny (.type "set") _) _ _ _
  refine wpAny_pure ⟨Code.quiet_builtin _ (by decide +kernel), codeAny_builtin F.entry_type_call ?_⟩
  rw [Around.under_plain (weight_type_call_type "set" [.ref l] []) rfl]
  have h1 := F.called_set.notType
  have h2 := F.called_set.canCreate
  have hct := F.typeCall_set_1 (.ref l)
  repeat (any_goals (first | assumption | wp_step))

  refine codeAny_mono (code_set_led1 (.ref l) (E := E) (Q₁ := fun obj s₁ => obj = .ref s.heap.objs.size ∧ s₁ = { s with heap := s.heap.push { cls := .type "set", dict := none, data := .set #[] 0 (.fresh 0 0 (!w.params.followText "set-order")) } }) ⟨rfl, rfl⟩) fun r s₁ hr => ?_
  cases r with
  | error e => exact hr
  | ok fl =>
    cases fl with
    | ret obj =>
      obtain ⟨rfl, rfl⟩ := hr
      have hS : (s.heap.push { cls := .type "set", dict := none, data := .set #[] 0 (.fresh 0 0 (!w.params.followText "set-order")) }).get? s.heap.objs.size = some { cls := .type "set", dict := none, data := .set #[] 0 (.fresh 0 0 (!w.params.followText "set-order")) } := Heap.get?_push_size _ rfl
      have hT : Shared.TypeIs { s with heap := s.heap.push { cls := .type "set", dict := none, data := .set #[] 0 (.fresh 0 0 (!w.params.followText "set-order")) } } (.ref s.heap.objs.size) "set" := ⟨_, hS, rfl⟩
      have hli := F.called_set.init.lookup
      have hbi := F.called_set.init.bind (.ref s.heap.objs.size)
      repeat (any_goals (first | assumption | wp_step))

      refine codeAny_mono (codeAny_call_builtin (R := wants (fun r s₂ => r = .none ∧ ∃ h' tk c, s₂ = { s with heap := h', toks := tk } ∧ SetR w h' s.heap.objs.size (fun j => decide (j ∈ ns)) c ∧ c ≤ ns.length ∧
          (∀ b o, s.heap.get? b = some o → h'.get? b = some o)) E) F.called_set.init.plain F.entry_set_init (check_set_init_1 hT ?_)) fun r₂ s₂ hr₂ => ?_
      · obtain ⟨ol, hol, hcl, nl, hdl⟩ := hl
        obtain ⟨ocls, odict, odata, oslots⟩ := ol
        simp only at hcl hdl
        subst hcl; subst hdl
        have hol' : (s.heap.push { cls := .type "set", dict := none, data := .set #[] 0 (.fresh 0 0 (!w.params.followText "set-order")) }).get? l = some { cls := .type "list", dict := odict, data := .seq items nl, slots := oslots } := Heap.get?_push_of_some _ hol
        have hsls := F.sub_list_set
        have hslf := F.sub_list_frozenset
        have hne : (Value.type "list" == Value.type "dict") = false := by decide
        have hl1 : (s.heap.push { cls := .type "set", dict := none, data := .set #[] 0 (.fresh 0 0 (!w.params.followText "set-order")) }).IsList l items := ⟨_, hol', rfl, nl, rfl⟩
        unfold Builtin.«set.__init__» noKeywords Builtin.Frozenset.updateFrom
        generalize hPI : pyIter = PI
        wp_walk
        subst hPI

        refine wpAny_pyIter_list hl1 ?_
        refine wpAny_bind (wpAny_runValue ?_)
        have hlS : l < s.heap.objs.size := Heap.lt_size hol
        have hh3 : A.in1.in1.in1.handled = none := by simp [hh]
        have hz1 : (s.heap.push { cls := .type "set", dict := none, data := .set #[] 0 (.fresh 0 0 (!w.params.followText "set-order")) }).objs.size = s.heap.objs.size + 1 := Heap.size_push ..
        have hneI : l ≠ (s.heap.push { cls := .type "set", dict := none, data := .set #[] 0 (.fresh 0 0 (!w.params.followText "set-order")) }).objs.size := by
          rw [Heap.size_push]; exact Nat.ne_of_lt (Nat.lt_succ_of_lt hlS)
        have hSf : s.heap.objs.size ∉ [(s.heap.push { cls := .type "set", dict := none, data := .set #[] 0 (.fresh 0 0 (!w.params.followText "set-order")) }).objs.size, l] := by
          rw [Heap.size_push]; simp only [List.mem_cons, List.mem_singleton, List.not_mem_nil, or_false, not_or]
          exact ⟨Nat.ne_of_lt (Nat.lt_succ_self _), Nat.ne_of_gt hlS⟩
        have hval : ∀ (i : Nat) (v : Value), items[i]? = some v → ∃ k t, ns[i]? = some k ∧ v = .int k t := fun i v hv => by
          have hi : i < ns.length := by rw [← hisz]; exact (Array.getElem?_eq_some_iff.mp hv).1
          obtain ⟨t, e⟩ := PyProof.Rows.IntsAre.int_at hit i v (by rw [Array.getElem?_toList]; exact hv)
          refine ⟨ns[i], t, List.getElem?_eq_getElem hi, ?_⟩
          rw [e, List.getD_eq_getElem?_getD, List.getElem?_eq_getElem hi] <;> rfl
        refine set_update_ints ((Walks.list hh3 _ l hneI items).toS) s.heap.objs.size
          hSf ns hisz hb hval (items.size - 0) 0 _ (by omega) (Nat.zero_le _)
          ⟨⟨_, Heap.get?_push_size _ rfl, rfl, rfl⟩, (hl1.push _)⟩ ?hS0 ?hR
        case hS0 =>
          have hget : ((s.heap.push { cls := .type "set", dict := none, data := .set #[] 0 (.fresh 0 0 (!w.params.followText "set-order")) }).push { cls := .type "list_iterator", data := .fields #[.ref l, .int 0 0] }).get? s.heap.objs.size
              = some { cls := .type "set", dict := none, data := .set #[] 0 (.fresh 0 0 (!w.params.followText "set-order")) } := Heap.get?_push_of_some _ hS
          exact ⟨0, Nat.le_refl 0, setR_new_at hget⟩
        case hR =>
          intro s' c' hm hc' hS'
          obtain ⟨h', g2, d', tk', os'⟩ := s'
          have eg : g2 = s.gens := hm.gens
          have ed : d' = s.drawn := hm.drawn
          have eo : os' = s.os := hm.os
          subst eg; subst ed; subst eo
          show wpAny _ _ _ _ _ _
          refine wpAny_pure ?_
          show wpAny _ _ (ret Value.none) _ _ _
          rw [hisz] at hc'
          refine wpAny_pure ⟨rfl, h', tk', c', rfl, hS', hc', fun b o e => ?_⟩
          have hb0 : b < s.heap.objs.size := Heap.lt_size e
          have hb1 : b ≠ s.heap.objs.size := Nat.ne_of_lt hb0
          have hb2 : b ≠ (s.heap.push { cls := .type "set", dict := none, data := .set #[] 0 (.fresh 0 0 (!w.params.followText "set-order")) }).objs.size := by
            rw [Heap.size_push]; exact Nat.ne_of_lt (Nat.lt_succ_of_lt hb0)
          exact hm.heap b o (by simp only [List.mem_cons, List.mem_singleton, List.not_mem_nil, or_false, not_or]; exact ⟨hb1, hb2⟩) (Heap.get?_push_of_some _ (Heap.get?_push_of_some _ e))

      · cases r₂ with
        | error e => exact hr₂
        | ok fl₂ =>
          cases fl₂ with
          | ret r =>
            obtain ⟨rfl, h', tk, c', rfl, hS', hc', hk'⟩ := hr₂
            repeat (any_goals (first | assumption | wp_step))
            exact h _ _ _ hS' hc' hk'
          | _ => exact hr₂.elim
    | _ => exact hr.elim

end
end L2
namespace DL
open PySem PySem.Spec
open L2 (V Hp HO St TE TT TA TS TG TI TO PE PT PW PA PS PSs PG PI PO Cx Inv RelV Vals SqL SqT Rd upd upd_same upd_ne ne_of ne_of_none OpR UnR CallR MtR IxR SlR It thn)
section
variable {X : Cx}
theorem sum_tup (hc : X.calm = true) : CallR X (.builtin "sum") (fun xs H Q => ∃ (a : Addr) (ns : List Int), xs = [V.ref a] ∧ SqT X.K H a (ns.map V.int) ∧ Q (.int ns.sum) H) := by
  intro pins s σ H xs us Q I r h
  obtain ⟨a, ns, rfl, hT, q⟩ := h
  rw [L2.Vals.ref1 r]
  obtain ⟨its, rv, pt, _⟩ := I.tuple hT
  have hi := L2.Vals.ints rv
  obtain ⟨zs, e⟩ := hi.allInts.items
  have hn : numsOf (intItems zs).toList = ns := by rw [← e]; exact hi.numsOf
  rw [nums_intItems] at hn
  have pt' : s.heap.IsTuple a (intItems zs) := by rw [← e]; exact pt
  refine PySem.W.ktm_sumG (I.ok.hd hc) pt' fun h' tk t' hk => ?_
  have e2 : preSum (numAt zs) zs.size = ns.sum := by rw [preSum_eq, List.take_of_length_le (by simp), hn]
  rw [e2]
  exact ⟨.int ns.sum, H, I.kept (h' := h') (t' := tk) hk, ⟨t', rfl⟩, q⟩
theorem itemsAt_rep {K : PySem.W.Frag} {H : Hp} {m : List Addr} {S : Sto} {d : D} {v : V} {xs : List D} (s : RepS K H m S) (r : Rep K H m d v) (h : itemsAt d S = some xs) : (∃ a vs, v = .ref a ∧ SqL K H a vs ∧ Reps K H m xs vs) ∨ ∃ a vs, v = .ref a ∧ SqT K H a vs ∧ Reps K H m xs vs := by
  cases d with
  | tup ys =>
    have h : some ys = some xs := h
    cases h
    obtain ⟨a, vs, rfl, hT, rs⟩ := r
    exact .inr ⟨a, vs, rfl, hT, rs⟩
  | ref n =>
    obtain ⟨a, ha, rfl⟩ := r
    have h : (match S[n]? with
      | some (.lst xs) => some xs
      | _ => none) = some xs := h
    split at h
    · rename_i ys hy
      cases h
      obtain ⟨b, vs, h1, h2, h3⟩ := s.lst hy
      rw [ha] at h1
      cases h1
      exact .inl ⟨a, vs, rfl, SqL.of h2, h3⟩
    · cases h
  | _ => cases (show (none : Option (List D)) = some xs from h)
theorem b_sum (hc : X.calm = true) : CallR X (.builtin "sum") (rlOf X.K rSum) := rlI ((L2.cr_sum hc).or (sum_tup hc)) fun xs H Q ⟨m, S, ds, R, s, rx, h, k⟩ => by
  match ds, h, rx with
  | [d], ⟨ns, h1, q⟩, rx =>
    obtain ⟨v, rfl, hv⟩ := reps1 rx
    rcases itemsAt_rep s hv h1 with ⟨a, vs, rfl, hL, rs⟩ | ⟨a, vs, rfl, hL, rs⟩
    · exact .inl ⟨a, ns, rfl, by rw [← rs.ints]; exact hL, k _ (.int ns.sum) H S m (Ext.refl _ _) s rfl q⟩
    · exact .inr ⟨a, ns, rfl, by rw [← rs.ints]; exact hL, k _ (.int ns.sum) H S m (Ext.refl _ _) s rfl q⟩

theorem readsI {h : Heap} : ∀ {us : List Value} {ns : List Int}, PyProof.Rows.IntsAre us ns → ReadsAll h us (ns.map PyData.int) []
  | _, _, .nil => .nil
  | _, _, .cons n t r => by
    have := ReadsAll.cons (h := h) (Reads.int n t) (readsI r)
    simpa using this
theorem alike_all_ints (ns : List Int) : PySem.W.AlikeAll (ns.map PyData.int) := by
  refine ⟨fun x hx y hy => ?_, fun x hx z => ?_⟩
  · obtain ⟨a, _, rfl⟩ := List.mem_map.mp hx
    obtain ⟨b, _, rfl⟩ := List.mem_map.mp hy
    simp [PySem.W.alike]
  · obtain ⟨a, _, rfl⟩ := List.mem_map.mp hx
    cases z
theorem fold_max : ∀ (ns : List Int) (n : Int), (ns.foldl max n = n ∨ ns.foldl max n ∈ ns) ∧ n ≤ ns.foldl max n ∧ ∀ y ∈ ns, y ≤ ns.foldl max n
  | [], n => ⟨.inl rfl, Int.le_refl _, fun y hy => nomatch hy⟩
  | a :: ns, n => by
    obtain ⟨h1, h2, h3⟩ := fold_max ns (max n a)
    rw [List.foldl_cons]
    refine ⟨?_, by omega, fun y hy => ?_⟩
    · rcases h1 with h1 | h1
      · rw [h1]
        by_cases c : n ≤ a
        · exact .inr (by rw [Int.max_eq_right c]; exact List.mem_cons_self)
        · exact .inl (Int.max_eq_left (by omega))
      · exact .inr (List.mem_cons_of_mem _ h1)
    · rcases List.mem_cons.mp hy with rfl | hy
      · omega
      · exact h3 y hy
theorem fold_min : ∀ (ns : List Int) (n : Int), (ns.foldl min n = n ∨ ns.foldl min n ∈ ns) ∧ ns.foldl min n ≤ n ∧ ∀ y ∈ ns, ns.foldl min n ≤ y
  | [], n => ⟨.inl rfl, Int.le_refl _, fun y hy => nomatch hy⟩
  | a :: ns, n => by
    obtain ⟨h1, h2, h3⟩ := fold_min ns (min n a)
    rw [List.foldl_cons]
    refine ⟨?_, by omega, fun y hy => ?_⟩
    · rcases h1 with h1 | h1
      · rw [h1]
        by_cases c : a ≤ n
        · exact .inr (by rw [Int.min_eq_right c]; exact List.mem_cons_self)
        · exact .inl (Int.min_eq_left (by omega))
      · exact .inr (List.mem_cons_of_mem _ h1)
    · rcases List.mem_cons.mp hy with rfl | hy
      · omega
      · exact h3 y hy
theorem depth_ints : ∀ ns : List Int, PyData.depthAll (ns.map PyData.int) = 0
  | [] => rfl
  | n :: ns => by
    show max 0 (PyData.depthAll (ns.map PyData.int)) = 0
    rw [depth_ints ns]
    rfl
theorem max_tup {kk : Nat} (hc : X.calm = true) (hr : L2.Room kk X.A) : CallR X (.builtin "max") (fun xs H Q => ∃ (a : Addr) (ns : List Int), xs = [V.ref a] ∧ SqT X.K H a (ns.map V.int) ∧ 0 < ns.length ∧ ∀ m, m ∈ ns → (∀ y, y ∈ ns → y ≤ m) → Q (.int m) H) := by
  intro pins s σ H xs us Q I r h
  obtain ⟨a, ns, rfl, hT, hn, q⟩ := h
  rw [L2.Vals.ref1 r]
  obtain ⟨its, rv, pt, _⟩ := I.tuple hT
  have hi := L2.Vals.ints rv
  cases ns with
  | nil => exact absurd hn (Nat.lt_irrefl 0)
  | cons n ns =>
    refine PySem.W.max_tuple_data (I.ok.hd hc) (show s.heap.IsTuple a its.toArray from pt) (x := .int n) (xs := ns.map PyData.int) (as := []) (by simpa using readsI hi) (alike_all_ints (n :: ns)) ?_ fun i v h' tk bs _ rd hk => ?_
    · have e := depth_ints (n :: ns)
      rw [List.map_cons] at e
      rw [e]
      have := hr.un
      omega
    · rw [PySem.W.maxD_ints] at rd
      obtain ⟨h1, h2, h3⟩ := fold_max ns n
      cases rd with
      | int _ t =>
        refine ⟨.int (ns.foldl max n), H, I.kept (h' := h') (t' := tk) hk, ⟨t, rfl⟩, q _ ?_ fun y hy => ?_⟩
        · rcases h1 with h1 | h1
          · rw [h1]; exact List.mem_cons_self
          · exact List.mem_cons_of_mem _ h1
        · rcases List.mem_cons.mp hy with rfl | hy
          · exact h2
          · exact h3 y hy
theorem min_tup {kk : Nat} (hc : X.calm = true) (hr : L2.Room kk X.A) : CallR X (.builtin "min") (fun xs H Q => ∃ (a : Addr) (ns : List Int), xs = [V.ref a] ∧ SqT X.K H a (ns.map V.int) ∧ 0 < ns.length ∧ ∀ m, m ∈ ns → (∀ y, y ∈ ns → m ≤ y) → Q (.int m) H) := by
  intro pins s σ H xs us Q I r h
  obtain ⟨a, ns, rfl, hT, hn, q⟩ := h
  rw [L2.Vals.ref1 r]
  obtain ⟨its, rv, pt, _⟩ := I.tuple hT
  have hi := L2.Vals.ints rv
  cases ns with
  | nil => exact absurd hn (Nat.lt_irrefl 0)
  | cons n ns =>
    refine PySem.W.min_tuple_data (I.ok.hd hc) (show s.heap.IsTuple a its.toArray from pt) (x := .int n) (xs := ns.map PyData.int) (as := []) (by simpa using readsI hi) (alike_all_ints (n :: ns)) ?_ fun i v h' tk bs _ rd hk => ?_
    · have e := depth_ints (n :: ns)
      rw [List.map_cons] at e
      rw [e]
      have := hr.un
      omega
    · rw [PySem.W.minD_ints] at rd
      obtain ⟨h1, h2, h3⟩ := fold_min ns n
      cases rd with
      | int _ t =>
        refine ⟨.int (ns.foldl min n), H, I.kept (h' := h') (t' := tk) hk, ⟨t, rfl⟩, q _ ?_ fun y hy => ?_⟩
        · rcases h1 with h1 | h1
          · rw [h1]; exact List.mem_cons_self
          · exact List.mem_cons_of_mem _ h1
        · rcases List.mem_cons.mp hy with rfl | hy
          · exact h2
          · exact h3 y hy
theorem b_max {kk : Nat} (hc : X.calm = true) (hr : L2.Room kk X.A) : CallR X (.builtin "max") (rlOf X.K rMax) := rlI ((L2.cr_max hc).or (max_tup hc hr)) fun xs H Q ⟨m, S, ds, R, s, rx, h, k⟩ => by
  match ds, h, rx with
  | [d], ⟨ns, h1, h2, q⟩, rx =>
    obtain ⟨v, rfl, hv⟩ := reps1 rx
    rcases itemsAt_rep s hv h1 with ⟨a, vs, rfl, hL, rs⟩ | ⟨a, vs, rfl, hL, rs⟩
    · exact .inl ⟨a, ns, rfl, by rw [← rs.ints]; exact hL, h2, fun n hn hy => k _ (.int n) H S m (Ext.refl _ _) s rfl (q n hn hy)⟩
    · exact .inr ⟨a, ns, rfl, by rw [← rs.ints]; exact hL, h2, fun n hn hy => k _ (.int n) H S m (Ext.refl _ _) s rfl (q n hn hy)⟩
theorem b_min {kk : Nat} (hc : X.calm = true) (hr : L2.Room kk X.A) : CallR X (.builtin "min") (rlOf X.K rMin) := rlI ((L2.cr_min hc).or (min_tup hc hr)) fun xs H Q ⟨m, S, ds, R, s, rx, h, k⟩ => by
  match ds, h, rx with
  | [d], ⟨ns, h1, h2, q⟩, rx =>
    obtain ⟨v, rfl, hv⟩ := reps1 rx
    rcases itemsAt_rep s hv h1 with ⟨a, vs, rfl, hL, rs⟩ | ⟨a, vs, rfl, hL, rs⟩
    · exact .inl ⟨a, ns, rfl, by rw [← rs.ints]; exact hL, h2, fun n hn hy => k _ (.int n) H S m (Ext.refl _ _) s rfl (q n hn hy)⟩
    · exact .inr ⟨a, ns, rfl, by rw [← rs.ints]; exact hL, h2, fun n hn hy => k _ (.int n) H S m (Ext.refl _ _) s rfl (q n hn hy)⟩
/-! methods, stores -/
theorem refL {K : PySem.W.Frag} {H : Hp} {m : List Addr} {S : Sto} {n : Nat} {x : V} {P : List D → Prop} (s : RepS K H m S) (r : Rep K H m (.ref n) x) (h : isLst S n P) : ∃ a vs xs, x = .ref a ∧ m[n]? = some a ∧ H a = some (.lst vs) ∧ Reps K H m xs vs ∧ S[n]? = some (.lst xs) ∧ P xs := by
  obtain ⟨xs, e1, q⟩ := isLst_iff.mp h
  obtain ⟨a, vs, h1, h2, h3⟩ := s.lst e1
  obtain ⟨b, q1, rfl⟩ := r
  rw [h1] at q1
  cases q1
  exact ⟨_, vs, xs, rfl, h1, h2, h3, e1, q⟩
theorem m_append : MtR X "list.append" (rmOf X.K rAppend) := rmI L2.mt_append fun x xs H Q ⟨m, S, d, ds, R, s, rx, rs, h, k⟩ => by
  match d, ds, h, rx, rs with
  | .ref n, [d], h, rx, rs =>
    obtain ⟨a, vs, ys, rfl, h1, h2, h3, e1, hz, q⟩ := refL s rx h
    obtain ⟨v, rfl, hv⟩ := reps1 rs
    exact ⟨a, vs, v, rfl, rfl, h2, by rw [h3.len, ← szL']; exact hz, k.put s e1 h1 h2 (h3.app (Reps.one hv)) (d := .non) rfl q⟩
theorem m_pop : MtR X "list.pop" (rmOf X.K rPop) := rmI L2.mt_pop fun x xs H Q ⟨m, S, d, ds, R, s, rx, rs, h, k⟩ => by
  match d, ds, h, rx, rs with
  | .ref n, [], h, rx, rs =>
    obtain ⟨a, vs, ys, rfl, h1, h2, h3, e1, d, hd, q⟩ := refL s rx h
    obtain ⟨v, g1, g2⟩ := h3.get _ _ hd
    exact ⟨a, vs, v, rfl, rs, h2, by rw [h3.len]; exact g1, k.put s e1 h1 h2 h3.dropLast g2 q⟩
theorem ixZ_seq {n : Nat} {i : Int} {j : Nat} (h : ixZ n i = some j) : seqIndex? i n = some j ∧ j < n ∧ -(n : Int) ≤ i ∧ i < n := L2.ixN_seq h
theorem m_popAt : MtR X "list.pop" (rmOf X.K rPopAt) := rmI L2.mt_popAt fun x xs H Q ⟨m, S, d, ds, R, s, rx, rs, h, k⟩ => by
  match d, ds, h, rx, rs with
  | .ref n, [.int i], h, rx, rs =>
    obtain ⟨a, vs, ys, rfl, h1, h2, h3, e1, ⟨i0, i1⟩, j, d, hj, hd, q⟩ := refL s rx h
    obtain ⟨v, rfl, hv⟩ := reps1 rs
    have hv : v = .int i := hv
    subst hv
    obtain ⟨u, g1, g2⟩ := h3.get _ _ hd
    obtain ⟨p1, p2, p3, p4⟩ := ixZ_seq hj
    exact ⟨a, vs, i, j, u, rfl, rfl, h2, i0, i1, by rw [h3.len]; exact p1, g1, k.put s e1 h1 h2 (h3.erase j) g2 q⟩
theorem m_reverse : MtR X "list.reverse" (rmOf X.K rReverse) := rmI L2.mt_reverse fun x xs H Q ⟨m, S, d, ds, R, s, rx, rs, h, k⟩ => by
  match d, ds, h, rx, rs with
  | .ref n, [], h, rx, rs =>
    obtain ⟨a, vs, ys, rfl, h1, h2, h3, e1, q⟩ := refL s rx h
    exact ⟨a, vs, rfl, rs, h2, k.put s e1 h1 h2 h3.rev (d := .non) rfl q⟩
theorem m_insert : MtR X "list.insert" (rmOf X.K rInsert) := rmI L2.mt_insert fun x xs H Q ⟨m, S, d, ds, R, s, rx, rs, h, k⟩ => by
  match d, ds, h, rx, rs with
  | .ref n, [.int i, d], h, rx, rs =>
    obtain ⟨a, vs, ys, rfl, h1, h2, h3, e1, hz, ⟨i0, i1⟩, q⟩ := refL s rx h
    obtain ⟨v, u, rfl, hv, hu⟩ := reps2 rs
    have hv : v = .int i := hv
    subst hv
    exact ⟨a, vs, i, u, rfl, rfl, h2, by rw [h3.len, ← szL']; exact hz, i0, i1, k.put s e1 h1 h2 (((h3.take _).app (Reps.one hu)).app (h3.drop _)) (d := .non) rfl q⟩
theorem p_put : L2.PSet X (rpOf X.K rPut) := fun pins s σ H o i v ov iv u Q I ro ri rv ⟨m, S, x, j, d, R, hs, rx, rk, rd, h, k⟩ => by
  match x, j, h, rx, rk with
  | .ref n, .int z, h, rx, rk =>
    obtain ⟨a, vs, ys, rfl, h1, h2, h3, e1, jj, hj, q⟩ := refL hs rx h
    have rk : i = .int z := rk
    subst rk
    refine L2.set_list pins s σ H (.ref a) (.int z) v ov iv u Q I ro ri rv ⟨a, vs, z, jj, rfl, rfl, h2, by rw [h3.len]; exact hj, ?_⟩
    exact k _ _ m (Ext.wrote (List.mem_of_getElem? h1) h2) (hs.set e1 h1 (h3.set jj rd)) q

/-! sorting -/
mutual
theorem akin_eq : ∀ a b : D, akin a b = true → PySem.W.alike (toPy a) (toPy b) = true
  | .int _, .int _, _ => by simp [toPy, PySem.W.alike]
  | .str _, .str _, _ => by simp [toPy, PySem.W.alike]
  | .tup xs, .tup ys, h => by
    have := akins_eq xs ys h
    simpa [toPy, PySem.W.alike] using this
  | .non, b, h => by cases b <;> cases (show false = true from h)
  | .bl _, b, h => by cases b <;> cases (show false = true from h)
  | .rol _, b, h => by cases b <;> cases (show false = true from h)
  | .ref _, b, h => by cases b <;> cases (show false = true from h)
  | .ty _, b, h => by cases b <;> cases (show false = true from h)
  | .int _, .non, h | .int _, .bl _, h | .int _, .str _, h | .int _, .tup _, h | .int _, .rol _, h | .int _, .ref _, h | .int _, .ty _, h => by cases (show false = true from h)
  | .str _, .non, h | .str _, .bl _, h | .str _, .int _, h | .str _, .tup _, h | .str _, .rol _, h | .str _, .ref _, h | .str _, .ty _, h => by cases (show false = true from h)
  | .tup _, .non, h | .tup _, .bl _, h | .tup _, .int _, h | .tup _, .str _, h | .tup _, .rol _, h | .tup _, .ref _, h | .tup _, .ty _, h => by cases (show false = true from h)
theorem akins_eq : ∀ a b : List D, akins a b = true → PySem.W.alikeAll (toPys a) (toPys b) = true
  | [], _, _ => by simp [toPys, PySem.W.alikeAll]
  | _ :: _, [], _ => by simp [toPys, PySem.W.alikeAll]
  | x :: xs, y :: ys, h => by
    have h := Bool.and_eq_true_iff.mp (show (akin x y && akins xs ys) = true from h)
    simp [toPys, PySem.W.alikeAll, akin_eq x y h.1, akins_eq xs ys h.2]
end
mutual
theorem lt_eq : ∀ a b : D, flat a = true → flat b = true → akin a b = true → PySem.W.dataLt (toPy a) (toPy b) = ltD a b
  | .int i, .int j, _, _, _ => PySem.W.dataLt_int i j
  | .str i, .str j, _, _, _ => PySem.W.dataLt_str i j
  | .tup xs, .tup ys, f, g, h => by
    show PySem.W.dataLt (.tuple (toPys xs)) (.tuple (toPys ys)) = ltDs xs ys
    rw [PySem.W.dataLt_tuple]
    exact lts_eq xs ys f g h
  | .non, b, _, _, h => by cases b <;> cases (show false = true from h)
  | .bl _, b, _, _, h => by cases b <;> cases (show false = true from h)
  | .rol _, b, _, _, h => by cases b <;> cases (show false = true from h)
  | .ref _, b, _, _, h => by cases b <;> cases (show false = true from h)
  | .ty _, b, _, _, h => by cases b <;> cases (show false = true from h)
  | .int _, .non, _, _, h | .int _, .bl _, _, _, h | .int _, .str _, _, _, h | .int _, .tup _, _, _, h | .int _, .rol _, _, _, h | .int _, .ref _, _, _, h | .int _, .ty _, _, _, h => by cases (show false = true from h)
  | .str _, .non, _, _, h | .str _, .bl _, _, _, h | .str _, .int _, _, _, h | .str _, .tup _, _, _, h | .str _, .rol _, _, _, h | .str _, .ref _, _, _, h | .str _, .ty _, _, _, h => by cases (show false = true from h)
  | .tup _, .non, _, _, h | .tup _, .bl _, _, _, h | .tup _, .int _, _, _, h | .tup _, .str _, _, _, h | .tup _, .rol _, _, _, h | .tup _, .ref _, _, _, h | .tup _, .ty _, _, _, h => by cases (show false = true from h)
theorem lts_eq : ∀ a b : List D, flats a = true → flats b = true → akins a b = true → PyProof.Rows.lexLt PyProof.Rows.itemOrd (PySem.W.keyToksAll (toPys a)) (PySem.W.keyToksAll (toPys b)) = ltDs a b
  | [], [], _, _, _ => PyProof.Rows.lex_irrefl _
  | [], y :: ys, _, _, _ => by
    exact PyProof.Rows.lex_true.mpr (.inl rfl)
  | x :: xs, [], _, _, _ => by
    exact PyProof.Rows.lex_false.mpr ⟨rfl, .inl rfl⟩
  | x :: xs, y :: ys, f, g, h => by
    have f := Bool.and_eq_true_iff.mp (show (flat x && flats xs) = true from f)
    have g := Bool.and_eq_true_iff.mp (show (flat y && flats ys) = true from g)
    have h := Bool.and_eq_true_iff.mp (show (akin x y && akins xs ys) = true from h)
    show PyProof.Rows.lexLt PyProof.Rows.itemOrd (PySem.W.keyToksAll (toPy x :: toPys xs)) (PySem.W.keyToksAll (toPy y :: toPys ys)) = if eqD x y = true then ltDs xs ys else ltD x y
    rw [PySem.W.dataLt_cons (akin_eq x y h.1), eqv_eq x y f.1 g.1, lts_eq xs ys f.2 g.2 h.2, lt_eq x y f.1 g.1 h.1]
end

theorem sort_trans (a b c : D) : PySem.W.dataLe false toPy a b = true → PySem.W.dataLe false toPy b c = true → PySem.W.dataLe false toPy a c = true := by
  rw [PySem.W.dataLe_eq]
  show (!PySem.W.dataLt (toPy b) (toPy a)) = true → (!PySem.W.dataLt (toPy c) (toPy b)) = true → (!PySem.W.dataLt (toPy c) (toPy a)) = true
  intro h1 h2
  cases e : PySem.W.dataLt (toPy c) (toPy a) with
  | false => rfl
  | true =>
    rcases PyProof.Rows.lex_negTrans _ (PySem.W.keyToks (toPy b)) _ e with q | q
    · rw [show PySem.W.dataLt (toPy c) (toPy b) = true from q] at h2; cases h2
    · rw [show PySem.W.dataLt (toPy b) (toPy a) = true from q] at h1; cases h1
theorem sort_total (a b : D) : (PySem.W.dataLe false toPy a b || PySem.W.dataLe false toPy b a) = true := by
  rw [PySem.W.dataLe_eq]
  show ((!PySem.W.dataLt (toPy b) (toPy a)) || (!PySem.W.dataLt (toPy a) (toPy b))) = true
  cases e : PySem.W.dataLt (toPy b) (toPy a) with
  | false => rfl
  | true =>
    cases e2 : PySem.W.dataLt (toPy a) (toPy b) with
    | false => rfl
    | true =>
      have := PyProof.Rows.lex_trans _ _ _ (show PyProof.Rows.lexLt PyProof.Rows.itemOrd (PySem.W.keyToks (toPy b)) (PySem.W.keyToks (toPy a)) = true from e) e2
      rw [PyProof.Rows.lex_irrefl] at this
      cases this
theorem flats_mem : ∀ {xs : List D}, flats xs = true → ∀ a ∈ xs, flat a = true
  | [], _, a, h => nomatch h
  | x :: xs, f, a, h => by
    have f := Bool.and_eq_true_iff.mp (show (flat x && flats xs) = true from f)
    rcases List.mem_cons.mp h with rfl | h
    · exact f.1
    · exact flats_mem f.2 a h
theorem deeps_mem : ∀ {xs : List D} (a : D), a ∈ xs → deep a ≤ deeps xs
  | [], a, h => nomatch h
  | x :: xs, a, h => by
    show deep a ≤ max (deep x) (deeps xs)
    rcases List.mem_cons.mp h with rfl | h
    · exact Nat.le_max_left _ _
    · exact Nat.le_trans (deeps_mem a h) (Nat.le_max_right _ _)
/-- a value that stands for plain data -/
def Stands (K : PySem.W.Frag) (H : Hp) (m : List Addr) (u : Value) (d : D) : Prop := ∃ v, RelV v u ∧ Rep K H m d v
theorem stands_all {K : PySem.W.Frag} {H : Hp} {m : List Addr} : ∀ {ds : List D} {vs : List V} {us : List Value}, Reps K H m ds vs → Vals vs us → PySem.W.EachIs (Stands K H m) us ds
  | [], _, _, r, rv => by
    rw [show _ = ([] : List V) from r] at rv
    cases rv
    exact .nil
  | d :: ds, _, _, ⟨v, r, h1, h2, h3⟩, rv => by
    subst h1
    cases rv with
    | cons a b => exact .cons ⟨v, a, h2⟩ (stands_all h3 b)
theorem stands_back {K : PySem.W.Frag} {H : Hp} {m : List Addr} : ∀ {ds : List D} {us : List Value}, PySem.W.EachIs (Stands K H m) us ds → ∃ vs, Reps K H m ds vs ∧ Vals vs us
  | _, _, .nil => ⟨[], rfl, .nil⟩
  | _, _, .cons ⟨v, h1, h2⟩ t => by
    obtain ⟨vs, g1, g2⟩ := stands_back t
    exact ⟨v :: vs, ⟨v, vs, rfl, h2, g1⟩, .cons h1 g2⟩
theorem toPy_tup {d : D} {x : D} {r : List D} (h : d = .tup (x :: r)) : ∃ y s, toPy d = .tuple (y :: s) := ⟨toPy x, toPys r, by rw [h]; rfl⟩
theorem b_sorted {kk : Nat} (hr : L2.Room kk X.A) : CallR X (.builtin "sorted") (rlOf X.K rSorted) := by
  intro pins s σ H vs us Q I rv ⟨m, S, ds, R, hS, rs, h, k⟩
  match ds, h, rs with
  | [.ref n], h, rs =>
    obtain ⟨v, rfl, hv⟩ := reps1 rs
    obtain ⟨a, ws, xs, rfl, h1, h2, h3, e1, ⟨f, dp, ak, so⟩, q⟩ := refL hS hv h
    rw [L2.Vals.ref1 rv]
    obtain ⟨its, rw', pl, hz⟩ := I.list (SqL.of h2)
    have st := stands_all h3 rw'
    have hm : ∀ b ∈ xs, flat b = true := flats_mem f
    have rd : ∀ {ds : List D} {us : List Value}, PySem.W.EachIs (Stands X.K H m) us ds → (∀ d ∈ ds, flat d = true) → PySem.W.EachIs (fun u d => ∃ as, Reads s.heap u (toPy d) as) us ds := by
      intro ds us e
      induction e with
      | nil => intro _; exact .nil
      | cons h t ih =>
        intro hf
        obtain ⟨v, g1, g2⟩ := h
        exact .cons (L2.Dp.reads I _ _ _ (toPy_dp _ _ (hf _ List.mem_cons_self) g2) g1) (ih fun d hd => hf d (List.mem_cons_of_mem _ hd))
    refine PySem.W.sorted_data (enc := toPy) (bs := xs) (R := Stands X.K H m) pl.isList st (rd st hm) ?_ ?_ (by rw [← h3.len]; exact hz) (fun b hb => ?_) fun out ho eo => ?_
    · intro d hd d' hd'
      obtain ⟨b, hb, rfl⟩ := List.mem_map.mp hd
      obtain ⟨b', hb', rfl⟩ := List.mem_map.mp hd'
      exact akin_eq b b' (ak b hb b' hb')
    · rcases so with so | so
      · refine .inl fun d hd => ?_
        obtain ⟨b, hb, rfl⟩ := List.mem_map.mp hd
        obtain ⟨x, r, e⟩ := so b hb
        exact toPy_tup e
      · refine .inr fun d hd => ?_
        obtain ⟨b, hb, rfl⟩ := List.mem_map.mp hd
        obtain ⟨n1, n2⟩ := so b hb
        have fb := hm b hb
        cases b with
        | non => exact absurd rfl n1
        | tup ys => exact absurd rfl (n2 ys)
        | rol _ => cases (show false = true from fb)
        | ref _ => cases (show false = true from fb)
        | ty _ => cases (show false = true from fb)
        | bl _ => exact ⟨(fun z => nomatch z), (fun _ z => nomatch z)⟩
        | int _ => exact ⟨(fun z => nomatch z), (fun _ z => nomatch z)⟩
        | str _ => exact ⟨(fun z => nomatch z), (fun _ z => nomatch z)⟩
    · rw [deep_eq]
      have := deeps_mem b hb
      have := hr.units
      omega
    · obtain ⟨c, hc⟩ := PyProof.Rows.sortedAll_at s.heap its out.toArray
      obtain ⟨ys, g1, g2⟩ := stands_back eo
      have hp : H (s.heap.objs.size + 1) = none := I.hok.fresh (Nat.le_succ _)
      have perm := List.mergeSort_perm xs (PySem.W.dataLe false toPy)
      have pw := List.pairwise_mergeSort sort_trans sort_total xs
      refine ⟨.ref (s.heap.objs.size + 1), upd H (s.heap.objs.size + 1) (.lst ys), I.laid (t' := s.toks) (fun _ _ => PyProof.Rows.sortedAll_old) (Nat.le_succ _) ⟨?_, out, c, g2, hc⟩, rfl, ?_⟩
      · rw [g1.len, List.length_mergeSort, ← h3.len]
        exact hz
      · refine k.lst hS g1 (q _ perm ?_) _ hp
        refine List.Pairwise.imp_of_mem (fun {x y} hx hy hxy => ?_) pw
        have hx' := perm.mem_iff.mp hx
        have hy' := perm.mem_iff.mp hy
        have hxy : (!PySem.W.dataLt (toPy y) (toPy x)) = true := hxy
        rw [lt_eq y x (hm y hy') (hm x hx') (ak y hy' x hx')] at hxy
        simpa using hxy
/-- set(xs) of ints: tracked beside -/
theorem set_ints (hc : X.calm = true) : CallR X (.type "set") (fun xs H Q => ∃ (a : Addr) (ns : List Int), xs = [V.ref a] ∧ (SqL X.K H a (ns.map V.int) ∨ SqT X.K H a (ns.map V.int)) ∧ ns.length < 60 ∧
    ∀ p c, H p = none → c ≤ ns.length → Q (.ref p) (upd H p (L2.SetO X.w p (fun j => decide (j ∈ ns)) c))) := by
  intro pins s σ H xs us Q I r h
  obtain ⟨a, ns, rfl, hT, hn, q⟩ := h
  rw [L2.Vals.ref1 r]
  have hb : ns.length + 1 < scanBound := by unfold scanBound; omega
  have hp : H s.heap.objs.size = none := I.hok.fresh (Nat.le_refl _)
  rcases hT with hT | hT
  · obtain ⟨its, rv, pt, _⟩ := I.list hT
    refine L2.set_ints_list (items := its.toArray) ns (I.ok.hd hc) pt.isList (by simpa using L2.Vals.ints rv) hb fun h' tk c R hc hk => ?_
    exact ⟨.ref s.heap.objs.size, _, I.laid (t' := tk) hk (Nat.le_refl _) (L2.setO_new R), rfl, q _ c hp hc⟩
  · obtain ⟨its, rv, pt, _⟩ := I.tuple hT
    refine L2.call_set_tupI (items := its.toArray) ns (I.ok.hd hc) (show s.heap.IsTuple a its.toArray from pt) (by simpa using L2.Vals.ints rv) hb fun h' tk c R hc hk => ?_
    exact ⟨.ref s.heap.objs.size, _, I.laid (t' := tk) hk (Nat.le_refl _) (L2.setO_new R), rfl, q _ c hp hc⟩
theorem d_sortedSet {e : Expr} {wa : WE} {p p2 pos pos2 : Pos} (hc : X.calm = true) (hg : L2.Gl X "sorted") (hm : X.mg "sorted" = none) (hg2 : L2.Gl X "set") (hm2 : X.mg "set" = none) (he : PE X e (teOf X.K wa))
    (h1 : starEach [e] X.env = [(false, eval e X.env)] := by rfl) : PE X (.Call (.Name "sorted" p) [.Call (.Name "set" p2) [e] [] pos2] [] pos) (teOf X.K (wSortedSet wa)) :=
  peI (L2.pe_callB (L2.cr_sortedSet hc) hg hm (by decide +kernel) (L2.pa_cons (L2.pe_callTy (set_ints hc) hg2 hm2 (by decide +kernel) (L2.pa_cons he L2.pa_nil h1) (he := h1)) L2.pa_nil)) fun σ H Q ⟨ρ, S, m, R, hE, hS, h, k⟩ =>
    ⟨ρ, S, m, _, hE, hS, h, fun v d H1 S1 m1 e1 s1 r1 ⟨ns, g1, g2, q⟩ => by
      have go : ∀ (a : Addr), v = .ref a → (SqL X.K H1 a (ns.map V.int) ∨ SqT X.K H1 a (ns.map V.int)) → ∃ (a : Addr) (ns' : List Int), [v] = [V.ref a] ∧ (SqL X.K H1 a (ns'.map V.int) ∨ SqT X.K H1 a (ns'.map V.int)) ∧ ns'.length < 60 ∧
          ∀ p c, H1 p = none → c ≤ ns'.length → (L2.tNil σ (upd H1 p (L2.SetO X.w p (fun j => decide (j ∈ ns')) c)) fun xs H2 => L2.rSortedSet X.w (V.ref p :: xs) H2 Q) := by
        rintro a rfl hT
        refine ⟨a, ns, rfl, hT, g2, fun p c hp hcl => ⟨p, _, c, rfl, upd_same, by omega, fun ms p2 pw mem hl hp2 => ?_⟩⟩
        have e2 := e1.trans (Ext.fresh (m := m1) hp (L2.SetO X.w p (fun j => decide (j ∈ ns)) c))
        exact (k.ext e2).lst (s1.fresh hp _) (ds := intD ms) Reps.of_ints (q ms pw fun kk => by rw [mem kk]; simp) p2 hp2
      rcases itemsAt_rep s1 r1 g1 with ⟨a, vs, e, hL, rs⟩ | ⟨a, vs, e, hL, rs⟩
      · exact go a e (.inl (by rw [← rs.ints]; exact hL))
      · exact go a e (.inr (by rw [← rs.ints]; exact hL))⟩
end
end DL
set_option Elab.async false
set_option linter.all false
set_option maxRecDepth 100000
set_option maxHeartbeats 4000000
/-! DL8: defs as they are called. -/
namespace DL
open PySem PySem.Spec
open L2 (V Hp HO St TE TT TA TS TG TI TO PE PT PW PA PS PSs PG PI PO Cx Inv RelV Vals SqL SqT Rd upd upd_same upd_ne ne_of ne_of_none OpR UnR CallR MtR IxR SlR It thn)
/-- the def that stands at the name x: it keeps sp, with k calls within one another -/
structure Callee (P : Program) (w : World) (K : PySem.W.Frag) (mg : Str → Option Value) (base : Heap) (x : Str) (k n : Nat) (sp : Spc) : Prop where
  ex : ∃ (f : Addr) (fd : FuncData) (ps : List Str), L2.FnOk P w K mg base L2.CX0 k f fd ps (spOf K n sp) ∧ mg x = some (.ref f) ∧ PySem.W.keepIn K (.ref f) = true ∧ L2.Binds K fd ps []
theorem Callee.imp {P : Program} {w : World} {K : PySem.W.Frag} {mg : Str → Option Value} {base : Heap} {x : Str} {k n : Nat} {sp sp' : Spc} (C : Callee P w K mg base x k n sp) (h : ∀ ds S Q, sp' ds S Q → sp ds S Q) : Callee P w K mg base x k n sp' := by
  obtain ⟨f, fd, ps, h1, h2, h3, h4⟩ := C.ex
  exact ⟨f, fd, ps, h1.imp fun vs H Q E ⟨m, S, ds, R, a, b, c, d, e⟩ => ⟨m, S, ds, R, a, b, c, h _ _ _ d, e⟩, h2, h3, h4⟩
section
variable {X : Cx} {e : Expr} {es : List Expr} {pos p : Pos} {va : WA}
theorem d_calle {kk k0 n : Nat} {sp : Spc} {x : Str} (C : Callee X.prog X.w X.K X.mg X.base x k0 n sp) (hr : L2.Room kk X.A) (hk : k0 ≤ kk) (hg : L2.Gl X x) (ha : PA X (e :: es) (taOf X.K va)) (hd : (x == ("__debug__" : Str)) = false := by decide)
    (he : starEach (e :: es) X.env = (false, eval e X.env) :: starEach es X.env := by rfl) (hpl : (backTo pos (starEach es X.env)).any (·.1) = false := by rfl) :
    PE X (.Call (.Name x p) (e :: es) [] pos) (teOf X.K (wCall n sp va)) := by
  obtain ⟨f, fd, ps, h1, h2, h3, h4⟩ := C.ex
  exact d_call h1 (hr.mono hk) hg h2 h3 h4 ha hd he hpl
end
section
variable {P : Program} {w : World} {K : PySem.W.Frag} {mg : Str → Option Value} {base : Heap}
theorem callee_of {x : Str} {st : Stmt} {f : Addr} {fd : FuncData} {N ps : List Str} {k n a : Nat} {sp : Spc} {ws : WS} (F : L2.Fun K x x st f fd) (hm : mg x = some (.ref f)) (hb : L2.Binds K fd ps []) (Sc : L2.FnScope N ps (L2.defScope st)) (hn : N.length = n) (ha : ps.length = a)
    (hw : ∀ (cdv : Value) (A : Around) (outer : List PySem.Env) (s : Shared) (H : Hp) (E : L2.XK), L2.Room k (A.deeper (PyProof.Rows.envOfC x (L2.defScope st) s.heap.objs.size f cdv)) →
      PSs (L2.cxOf L2.CX0 P w K mg base N x (L2.defScope st) f cdv A outer s H E).nox (L2.defBody st) (tsOf K ws)) (body : Body n a ws sp) : Callee P w K mg base x (k + 1) a sp :=
  ⟨f, fd, ps, fn_body F Sc hn ha hw body, hm, F.kp, hb⟩
/-- nobody calls with no calls left -/
theorem callee_none {x : Str} {st : Stmt} {f : Addr} {fd : FuncData} {ps : List Str} {a : Nat} {sp : Spc} (F : L2.Fun K x x st f fd) (hm : mg x = some (.ref f)) (hb : L2.Binds K fd ps []) (h : ∀ ds S Q, ¬ sp ds S Q) : Callee P w K mg base x 0 a sp :=
  ⟨f, fd, ps, ⟨fun vs H Q E ⟨m, S, ds, R, _, _, _, d, _⟩ => absurd d (h _ _ _), fun A outer s H args us vs Q E _ _ _ _ ⟨m, S, ds, R, _, _, _, d, _⟩ => absurd d (h _ _ _)⟩, hm, F.kp, hb⟩
end
end DL
set_option linter.all false
/-! DLX: more operations by values. -/
namespace DL
/-- a list turned -/
@[reducible] def rRevL : R1
  | .ref n, S, Q => isLst S n fun xs => Q (.ref S.length) (S ++ [.lst xs.reverse])
  | _, _, _ => False
/-- sorted of a list or a tuple -/
@[reducible] def rSortedA : RL
  | [.ref n], S, Q => isLst S n fun xs => sortOk xs ∧ ∀ ys, ys.Perm xs → ys.Pairwise (fun a b => ltD b a = false) → Q (.ref S.length) (S ++ [.lst ys])
  | [.tup xs], S, Q => sortOk xs ∧ ∀ ys, ys.Perm xs → ys.Pairwise (fun a b => ltD b a = false) → Q (.ref S.length) (S ++ [.lst ys])
  | _, _, _ => False
/-- x += y: ints, texts -/
@[reducible] def rIAdd : R2
  | .int i, .int j, S, Q => Q (.int (i + j)) S
  | .str x, .str y, S, Q => x.length + y.length ≤ szL ∧ Q (.str (x ++ y)) S
  | _, _, _, _ => False
end DL
set_option Elab.async false
set_option linter.all false
set_option maxRecDepth 100000
set_option maxHeartbeats 4000000
/-! DL9: more rules. -/
namespace DL
open PySem PySem.Spec
open L2 (V Hp HO St TE TT TA TS TG TI TO PE PT PW PA PS PSs PG PI PO Cx Inv RelV Vals SqL SqT Rd upd upd_same upd_ne ne_of ne_of_none OpR UnR CallR MtR IxR SlR It thn)
section
variable {X : Cx} {o : Expr} {pos p1 p2 p3 : Pos} {wo : WE}
theorem d_revL {k : Nat} (ho : PE X o (teOf X.K wo)) : PE X (.Subscript o (.Slice none none (some (.UnaryOp .USub (.Constant (.int 1) k p1) p2)) p3) pos) (teOf X.K (wUn rRevL wo)) :=
  peI (L2.pe_revL ho) fun σ H Q ⟨ρ, S, m, R, hE, hS, h, k⟩ => ⟨ρ, S, m, _, hE, hS, h, fun v x H1 S1 m1 e1 s1 r1 q1 => by
    cases x with
    | ref n =>
      obtain ⟨ys, e2, q⟩ := isLst_iff.mp q1
      obtain ⟨a, vs, h1, h2, h3⟩ := s1.lst e2
      obtain ⟨b, q2, rfl⟩ := r1
      rw [h1] at q2
      cases q2
      exact ⟨a, vs, rfl, SqL.of h2, (k.ext e1).lst s1 h3.rev q⟩
    | _ => exact (show False from q1).elim⟩
end
theorem i_add {X : Cx} : OpR X (inplaceOp .Add) (r2Of X.K rIAdd) := r2I ((L2.iop_add (X := X)).or L2.iop_add_str) fun x y H Q ⟨m, S, d, e, R, s, rx, ry, h, k⟩ => by
  cases d with
  | int i => cases e with
    | int j => exact .inl ⟨i, j, rx, ry, k _ (.int (i + j)) H S m (Ext.refl _ _) s rfl h⟩
    | _ => exact (show False from h).elim
  | str z => cases e with
    | str z' =>
      obtain ⟨hz, q⟩ := h
      exact .inr ⟨z, z', rx, ry, by rw [← szL']; exact hz, k _ (.str (z ++ z')) H S m (Ext.refl _ _) s rfl q⟩
    | _ => exact (show False from h).elim
  | _ => exact (show False from h).elim
/-- a tuple of ints that the top has made -/
theorem rep_ints {K : PySem.W.Frag} {t : Addr} {od : Option Addr} {its : Array Value} {n : Nat} {sl : Array (Option Value)} {ns : List Int} (hl : K.lookup t = some ⟨.type "tuple", od, .seq its n, sl⟩) (hz : its.size ≤ sizeLine) (hv : Vals (ns.map V.int) its.toList) (H : Hp) (m : List Addr) : Rep K H m (.tup (intD ns)) (.ref t) :=
  ⟨t, ns.map V.int, rfl, .inr ⟨_, its, n, hl, rfl, rfl, hz, hv⟩, Reps.of_ints⟩
end DL
set_option Elab.async false
set_option linter.all false
set_option maxRecDepth 100000
set_option maxHeartbeats 4000000
/-! DLS: sorted(a tuple). -/
namespace DL
open PySem PySem.Spec PyProof PyProof.Rows
section
theorem collect_seqE {prog : Program} {w : World} {A : Around} {E : Value → Shared → Prop} {s : Shared} {Q : List Value → Shared → Prop} (it : Addr) {T : String} {o : Obj} {items : Array Value} {n : Nat} (hT : T = "list" ∨ T = "tuple") (ho : s.heap.get? it = some o) (hc : o.cls = Value.type T) (hd : o.data = Data.seq items n)
    (hQ : ∀ h' : Heap, (∀ (b : Addr) (o' : Obj), s.heap.get? b = some o' → h'.get? b = some o') → s.heap.objs.size ≤ h'.objs.size → Q items.toList { heap := h', gens := s.gens, drawn := s.drawn, toks := s.toks, os := s.os }) (hsz : items.size ≤ sizeLine) : wpAny (model prog w) A (collect (.ref it)) Q E s := by
  unfold collect
  refine wpAny_bind (wpAny_runValue (codeAny_builtin F.entry_proto_collect ?_))
  rw [Around.under_plainId F.plain_proto_collect]
  refine wpAny_bind (wpAny_newObj_type (wpAny_pure ⟨plainId_quiet F.plain_list_iadd _, codeAny_builtin F.entry_list_iadd ?_⟩))
  rw [Around.under_plainId F.plain_list_iadd]
  refine wpAny_extend_seq (R := fun r s' => match r with
      | Except.ok (Flow.ret v) => wpAny (model prog w) A (match v with
          | Value.ref a => do
            let __do_lift ← load a
            match __do_lift.data with
            | Data.seq xs epoch => pure xs.toList
            | x => unsupported "internal:collect"
          | x => unsupported "internal:collect") Q E s'
      | Except.ok a => False
      | Except.error e => E e s') s.heap.objs.size it (.ref s.heap.objs.size) 0 hT ?_ ?_ hc hd ?_ hsz
  · exact Heap.get?_push_size s.heap rfl
  · exact Heap.get?_push_of_some _ ho
  · show wpAny (model prog w) A _ Q E _
    refine wpAny_bind (wpAny_load (Heap.get?_update_self _ (Heap.get?_push_size s.heap rfl) rfl) ?_)
    refine wpAny_pure ?_
    have e : ((fun x => x ++ items) (#[] : Array Value)).toList = items.toList := by simp
    rw [e]
    refine hQ _ (fun b o' hb => ?_) ?_
    · rw [Heap.get?_update_other _ _ (Ne.symm (Nat.ne_of_lt (Heap.lt_size hb)))]
      exact Heap.get?_push_of_some _ hb
    · rw [Heap.size_update]
      show s.heap.objs.size ≤ (s.heap.push _).objs.size
      rw [PyProof.Rows.size_push']
      omega
theorem sorted_tup {prog : Program} {w : World} {A : Around} {E : Value → Shared → Prop} {s : Shared} {β : Type} {vs : List Value} {bs : List β} {enc : β → PyData} {R : Value → β → Prop} {l : Addr} {Q : Value → Shared → Prop}
    (hl : s.heap.IsTuple l vs.toArray) (e : PySem.W.EachIs R vs bs) (er : PySem.W.EachIs (fun v b => ∃ as, Reads s.heap v (enc b) as) vs bs) (hal : PySem.W.AllAlike (bs.map enc)) (hk : PySem.W.Sortable (bs.map enc)) (hL : bs.length ≤ sizeLine) (hu : ∀ b, b ∈ bs → A.units + 2 + (enc b).depth < cLine)
    (h : ∀ (out : List Value) (h1 : Heap) (a : Addr), out.length = bs.length → PySem.W.EachIs R out (bs.mergeSort (PySem.W.dataLe false enc)) → (∀ (b : Addr) (o : Obj), s.heap.get? b = some o → h1.get? b = some o) → s.heap.objs.size ≤ a → (∃ c, h1.get? a = some (PyProof.Rows.seqObj "list" out.toArray c)) →
      Q (.ref a) { heap := h1, gens := s.gens, drawn := s.drawn, toks := s.toks, os := s.os }) : wpAny (model prog w) A (call (.builtin "sorted") [.ref l]) Q E s := by
  obtain ⟨o, ho, hc, n, hd⟩ := hl
  have hLv : vs.length ≤ sizeLine := by rw [e.length]; exact hL
  refine PyProof.Rows.call_function_entry_kw PyProof.Rows.kind_sorted PyProof.Rows.plain_sorted PyProof.Rows.entry_sorted (PyProof.Rows.args_sorted1 (.ref l)) ?_
  refine wpAny_bind (wpAny_pure (wpAny_bind (collect_seqE l (.inr rfl) ho hc hd (fun h' keep hsz => ?_) (by simpa using hLv))))
  have hat : (h'.push (PyProof.Rows.seqObj "list" vs.toArray 0)).get? h'.objs.size = some (PyProof.Rows.seqObj "list" vs.toArray 0) := Heap.get?_push_size h' rfl
  have old1 : ∀ (b : Addr) (o : Obj), s.heap.get? b = some o → (h'.push (PyProof.Rows.seqObj "list" vs.toArray 0)).get? b = some o ∧ b < h'.objs.size := fun b o hb => by
    have hk := keep b o hb
    have hlt := Heap.lt_size hk
    exact ⟨by rw [Heap.get?_push_ne h' b _ (Nat.ne_of_lt hlt)]; exact hk, hlt⟩
  have old2 : ∀ (b : Addr) (o : Obj), s.heap.get? b = some o → (PySem.W.sortingHeap (h'.push (PyProof.Rows.seqObj "list" vs.toArray 0)) h'.objs.size vs).get? b = some o := fun b o hb => by
    obtain ⟨h1, h2⟩ := old1 b o hb
    unfold PySem.W.sortingHeap
    have z1 : ((h'.push (PyProof.Rows.seqObj "list" vs.toArray 0)).update h'.objs.size (Obj.mapSeq fun x => #[])).objs.size = h'.objs.size + 1 := by rw [Heap.size_update, PyProof.Rows.size_push']
    have z2 : (((h'.push (PyProof.Rows.seqObj "list" vs.toArray 0)).update h'.objs.size (Obj.mapSeq fun x => #[])).push (PyProof.Rows.seqObj "tuple" vs.toArray 0)).objs.size = h'.objs.size + 1 + 1 := by rw [PyProof.Rows.size_push', z1]
    rw [Heap.get?_push_ne _ b _ (by rw [z2]; exact Nat.ne_of_lt (Nat.lt_succ_of_lt (Nat.lt_succ_of_lt h2))), Heap.get?_push_ne _ b _ (by rw [z1]; exact Nat.ne_of_lt (Nat.lt_succ_of_lt h2)), Heap.get?_update_ne _ b _ _ (Nat.ne_of_lt h2)]
    exact h1
  have er' := PySem.W.EachIs.mono (fun x y ⟨as, r⟩ => (⟨as, PyProof.Rows.Reads.keeps (h' := PySem.W.sortingHeap (h'.push (PyProof.Rows.seqObj "list" vs.toArray 0)) h'.objs.size vs) (fun b o hb => old2 b o hb) r⟩ : ∃ as, _)) er
  have S := PySem.W.SortsAt.data (prog := prog) (w := w) (A := A.in1.in1) (s := { heap := PySem.W.sortingHeap (h'.push (PyProof.Rows.seqObj "list" vs.toArray 0)) h'.objs.size vs, gens := s.gens, drawn := s.drawn, toks := s.toks, os := s.os }) (PySem.W.each_map enc er') hal hk (PySem.W.bound_map hu)
  refine wpAny_bind (wpAny_newList ?_ (by simpa using hLv))
  refine wpAny_bind (wpAny_holding (PyProof.Rows.wpAny_call_entry_kw PyProof.Rows.slot_list_sort ⟨PyProof.Rows.seqObj "list" vs.toArray 0, hat, rfl⟩ PyProof.Rows.entry_list_sort ?_ (PyProof.Rows.args_list_sort (.ref h'.objs.size))))
  refine PySem.W.list_sort_vals hat S hLv ⟨.none, rfl, wpAny_pure ⟨.ref h'.objs.size, rfl, ?_⟩⟩
  refine h _ _ _ (by rw [PySem.W.sortVals_length false rfl]; exact e.length) (PySem.W.sortVals_data false e er' hal) (fun b o hb => ?_) hsz (PyProof.Rows.sortedHeap_at hat)
  obtain ⟨h1, h2⟩ := old1 b o hb
  rw [PyProof.Rows.sortedHeap_old (Nat.ne_of_lt h2) (by rw [PyProof.Rows.size_push']; exact Nat.lt_succ_of_lt h2)]
  exact h1
end
section
open L2 (V Hp HO St TE TT TA TS TG TI TO PE PT PW PA PS PSs PG PI PO Cx Inv RelV Vals SqL SqT Rd upd upd_same upd_ne ne_of ne_of_none OpR UnR CallR MtR IxR SlR It thn)
variable {X : Cx}
theorem b_sortedA {kk : Nat} (hr : L2.Room kk X.A) : CallR X (.builtin "sorted") (rlOf X.K rSortedA) := by
  intro pins s σ H vs us Q I rv ⟨m, S, ds, R, hS, rs, h, k⟩
  match ds, h, rs with
  | [.ref n], h, rs => exact b_sorted hr pins s σ H vs us Q I rv ⟨m, S, [.ref n], R, hS, rs, h, k⟩
  | [.tup xs], h, rs =>
    obtain ⟨v, rfl, a, ws, rfl, h2, h3⟩ := reps1 rs
    obtain ⟨⟨f, dp, ak, so⟩, q⟩ := h
    rw [L2.Vals.ref1 rv]
    obtain ⟨its, rw', pl, hz⟩ := I.tuple h2
    have st := stands_all h3 rw'
    have hm : ∀ b ∈ xs, flat b = true := flats_mem f
    have rd : ∀ {ds : List D} {us : List Value}, PySem.W.EachIs (Stands X.K H m) us ds → (∀ d ∈ ds, flat d = true) → PySem.W.EachIs (fun u d => ∃ as, Reads s.heap u (toPy d) as) us ds := by
      intro ds us e
      induction e with
      | nil => intro _; exact .nil
      | cons h t ih =>
        intro hf
        obtain ⟨v, g1, g2⟩ := h
        exact .cons (L2.Dp.reads I _ _ _ (toPy_dp _ _ (hf _ List.mem_cons_self) g2) g1) (ih fun d hd => hf d (List.mem_cons_of_mem _ hd))
    refine sorted_tup (enc := toPy) (bs := xs) (R := Stands X.K H m) pl st (rd st hm) ?_ ?_ (by rw [← h3.len]; exact hz) (fun b hb => ?_) fun out hh aa ho eo keep hge hat => ?_
    · intro d hd d' hd'
      obtain ⟨b, hb, rfl⟩ := List.mem_map.mp hd
      obtain ⟨b', hb', rfl⟩ := List.mem_map.mp hd'
      exact akin_eq b b' (ak b hb b' hb')
    · rcases so with so | so
      · refine .inl fun d hd => ?_
        obtain ⟨b, hb, rfl⟩ := List.mem_map.mp hd
        obtain ⟨x, r, e⟩ := so b hb
        exact toPy_tup e
      · refine .inr fun d hd => ?_
        obtain ⟨b, hb, rfl⟩ := List.mem_map.mp hd
        obtain ⟨n1, n2⟩ := so b hb
        have fb := hm b hb
        cases b with
        | non => exact absurd rfl n1
        | tup ys => exact absurd rfl (n2 ys)
        | rol _ => cases (show false = true from fb)
        | ref _ => cases (show false = true from fb)
        | ty _ => cases (show false = true from fb)
        | bl _ => exact ⟨(fun z => nomatch z), (fun _ z => nomatch z)⟩
        | int _ => exact ⟨(fun z => nomatch z), (fun _ z => nomatch z)⟩
        | str _ => exact ⟨(fun z => nomatch z), (fun _ z => nomatch z)⟩
    · rw [deep_eq]
      have := deeps_mem b hb
      have := hr.units
      omega
    · obtain ⟨c, hc⟩ := hat
      obtain ⟨ys, g1, g2⟩ := stands_back eo
      have hp : H aa = none := I.hok.fresh hge
      have perm := List.mergeSort_perm xs (PySem.W.dataLe false toPy)
      have pw := List.pairwise_mergeSort sort_trans sort_total xs
      refine ⟨.ref aa, upd H aa (.lst ys), I.laid (t' := s.toks) keep hge ⟨?_, out, c, g2, hc⟩, rfl, ?_⟩
      · rw [g1.len, List.length_mergeSort, ← h3.len]
        exact hz
      · refine k.lst hS g1 (q _ perm ?_) _ hp
        refine List.Pairwise.imp_of_mem (fun {x y} hx hy hxy => ?_) pw
        have hx' := perm.mem_iff.mp hx
        have hy' := perm.mem_iff.mp hy
        have hxy : (!PySem.W.dataLt (toPy y) (toPy x)) = true := hxy
        rw [lt_eq y x (hm y hy') (hm x hx') (ak y hy' x hx')] at hxy
        simpa using hxy
end
end DL
set_option linter.all false
set_option maxRecDepth 100000
set_option maxHeartbeats 4000000
/-! DLP: helpers over DL0: the store, lists of plain data, loops, comprehensions, what every law's own helpers keep. -/
namespace DL
/-! ### the store -/
/-- all that was there is there -/
def Sub (S S' : Sto) : Prop := ∀ (n : Nat) (o : O), S[n]? = some o → S'[n]? = some o
theorem Sub.refl (S : Sto) : Sub S S := fun _ _ h => h
theorem Sub.trans {S S1 S2 : Sto} (a : Sub S S1) (b : Sub S1 S2) : Sub S S2 := fun n o h => b n o (a n o h)
theorem Sub.push (S : Sto) (l : Sto) : Sub S (S ++ l) := fun n o h => by
  rw [List.getElem?_append_left (List.getElem?_eq_some_iff.mp h).1]
  exact h
theorem at_push (S : Sto) (o : O) : (S ++ [o])[S.length]? = some o := by simp
theorem Sub.lt {S S' : Sto} (h : Sub S S') {n : Nat} {o : O} (e : S[n]? = some o) : n < S'.length := (List.getElem?_eq_some_iff.mp (h n o e)).1
theorem at_lt {S : Sto} {n : Nat} {o : O} (e : S[n]? = some o) : n < S.length := (List.getElem?_eq_some_iff.mp e).1
theorem at_set {S : Sto} {n : Nat} {o o' : O} (e : S[n]? = some o) : (S.set n o')[n]? = some o' := List.getElem?_set_self (at_lt e)
theorem at_set_ne {S : Sto} {n k : Nat} {o' : O} (h : k ≠ n) : (S.set n o')[k]? = S[k]? := List.getElem?_set_ne (Ne.symm h)
theorem isLst_at {S : Sto} {n : Nat} {xs : List D} {P : List D → Prop} (h : S[n]? = some (.lst xs)) : isLst S n P = P xs := by
  unfold isLst
  rw [h]
/-- the draws stand at n -/
def Dr (n : Nat) (S : Sto) : Prop := ∃ ns : List Int, S[n]? = some (.lst (intD ns))
/-- all but what stands at n is there -/
def Ch (n : Nat) (S S' : Sto) : Prop := ∀ (k : Nat) (o : O), k ≠ n → S[k]? = some o → S'[k]? = some o
theorem Ch.refl (n : Nat) (S : Sto) : Ch n S S := fun _ _ _ h => h
theorem Ch.trans {n : Nat} {S S1 S2 : Sto} (a : Ch n S S1) (b : Ch n S1 S2) : Ch n S S2 := fun k o hk h => b k o hk (a k o hk h)
theorem Sub.ch {n : Nat} {S S' : Sto} (h : Sub S S') : Ch n S S' := fun k o _ e => h k o e
theorem Dr.sub {n : Nat} {S S' : Sto} (d : Dr n S) (h : Sub S S') : Dr n S' := let ⟨ns, e⟩ := d; ⟨ns, h n _ e⟩
theorem Ch.set {n : Nat} (S : Sto) (o : O) : Ch n S (S.set n o) := fun k u hk e => by rw [at_set_ne hk]; exact e

theorem ite_i {c A B : Prop} {_ : Decidable c} (h1 : c → A) (h2 : ¬ c → B) : if c then A else B := by
  by_cases h : c
  · rw [if_pos h]; exact h1 h
  · rw [if_neg h]; exact h2 h
theorem Sub.put {S S' : Sto} {n : Nat} {o : O} (h : Sub S S') (hn : S.length ≤ n) : Sub S (S'.set n o) := fun k u e => by
  rw [at_set_ne (by have := at_lt e; omega)]
  exact h k u e
theorem Sub.app {S S' : Sto} (h : Sub S S') (l : Sto) : Sub S (S' ++ l) := h.trans (Sub.push S' l)
theorem push_at {S : Sto} {n : Nat} {o : O} (h : S[n]? = some o) (l : Sto) : (S ++ l)[n]? = some o := Sub.push S l n o h
/-! ### places of lists -/
theorem atZ_nat {α : Type} {xs : List α} {i : Nat} {x : α} (h : xs[i]? = some x) : atZ xs (i : Int) = some x := by
  have hl : i < xs.length := (List.getElem?_eq_some_iff.mp h).1
  unfold atZ ixZ
  rw [if_pos (by omega), if_pos (by omega)]
  simpa using h
theorem atZ_lt {α : Type} {xs : List α} {i : Int} (h0 : 0 ≤ i) (h1 : i < xs.length) : ∃ x, atZ xs i = some x ∧ xs[i.toNat]? = some x := by
  have hl : i.toNat < xs.length := by omega
  refine ⟨xs[i.toNat], ?_, List.getElem?_eq_getElem hl⟩
  have := atZ_nat (List.getElem?_eq_getElem hl)
  rw [show ((i.toNat : Nat) : Int) = i by omega] at this
  exact this
theorem intD_get {ns : List Int} {i : Nat} {d : D} (h : (intD ns)[i]? = some d) : ∃ n, ns[i]? = some n ∧ d = .int n := by
  rw [List.getElem?_map] at h
  cases e : ns[i]? with
  | none => rw [e] at h; cases h
  | some n => rw [e] at h; exact ⟨n, rfl, (Option.some.inj h).symm⟩
theorem intD_at {ns : List Int} {i : Nat} {n : Int} (h : ns[i]? = some n) : (intD ns)[i]? = some (.int n) := by
  rw [List.getElem?_map, h]
  rfl
theorem intD_atZ {ns : List Int} {i : Int} (h0 : 0 ≤ i) (h1 : i < ns.length) : ∃ n, ns[i.toNat]? = some n ∧ atZ (intD ns) i = some (.int n) := by
  have hl : i.toNat < ns.length := by omega
  refine ⟨ns[i.toNat], List.getElem?_eq_getElem hl, ?_⟩
  have := atZ_nat (intD_at (List.getElem?_eq_getElem hl))
  rw [show ((i.toNat : Nat) : Int) = i by omega] at this
  exact this
theorem sIx_nn (n d : Nat) {i : Int} (h : 0 ≤ i) : sIx n d (some i) = min i.toNat n := by
  show (if i < 0 then (i + n).toNat else min i.toNat n) = _
  rw [if_neg (by omega)]
theorem sIx_no (n d : Nat) : sIx n d none = d := rfl
theorem cut_take {α : Type} (xs : List α) {i : Int} (h : 0 ≤ i) : cut xs none (some i) = xs.take i.toNat := by
  unfold cut
  rw [sIx_no, sIx_nn _ _ h, List.drop_zero, Nat.sub_zero]
  by_cases hc : i.toNat ≤ xs.length
  · rw [Nat.min_eq_left hc]
  · rw [Nat.min_eq_right (by omega), List.take_length, List.take_of_length_le (by omega)]
theorem cut_drop {α : Type} (xs : List α) {i : Int} (h : 0 ≤ i) : cut xs (some i) none = xs.drop i.toNat := by
  unfold cut
  rw [sIx_no, sIx_nn _ _ h]
  by_cases hc : i.toNat ≤ xs.length
  · rw [Nat.min_eq_left hc, List.take_of_length_le (by simp)]
  · rw [Nat.min_eq_right (by omega), List.drop_length, List.drop_of_length_le (by omega)]
    simp
theorem rangeD_get {lo hi : Int} {i : Nat} {d : D} (h : (rangeD lo hi)[i]? = some d) : i < (hi - lo).toNat ∧ d = .int (lo + i) := by
  unfold rangeD at h
  rw [List.getElem?_map] at h
  by_cases hi : i < (hi - lo).toNat
  · rw [List.getElem?_range hi] at h
    exact ⟨hi, (Option.some.inj h).symm⟩
  · rw [List.getElem?_eq_none (by simpa using hi)] at h
    cases h
theorem rangeD_len (lo hi : Int) : (rangeD lo hi).length = (hi - lo).toNat := by simp [rangeD]
theorem rangeD_nat (n : Nat) : rangeD 0 (n : Int) = (List.range n).map fun (i : Nat) => D.int (i : Int) := by
  unfold rangeD
  rw [show ((n : Int) - 0).toNat = n by omega]
  apply List.map_congr_left
  intro i _
  rw [Int.zero_add]
theorem mem_rangeD {lo hi : Int} {d : D} (h : d ∈ rangeD lo hi) : ∃ i : Nat, i < (hi - lo).toNat ∧ d = .int (lo + i) := by
  obtain ⟨i, hi, e⟩ := List.mem_map.mp h
  exact ⟨i, List.mem_range.mp hi, e.symm⟩
theorem flats_int : ∀ ns : List Int, flats (intD ns) = true
  | [] => rfl
  | n :: ns => by
    show (true && flats (intD ns)) = true
    rw [flats_int ns]
    rfl
theorem flats0_int (ns : List Int) : (intD ns).all flat0 = true := by
  induction ns with
  | nil => rfl
  | cons n ns ih =>
    show (true && (intD ns).all flat0) = true
    rw [ih]
    rfl
theorem deeps_int : ∀ ns : List Int, deeps (intD ns) = 0
  | [] => rfl
  | n :: ns => by
    show max 0 (deeps (intD ns)) = 0
    rw [deeps_int ns]
    rfl
/-! no tuple is longer than a store can tell -/
mutual
def slim : D → Bool
  | .tup xs => decide (xs.length ≤ szL) && slims xs
  | _ => true
def slims : List D → Bool
  | [] => true
  | x :: xs => slim x && slims xs
end
theorem slims_int : ∀ ns : List Int, slims (intD ns) = true
  | [] => rfl
  | n :: ns => by
    show (true && slims (intD ns)) = true
    rw [slims_int ns]
    rfl
theorem flats_get {xs : List D} {i : Nat} {d : D} : flats xs = true → xs[i]? = some d → flat d = true := by
  induction xs generalizing i with
  | nil => intro _ h; cases h
  | cons x xs ih =>
    intro h e
    have h := Bool.and_eq_true_iff.mp (show (flat x && flats xs) = true from h)
    cases i with
    | zero => rw [← Option.some.inj e]; exact h.1
    | succ i => exact ih h.2 e
theorem slims_get {xs : List D} {i : Nat} {d : D} : slims xs = true → xs[i]? = some d → slim d = true := by
  induction xs generalizing i with
  | nil => intro _ h; cases h
  | cons x xs ih =>
    intro h e
    have h := Bool.and_eq_true_iff.mp (show (slim x && slims xs) = true from h)
    cases i with
    | zero => rw [← Option.some.inj e]; exact h.1
    | succ i => exact ih h.2 e
theorem deeps_get {xs : List D} {i : Nat} {d : D} : xs[i]? = some d → deep d ≤ deeps xs := by
  induction xs generalizing i with
  | nil => intro h; cases h
  | cons x xs ih =>
    intro e
    show deep d ≤ max (deep x) (deeps xs)
    cases i with
    | zero => rw [← Option.some.inj e]; omega
    | succ i => have := ih e; omega
mutual
theorem eqD_self : ∀ d : D, flat d = true → eqD d d = true
  | .non, _ => rfl
  | .bl b, _ => by cases b <;> rfl
  | .int i, _ => by show decide (i = i) = true; simp
  | .str x, _ => by show decide (x = x) = true; simp
  | .tup xs, h => eqDs_self xs h
  | .rol _, h => by cases (show false = true from h)
  | .ref _, h => by cases (show false = true from h)
  | .ty _, h => by cases (show false = true from h)
theorem eqDs_self : ∀ ds : List D, flats ds = true → eqDs ds ds = true
  | [], _ => rfl
  | d :: ds, h => by
    have h := Bool.and_eq_true_iff.mp (show (flat d && flats ds) = true from h)
    show (eqD d d && eqDs ds ds) = true
    rw [eqD_self d h.1, eqDs_self ds h.2]
    rfl
end

/-! ### sorting -/
theorem perm_map {α β : Type} (f : α → β) : ∀ {ys zs : List β}, ys.Perm zs → ∀ l : List α, zs = l.map f → ∃ l' : List α, l'.Perm l ∧ ys = l'.map f := by
  intro ys zs p
  induction p with
  | nil => intro l e; cases l with
    | nil => exact ⟨[], .refl _, rfl⟩
    | cons _ _ => cases e
  | cons x p ih =>
    intro l e
    cases l with
    | nil => cases e
    | cons a l =>
      rw [List.map_cons] at e
      injection e with e1 e2
      obtain ⟨l', h1, h2⟩ := ih l e2
      exact ⟨a :: l', h1.cons a, by rw [List.map_cons, ← h2, e1]⟩
  | swap x y l0 =>
    intro l e
    match l, e with
    | a :: b :: l, e =>
      rw [List.map_cons, List.map_cons] at e
      injection e with e1 e2
      injection e2 with e2 e3
      exact ⟨b :: a :: l, .swap .., by rw [List.map_cons, List.map_cons, e1, e2, e3]⟩
  | trans p1 p2 ih1 ih2 =>
    intro l e
    obtain ⟨l2, h1, h2⟩ := ih2 l e
    obtain ⟨l1, h3, h4⟩ := ih1 l2 h2
    exact ⟨l1, h3.trans h1, h4⟩
/-- two ascending lists of the same members -/
theorem asc_one : ∀ {a b : List Int}, a.Pairwise (· < ·) → b.Pairwise (· < ·) → (∀ x, x ∈ a ↔ x ∈ b) → a = b
  | [], [], _, _, _ => rfl
  | [], y :: b, _, _, h => by have := (h y).mpr List.mem_cons_self; cases this
  | x :: a, [], _, _, h => by have := (h x).mp List.mem_cons_self; cases this
  | x :: a, y :: b, pa, pb, h => by
    rw [List.pairwise_cons] at pa pb
    have e : x = y := by
      rcases List.mem_cons.mp ((h x).mp List.mem_cons_self) with e | m1
      · exact e
      · rcases List.mem_cons.mp ((h y).mpr List.mem_cons_self) with e | m2
        · exact e.symm
        · have := pb.1 x m1
          have := pa.1 y m2
          omega
    subst e
    rw [asc_one pa.2 pb.2 fun z => ⟨fun hz => ?_, fun hz => ?_⟩]
    · rcases List.mem_cons.mp ((h z).mp (List.mem_cons_of_mem _ hz)) with e | m
      · have := pa.1 z hz
        omega
      · exact m
    · rcases List.mem_cons.mp ((h z).mpr (List.mem_cons_of_mem _ hz)) with e | m
      · have := pb.1 z hz
        omega
      · exact m

/-! ### comprehensions that change nothing: f tells what each item gives -/
theorem Lc_fun {items : List D} {guard : Sto → Prop} {S1 : Sto} {step : D → Sto → (Option D → Sto → Prop) → Prop} {Q : VK} (f : D → Option D) (hz : items.length ≤ szL) (hg : ∀ S', Sub S1 S' → guard S')
    (hs : ∀ (i : Nat) (d : D) S' R, items[i]? = some d → Sub S1 S' → (∀ S2, Sub S' S2 → R (f d) S2) → step d S' R) (hd : ∀ S', Sub S1 S' → Q (.ref S'.length) (S' ++ [.lst (items.filterMap f)])) : Lc items guard S1 step Q := by
  refine ⟨hz, fun i acc S' => Sub S1 S' ∧ acc = (items.take i).filterMap f, ⟨.refl _, rfl⟩, fun i acc S' h => hg S' h.1, ?_, ?_⟩
  · rintro i d acc S' hi ⟨h1, rfl⟩
    refine hs i d S' _ hi h1 fun S2 h2 => ⟨h1.trans h2, ?_⟩
    rw [List.take_add_one, hi]
    cases e : f d with
    | none => simp [e]
    | some y => simp [e]
  · rintro acc S' ⟨h1, rfl⟩
    rw [List.take_length]
    exact hd S' h1

theorem ite_d {c A B : Prop} {_ : Decidable c} (h1 : c → A) (h2 : ¬ c → B) : if decide c = true then A else B := by
  by_cases h : c
  · rw [if_pos (decide_eq_true h)]; exact h1 h
  · rw [if_neg (by simpa using h)]; exact h2 h
theorem okII (i j : Int) : flat (.int i) = true ∧ flat (.int j) = true ∧ deep (.int i) ≤ 64 ∧ deep (.int j) ≤ 64 := ⟨rfl, rfl, Nat.zero_le _, Nat.zero_le _⟩
theorem goEq {i j : Int} {S : Sto} {Q : VK} (h : Q (.bl (decide (i = j))) S) : (flat (.int i) = true ∧ flat (.int j) = true ∧ deep (.int i) ≤ 64 ∧ deep (.int j) ≤ 64) ∧ Q (.bl (eqD (.int i) (.int j))) S := ⟨okII i j, h⟩
theorem goNe {i j : Int} {S : Sto} {Q : VK} (h : Q (.bl (!decide (i = j))) S) : (flat (.int i) = true ∧ flat (.int j) = true ∧ deep (.int i) ≤ 64 ∧ deep (.int j) ≤ 64) ∧ Q (.bl (!eqD (.int i) (.int j))) S := ⟨okII i j, h⟩
theorem Loop_mk {items : List D} {guard : Sto → Prop} {step : D → Env → Sto → (Env → Sto → Prop) → Prop} {done : Env → Sto → Prop} {ρ : Env} {S : Sto} (I : Nat → Env → Sto → Prop)
    (h0 : I 0 ρ S) (hg : ∀ i ρ' S', I i ρ' S' → guard S') (hs : ∀ i d ρ' S', items[i]? = some d → I i ρ' S' → step d ρ' S' (I (i + 1))) (hd : ∀ ρ' S', I items.length ρ' S' → done ρ' S') : Loop items guard step done ρ S := ⟨I, h0, hg, hs, hd⟩
theorem fmod_lt {a b : Int} (h : 0 < b) : 0 ≤ a.fmod b ∧ a.fmod b < b := ⟨Int.fmod_nonneg_of_pos a h, Int.fmod_lt_of_pos a h⟩
theorem atZ_intD {ns : List Int} {i : Int} (h0 : 0 ≤ i) (h1 : i < ns.length) : atZ (intD ns) i = some (.int (ns.getD i.toNat 0)) := by
  obtain ⟨n, h, e⟩ := intD_atZ h0 h1
  rw [e, List.getD_eq_getElem?_getD, h]
  rfl
theorem ixZ_ok {n : Nat} {i : Int} (h0 : 0 ≤ i) (h1 : i < n) : ixZ n i = some i.toNat := by
  unfold ixZ
  rw [if_pos h0, if_pos h1]
theorem intD_set (ns : List Int) (i : Nat) (x : Int) : (intD ns).set i (.int x) = intD (ns.set i x) := by show (ns.map D.int).set i (D.int x) = (ns.set i x).map D.int; rw [List.map_set]
theorem smallMul {i j : Int} (h : j.natAbs < 2 ^ 64) : MulOk i j := Or.inl (Or.inr h)
theorem smallMul' {i j : Int} (h : i.natAbs < 2 ^ 64) : MulOk i j := Or.inl (Or.inl h)
abbrev natD (ns : List Nat) : List D := intD (ns.map fun (k : Nat) => (k : Int))
theorem intD_len (ns : List Int) : (intD ns).length = ns.length := List.length_map ..
theorem natD_len (ns : List Nat) : (natD ns).length = ns.length := by rw [intD_len, List.length_map]
theorem natD_get {ns : List Nat} {i : Nat} {d : D} (h : (natD ns)[i]? = some d) : ∃ n : Nat, ns[i]? = some n ∧ d = .int n := by
  obtain ⟨x, h1, rfl⟩ := intD_get h
  rw [List.getElem?_map] at h1
  cases e : ns[i]? with
  | none => rw [e] at h1; cases h1
  | some n => rw [e] at h1; exact ⟨n, rfl, by rw [← Option.some.inj h1]⟩
/-- over a range -/
theorem Lc_rf {n : Nat} {guard : Sto → Prop} {S1 : Sto} {step : D → Sto → (Option D → Sto → Prop) → Prop} {Q : VK} (p : Nat → Bool) (f : Nat → D) (hz : n ≤ szL) (hg : ∀ S', Sub S1 S' → guard S')
    (hs : ∀ (i : Nat) S' R, i < n → Sub S1 S' → (∀ S2, Sub S' S2 → R (if p i = true then some (f i) else none) S2) → step (.int (i : Int)) S' R) (hd : ∀ S', Sub S1 S' → Q (.ref S'.length) (S' ++ [.lst (((List.range n).filter p).map f)])) : Lc (rangeD 0 (n : Int)) guard S1 step Q := by
  refine ⟨by rw [rangeD_len]; omega, fun i acc S' => Sub S1 S' ∧ acc = ((List.range i).filter p).map f, ⟨.refl _, rfl⟩, fun i acc S' h => hg S' h.1, ?_, ?_⟩
  · rintro i d acc S' hi ⟨h1, rfl⟩
    obtain ⟨hi1, rfl⟩ := rangeD_get hi
    rw [Int.zero_add]
    refine hs i S' _ (by omega) h1 fun S2 h2 => ⟨h1.trans h2, ?_⟩
    rw [List.range_succ, List.filter_append, List.map_append]
    cases e : p i <;> simp [e]
  · rintro acc S' ⟨h1, rfl⟩
    rw [rangeD_len, show ((n : Int) - 0).toNat = n by omega]
    exact hd S' h1
theorem Lc_rm {n : Nat} {guard : Sto → Prop} {S1 : Sto} {step : D → Sto → (Option D → Sto → Prop) → Prop} {Q : VK} (f : Nat → D) (hz : n ≤ szL) (hg : ∀ S', Sub S1 S' → guard S')
    (hs : ∀ (i : Nat) S' R, i < n → Sub S1 S' → (∀ S2, Sub S' S2 → R (some (f i)) S2) → step (.int (i : Int)) S' R) (hd : ∀ S', Sub S1 S' → Q (.ref S'.length) (S' ++ [.lst ((List.range n).map f)])) : Lc (rangeD 0 (n : Int)) guard S1 step Q := by
  refine Lc_rf (fun _ => true) f hz hg (fun i S' R h1 h2 h3 => hs i S' R h1 h2 fun S2 h4 => h3 S2 h4) fun S' h => ?_
  rw [List.filter_eq_self.mpr (fun _ _ => rfl)]
  exact hd S' h
/-- over any list that is known by a map -/
theorem Lc_lf {α : Type} {xs : List α} {e : α → D} {guard : Sto → Prop} {S1 : Sto} {step : D → Sto → (Option D → Sto → Prop) → Prop} {Q : VK} (p : α → Bool) (f : α → D) (hz : xs.length ≤ szL) (hg : ∀ S', Sub S1 S' → guard S')
    (hs : ∀ (x : α) S' R, x ∈ xs → Sub S1 S' → (∀ S2, Sub S' S2 → R (if p x = true then some (f x) else none) S2) → step (e x) S' R) (hd : ∀ S', Sub S1 S' → Q (.ref S'.length) (S' ++ [.lst ((xs.filter p).map f)])) : Lc (xs.map e) guard S1 step Q := by
  refine ⟨by rw [List.length_map]; exact hz, fun i acc S' => Sub S1 S' ∧ acc = ((xs.take i).filter p).map f, ⟨.refl _, rfl⟩, fun i acc S' h => hg S' h.1, ?_, ?_⟩
  · rintro i d acc S' hi ⟨h1, rfl⟩
    rw [List.getElem?_map] at hi
    cases ex : xs[i]? with
    | none => rw [ex] at hi; cases hi
    | some x =>
      rw [ex] at hi
      cases Option.some.inj hi
      refine hs x S' _ (List.mem_of_getElem? ex) h1 fun S2 h2 => ⟨h1.trans h2, ?_⟩
      rw [List.take_add_one, ex]
      cases e : p x <;> simp [e]
  · rintro acc S' ⟨h1, rfl⟩
    rw [List.length_map, List.take_length]
    exact hd S' h1
theorem Lc_lm {α : Type} {xs : List α} {e : α → D} {guard : Sto → Prop} {S1 : Sto} {step : D → Sto → (Option D → Sto → Prop) → Prop} {Q : VK} (f : α → D) (hz : xs.length ≤ szL) (hg : ∀ S', Sub S1 S' → guard S')
    (hs : ∀ (x : α) S' R, x ∈ xs → Sub S1 S' → (∀ S2, Sub S' S2 → R (some (f x)) S2) → step (e x) S' R) (hd : ∀ S', Sub S1 S' → Q (.ref S'.length) (S' ++ [.lst (xs.map f)])) : Lc (xs.map e) guard S1 step Q := by
  refine Lc_lf (fun _ => true) f hz hg (fun x S' R h1 h2 h3 => hs x S' R h1 h2 fun S2 h4 => h3 S2 h4) fun S' h => ?_
  rw [List.filter_eq_self.mpr (fun _ _ => rfl)]
  exact hd S' h
theorem atZ_intN {ns : List Int} {i : Nat} (h : i < ns.length) : atZ (intD ns) (i : Int) = some (.int (ns.getD i 0)) := by
  have := atZ_intD (ns := ns) (i := (i : Int)) (by omega) (by omega)
  rwa [Int.toNat_natCast] at this
theorem flats_map {α : Type} {f : α → D} : ∀ {l : List α}, (∀ x ∈ l, flat (f x) = true) → flats (l.map f) = true
  | [], _ => rfl
  | x :: l, h => by
    show (flat (f x) && flats (l.map f)) = true
    rw [h x List.mem_cons_self, flats_map fun y hy => h y (List.mem_cons_of_mem _ hy)]
    rfl
theorem slims_map {α : Type} {f : α → D} : ∀ {l : List α}, (∀ x ∈ l, slim (f x) = true) → slims (l.map f) = true
  | [], _ => rfl
  | x :: l, h => by
    show (slim (f x) && slims (l.map f)) = true
    rw [h x List.mem_cons_self, slims_map fun y hy => h y (List.mem_cons_of_mem _ hy)]
    rfl
theorem deeps_map {α : Type} {f : α → D} {N : Nat} : ∀ {l : List α}, (∀ x ∈ l, deep (f x) ≤ N) → deeps (l.map f) ≤ N
  | [], _ => Nat.zero_le _
  | x :: l, h => by
    show max (deep (f x)) (deeps (l.map f)) ≤ N
    have := h x List.mem_cons_self
    have := deeps_map (l := l) fun y hy => h y (List.mem_cons_of_mem _ hy)
    omega
/-- ints sort -/
theorem sortOk_int (ns : List Int) : sortOk (intD ns) := by
  refine ⟨flats_int ns, by rw [deeps_int]; omega, ?_, Or.inr ?_⟩
  · intro a ha b hb
    obtain ⟨x, _, rfl⟩ := List.mem_map.mp ha
    obtain ⟨y, _, rfl⟩ := List.mem_map.mp hb
    rfl
  · intro a ha
    obtain ⟨x, _, rfl⟩ := List.mem_map.mp ha
    exact ⟨by simp, by simp⟩
theorem sort_int {ns : List Int} {ys : List D} (hp : ys.Perm (intD ns)) (hw : ys.Pairwise (fun a b => ltD b a = false)) : ∃ ms : List Int, ys = intD ms ∧ ms.Perm ns ∧ ms.Pairwise (· ≤ ·) := by
  obtain ⟨ms, h1, rfl⟩ := perm_map _ hp _ rfl
  refine ⟨ms, rfl, h1, ?_⟩
  rw [List.pairwise_map] at hw
  refine hw.imp fun {a b} h => ?_
  have h : decide (b < a) = false := h
  simpa using h
theorem get_at {S : Sto} {n : Nat} {xs : List D} (h : S[n]? = some (.lst xs)) : S[n]? = some (.lst xs) := h
theorem natD_map (l : List Nat) : natD l = l.map fun (k : Nat) => D.int (k : Int) := by simp [natD, intD]
theorem any_int (ns : List Int) (x : Int) : (intD ns).any (fun y => eqD y (.int x)) = decide (x ∈ ns) := by
  induction ns with
  | nil => simp
  | cons n ns ih =>
    show (eqD (.int n) (.int x) || (intD ns).any fun y => eqD y (.int x)) = _
    rw [ih, show eqD (.int n) (.int x) = decide (n = x) from rfl]
    simp only [List.mem_cons, Bool.decide_or]
    congr 1
    simp [eq_comm]
theorem any_nat (ns : List Nat) (x : Nat) : (natD ns).any (fun y => eqD y (.int x)) = decide (x ∈ ns) := by
  rw [any_int]
  have : ((x : Int) ∈ ns.map fun (k : Nat) => (k : Int)) ↔ x ∈ ns := by
    rw [List.mem_map]
    exact ⟨fun ⟨a, h, e⟩ => by rwa [show x = a by omega], fun h => ⟨x, h, rfl⟩⟩
  simp only [this]
theorem Ch.put {S S' : Sto} {n m : Nat} {o : O} (h : Ch n S S') (hm : S.length ≤ m) : Ch n S (S'.set m o) := fun k u hk e => by
  rw [at_set_ne (by have := at_lt e; omega)]
  exact h k u hk e
theorem Ch.app {S S' : Sto} {n : Nat} (h : Ch n S S') (l : Sto) : Ch n S (S' ++ l) := h.trans (Sub.push S' l).ch
theorem Dr.app {n : Nat} {S : Sto} (d : Dr n S) (l : Sto) : Dr n (S ++ l) := d.sub (Sub.push S l)
theorem Dr.put {n m : Nat} {S : Sto} {o : O} (d : Dr n S) (h : n ≠ m) : Dr n (S.set m o) := let ⟨ns, e⟩ := d; ⟨ns, by rw [at_set_ne h]; exact e⟩
theorem Dr.lt {n : Nat} {S : Sto} (d : Dr n S) : n < S.length := let ⟨_, e⟩ := d; at_lt e
theorem Ch.len {n : Nat} {S S' : Sto} (h : Ch n S S') (hn : n < S'.length) : S.length ≤ S'.length := by
  false_or_by_contra
  rename_i hc
  have h1 : S.length - 1 < S.length := by omega
  by_cases e : S.length - 1 = n
  · omega
  · have := at_lt (h (S.length - 1) _ e (List.getElem?_eq_getElem h1))
    omega
theorem Sub.len {S S' : Sto} (h : Sub S S') : S.length ≤ S'.length := by
  false_or_by_contra
  rename_i hc
  have h1 : S.length - 1 < S.length := by omega
  have := at_lt (h (S.length - 1) _ (List.getElem?_eq_getElem h1))
  omega
theorem ifT {c : Bool} {A B : Prop} {_ : Decidable (c = true)} (h : c = true) (a : A) : if c = true then A else B := by rw [if_pos h]; exact a
theorem ifF {c : Bool} {A B : Prop} {_ : Decidable (c = true)} (h : c = false) (b : B) : if c = true then A else B := by rw [if_neg (by rw [h]; decide)]; exact b
theorem it_at {S : Sto} {n : Nat} {xs : List D} {A : List D → Prop} (h : S[n]? = some (.lst xs)) (a : A xs) : match S[n]? with
    | some (.lst ys) => A ys
    | _ => False := by
  rw [h]
  exact a
theorem eqD_ii (i j : Int) : eqD (.int i) (.int j) = decide (i = j) := rfl
end DL
set_option linter.all false
set_option maxRecDepth 100000
set_option maxHeartbeats 4000000
/-! DLQ: fractions in lowest terms as pairs: rationals. -/
namespace DL
@[reducible] def qD (q : Rat) : D := .tup [.int q.num, .int q.den]
/-- n divided by d in lowest terms, with a divisor that is the greatest common one, with d's sign -/
theorem ratio_eq {n d : Int} (hd : d ≠ 0) : n.fdiv (if d < 0 then -((Nat.gcd n.natAbs d.natAbs : Nat) : Int) else (Nat.gcd n.natAbs d.natAbs : Nat)) = (Rat.divInt n d).num ∧ d.fdiv (if d < 0 then -((Nat.gcd n.natAbs d.natAbs : Nat) : Int) else (Nat.gcd n.natAbs d.natAbs : Nat)) = (Rat.divInt n d).den := by
  rw [Rat.num_divInt, Rat.den_divInt, if_neg hd]
  have e : Int.gcd d n = Nat.gcd n.natAbs d.natAbs := Nat.gcd_comm _ _
  have hg : 0 < Nat.gcd n.natAbs d.natAbs := Nat.gcd_pos_of_pos_right _ (by omega)
  have h1 : ((Int.gcd d n : Nat) : Int) ∣ n := Int.gcd_dvd_right ..
  have h2 : ((Int.gcd d n : Nat) : Int) ∣ d := Int.gcd_dvd_left ..
  rw [e] at h1 h2 ⊢
  generalize Nat.gcd n.natAbs d.natAbs = g at *
  obtain ⟨k, rfl⟩ := h1
  obtain ⟨m, rfl⟩ := h2
  have hg0 : (g : Int) ≠ 0 := by omega
  have hm : m ≠ 0 := fun h => hd (by rw [h, Int.mul_zero])
  have hnat : ((g : Int) * m).natAbs / g = m.natAbs := by
    rw [Int.natAbs_mul, Int.natAbs_natCast, Nat.mul_div_cancel_left _ hg]
  rw [hnat]
  rcases Int.lt_or_gt_of_ne hm with h | h
  · have hs : (g : Int) * m < 0 := Int.mul_neg_of_pos_of_neg (by omega) h
    rw [if_pos hs, Int.sign_eq_neg_one_of_neg hs]
    have e1 : ∀ x : Int, ((g : Int) * x).fdiv (-(g : Int)) = -x := fun x => by
      rw [show (g : Int) * x = -(g : Int) * -x by rw [Int.neg_mul_neg]]
      exact Int.mul_fdiv_cancel_left _ (by omega)
    rw [e1, e1]
    refine ⟨?_, by omega⟩
    rw [show (-1 : Int) * ((g : Int) * k) = (g : Int) * -k by rw [Int.mul_neg]; omega, Int.mul_ediv_cancel_left _ hg0]
  · have hs : 0 < (g : Int) * m := Int.mul_pos (by omega) h
    rw [if_neg (by omega), Int.sign_eq_one_of_pos hs, Int.one_mul, Int.mul_fdiv_cancel_left _ hg0, Int.mul_fdiv_cancel_left _ hg0, Int.mul_ediv_cancel_left _ hg0]
    exact ⟨rfl, by omega⟩
theorem divInt_eq (n d : Int) : Rat.divInt n d = (n : Rat) / (d : Rat) := Rat.divInt_eq_div n d
theorem q_plus (a b : Rat) : Rat.divInt (a.num * b.den + b.num * a.den) (a.den * b.den) = a + b := by
  have ha := a.den_nz
  have hb := b.den_nz
  rw [← Rat.divInt_add_divInt _ _ (by omega) (by omega), Rat.num_divInt_den, Rat.num_divInt_den]
theorem q_times (a b : Rat) : Rat.divInt (a.num * b.num) (a.den * b.den) = a * b := by
  rw [← Rat.divInt_mul_divInt, Rat.num_divInt_den, Rat.num_divInt_den]
theorem q_minus (a b : Rat) : Rat.divInt (a.num * b.den - b.num * a.den) (a.den * b.den) = a - b := by
  have h := q_plus a (-b)
  rw [Rat.neg_num, Rat.neg_den, Int.neg_mul] at h
  rw [Rat.sub_eq_add_neg, ← h]
  rfl
theorem q_over (a b : Rat) : Rat.divInt (a.num * b.den) (a.den * b.num) = a / b := by
  rw [Rat.div_def, Rat.inv_def]
  conv => rhs; rw [← Rat.num_divInt_den a]
  rw [Rat.divInt_mul_divInt]
theorem q_lt (a b : Rat) : decide (a.num * (b.den : Int) < b.num * (a.den : Int)) = decide (a < b) := by
  rw [decide_eq_decide, Rat.lt_iff]
theorem qD_int (i : Int) : qD (i : Rat) = .tup [.int i, .int 1] := by
  unfold qD
  rw [Rat.num_intCast, Rat.den_intCast]
  rfl
theorem qD_eq {a b : Rat} : eqD (qD a) (qD b) = decide (a = b) := by
  show (decide (a.num = b.num) && (decide ((a.den : Int) = b.den) && true)) = decide (a = b)
  rw [Bool.and_true, ← Bool.decide_and, decide_eq_decide]
  exact ⟨fun ⟨h1, h2⟩ => Rat.ext h1 (by omega), fun h => by rw [h]; exact ⟨rfl, rfl⟩⟩
theorem qD_ok (a b : Rat) : flat (qD a) = true ∧ flat (qD b) = true ∧ deep (qD a) ≤ 64 ∧ deep (qD b) ≤ 64 := ⟨rfl, rfl, by show max 0 (max 0 0) + 1 ≤ 64; decide, by show max 0 (max 0 0) + 1 ≤ 64; decide⟩
/-! sizes -/
/-- a fraction that the machine reckons with -/
def sm (q : Rat) : Prop := q.den < 2 ^ 2000 ∧ q.num.natAbs < 2 ^ 4000
theorem sm_mul {i j : Int} (hi : i.natAbs < 2 ^ 100000) (hj : j.natAbs < 2 ^ 100000) : MulOk i j := Or.inr ⟨100000, 100000, hi, hj, by decide⟩
theorem pow_le2 {a b : Nat} (h : a ≤ b) : 2 ^ a ≤ 2 ^ b := Nat.pow_le_pow_right (by decide) h
/-- q times P is whole -/
def Ov (P : Nat) (q : Rat) : Prop := q.den ∣ P
theorem Ov.mono {P P' : Nat} {q : Rat} (h : Ov P q) (hd : P ∣ P') : Ov P' q := Nat.dvd_trans h hd
theorem q_den (q : Rat) : q * (q.den : Rat) = (q.num : Rat) := by
  have h := Rat.num_divInt_den q
  rw [Rat.divInt_eq_div] at h
  have hd : ((q.den : Nat) : Rat) ≠ 0 := by
    have := q.den_nz
    intro e
    exact this (by exact_mod_cast e)
  have e : ((q.den : Int) : Rat) = ((q.den : Nat) : Rat) := rfl
  rw [e] at h
  conv => lhs; lhs; rw [← h]
  rw [Rat.div_mul_cancel hd]
theorem Ov_iff {P : Nat} {q : Rat} : Ov P q ↔ ∃ z : Int, q * (P : Rat) = (z : Rat) := by
  constructor
  · rintro ⟨m, rfl⟩
    refine ⟨q.num * m, ?_⟩
    have := q_den q
    rw [Rat.natCast_mul, ← Rat.mul_assoc, this, Rat.intCast_mul]
    rfl
  · rintro ⟨z, h⟩
    have h2 := q_den q
    have h3 : ((q.num * P : Int) : Rat) = ((z * q.den : Int) : Rat) := by
      rw [Rat.intCast_mul, Rat.intCast_mul, ← h2, ← h]
      show q * (q.den : Rat) * (P : Rat) = q * (P : Rat) * (q.den : Rat)
      rw [Rat.mul_assoc, Rat.mul_comm (q.den : Rat), ← Rat.mul_assoc]
    have h4 : q.num * P = z * q.den := Rat.intCast_inj.mp h3
    have h5 : q.den ∣ q.num.natAbs * P := by
      have := congrArg Int.natAbs h4
      rw [Int.natAbs_mul, Int.natAbs_mul, Int.natAbs_natCast, Int.natAbs_natCast] at this
      rw [this]
      exact Nat.dvd_mul_left _ _
    exact (Nat.Coprime.symm q.reduced).dvd_of_dvd_mul_left h5
theorem Ov_self (q : Rat) : Ov q.den q := Nat.dvd_refl _
theorem Ov_int (P : Nat) (i : Int) : Ov P (i : Rat) := by unfold Ov; rw [Rat.den_intCast]; exact Nat.one_dvd _
theorem Ov.add {P : Nat} {a b : Rat} (ha : Ov P a) (hb : Ov P b) : Ov P (a + b) := by
  obtain ⟨x, hx⟩ := Ov_iff.mp ha
  obtain ⟨y, hy⟩ := Ov_iff.mp hb
  exact Ov_iff.mpr ⟨x + y, by rw [Rat.add_mul, hx, hy, Rat.intCast_add]⟩
theorem Ov.neg {P : Nat} {a : Rat} (ha : Ov P a) : Ov P (-a) := by
  unfold Ov
  rw [Rat.neg_den]
  exact ha
theorem Ov.sub {P : Nat} {a b : Rat} (ha : Ov P a) (hb : Ov P b) : Ov P (a - b) := by
  rw [Rat.sub_eq_add_neg]
  exact ha.add hb.neg
theorem Ov.mul {P R : Nat} {a b : Rat} (ha : Ov P a) (hb : Ov R b) : Ov (P * R) (a * b) := by
  obtain ⟨x, hx⟩ := Ov_iff.mp ha
  obtain ⟨y, hy⟩ := Ov_iff.mp hb
  refine Ov_iff.mpr ⟨x * y, ?_⟩
  rw [Rat.intCast_mul, ← hx, ← hy, Rat.natCast_mul]
  grind
theorem Ov.over {P : Nat} {a : Rat} (ha : Ov P a) {k : Nat} (hk : k ≠ 0) : Ov (P * k) (a / (k : Rat)) := by
  obtain ⟨x, hx⟩ := Ov_iff.mp ha
  refine Ov_iff.mpr ⟨x, ?_⟩
  have h0 : (k : Rat) ≠ 0 := fun e => hk (by exact_mod_cast e)
  rw [Rat.natCast_mul, ← hx]
  grind
/-- a bound for the number and for what it is told over -/
theorem sm_of {P M : Nat} {q : Rat} (h : Ov P q) (hP : 0 < P) (h1 : -(M : Rat) ≤ q) (h2 : q ≤ (M : Rat)) (hp : P < 2 ^ 2000) (hm : M * P < 2 ^ 4000) : sm q := by
  have hd : q.den ≤ P := Nat.le_of_dvd hP h
  refine ⟨by omega, ?_⟩
  have e := q_den q
  have hd0 : (0 : Rat) ≤ (q.den : Rat) := by exact_mod_cast Nat.zero_le _
  have u : (q.num : Rat) ≤ ((M * q.den : Nat) : Rat) := by
    rw [← e, Rat.natCast_mul]
    exact Rat.mul_le_mul_of_nonneg_right h2 hd0
  have l : ((-(M * q.den : Nat) : Int) : Rat) ≤ (q.num : Rat) := by
    rw [← e, Rat.intCast_neg]
    have := Rat.mul_le_mul_of_nonneg_right h1 hd0
    rw [Rat.neg_mul] at this
    rw [show ((((M * q.den : Nat) : Int)) : Rat) = ((M * q.den : Nat) : Rat) from rfl, Rat.natCast_mul]
    exact this
  have u2 : q.num ≤ ((M * q.den : Nat) : Int) := Rat.intCast_le_intCast.mp u
  have l2 : -((M * q.den : Nat) : Int) ≤ q.num := Rat.intCast_le_intCast.mp l
  have : M * q.den ≤ M * P := Nat.mul_le_mul_left _ hd
  omega
end DL
set_option linter.all false
set_option maxRecDepth 100000
/-! the parts of the defs of oddsweighed_k93_whole_wheels_turned_agai -/
namespace K93
open DL
@[reducible] def dNOTHING : D := .tup [.int 0, .int 1]
/-! divisor(one, other); slots: 0 one, 1 other -/
def w_divisor  : WS :=
  (sRet (wB rGcd (wCons (wVar 0) (wCons (wVar 1) wNil))))
/-! fraction(n, d); slots: 0 n, 1 d, 2 common -/
def w_fraction (sp_divisor : Spc) : WS :=
  (sSeq (sAsg (wCall 2 sp_divisor (wCons (wVar 0) (wCons (wVar 1) wNil))) (gN 2))
    (sSeq (sIf (wtVal (wOp rLt (wVar 1) (wC (.int 0)))) (sAsg (wUn rNeg (wVar 2)) (gN 2)) sNext)
    (sRet (wTup (wCons (wOp rDiv (wVar 0) (wVar 2)) (wCons (wOp rDiv (wVar 1) (wVar 2)) wNil))))))
/-! plus(one, other); slots: 0 one, 1 other -/
def w_plus (sp_fraction : Spc) : WS :=
  (sRet (wCall 2 sp_fraction (wCons (wOp rAdd (wOp rMul (wOp rIx (wVar 0) (wC (.int 0))) (wOp rIx (wVar 1) (wC (.int 1)))) (wOp rMul (wOp rIx (wVar 1) (wC (.int 0))) (wOp rIx (wVar 0) (wC (.int 1))))) (wCons (wOp rMul (wOp rIx (wVar 0) (wC (.int 1))) (wOp rIx (wVar 1) (wC (.int 1)))) wNil))))
/-! minus(one, other); slots: 0 one, 1 other -/
def w_minus (sp_fraction : Spc) : WS :=
  (sRet (wCall 2 sp_fraction (wCons (wOp rSub (wOp rMul (wOp rIx (wVar 0) (wC (.int 0))) (wOp rIx (wVar 1) (wC (.int 1)))) (wOp rMul (wOp rIx (wVar 1) (wC (.int 0))) (wOp rIx (wVar 0) (wC (.int 1))))) (wCons (wOp rMul (wOp rIx (wVar 0) (wC (.int 1))) (wOp rIx (wVar 1) (wC (.int 1)))) wNil))))
/-! times(one, other); slots: 0 one, 1 other -/
def w_times (sp_fraction : Spc) : WS :=
  (sRet (wCall 2 sp_fraction (wCons (wOp rMul (wOp rIx (wVar 0) (wC (.int 0))) (wOp rIx (wVar 1) (wC (.int 0)))) (wCons (wOp rMul (wOp rIx (wVar 0) (wC (.int 1))) (wOp rIx (wVar 1) (wC (.int 1)))) wNil))))
/-! divided(one, other); slots: 0 one, 1 other -/
def w_divided (sp_fraction : Spc) : WS :=
  (sRet (wCall 2 sp_fraction (wCons (wOp rMul (wOp rIx (wVar 0) (wC (.int 0))) (wOp rIx (wVar 1) (wC (.int 1)))) (wCons (wOp rMul (wOp rIx (wVar 0) (wC (.int 1))) (wOp rIx (wVar 1) (wC (.int 0)))) wNil))))
/-! is_less(one, other); slots: 0 one, 1 other -/
def w_is_less  : WS :=
  (sRet (wOp rLt (wOp rMul (wOp rIx (wVar 0) (wC (.int 0))) (wOp rIx (wVar 1) (wC (.int 1)))) (wOp rMul (wOp rIx (wVar 1) (wC (.int 0))) (wOp rIx (wVar 0) (wC (.int 1))))))
/-! bound_of(prizes, price); slots: 0 prizes, 1 price, 2 n, 3 ordered, 4 whole, 5 many, 6 bound -/
def w_bound_of (sp_times : Spc) (sp_minus : Spc) (sp_divided : Spc) (sp_is_less : Spc) : WS :=
  (sSeq (sAsg (wB rLen (wCons (wVar 0) wNil)) (gN 2))
    (sSeq (sAsg (wUn rRevL (wB rSortedA (wCons (wVar 0) wNil))) (gN 3))
    (sSeq (sAsg (wC (.int 0)) (gN 4))
    (sSeq (sFor (wR2 (wC (.int 1)) (wOp rAdd (wVar 2) (wC (.int 1)))) (gN 5) (sSeq (sAug 4 (wOp rIx (wVar 3) (wOp rSub (wVar 5) (wC (.int 1)))) rIAdd)
    (sSeq (sAsg (wCall 2 sp_divided (wCons (wCall 2 sp_minus (wCons (wTup (wCons (wVar 4) (wCons (wC (.int 1)) wNil))) (wCons (wCall 2 sp_times (wCons (wTup (wCons (wVar 2) (wCons (wC (.int 1)) wNil))) (wCons (wVar 1) wNil))) wNil))) (wCons (wTup (wCons (wVar 5) (wCons (wC (.int 1)) wNil))) wNil))) (gN 6))
    (sIf (wtOr (wtVal (wOp rEq (wVar 5) (wVar 2))) (wtNot (wtVal (wCall 2 sp_is_less (wCons (wVar 6) (wCons (wTup (wCons (wOp rIx (wVar 3) (wVar 5)) (wCons (wC (.int 1)) wNil))) wNil)))))) (sRet (wVar 6)) sNext))))
    (sRet (wC dNOTHING))))))
/-! worth_of_wheel(prizes, price); slots: 0 prizes, 1 price -/
def w_worth_of_wheel (sp_bound_of : Spc) (sp_plus : Spc) : WS :=
  (sRet (wCall 2 sp_plus (wCons (wCall 2 sp_bound_of (wCons (wVar 0) (wCons (wVar 1) wNil))) (wCons (wVar 1) wNil))))
/-! stops_at(prizes, price); slots: 0 prizes, 1 price, 2 n, 3 d -/
def w_stops_at (sp_bound_of : Spc) : WS :=
  (sSeq (sAsg (wCall 2 sp_bound_of (wCons (wVar 0) (wCons (wVar 1) wNil))) (gT [2, 3]))
    (sRet (wUn rNeg (wOp rDiv (wUn rNeg (wVar 2)) (wVar 3)))))
/-! mean_turns(prizes, price); slots: 0 prizes, 1 price, 2 least, 3 prize -/
def w_mean_turns (sp_stops_at : Spc) (sp_fraction : Spc) : WS :=
  (sSeq (sAsg (wCall 2 sp_stops_at (wCons (wVar 0) (wCons (wVar 1) wNil))) (gN 2))
    (sRet (wCall 2 sp_fraction (wCons (wB rLen (wCons (wVar 0) wNil)) (wCons (wB rLen (wCons (wLc (wIt (wVar 0)) (gN 3) (wtVal (wOp rGe (wVar 3) (wVar 2))) (wVar 3) [3]) wNil)) wNil)))))
/-! worth_in(prizes, price, turns); slots: 0 prizes, 1 price, 2 turns, 3 worth, 4 step, 5 rest, 6 total, 7 prize -/
def w_worth_in (sp_fraction : Spc) (sp_minus : Spc) (sp_is_less : Spc) (sp_plus : Spc) (sp_divided : Spc) : WS :=
  (sSeq (sAsg (wCall 2 sp_fraction (wCons (wB rSum (wCons (wVar 0) wNil)) (wCons (wB rLen (wCons (wVar 0) wNil)) wNil))) (gN 3))
    (sSeq (sFor (wR1 (wOp rSub (wVar 2) (wC (.int 1)))) (gN 4) (sSeq (sAsg (wCall 2 sp_minus (wCons (wVar 3) (wCons (wVar 1) wNil))) (gN 5))
    (sSeq (sAsg (wC dNOTHING) (gN 6))
    (sSeq (sFor (wIt (wVar 0)) (gN 7) (sAsg (wCall 2 sp_plus (wCons (wVar 6) (wCons (wIf (wtVal (wCall 2 sp_is_less (wCons (wTup (wCons (wVar 7) (wCons (wC (.int 1)) wNil))) (wCons (wVar 5) wNil)))) (wVar 5) (wTup (wCons (wVar 7) (wCons (wC (.int 1)) wNil)))) wNil))) (gN 6)))
    (sAsg (wCall 2 sp_divided (wCons (wVar 6) (wCons (wTup (wCons (wB rLen (wCons (wVar 0) wNil)) (wCons (wC (.int 1)) wNil))) wNil))) (gN 3))))))
    (sRet (wVar 3))))
/-! _law_draws(script, many); slots: 0 script, 1 many, 2 cells, 3 cell, 4 rest, 5 draws, 6 k, 7 at, 8 once -/
def w_law_draws  : WS :=
  (sSeq (sAsg (wLc (wIt (wVar 0)) (gN 3) wtYes (wB rInt (wCons (wVar 3) wNil)) [3]) (gN 2))
    (sSeq (sIf (wtVal (wOp rEq (wB rLen (wCons (wVar 2) wNil)) (wC (.int 0)))) (sDrop (wM rAppend (wVar 2) (wCons (wC (.int 0)) wNil))) sNext)
    (sSeq (sAsg (wB rList (wCons (wVar 2) wNil)) (gN 4))
    (sSeq (sAsg (wLst wNil) (gN 5))
    (sSeq (sFor (wR1 (wVar 1)) (gN 6) (sSeq (sAsg (wOp rMod (wVar 6) (wB rLen (wCons (wVar 2) wNil))) (gN 7))
    (sIf (wtAnd (wtVal (wOp rGe (wOp rIx (wVar 2) (wVar 7)) (wOp rPow (wC (.int 10)) (wC (.int 18))))) (wtVal (wOp rGt (wOp rIx (wVar 4) (wVar 7)) (wC (.int 0))))) (sSeq (sDrop (wM rAppend (wVar 5) (wCons (wOp rMod (wB rInt (wCons (wOp rIx (wVar 4) (wVar 7)) wNil)) (wC (.int 1000))) wNil)))
    (sSub rPut (wOp rDiv (wOp rIx (wVar 4) (wVar 7)) (wC (.int 1000))) (wVar 4) (wVar 7))) (sSeq (sAsg (wOp rMod (wB rInt (wCons (wOp rAdd (wOp rAdd (wOp rMul (wOp rIx (wVar 2) (wVar 7)) (wC (.int 48271))) (wOp rMul (wVar 6) (wC (.int 69621)))) (wC (.int 11))) wNil)) (wC (.int 2147483647))) (gN 8))
    (sDrop (wM rAppend (wVar 5) (wCons (wOp rMod (wB rInt (wCons (wOp rAdd (wOp rAdd (wOp rMul (wVar 8) (wVar 8)) (wOp rMul (wC (.int 3)) (wVar 8))) (wVar 6)) wNil)) (wC (.int 1000003))) wNil)))))))
    (sSeq (sDrop (wM0 rReverse (wVar 5)))
    (sRet (wVar 5))))))))
/-! _law_take(draws, many); slots: 0 draws, 1 many -/
def w_law_take  : WS :=
  (sSeq (sIf (wtVal (wOp rEq (wB rLen (wCons (wVar 0) wNil)) (wC (.int 0)))) (sRet (wC (.int 0))) sNext)
    (sRet (wOp rMod (wB rInt (wCons (wM0 rPop (wVar 0)) wNil)) (wVar 1))))
/-! _law_same(actual, due); slots: 0 actual, 1 due, 2 k -/
def w_law_same (sp_law_same : Spc) : WS :=
  (sSeq (sIf (wtVal (wB rIsi (wCons (wVar 1) (wCons (wC (.ty "bool")) wNil)))) (sRet (wAnd (wB rIsi (wCons (wVar 0) (wCons (wC (.ty "bool")) wNil))) (wOp rEq (wVar 0) (wVar 1)))) sNext)
    (sSeq (sIf (wtVal (wB rIsi (wCons (wVar 1) (wCons (wC (.ty "int")) wNil)))) (sRet (wAnd (wB rIsi (wCons (wVar 0) (wCons (wC (.ty "int")) wNil))) (wAnd (wNot (wB rIsi (wCons (wVar 0) (wCons (wC (.ty "bool")) wNil)))) (wOp rEq (wVar 0) (wVar 1))))) sNext)
    (sSeq (sIf (wtVal (wB rIsi (wCons (wVar 1) (wCons (wC (.ty "str")) wNil)))) (sRet (wAnd (wB rIsi (wCons (wVar 0) (wCons (wC (.ty "str")) wNil))) (wOp rEq (wVar 0) (wVar 1)))) sNext)
    (sSeq (sIf (wtVal (wOp rIs (wVar 1) (wC .non))) (sRet (wOp rIs (wVar 0) (wC .non))) sNext)
    (sSeq (sIf (wtOr (wtNot (wtVal (wB rIsi (wCons (wVar 0) (wCons (wC (.ty "tuple")) wNil))))) (wtVal (wOp rNe (wB rLen (wCons (wVar 0) wNil)) (wB rLen (wCons (wVar 1) wNil))))) (sRet (wC (.bl false))) sNext)
    (sSeq (sFor (wR1 (wB rLen (wCons (wVar 1) wNil))) (gN 2) (sIf (wtNot (wtVal (wCall 2 sp_law_same (wCons (wOp rIx (wVar 0) (wVar 2)) (wCons (wOp rIx (wVar 1) (wVar 2)) wNil))))) (sRet (wC (.bl false))) sNext))
    (sRet (wC (.bl true)))))))))
/-! _law_size(draws, script); slots: 0 draws, 1 script, 2 kind, 3 number -/
def w_law_size (sp_law_take : Spc) : WS :=
  (sSeq (sAsg (wCall 2 sp_law_take (wCons (wVar 0) (wCons (wC (.int 4)) wNil))) (gN 2))
    (sSeq (sAsg (wCall 2 sp_law_take (wCons (wVar 0) (wCons (wC (.int 1000)) wNil))) (gN 3))
    (sSeq (sIf (wtVal (wOp rEq (wVar 2) (wC (.int 1)))) (sAsg (wOp rAdd (wVar 3) (wOp rMul (wOp rAdd (wC (.int 1)) (wCall 2 sp_law_take (wCons (wVar 0) (wCons (wC (.int 1000)) wNil)))) (wOp rPow (wC (.int 10)) (wC (.int 15))))) (gN 3)) sNext)
    (sSeq (sIf (wtAnd (wtVal (wOp rEq (wVar 2) (wC (.int 2)))) (wtVal (wOp rGt (wB rLen (wCons (wVar 1) wNil)) (wC (.int 0))))) (sAsg (wOp rAdd (wVar 3) (wOp rMod (wB rInt (wCons (wB rAbs (wCons (wB rInt (wCons (wOp rIx (wVar 1) (wCall 2 sp_law_take (wCons (wVar 0) (wCons (wB rLen (wCons (wVar 1) wNil)) wNil)))) wNil)) wNil)) wNil)) (wOp rPow (wC (.int 10)) (wC (.int 60))))) (gN 3)) sNext)
    (sSeq (sIf (wtVal (wOp rEq (wVar 2) (wC (.int 3)))) (sAsg (wOp rAdd (wOp rMul (wVar 3) (wC (.int 1000))) (wCall 2 sp_law_take (wCons (wVar 0) (wCons (wC (.int 1000)) wNil)))) (gN 3)) sNext)
    (sRet (wVar 3)))))))
/-! _law_divisor(one, other); slots: 0 one, 1 other -/
def w_law_divisor  : WS :=
  (sSeq (sAsg (wB rAbs (wCons (wVar 0) wNil)) (gN 0))
    (sSeq (sAsg (wB rAbs (wCons (wVar 1) wNil)) (gN 1))
    (sSeq (sWhile (wtVal (wOp rNe (wVar 1) (wC (.int 0)))) (sPar 0 1 (wVar 1) (wOp rMod (wB rInt (wCons (wVar 0) wNil)) (wVar 1))))
    (sRet (wVar 0)))))
/-! _law_ratio(n, d); slots: 0 n, 1 d, 2 common -/
def w_law_ratio (sp_law_divisor : Spc) : WS :=
  (sSeq (sAsg (wCall 2 sp_law_divisor (wCons (wVar 0) (wCons (wVar 1) wNil))) (gN 2))
    (sSeq (sIf (wtVal (wOp rLt (wVar 1) (wC (.int 0)))) (sAsg (wUn rNeg (wVar 2)) (gN 2)) sNext)
    (sRet (wTup (wCons (wOp rDiv (wVar 0) (wVar 2)) (wCons (wOp rDiv (wVar 1) (wVar 2)) wNil))))))
/-! _law_plus(one, other); slots: 0 one, 1 other -/
def w_law_plus (sp_law_ratio : Spc) : WS :=
  (sRet (wCall 2 sp_law_ratio (wCons (wOp rAdd (wOp rMul (wOp rIx (wVar 0) (wC (.int 0))) (wOp rIx (wVar 1) (wC (.int 1)))) (wOp rMul (wOp rIx (wVar 1) (wC (.int 0))) (wOp rIx (wVar 0) (wC (.int 1))))) (wCons (wOp rMul (wOp rIx (wVar 0) (wC (.int 1))) (wOp rIx (wVar 1) (wC (.int 1)))) wNil))))
/-! _law_minus(one, other); slots: 0 one, 1 other -/
def w_law_minus (sp_law_ratio : Spc) : WS :=
  (sRet (wCall 2 sp_law_ratio (wCons (wOp rSub (wOp rMul (wOp rIx (wVar 0) (wC (.int 0))) (wOp rIx (wVar 1) (wC (.int 1)))) (wOp rMul (wOp rIx (wVar 1) (wC (.int 0))) (wOp rIx (wVar 0) (wC (.int 1))))) (wCons (wOp rMul (wOp rIx (wVar 0) (wC (.int 1))) (wOp rIx (wVar 1) (wC (.int 1)))) wNil))))
/-! _law_times(one, other); slots: 0 one, 1 other -/
def w_law_times (sp_law_ratio : Spc) : WS :=
  (sRet (wCall 2 sp_law_ratio (wCons (wOp rMul (wOp rIx (wVar 0) (wC (.int 0))) (wOp rIx (wVar 1) (wC (.int 0)))) (wCons (wOp rMul (wOp rIx (wVar 0) (wC (.int 1))) (wOp rIx (wVar 1) (wC (.int 1)))) wNil))))
/-! _law_over(one, other); slots: 0 one, 1 other -/
def w_law_over (sp_law_ratio : Spc) : WS :=
  (sRet (wCall 2 sp_law_ratio (wCons (wOp rMul (wOp rIx (wVar 0) (wC (.int 0))) (wOp rIx (wVar 1) (wC (.int 1)))) (wCons (wOp rMul (wOp rIx (wVar 0) (wC (.int 1))) (wOp rIx (wVar 1) (wC (.int 0)))) wNil))))
/-! _law_less(one, other); slots: 0 one, 1 other -/
def w_law_less  : WS :=
  (sRet (wOp rLt (wOp rMul (wOp rIx (wVar 0) (wC (.int 0))) (wOp rIx (wVar 1) (wC (.int 1)))) (wOp rMul (wOp rIx (wVar 1) (wC (.int 0))) (wOp rIx (wVar 0) (wC (.int 1))))))
/-! _law_prizes(draws, script, many); slots: 0 draws, 1 script, 2 many, 3 sign, 4 prizes, 5 k, 6 prize -/
def w_law_prizes (sp_law_take : Spc) (sp_law_size : Spc) : WS :=
  (sSeq (sAsg (wCall 2 sp_law_take (wCons (wVar 0) (wCons (wC (.int 3)) wNil))) (gN 3))
    (sSeq (sAsg (wLst wNil) (gN 4))
    (sSeq (sFor (wR1 (wVar 2)) (gN 5) (sSeq (sAsg (wCall 2 sp_law_take (wCons (wVar 0) (wCons (wOp rIx (wLst (wCons (wC (.int 4)) (wCons (wC (.int 30)) (wCons (wC (.int 1000)) wNil)))) (wCall 2 sp_law_take (wCons (wVar 0) (wCons (wC (.int 3)) wNil)))) wNil))) (gN 6))
    (sSeq (sIf (wtVal (wOp rEq (wCall 2 sp_law_take (wCons (wVar 0) (wCons (wC (.int 8)) wNil))) (wC (.int 0)))) (sAsg (wCall 2 sp_law_size (wCons (wVar 0) (wCons (wVar 1) wNil))) (gN 6)) sNext)
    (sSeq (sIf (wtOr (wtVal (wOp rEq (wVar 3) (wC (.int 0)))) (wtAnd (wtVal (wOp rEq (wVar 3) (wC (.int 1)))) (wtVal (wOp rEq (wCall 2 sp_law_take (wCons (wVar 0) (wCons (wC (.int 2)) wNil))) (wC (.int 0)))))) (sAsg (wUn rNeg (wVar 6)) (gN 6)) sNext)
    (sSeq (sIf (wtAnd (wtVal (wOp rGt (wVar 5) (wC (.int 0)))) (wtVal (wOp rEq (wCall 2 sp_law_take (wCons (wVar 0) (wCons (wC (.int 4)) wNil))) (wC (.int 0))))) (sAsg (wOp rIx (wVar 4) (wCall 2 sp_law_take (wCons (wVar 0) (wCons (wVar 5) wNil)))) (gN 6)) sNext)
    (sDrop (wM rAppend (wVar 4) (wCons (wVar 6) wNil))))))))
    (sRet (wB rTuple (wCons (wVar 4) wNil))))))
/-! _law_price(draws, script, prizes); slots: 0 draws, 1 script, 2 prizes, 3 kind, 4 prize, 5 above, 6 other -/
def w_law_price (sp_law_take : Spc) (sp_law_ratio : Spc) (sp_law_size : Spc) : WS :=
  (sSeq (sAsg (wCall 2 sp_law_take (wCons (wVar 0) (wCons (wC (.int 4)) wNil))) (gN 3))
    (sSeq (sAsg (wOp rIx (wVar 2) (wCall 2 sp_law_take (wCons (wVar 0) (wCons (wB rLen (wCons (wVar 2) wNil)) wNil)))) (gN 4))
    (sSeq (sAsg (wB rSum (wCons (wLc (wIt (wVar 2)) (gN 6) wtYes (wB rMax2 (wCons (wC (.int 0)) (wCons (wOp rSub (wVar 6) (wVar 4)) wNil))) [6]) wNil)) (gN 5))
    (sSeq (sIf (wtAnd (wtVal (wOp rEq (wVar 3) (wC (.int 0)))) (wtVal (wOp rGt (wVar 5) (wC (.int 0))))) (sRet (wCall 2 sp_law_ratio (wCons (wVar 5) (wCons (wB rLen (wCons (wVar 2) wNil)) wNil)))) sNext)
    (sSeq (sIf (wtVal (wOp rEq (wVar 3) (wC (.int 1)))) (sRet (wCall 2 sp_law_ratio (wCons (wOp rAdd (wC (.int 1)) (wOp rMod (wCall 2 sp_law_size (wCons (wVar 0) (wCons (wVar 1) wNil))) (wOp rPow (wC (.int 10)) (wC (.int 30))))) (wCons (wOp rAdd (wC (.int 1)) (wCall 2 sp_law_take (wCons (wVar 0) (wCons (wC (.int 1000)) wNil)))) wNil)))) sNext)
    (sRet (wCall 2 sp_law_ratio (wCons (wOp rAdd (wC (.int 1)) (wCall 2 sp_law_take (wCons (wVar 0) (wCons (wC (.int 40)) wNil)))) (wCons (wOp rAdd (wC (.int 1)) (wCall 2 sp_law_take (wCons (wVar 0) (wCons (wC (.int 12)) wNil)))) wNil)))))))))
/-! _law_bound(prizes, price); slots: 0 prizes, 1 price, 2 best, 3 total, 4 k, 5 prize, 6 bound -/
def w_law_bound (sp_law_ratio : Spc) (sp_law_less : Spc) : WS :=
  (sSeq (sAsg (wC .non) (gN 2))
    (sSeq (sAsg (wC (.int 0)) (gN 3))
    (sSeq (sAsg (wC (.int 0)) (gN 4))
    (sSeq (sFor (wIt (wUn rRevL (wB rSortedA (wCons (wVar 0) wNil)))) (gN 5) (sSeq (sAsg (wOp rAdd (wVar 3) (wVar 5)) (gN 3))
    (sSeq (sAsg (wOp rAdd (wVar 4) (wC (.int 1))) (gN 4))
    (sSeq (sAsg (wCall 2 sp_law_ratio (wCons (wOp rSub (wOp rMul (wVar 3) (wOp rIx (wVar 1) (wC (.int 1)))) (wOp rMul (wB rLen (wCons (wVar 0) wNil)) (wOp rIx (wVar 1) (wC (.int 0))))) (wCons (wOp rMul (wVar 4) (wOp rIx (wVar 1) (wC (.int 1)))) wNil))) (gN 6))
    (sIf (wtOr (wtVal (wOp rIs (wVar 2) (wC .non))) (wtVal (wCall 2 sp_law_less (wCons (wVar 2) (wCons (wVar 6) wNil))))) (sAsg (wVar 6) (gN 2)) sNext)))))
    (sRet (wVar 2))))))
/-! _law_by_bound(prizes, price, least); slots: 0 prizes, 1 price, 2 least, 3 kept, 4 prize, 5 turns -/
def w_law_by_bound (sp_law_ratio : Spc) (sp_law_minus : Spc) (sp_law_times : Spc) : WS :=
  (sSeq (sAsg (wLc (wIt (wVar 0)) (gN 4) (wtVal (wOp rGe (wVar 4) (wVar 2))) (wVar 4) [4]) (gN 3))
    (sSeq (sAsg (wCall 2 sp_law_ratio (wCons (wB rLen (wCons (wVar 0) wNil)) (wCons (wB rLen (wCons (wVar 3) wNil)) wNil))) (gN 5))
    (sRet (wCall 2 sp_law_minus (wCons (wCall 2 sp_law_ratio (wCons (wB rSum (wCons (wVar 3) wNil)) (wCons (wB rLen (wCons (wVar 3) wNil)) wNil))) (wCons (wCall 2 sp_law_times (wCons (wVar 1) (wCons (wCall 2 sp_law_minus (wCons (wVar 5) (wCons (wTup (wCons (wC (.int 1)) (wCons (wC (.int 1)) wNil))) wNil))) wNil))) wNil))))))
/-! _law_worths(prizes, price, turns); slots: 0 prizes, 1 price, 2 turns, 3 worth, 4 found, 5 k, 6 rest, 7 whole, 8 total, 9 prize -/
def w_law_worths (sp_law_ratio : Spc) : WS :=
  (sSeq (sAsg (wCall 2 sp_law_ratio (wCons (wB rSum (wCons (wVar 0) wNil)) (wCons (wB rLen (wCons (wVar 0) wNil)) wNil))) (gN 3))
    (sSeq (sAsg (wLst (wCons (wVar 3) wNil)) (gN 4))
    (sSeq (sFor (wR1 (wOp rSub (wVar 2) (wC (.int 1)))) (gN 5) (sSeq (sAsg (wOp rSub (wOp rMul (wOp rIx (wVar 3) (wC (.int 0))) (wOp rIx (wVar 1) (wC (.int 1)))) (wOp rMul (wOp rIx (wVar 1) (wC (.int 0))) (wOp rIx (wVar 3) (wC (.int 1))))) (gN 6))
    (sSeq (sAsg (wOp rMul (wOp rIx (wVar 3) (wC (.int 1))) (wOp rIx (wVar 1) (wC (.int 1)))) (gN 7))
    (sSeq (sAsg (wC (.int 0)) (gN 8))
    (sSeq (sFor (wIt (wVar 0)) (gN 9) (sAsg (wOp rAdd (wVar 8) (wB rMax2 (wCons (wOp rMul (wVar 9) (wVar 7)) (wCons (wVar 6) wNil)))) (gN 8)))
    (sSeq (sAsg (wCall 2 sp_law_ratio (wCons (wVar 8) (wCons (wOp rMul (wVar 7) (wB rLen (wCons (wVar 0) wNil))) wNil))) (gN 3))
    (sDrop (wM rAppend (wVar 4) (wCons (wVar 3) wNil)))))))))
    (sRet (wVar 4)))))
/-! _law_right(draws, script, prizes, most); slots: 0 draws, 1 script, 2 prizes, 3 most, 4 price, 5 bound, 6 worth, 7 least, 8 told, 9 kept, 10 prize, 11 turns, 12 due, 13 ahead, 14 k, 15 now -/
def w_law_right (sp_law_price : Spc) (sp_law_bound : Spc) (sp_law_plus : Spc) (sp_worth_of_wheel : Spc) (sp_law_same : Spc) (sp_stops_at : Spc) (sp_law_ratio : Spc) (sp_mean_turns : Spc) (sp_law_by_bound : Spc) (sp_law_less : Spc) (sp_law_take : Spc) (sp_law_worths : Spc) (sp_worth_in : Spc) : WS :=
  (sSeq (sAsg (wCall 3 sp_law_price (wCons (wVar 0) (wCons (wVar 1) (wCons (wVar 2) wNil)))) (gN 4))
    (sSeq (sAsg (wCall 2 sp_law_bound (wCons (wVar 2) (wCons (wVar 4) wNil))) (gN 5))
    (sSeq (sAsg (wCall 2 sp_law_plus (wCons (wVar 5) (wCons (wVar 4) wNil))) (gN 6))
    (sSeq (sAsg (wUn rNeg (wOp rDiv (wUn rNeg (wOp rIx (wVar 5) (wC (.int 0)))) (wOp rIx (wVar 5) (wC (.int 1))))) (gN 7))
    (sSeq (sAsg (wCall 2 sp_worth_of_wheel (wCons (wVar 2) (wCons (wVar 4) wNil))) (gN 8))
    (sSeq (sIf (wtOr (wtNot (wtVal (wCall 2 sp_law_same (wCons (wVar 8) (wCons (wVar 6) wNil))))) (wtNot (wtVal (wCall 2 sp_law_same (wCons (wCall 2 sp_stops_at (wCons (wVar 2) (wCons (wVar 4) wNil))) (wCons (wVar 7) wNil)))))) (sRet (wC (.bl false))) sNext)
    (sSeq (sAsg (wB rLen (wCons (wLc (wIt (wVar 2)) (gN 10) (wtVal (wOp rGe (wVar 10) (wVar 7))) (wVar 10) [10]) wNil)) (gN 9))
    (sSeq (sIf (wtNot (wtVal (wCall 2 sp_law_same (wCons (wCall 2 sp_mean_turns (wCons (wVar 2) (wCons (wVar 4) wNil))) (wCons (wCall 2 sp_law_ratio (wCons (wB rLen (wCons (wVar 2) wNil)) (wCons (wVar 9) wNil))) wNil))))) (sRet (wC (.bl false))) sNext)
    (sSeq (sFor (wIt (wVar 2)) (gN 10) (sIf (wtVal (wCall 2 sp_law_less (wCons (wVar 8) (wCons (wCall 3 sp_law_by_bound (wCons (wVar 2) (wCons (wVar 4) (wCons (wVar 10) wNil)))) wNil)))) (sRet (wC (.bl false))) sNext))
    (sSeq (sIf (wtVal (wOp rNe (wCall 3 sp_law_by_bound (wCons (wVar 2) (wCons (wVar 4) (wCons (wCall 2 sp_stops_at (wCons (wVar 2) (wCons (wVar 4) wNil))) wNil)))) (wVar 8))) (sRet (wC (.bl false))) sNext)
    (sSeq (sAsg (wOp rAdd (wC (.int 1)) (wCall 2 sp_law_take (wCons (wVar 0) (wCons (wVar 3) wNil)))) (gN 11))
    (sSeq (sAsg (wCall 3 sp_law_worths (wCons (wVar 2) (wCons (wVar 4) (wCons (wVar 11) wNil)))) (gN 12))
    (sSeq (sAsg (wC .non) (gN 13))
    (sSeq (sFor (wIt (wLst (wCons (wC (.int 1)) (wCons (wC (.int 2)) (wCons (wC (.int 3)) (wCons (wOp rSub (wVar 11) (wC (.int 1))) (wCons (wVar 11) wNil))))))) (gN 14) (sIf (wtVal (wChain rLe rLe (wC (.int 1)) (wVar 14) (wVar 11))) (sSeq (sAsg (wCall 3 sp_worth_in (wCons (wVar 2) (wCons (wVar 4) (wCons (wVar 14) wNil)))) (gN 15))
    (sSeq (sIf (wtOr (wtNot (wtVal (wCall 2 sp_law_same (wCons (wVar 15) (wCons (wOp rIx (wVar 12) (wOp rSub (wVar 14) (wC (.int 1)))) wNil))))) (wtOr (wtVal (wCall 2 sp_law_less (wCons (wVar 8) (wCons (wVar 15) wNil)))) (wtAnd (wtVal (wOp rIsNot (wVar 13) (wC .non))) (wtVal (wCall 2 sp_law_less (wCons (wVar 15) (wCons (wVar 13) wNil))))))) (sRet (wC (.bl false))) sNext)
    (sIf (wtVal (wOp rLt (wVar 14) (wOp rSub (wVar 11) (wC (.int 1))))) (sAsg (wVar 15) (gN 13)) sNext))) sNext))
    (sRet (wC (.bl true)))))))))))))))))
/-! law(script); slots: 0 script, 1 draws, 2 many, 3 most, 4 large, 5 prizes, 6 price -/
def w_law (sp_law_draws : Spc) (sp_law_take : Spc) (sp_law_prizes : Spc) (sp_law_right : Spc) (sp_law_bound : Spc) (sp_law_plus : Spc) (sp_worth_of_wheel : Spc) (sp_law_same : Spc) : WS :=
  (sSeq (sAsg (wCall 2 sp_law_draws (wCons (wVar 0) (wCons (wC (.int 350)) wNil))) (gN 1))
    (sSeq (sAsg (wOp rAdd (wC (.int 1)) (wCall 2 sp_law_take (wCons (wVar 1) (wCons (wC (.int 12)) wNil)))) (gN 2))
    (sSeq (sAsg (wC (.int 12)) (gN 3))
    (sSeq (sAsg (wCall 2 sp_law_take (wCons (wVar 1) (wCons (wC (.int 16)) wNil))) (gN 4))
    (sSeq (sIf (wtVal (wOp rEq (wVar 4) (wC (.int 0)))) (sAsg (wOp rAdd (wC (.int 1)) (wCall 2 sp_law_take (wCons (wVar 1) (wCons (wC (.int 40)) wNil)))) (gN 2)) sNext)
    (sSeq (sIf (wtVal (wOp rEq (wVar 4) (wC (.int 1)))) (sSeq (sAsg (wOp rAdd (wC (.int 1)) (wCall 2 sp_law_take (wCons (wVar 1) (wCons (wC (.int 4)) wNil)))) (gN 2))
    (sAsg (wC (.int 60)) (gN 3))) sNext)
    (sSeq (sAsg (wCall 3 sp_law_prizes (wCons (wVar 1) (wCons (wVar 0) (wCons (wVar 2) wNil)))) (gN 5))
    (sSeq (sIf (wtNot (wtVal (wCall 4 sp_law_right (wCons (wVar 1) (wCons (wVar 0) (wCons (wVar 5) (wCons (wVar 3) wNil))))))) (sRet (wC (.bl false))) sNext)
    (sSeq (sIf (wtNot (wtVal (wCall 4 sp_law_right (wCons (wVar 1) (wCons (wVar 0) (wCons (wCall 3 sp_law_prizes (wCons (wVar 1) (wCons (wVar 0) (wCons (wOp rAdd (wC (.int 1)) (wCall 2 sp_law_take (wCons (wVar 1) (wCons (wC (.int 6)) wNil)))) wNil)))) (wCons (wC (.int 6)) wNil))))))) (sRet (wC (.bl false))) sNext)
    (sSeq (sAsg (wTup (wCons (wOp rAdd (wC (.int 1)) (wCall 2 sp_law_take (wCons (wVar 1) (wCons (wC (.int 9)) wNil)))) (wCons (wC (.int 1)) wNil))) (gN 6))
    (sRet (wCall 2 sp_law_same (wCons (wCall 2 sp_worth_of_wheel (wCons (wVar 5) (wCons (wVar 6) wNil))) (wCons (wCall 2 sp_law_plus (wCons (wCall 2 sp_law_bound (wCons (wVar 5) (wCons (wVar 6) wNil))) (wCons (wVar 6) wNil))) wNil))))))))))))))
end K93
set_option Elab.async false
set_option linter.all false
set_option maxRecDepth 100000
set_option maxHeartbeats 8000000
/-! the defs of oddsweighed_k93_whole_wheels_turned_agai keep their parts -/
namespace K93
open PySem PySem.Spec DL
open L2 (V Hp HO St PE PT PW PA PS PSs PG PI PO Cx Inv RelV Vals)
def topS (i : Nat) : Stmt := PySem.Challenge.pw_oddsweighed_k93_whole_wheels_turned_agai.main.body.getD i (.Pass ⟨0, 0, 0, 0⟩)
section
variable {P : Program} {w : World} {K : PySem.W.Frag} {mg : Str → Option Value} {base : Heap}
abbrev s_divisor : Stmt := topS 3
theorem sc_divisor : L2.FnScope ["one", "other"] ["one", "other"] (L2.defScope s_divisor) := ⟨rfl, rfl, rfl, by decide +kernel, rfl, by decide +kernel, by decide +kernel⟩
theorem ok_divisor {f : Addr} {fd : FuncData} {k : Nat} {sp : Spc} (F : L2.Fun K "divisor" "divisor" s_divisor f fd) (hm : mg "divisor" = some (.ref f)) (m_gcd : mg "gcd" = some (.builtin "math.gcd")) (body : Body 2 2 (w_divisor ) sp) : Callee P w K mg base "divisor" (k + 1) 2 sp :=
  callee_of F hm (F.binds (ps := ["one", "other"]) fun _ _ _ _ _ _ us hl => match us, hl with | [_, _], _ => rfl) sc_divisor rfl rfl (fun cdv A outer s H E hr => by
    unfold w_divisor
    exact (dss_one (ds_ret (d_callF b_gcd (by rfl) m_gcd (da_cons (d_var 0) (da_cons (d_var 1) da_nil)))))) body
abbrev s_fraction : Stmt := topS 4
theorem sc_fraction : L2.FnScope ["n", "d", "common"] ["n", "d"] (L2.defScope s_fraction) := ⟨rfl, rfl, rfl, by decide +kernel, rfl, by decide +kernel, by decide +kernel⟩
theorem ok_fraction {f : Addr} {fd : FuncData} {k : Nat} {sp : Spc} (F : L2.Fun K "fraction" "fraction" s_fraction f fd) (hm : mg "fraction" = some (.ref f)) {sp_divisor : Spc} {k_divisor : Nat} (C_divisor : Callee P w K mg base "divisor" k_divisor 2 sp_divisor) (h_divisor : k_divisor ≤ k) (body : Body 3 2 (w_fraction sp_divisor) sp) : Callee P w K mg base "fraction" (k + 1) 2 sp :=
  callee_of F hm (F.binds (ps := ["n", "d"]) fun _ _ _ _ _ _ us hl => match us, hl with | [_, _], _ => rfl) sc_fraction rfl rfl (fun cdv A outer s H E hr => by
    unfold w_fraction
    exact (dss_cons (ds_set 2 sc_fraction.nd (d_calle C_divisor hr h_divisor (by rfl) (da_cons (d_var 0) (da_cons (d_var 1) da_nil))))
      (dss_cons (ds_if (dt_cmp c_lt (d_var 1) d_int) (dss_one (ds_set 2 sc_fraction.nd (d_un u_neg (d_var 2)))) dss_nil)
      (dss_one (ds_ret (d_tup (da_cons (d_op o_div (d_var 0) (d_var 2)) (da_cons (d_op o_div (d_var 1) (d_var 2)) da_nil)))))))) body
abbrev s_plus : Stmt := topS 5
theorem sc_plus : L2.FnScope ["one", "other"] ["one", "other"] (L2.defScope s_plus) := ⟨rfl, rfl, rfl, by decide +kernel, rfl, by decide +kernel, by decide +kernel⟩
theorem ok_plus {f : Addr} {fd : FuncData} {k : Nat} {sp : Spc} (F : L2.Fun K "plus" "plus" s_plus f fd) (hm : mg "plus" = some (.ref f)) {sp_fraction : Spc} {k_fraction : Nat} (C_fraction : Callee P w K mg base "fraction" k_fraction 2 sp_fraction) (h_fraction : k_fraction ≤ k) (body : Body 2 2 (w_plus sp_fraction) sp) : Callee P w K mg base "plus" (k + 1) 2 sp :=
  callee_of F hm (F.binds (ps := ["one", "other"]) fun _ _ _ _ _ _ us hl => match us, hl with | [_, _], _ => rfl) sc_plus rfl rfl (fun cdv A outer s H E hr => by
    unfold w_plus
    exact (dss_one (ds_ret (d_calle C_fraction hr h_fraction (by rfl) (da_cons (d_op o_add (d_op o_mul (d_ix i_ix (d_var 0) d_int) (d_ix i_ix (d_var 1) d_int)) (d_op o_mul (d_ix i_ix (d_var 1) d_int) (d_ix i_ix (d_var 0) d_int))) (da_cons (d_op o_mul (d_ix i_ix (d_var 0) d_int) (d_ix i_ix (d_var 1) d_int)) da_nil)))))) body
abbrev s_minus : Stmt := topS 6
theorem sc_minus : L2.FnScope ["one", "other"] ["one", "other"] (L2.defScope s_minus) := ⟨rfl, rfl, rfl, by decide +kernel, rfl, by decide +kernel, by decide +kernel⟩
theorem ok_minus {f : Addr} {fd : FuncData} {k : Nat} {sp : Spc} (F : L2.Fun K "minus" "minus" s_minus f fd) (hm : mg "minus" = some (.ref f)) {sp_fraction : Spc} {k_fraction : Nat} (C_fraction : Callee P w K mg base "fraction" k_fraction 2 sp_fraction) (h_fraction : k_fraction ≤ k) (body : Body 2 2 (w_minus sp_fraction) sp) : Callee P w K mg base "minus" (k + 1) 2 sp :=
  callee_of F hm (F.binds (ps := ["one", "other"]) fun _ _ _ _ _ _ us hl => match us, hl with | [_, _], _ => rfl) sc_minus rfl rfl (fun cdv A outer s H E hr => by
    unfold w_minus
    exact (dss_one (ds_ret (d_calle C_fraction hr h_fraction (by rfl) (da_cons (d_op o_sub (d_op o_mul (d_ix i_ix (d_var 0) d_int) (d_ix i_ix (d_var 1) d_int)) (d_op o_mul (d_ix i_ix (d_var 1) d_int) (d_ix i_ix (d_var 0) d_int))) (da_cons (d_op o_mul (d_ix i_ix (d_var 0) d_int) (d_ix i_ix (d_var 1) d_int)) da_nil)))))) body
abbrev s_times : Stmt := topS 7
theorem sc_times : L2.FnScope ["one", "other"] ["one", "other"] (L2.defScope s_times) := ⟨rfl, rfl, rfl, by decide +kernel, rfl, by decide +kernel, by decide +kernel⟩
theorem ok_times {f : Addr} {fd : FuncData} {k : Nat} {sp : Spc} (F : L2.Fun K "times" "times" s_times f fd) (hm : mg "times" = some (.ref f)) {sp_fraction : Spc} {k_fraction : Nat} (C_fraction : Callee P w K mg base "fraction" k_fraction 2 sp_fraction) (h_fraction : k_fraction ≤ k) (body : Body 2 2 (w_times sp_fraction) sp) : Callee P w K mg base "times" (k + 1) 2 sp :=
  callee_of F hm (F.binds (ps := ["one", "other"]) fun _ _ _ _ _ _ us hl => match us, hl with | [_, _], _ => rfl) sc_times rfl rfl (fun cdv A outer s H E hr => by
    unfold w_times
    exact (dss_one (ds_ret (d_calle C_fraction hr h_fraction (by rfl) (da_cons (d_op o_mul (d_ix i_ix (d_var 0) d_int) (d_ix i_ix (d_var 1) d_int)) (da_cons (d_op o_mul (d_ix i_ix (d_var 0) d_int) (d_ix i_ix (d_var 1) d_int)) da_nil)))))) body
abbrev s_divided : Stmt := topS 8
theorem sc_divided : L2.FnScope ["one", "other"] ["one", "other"] (L2.defScope s_divided) := ⟨rfl, rfl, rfl, by decide +kernel, rfl, by decide +kernel, by decide +kernel⟩
theorem ok_divided {f : Addr} {fd : FuncData} {k : Nat} {sp : Spc} (F : L2.Fun K "divided" "divided" s_divided f fd) (hm : mg "divided" = some (.ref f)) {sp_fraction : Spc} {k_fraction : Nat} (C_fraction : Callee P w K mg base "fraction" k_fraction 2 sp_fraction) (h_fraction : k_fraction ≤ k) (body : Body 2 2 (w_divided sp_fraction) sp) : Callee P w K mg base "divided" (k + 1) 2 sp :=
  callee_of F hm (F.binds (ps := ["one", "other"]) fun _ _ _ _ _ _ us hl => match us, hl with | [_, _], _ => rfl) sc_divided rfl rfl (fun cdv A outer s H E hr => by
    unfold w_divided
    exact (dss_one (ds_ret (d_calle C_fraction hr h_fraction (by rfl) (da_cons (d_op o_mul (d_ix i_ix (d_var 0) d_int) (d_ix i_ix (d_var 1) d_int)) (da_cons (d_op o_mul (d_ix i_ix (d_var 0) d_int) (d_ix i_ix (d_var 1) d_int)) da_nil)))))) body
abbrev s_is_less : Stmt := topS 9
theorem sc_is_less : L2.FnScope ["one", "other"] ["one", "other"] (L2.defScope s_is_less) := ⟨rfl, rfl, rfl, by decide +kernel, rfl, by decide +kernel, by decide +kernel⟩
theorem ok_is_less {f : Addr} {fd : FuncData} {k : Nat} {sp : Spc} (F : L2.Fun K "is_less" "is_less" s_is_less f fd) (hm : mg "is_less" = some (.ref f)) (body : Body 2 2 (w_is_less ) sp) : Callee P w K mg base "is_less" (k + 1) 2 sp :=
  callee_of F hm (F.binds (ps := ["one", "other"]) fun _ _ _ _ _ _ us hl => match us, hl with | [_, _], _ => rfl) sc_is_less rfl rfl (fun cdv A outer s H E hr => by
    unfold w_is_less
    exact (dss_one (ds_ret (d_cmp c_lt (d_op o_mul (d_ix i_ix (d_var 0) d_int) (d_ix i_ix (d_var 1) d_int)) (d_op o_mul (d_ix i_ix (d_var 1) d_int) (d_ix i_ix (d_var 0) d_int)))))) body
abbrev s_bound_of : Stmt := topS 11
theorem sc_bound_of : L2.FnScope ["prizes", "price", "n", "ordered", "whole", "many", "bound"] ["prizes", "price"] (L2.defScope s_bound_of) := ⟨rfl, rfl, rfl, by decide +kernel, rfl, by decide +kernel, by decide +kernel⟩
theorem ok_bound_of {f : Addr} {fd : FuncData} {k : Nat} {sp : Spc} (F : L2.Fun K "bound_of" "bound_of" s_bound_of f fd) (hm : mg "bound_of" = some (.ref f)) (m_len : mg "len" = none) (m_sorted : mg "sorted" = none) (m_range : mg "range" = none) {v_NOTHING : V} {u_NOTHING : Value} (g_NOTHING : mg "NOTHING" = some u_NOTHING) (r_NOTHING : RelV v_NOTHING u_NOTHING) (h_NOTHING : ∀ H m, Rep K H m dNOTHING v_NOTHING) {sp_times : Spc} {k_times : Nat} (C_times : Callee P w K mg base "times" k_times 2 sp_times) (h_times : k_times ≤ k) {sp_minus : Spc} {k_minus : Nat} (C_minus : Callee P w K mg base "minus" k_minus 2 sp_minus) (h_minus : k_minus ≤ k) {sp_divided : Spc} {k_divided : Nat} (C_divided : Callee P w K mg base "divided" k_divided 2 sp_divided) (h_divided : k_divided ≤ k) {sp_is_less : Spc} {k_is_less : Nat} (C_is_less : Callee P w K mg base "is_less" k_is_less 2 sp_is_less) (h_is_less : k_is_less ≤ k) (body : Body 7 2 (w_bound_of sp_times sp_minus sp_divided sp_is_less) sp) : Callee P w K mg base "bound_of" (k + 1) 2 sp :=
  callee_of F hm (F.binds (ps := ["prizes", "price"]) fun _ _ _ _ _ _ us hl => match us, hl with | [_, _], _ => rfl) sc_bound_of rfl rfl (fun cdv A outer s H E hr => by
    unfold w_bound_of
    exact (dss_cons (ds_set 2 sc_bound_of.nd (d_callB b_len (by rfl) m_len (by decide +kernel) (da_cons (d_var 0) da_nil)))
      (dss_cons (ds_set 3 sc_bound_of.nd (d_revL (d_callB (b_sortedA hr) (by rfl) m_sorted (by decide +kernel) (da_cons (d_var 0) da_nil))))
      (dss_cons (ds_set 4 sc_bound_of.nd d_int)
      (dss_cons (ds_for rfl PassesOwn.never (di_r2 (by rfl) m_range d_int (d_op o_add (d_var 2) d_int)) (dg_name 5 sc_bound_of.nd) (dss_cons (ds_aug 4 sc_bound_of.nd i_add (d_ix i_ix (d_var 3) (d_op o_sub (d_var 5) d_int)))
      (dss_cons (ds_set 6 sc_bound_of.nd (d_calle C_divided hr h_divided (by rfl) (da_cons (d_calle C_minus hr h_minus (by rfl) (da_cons (d_tup (da_cons (d_var 4) (da_cons d_int da_nil))) (da_cons (d_calle C_times hr h_times (by rfl) (da_cons (d_tup (da_cons (d_var 2) (da_cons d_int da_nil))) (da_cons (d_var 1) da_nil))) da_nil))) (da_cons (d_tup (da_cons (d_var 5) (da_cons d_int da_nil))) da_nil))))
      (dss_one (ds_if (PW.pt (dw_or (dt_cmp (c_eq hr) (d_var 5) (d_var 2)) (dw_or1 (dt_not (dt_val (d_calle C_is_less hr h_is_less (by rfl) (da_cons (d_var 6) (da_cons (d_tup (da_cons (d_ix i_ix (d_var 3) (d_var 5)) (da_cons d_int da_nil))) da_nil)))))))) (dss_one (ds_ret (d_var 6))) dss_nil)))))
      (dss_one (ds_ret (d_glob (by rfl) g_NOTHING r_NOTHING h_NOTHING)))))))) body
abbrev s_worth_of_wheel : Stmt := topS 12
theorem sc_worth_of_wheel : L2.FnScope ["prizes", "price"] ["prizes", "price"] (L2.defScope s_worth_of_wheel) := ⟨rfl, rfl, rfl, by decide +kernel, rfl, by decide +kernel, by decide +kernel⟩
theorem ok_worth_of_wheel {f : Addr} {fd : FuncData} {k : Nat} {sp : Spc} (F : L2.Fun K "worth_of_wheel" "worth_of_wheel" s_worth_of_wheel f fd) (hm : mg "worth_of_wheel" = some (.ref f)) {sp_bound_of : Spc} {k_bound_of : Nat} (C_bound_of : Callee P w K mg base "bound_of" k_bound_of 2 sp_bound_of) (h_bound_of : k_bound_of ≤ k) {sp_plus : Spc} {k_plus : Nat} (C_plus : Callee P w K mg base "plus" k_plus 2 sp_plus) (h_plus : k_plus ≤ k) (body : Body 2 2 (w_worth_of_wheel sp_bound_of sp_plus) sp) : Callee P w K mg base "worth_of_wheel" (k + 1) 2 sp :=
  callee_of F hm (F.binds (ps := ["prizes", "price"]) fun _ _ _ _ _ _ us hl => match us, hl with | [_, _], _ => rfl) sc_worth_of_wheel rfl rfl (fun cdv A outer s H E hr => by
    unfold w_worth_of_wheel
    exact (dss_one (ds_ret (d_calle C_plus hr h_plus (by rfl) (da_cons (d_calle C_bound_of hr h_bound_of (by rfl) (da_cons (d_var 0) (da_cons (d_var 1) da_nil))) (da_cons (d_var 1) da_nil)))))) body
abbrev s_stops_at : Stmt := topS 13
theorem sc_stops_at : L2.FnScope ["prizes", "price", "n", "d"] ["prizes", "price"] (L2.defScope s_stops_at) := ⟨rfl, rfl, rfl, by decide +kernel, rfl, by decide +kernel, by decide +kernel⟩
theorem ok_stops_at {f : Addr} {fd : FuncData} {k : Nat} {sp : Spc} (F : L2.Fun K "stops_at" "stops_at" s_stops_at f fd) (hm : mg "stops_at" = some (.ref f)) {sp_bound_of : Spc} {k_bound_of : Nat} (C_bound_of : Callee P w K mg base "bound_of" k_bound_of 2 sp_bound_of) (h_bound_of : k_bound_of ≤ k) (body : Body 4 2 (w_stops_at sp_bound_of) sp) : Callee P w K mg base "stops_at" (k + 1) 2 sp :=
  callee_of F hm (F.binds (ps := ["prizes", "price"]) fun _ _ _ _ _ _ us hl => match us, hl with | [_, _], _ => rfl) sc_stops_at rfl rfl (fun cdv A outer s H E hr => by
    unfold w_stops_at
    exact (dss_cons (ds_asg (d_calle C_bound_of hr h_bound_of (by rfl) (da_cons (d_var 0) (da_cons (d_var 1) da_nil))) (dg_tup rfl (dgs_one 2 sc_stops_at.nd (dgs_one 3 sc_stops_at.nd .nil))))
      (dss_one (ds_ret (d_un u_neg (d_op o_div (d_un u_neg (d_var 2)) (d_var 3))))))) body
abbrev s_mean_turns : Stmt := topS 14
theorem sc_mean_turns : L2.FnScope ["prizes", "price", "least", "prize"] ["prizes", "price"] (L2.defScope s_mean_turns) := ⟨rfl, rfl, rfl, by decide +kernel, rfl, by decide +kernel, by decide +kernel⟩
theorem ok_mean_turns {f : Addr} {fd : FuncData} {k : Nat} {sp : Spc} (F : L2.Fun K "mean_turns" "mean_turns" s_mean_turns f fd) (hm : mg "mean_turns" = some (.ref f)) (m_len : mg "len" = none) {sp_stops_at : Spc} {k_stops_at : Nat} (C_stops_at : Callee P w K mg base "stops_at" k_stops_at 2 sp_stops_at) (h_stops_at : k_stops_at ≤ k) {sp_fraction : Spc} {k_fraction : Nat} (C_fraction : Callee P w K mg base "fraction" k_fraction 2 sp_fraction) (h_fraction : k_fraction ≤ k) (body : Body 4 2 (w_mean_turns sp_stops_at sp_fraction) sp) : Callee P w K mg base "mean_turns" (k + 1) 2 sp :=
  callee_of F hm (F.binds (ps := ["prizes", "price"]) fun _ _ _ _ _ _ us hl => match us, hl with | [_, _], _ => rfl) sc_mean_turns rfl rfl (fun cdv A outer s H E hr => by
    unfold w_mean_turns
    exact (dss_cons (ds_set 2 sc_mean_turns.nd (d_calle C_stops_at hr h_stops_at (by rfl) (da_cons (d_var 0) (da_cons (d_var 1) da_nil))))
      (dss_one (ds_ret (d_calle C_fraction hr h_fraction (by rfl) (da_cons (d_callB b_len (by rfl) m_len (by decide +kernel) (da_cons (d_var 0) da_nil)) (da_cons (d_callB b_len (by rfl) m_len (by decide +kernel) (da_cons (d_lc (own := [("prize", 3)]) rfl sc_mean_turns.nd (di_it (d_var 0)) (L2.blkOk_by (by rfl)) (fun _ _ _ _ _ => (dg_name 3 sc_mean_turns.nd)) (fun _ _ _ _ _ => (dts_one (dt_cmp c_ge (d_var 3) (d_var 2)))) (fun _ _ _ _ _ => (d_var 3))) da_nil)) da_nil))))))) body
abbrev s_worth_in : Stmt := topS 15
theorem sc_worth_in : L2.FnScope ["prizes", "price", "turns", "worth", "step", "rest", "total", "prize"] ["prizes", "price", "turns"] (L2.defScope s_worth_in) := ⟨rfl, rfl, rfl, by decide +kernel, rfl, by decide +kernel, by decide +kernel⟩
theorem ok_worth_in {f : Addr} {fd : FuncData} {k : Nat} {sp : Spc} (F : L2.Fun K "worth_in" "worth_in" s_worth_in f fd) (hm : mg "worth_in" = some (.ref f)) (m_len : mg "len" = none) (m_sum : mg "sum" = none) (m_range : mg "range" = none) {v_NOTHING : V} {u_NOTHING : Value} (g_NOTHING : mg "NOTHING" = some u_NOTHING) (r_NOTHING : RelV v_NOTHING u_NOTHING) (h_NOTHING : ∀ H m, Rep K H m dNOTHING v_NOTHING) {sp_fraction : Spc} {k_fraction : Nat} (C_fraction : Callee P w K mg base "fraction" k_fraction 2 sp_fraction) (h_fraction : k_fraction ≤ k) {sp_minus : Spc} {k_minus : Nat} (C_minus : Callee P w K mg base "minus" k_minus 2 sp_minus) (h_minus : k_minus ≤ k) {sp_is_less : Spc} {k_is_less : Nat} (C_is_less : Callee P w K mg base "is_less" k_is_less 2 sp_is_less) (h_is_less : k_is_less ≤ k) {sp_plus : Spc} {k_plus : Nat} (C_plus : Callee P w K mg base "plus" k_plus 2 sp_plus) (h_plus : k_plus ≤ k) {sp_divided : Spc} {k_divided : Nat} (C_divided : Callee P w K mg base "divided" k_divided 2 sp_divided) (h_divided : k_divided ≤ k) (body : Body 8 3 (w_worth_in sp_fraction sp_minus sp_is_less sp_plus sp_divided) sp) : Callee P w K mg base "worth_in" (k + 1) 3 sp :=
  callee_of F hm (F.binds (ps := ["prizes", "price", "turns"]) fun _ _ _ _ _ _ us hl => match us, hl with | [_, _, _], _ => rfl) sc_worth_in rfl rfl (fun cdv A outer s H E hr => by
    unfold w_worth_in
    exact (dss_cons (ds_set 3 sc_worth_in.nd (d_calle C_fraction hr h_fraction (by rfl) (da_cons (d_callB (b_sum rfl) (by rfl) m_sum (by decide +kernel) (da_cons (d_var 0) da_nil)) (da_cons (d_callB b_len (by rfl) m_len (by decide +kernel) (da_cons (d_var 0) da_nil)) da_nil))))
      (dss_cons (ds_for rfl PassesOwn.never (di_r1 (by rfl) m_range (d_op o_sub (d_var 2) d_int)) (dg_name 4 sc_worth_in.nd) (dss_cons (ds_set 5 sc_worth_in.nd (d_calle C_minus hr h_minus (by rfl) (da_cons (d_var 3) (da_cons (d_var 1) da_nil))))
      (dss_cons (ds_set 6 sc_worth_in.nd (d_glob (by rfl) g_NOTHING r_NOTHING h_NOTHING))
      (dss_cons (ds_for rfl PassesOwn.never (di_it (d_var 0)) (dg_name 7 sc_worth_in.nd) (dss_one (ds_set 6 sc_worth_in.nd (d_calle C_plus hr h_plus (by rfl) (da_cons (d_var 6) (da_cons (d_if (dt_val (d_calle C_is_less hr h_is_less (by rfl) (da_cons (d_tup (da_cons (d_var 7) (da_cons d_int da_nil))) (da_cons (d_var 5) da_nil)))) (d_var 5) (d_tup (da_cons (d_var 7) (da_cons d_int da_nil)))) da_nil))))))
      (dss_one (ds_set 3 sc_worth_in.nd (d_calle C_divided hr h_divided (by rfl) (da_cons (d_var 6) (da_cons (d_tup (da_cons (d_callB b_len (by rfl) m_len (by decide +kernel) (da_cons (d_var 0) da_nil)) (da_cons d_int da_nil))) da_nil)))))))))
      (dss_one (ds_ret (d_var 3)))))) body
abbrev s_law_draws : Stmt := topS 17
theorem sc_law_draws : L2.FnScope ["script", "many", "cells", "cell", "rest", "draws", "k", "at", "once"] ["script", "many"] (L2.defScope s_law_draws) := ⟨rfl, rfl, rfl, by decide +kernel, rfl, by decide +kernel, by decide +kernel⟩
theorem ok_law_draws {f : Addr} {fd : FuncData} {k : Nat} {sp : Spc} (F : L2.Fun K "_law_draws" "_law_draws" s_law_draws f fd) (hm : mg "_law_draws" = some (.ref f)) (m_int : mg "int" = none) (m_len : mg "len" = none) (m_list : mg "list" = none) (m_range : mg "range" = none) (body : Body 9 2 (w_law_draws ) sp) : Callee P w K mg base "_law_draws" (k + 1) 2 sp :=
  callee_of F hm (F.binds (ps := ["script", "many"]) fun _ _ _ _ _ _ us hl => match us, hl with | [_, _], _ => rfl) sc_law_draws rfl rfl (fun cdv A outer s H E hr => by
    unfold w_law_draws
    exact (dss_cons (by first | exact (ds_set 2 sc_law_draws.nd (d_lc (own := [("cell", 3)]) rfl sc_law_draws.nd (di_it (d_var 0)) (L2.blkOk_by (by rfl)) (fun _ _ _ _ _ => (dg_name 3 sc_law_draws.nd)) (fun _ _ _ _ _ => dts_nil) (fun _ _ _ _ _ => (d_callT b_int (by rfl) m_int (by decide +kernel) (da_cons (d_var 3) da_nil))))) | exact (ds_setLc 2 (own := [("cell", 3)]) rfl sc_law_draws.nd (di_it (d_var 0)) (L2.blkOk_by (by rfl)) (fun _ _ _ _ _ => (dg_name 3 sc_law_draws.nd)) (fun _ _ _ _ _ => dts_nil) (fun _ _ _ _ _ => (d_callT b_int (by rfl) m_int (by decide +kernel) (da_cons (d_var 3) da_nil))) (L2.sw_true rfl rfl rfl (by decide +kernel))))
      (dss_cons (ds_if (dt_cmp (c_eq hr) (d_callB b_len (by rfl) m_len (by decide +kernel) (da_cons (d_var 2) da_nil)) d_int) (dss_one (ds_expr (d_m PySem.F.slot_list_append PySem.F.type_list_append m_append (d_var 2) (da_cons d_int da_nil)))) dss_nil)
      (dss_cons (ds_set 4 sc_law_draws.nd (d_callT b_list (by rfl) m_list (by decide +kernel) (da_cons (d_var 2) da_nil)))
      (dss_cons (ds_set 5 sc_law_draws.nd (d_lst da_nil))
      (dss_cons (ds_for rfl PassesOwn.never (di_r1 (by rfl) m_range (d_var 1)) (dg_name 6 sc_law_draws.nd) (dss_cons (ds_set 7 sc_law_draws.nd (d_op o_mod (d_var 6) (d_callB b_len (by rfl) m_len (by decide +kernel) (da_cons (d_var 2) da_nil))))
      (dss_one (ds_if (PW.pt (dw_and (dt_cmp c_ge (d_ix i_ix (d_var 2) (d_var 7)) (d_op o_pow d_int d_int)) (dw_and1 (dt_cmp c_gt (d_ix i_ix (d_var 4) (d_var 7)) d_int)))) (dss_cons (ds_expr (d_m PySem.F.slot_list_append PySem.F.type_list_append m_append (d_var 5) (da_cons (d_op o_mod (d_callT b_int (by rfl) m_int (by decide +kernel) (da_cons (d_ix i_ix (d_var 4) (d_var 7)) da_nil)) d_int) da_nil)))
      (dss_one (ds_sub p_put (d_op o_div (d_ix i_ix (d_var 4) (d_var 7)) d_int) (d_var 4) (d_var 7)))) (dss_cons (ds_set 8 sc_law_draws.nd (d_op o_mod (d_callT b_int (by rfl) m_int (by decide +kernel) (da_cons (d_op o_add (d_op o_add (d_op o_mul (d_ix i_ix (d_var 2) (d_var 7)) d_int) (d_op o_mul (d_var 6) d_int)) d_int) da_nil)) d_int))
      (dss_one (ds_expr (d_m PySem.F.slot_list_append PySem.F.type_list_append m_append (d_var 5) (da_cons (d_op o_mod (d_callT b_int (by rfl) m_int (by decide +kernel) (da_cons (d_op o_add (d_op o_add (d_op o_mul (d_var 8) (d_var 8)) (d_op o_mul d_int (d_var 8))) (d_var 6)) da_nil)) d_int) da_nil)))))))))
      (dss_cons (ds_expr (d_m0 PySem.F.slot_list_reverse PySem.F.type_list_reverse m_reverse (d_var 5)))
      (dss_one (ds_ret (d_var 5)))))))))) body
abbrev s_law_take : Stmt := topS 18
theorem sc_law_take : L2.FnScope ["draws", "many"] ["draws", "many"] (L2.defScope s_law_take) := ⟨rfl, rfl, rfl, by decide +kernel, rfl, by decide +kernel, by decide +kernel⟩
theorem ok_law_take {f : Addr} {fd : FuncData} {k : Nat} {sp : Spc} (F : L2.Fun K "_law_take" "_law_take" s_law_take f fd) (hm : mg "_law_take" = some (.ref f)) (m_len : mg "len" = none) (m_int : mg "int" = none) (body : Body 2 2 (w_law_take ) sp) : Callee P w K mg base "_law_take" (k + 1) 2 sp :=
  callee_of F hm (F.binds (ps := ["draws", "many"]) fun _ _ _ _ _ _ us hl => match us, hl with | [_, _], _ => rfl) sc_law_take rfl rfl (fun cdv A outer s H E hr => by
    unfold w_law_take
    exact (dss_cons (ds_if (dt_cmp (c_eq hr) (d_callB b_len (by rfl) m_len (by decide +kernel) (da_cons (d_var 0) da_nil)) d_int) (dss_one (ds_ret d_int)) dss_nil)
      (dss_one (ds_ret (d_op o_mod (d_callT b_int (by rfl) m_int (by decide +kernel) (da_cons (d_m0 PySem.F.slot_list_pop PySem.F.type_list_pop m_pop (d_var 0)) da_nil)) (d_var 1)))))) body
abbrev s_law_same : Stmt := topS 19
theorem sc_law_same : L2.FnScope ["actual", "due", "k"] ["actual", "due"] (L2.defScope s_law_same) := ⟨rfl, rfl, rfl, by decide +kernel, rfl, by decide +kernel, by decide +kernel⟩
theorem ok_law_same {f : Addr} {fd : FuncData} {k : Nat} {sp : Spc} (F : L2.Fun K "_law_same" "_law_same" s_law_same f fd) (hm : mg "_law_same" = some (.ref f)) (m_bool : mg "bool" = none) (m_isinstance : mg "isinstance" = none) (m_int : mg "int" = none) (m_str : mg "str" = none) (m_tuple : mg "tuple" = none) (m_len : mg "len" = none) (m_range : mg "range" = none) {sp_law_same : Spc} {k_law_same : Nat} (C_law_same : Callee P w K mg base "_law_same" k_law_same 2 sp_law_same) (h_law_same : k_law_same ≤ k) (body : Body 3 2 (w_law_same sp_law_same) sp) : Callee P w K mg base "_law_same" (k + 1) 2 sp :=
  callee_of F hm (F.binds (ps := ["actual", "due"]) fun _ _ _ _ _ _ us hl => match us, hl with | [_, _], _ => rfl) sc_law_same rfl rfl (fun cdv A outer s H E hr => by
    unfold w_law_same
    exact (dss_cons (ds_if (dt_val (d_callB b_isi (by rfl) m_isinstance (by decide +kernel) (da_cons (d_var 1) (da_cons (d_ty (by rfl) m_bool (by decide +kernel)) da_nil)))) (dss_one (ds_ret (d_and (d_callB b_isi (by rfl) m_isinstance (by decide +kernel) (da_cons (d_var 0) (da_cons (d_ty (by rfl) m_bool (by decide +kernel)) da_nil))) (d_one (d_cmp (c_eq hr) (d_var 0) (d_var 1)))))) dss_nil)
      (dss_cons (ds_if (dt_val (d_callB b_isi (by rfl) m_isinstance (by decide +kernel) (da_cons (d_var 1) (da_cons (d_ty (by rfl) m_int (by decide +kernel)) da_nil)))) (dss_one (ds_ret (d_and (d_callB b_isi (by rfl) m_isinstance (by decide +kernel) (da_cons (d_var 0) (da_cons (d_ty (by rfl) m_int (by decide +kernel)) da_nil))) (d_and (d_not (d_callB b_isi (by rfl) m_isinstance (by decide +kernel) (da_cons (d_var 0) (da_cons (d_ty (by rfl) m_bool (by decide +kernel)) da_nil)))) (d_one (d_cmp (c_eq hr) (d_var 0) (d_var 1))))))) dss_nil)
      (dss_cons (ds_if (dt_val (d_callB b_isi (by rfl) m_isinstance (by decide +kernel) (da_cons (d_var 1) (da_cons (d_ty (by rfl) m_str (by decide +kernel)) da_nil)))) (dss_one (ds_ret (d_and (d_callB b_isi (by rfl) m_isinstance (by decide +kernel) (da_cons (d_var 0) (da_cons (d_ty (by rfl) m_str (by decide +kernel)) da_nil))) (d_one (d_cmp (c_eq hr) (d_var 0) (d_var 1)))))) dss_nil)
      (dss_cons (ds_if (dt_cmp c_is (d_var 1) d_non) (dss_one (ds_ret (d_cmp c_is (d_var 0) d_non))) dss_nil)
      (dss_cons (ds_if (PW.pt (dw_or (dt_not (dt_val (d_callB b_isi (by rfl) m_isinstance (by decide +kernel) (da_cons (d_var 0) (da_cons (d_ty (by rfl) m_tuple (by decide +kernel)) da_nil))))) (dw_or1 (dt_cmp (c_ne hr) (d_callB b_len (by rfl) m_len (by decide +kernel) (da_cons (d_var 0) da_nil)) (d_callB b_len (by rfl) m_len (by decide +kernel) (da_cons (d_var 1) da_nil)))))) (dss_one (ds_ret d_bl)) dss_nil)
      (dss_cons (ds_for rfl PassesOwn.never (di_r1 (by rfl) m_range (d_callB b_len (by rfl) m_len (by decide +kernel) (da_cons (d_var 1) da_nil))) (dg_name 2 sc_law_same.nd) (dss_one (ds_if (dt_not (dt_val (d_calle C_law_same hr h_law_same (by rfl) (da_cons (d_ix i_ix (d_var 0) (d_var 2)) (da_cons (d_ix i_ix (d_var 1) (d_var 2)) da_nil))))) (dss_one (ds_ret d_bl)) dss_nil)))
      (dss_one (ds_ret d_bl))))))))) body
abbrev s_law_size : Stmt := topS 20
theorem sc_law_size : L2.FnScope ["draws", "script", "kind", "number"] ["draws", "script"] (L2.defScope s_law_size) := ⟨rfl, rfl, rfl, by decide +kernel, rfl, by decide +kernel, by decide +kernel⟩
theorem ok_law_size {f : Addr} {fd : FuncData} {k : Nat} {sp : Spc} (F : L2.Fun K "_law_size" "_law_size" s_law_size f fd) (hm : mg "_law_size" = some (.ref f)) (m_len : mg "len" = none) (m_int : mg "int" = none) (m_abs : mg "abs" = none) {sp_law_take : Spc} {k_law_take : Nat} (C_law_take : Callee P w K mg base "_law_take" k_law_take 2 sp_law_take) (h_law_take : k_law_take ≤ k) (body : Body 4 2 (w_law_size sp_law_take) sp) : Callee P w K mg base "_law_size" (k + 1) 2 sp :=
  callee_of F hm (F.binds (ps := ["draws", "script"]) fun _ _ _ _ _ _ us hl => match us, hl with | [_, _], _ => rfl) sc_law_size rfl rfl (fun cdv A outer s H E hr => by
    unfold w_law_size
    exact (dss_cons (ds_set 2 sc_law_size.nd (d_calle C_law_take hr h_law_take (by rfl) (da_cons (d_var 0) (da_cons d_int da_nil))))
      (dss_cons (ds_set 3 sc_law_size.nd (d_calle C_law_take hr h_law_take (by rfl) (da_cons (d_var 0) (da_cons d_int da_nil))))
      (dss_cons (ds_if (dt_cmp (c_eq hr) (d_var 2) d_int) (dss_one (ds_set 3 sc_law_size.nd (d_op o_add (d_var 3) (d_op o_mul (d_op o_add d_int (d_calle C_law_take hr h_law_take (by rfl) (da_cons (d_var 0) (da_cons d_int da_nil)))) (d_op o_pow d_int d_int))))) dss_nil)
      (dss_cons (ds_if (PW.pt (dw_and (dt_cmp (c_eq hr) (d_var 2) d_int) (dw_and1 (dt_cmp c_gt (d_callB b_len (by rfl) m_len (by decide +kernel) (da_cons (d_var 1) da_nil)) d_int)))) (dss_one (ds_set 3 sc_law_size.nd (d_op o_add (d_var 3) (d_op o_mod (d_callT b_int (by rfl) m_int (by decide +kernel) (da_cons (d_callB b_abs (by rfl) m_abs (by decide +kernel) (da_cons (d_callT b_int (by rfl) m_int (by decide +kernel) (da_cons (d_ix i_ix (d_var 1) (d_calle C_law_take hr h_law_take (by rfl) (da_cons (d_var 0) (da_cons (d_callB b_len (by rfl) m_len (by decide +kernel) (da_cons (d_var 1) da_nil)) da_nil)))) da_nil)) da_nil)) da_nil)) (d_op o_pow d_int d_int))))) dss_nil)
      (dss_cons (ds_if (dt_cmp (c_eq hr) (d_var 2) d_int) (dss_one (ds_set 3 sc_law_size.nd (d_op o_add (d_op o_mul (d_var 3) d_int) (d_calle C_law_take hr h_law_take (by rfl) (da_cons (d_var 0) (da_cons d_int da_nil)))))) dss_nil)
      (dss_one (ds_ret (d_var 3))))))))) body
abbrev s_law_divisor : Stmt := topS 21
theorem sc_law_divisor : L2.FnScope ["one", "other"] ["one", "other"] (L2.defScope s_law_divisor) := ⟨rfl, rfl, rfl, by decide +kernel, rfl, by decide +kernel, by decide +kernel⟩
theorem ok_law_divisor {f : Addr} {fd : FuncData} {k : Nat} {sp : Spc} (F : L2.Fun K "_law_divisor" "_law_divisor" s_law_divisor f fd) (hm : mg "_law_divisor" = some (.ref f)) (m_abs : mg "abs" = none) (m_int : mg "int" = none) (body : Body 2 2 (w_law_divisor ) sp) : Callee P w K mg base "_law_divisor" (k + 1) 2 sp :=
  callee_of F hm (F.binds (ps := ["one", "other"]) fun _ _ _ _ _ _ us hl => match us, hl with | [_, _], _ => rfl) sc_law_divisor rfl rfl (fun cdv A outer s H E hr => by
    unfold w_law_divisor
    exact (dss_cons (ds_set 0 sc_law_divisor.nd (d_callB b_abs (by rfl) m_abs (by decide +kernel) (da_cons (d_var 0) da_nil)))
      (dss_cons (ds_set 1 sc_law_divisor.nd (d_callB b_abs (by rfl) m_abs (by decide +kernel) (da_cons (d_var 1) da_nil)))
      (dss_cons (ds_while PassesOwn.never (dt_cmp (c_ne hr) (d_var 1) d_int) (dss_one (ds_par 0 1 rfl sc_law_divisor.nd (d_var 1) (d_op o_mod (d_callT b_int (by rfl) m_int (by decide +kernel) (da_cons (d_var 0) da_nil)) (d_var 1)))))
      (dss_one (ds_ret (d_var 0))))))) body
abbrev s_law_ratio : Stmt := topS 22
theorem sc_law_ratio : L2.FnScope ["n", "d", "common"] ["n", "d"] (L2.defScope s_law_ratio) := ⟨rfl, rfl, rfl, by decide +kernel, rfl, by decide +kernel, by decide +kernel⟩
theorem ok_law_ratio {f : Addr} {fd : FuncData} {k : Nat} {sp : Spc} (F : L2.Fun K "_law_ratio" "_law_ratio" s_law_ratio f fd) (hm : mg "_law_ratio" = some (.ref f)) {sp_law_divisor : Spc} {k_law_divisor : Nat} (C_law_divisor : Callee P w K mg base "_law_divisor" k_law_divisor 2 sp_law_divisor) (h_law_divisor : k_law_divisor ≤ k) (body : Body 3 2 (w_law_ratio sp_law_divisor) sp) : Callee P w K mg base "_law_ratio" (k + 1) 2 sp :=
  callee_of F hm (F.binds (ps := ["n", "d"]) fun _ _ _ _ _ _ us hl => match us, hl with | [_, _], _ => rfl) sc_law_ratio rfl rfl (fun cdv A outer s H E hr => by
    unfold w_law_ratio
    exact (dss_cons (ds_set 2 sc_law_ratio.nd (d_calle C_law_divisor hr h_law_divisor (by rfl) (da_cons (d_var 0) (da_cons (d_var 1) da_nil))))
      (dss_cons (ds_if (dt_cmp c_lt (d_var 1) d_int) (dss_one (ds_set 2 sc_law_ratio.nd (d_un u_neg (d_var 2)))) dss_nil)
      (dss_one (ds_ret (d_tup (da_cons (d_op o_div (d_var 0) (d_var 2)) (da_cons (d_op o_div (d_var 1) (d_var 2)) da_nil)))))))) body
abbrev s_law_plus : Stmt := topS 23
theorem sc_law_plus : L2.FnScope ["one", "other"] ["one", "other"] (L2.defScope s_law_plus) := ⟨rfl, rfl, rfl, by decide +kernel, rfl, by decide +kernel, by decide +kernel⟩
theorem ok_law_plus {f : Addr} {fd : FuncData} {k : Nat} {sp : Spc} (F : L2.Fun K "_law_plus" "_law_plus" s_law_plus f fd) (hm : mg "_law_plus" = some (.ref f)) {sp_law_ratio : Spc} {k_law_ratio : Nat} (C_law_ratio : Callee P w K mg base "_law_ratio" k_law_ratio 2 sp_law_ratio) (h_law_ratio : k_law_ratio ≤ k) (body : Body 2 2 (w_law_plus sp_law_ratio) sp) : Callee P w K mg base "_law_plus" (k + 1) 2 sp :=
  callee_of F hm (F.binds (ps := ["one", "other"]) fun _ _ _ _ _ _ us hl => match us, hl with | [_, _], _ => rfl) sc_law_plus rfl rfl (fun cdv A outer s H E hr => by
    unfold w_law_plus
    exact (dss_one (ds_ret (d_calle C_law_ratio hr h_law_ratio (by rfl) (da_cons (d_op o_add (d_op o_mul (d_ix i_ix (d_var 0) d_int) (d_ix i_ix (d_var 1) d_int)) (d_op o_mul (d_ix i_ix (d_var 1) d_int) (d_ix i_ix (d_var 0) d_int))) (da_cons (d_op o_mul (d_ix i_ix (d_var 0) d_int) (d_ix i_ix (d_var 1) d_int)) da_nil)))))) body
abbrev s_law_minus : Stmt := topS 24
theorem sc_law_minus : L2.FnScope ["one", "other"] ["one", "other"] (L2.defScope s_law_minus) := ⟨rfl, rfl, rfl, by decide +kernel, rfl, by decide +kernel, by decide +kernel⟩
theorem ok_law_minus {f : Addr} {fd : FuncData} {k : Nat} {sp : Spc} (F : L2.Fun K "_law_minus" "_law_minus" s_law_minus f fd) (hm : mg "_law_minus" = some (.ref f)) {sp_law_ratio : Spc} {k_law_ratio : Nat} (C_law_ratio : Callee P w K mg base "_law_ratio" k_law_ratio 2 sp_law_ratio) (h_law_ratio : k_law_ratio ≤ k) (body : Body 2 2 (w_law_minus sp_law_ratio) sp) : Callee P w K mg base "_law_minus" (k + 1) 2 sp :=
  callee_of F hm (F.binds (ps := ["one", "other"]) fun _ _ _ _ _ _ us hl => match us, hl with | [_, _], _ => rfl) sc_law_minus rfl rfl (fun cdv A outer s H E hr => by
    unfold w_law_minus
    exact (dss_one (ds_ret (d_calle C_law_ratio hr h_law_ratio (by rfl) (da_cons (d_op o_sub (d_op o_mul (d_ix i_ix (d_var 0) d_int) (d_ix i_ix (d_var 1) d_int)) (d_op o_mul (d_ix i_ix (d_var 1) d_int) (d_ix i_ix (d_var 0) d_int))) (da_cons (d_op o_mul (d_ix i_ix (d_var 0) d_int) (d_ix i_ix (d_var 1) d_int)) da_nil)))))) body
abbrev s_law_times : Stmt := topS 25
theorem sc_law_times : L2.FnScope ["one", "other"] ["one", "other"] (L2.defScope s_law_times) := ⟨rfl, rfl, rfl, by decide +kernel, rfl, by decide +kernel, by decide +kernel⟩
theorem ok_law_times {f : Addr} {fd : FuncData} {k : Nat} {sp : Spc} (F : L2.Fun K "_law_times" "_law_times" s_law_times f fd) (hm : mg "_law_times" = some (.ref f)) {sp_law_ratio : Spc} {k_law_ratio : Nat} (C_law_ratio : Callee P w K mg base "_law_ratio" k_law_ratio 2 sp_law_ratio) (h_law_ratio : k_law_ratio ≤ k) (body : Body 2 2 (w_law_times sp_law_ratio) sp) : Callee P w K mg base "_law_times" (k + 1) 2 sp :=
  callee_of F hm (F.binds (ps := ["one", "other"]) fun _ _ _ _ _ _ us hl => match us, hl with | [_, _], _ => rfl) sc_law_times rfl rfl (fun cdv A outer s H E hr => by
    unfold w_law_times
    exact (dss_one (ds_ret (d_calle C_law_ratio hr h_law_ratio (by rfl) (da_cons (d_op o_mul (d_ix i_ix (d_var 0) d_int) (d_ix i_ix (d_var 1) d_int)) (da_cons (d_op o_mul (d_ix i_ix (d_var 0) d_int) (d_ix i_ix (d_var 1) d_int)) da_nil)))))) body
abbrev s_law_over : Stmt := topS 26
theorem sc_law_over : L2.FnScope ["one", "other"] ["one", "other"] (L2.defScope s_law_over) := ⟨rfl, rfl, rfl, by decide +kernel, rfl, by decide +kernel, by decide +kernel⟩
theorem ok_law_over {f : Addr} {fd : FuncData} {k : Nat} {sp : Spc} (F : L2.Fun K "_law_over" "_law_over" s_law_over f fd) (hm : mg "_law_over" = some (.ref f)) {sp_law_ratio : Spc} {k_law_ratio : Nat} (C_law_ratio : Callee P w K mg base "_law_ratio" k_law_ratio 2 sp_law_ratio) (h_law_ratio : k_law_ratio ≤ k) (body : Body 2 2 (w_law_over sp_law_ratio) sp) : Callee P w K mg base "_law_over" (k + 1) 2 sp :=
  callee_of F hm (F.binds (ps := ["one", "other"]) fun _ _ _ _ _ _ us hl => match us, hl with | [_, _], _ => rfl) sc_law_over rfl rfl (fun cdv A outer s H E hr => by
    unfold w_law_over
    exact (dss_one (ds_ret (d_calle C_law_ratio hr h_law_ratio (by rfl) (da_cons (d_op o_mul (d_ix i_ix (d_var 0) d_int) (d_ix i_ix (d_var 1) d_int)) (da_cons (d_op o_mul (d_ix i_ix (d_var 0) d_int) (d_ix i_ix (d_var 1) d_int)) da_nil)))))) body
abbrev s_law_less : Stmt := topS 27
theorem sc_law_less : L2.FnScope ["one", "other"] ["one", "other"] (L2.defScope s_law_less) := ⟨rfl, rfl, rfl, by decide +kernel, rfl, by decide +kernel, by decide +kernel⟩
theorem ok_law_less {f : Addr} {fd : FuncData} {k : Nat} {sp : Spc} (F : L2.Fun K "_law_less" "_law_less" s_law_less f fd) (hm : mg "_law_less" = some (.ref f)) (body : Body 2 2 (w_law_less ) sp) : Callee P w K mg base "_law_less" (k + 1) 2 sp :=
  callee_of F hm (F.binds (ps := ["one", "other"]) fun _ _ _ _ _ _ us hl => match us, hl with | [_, _], _ => rfl) sc_law_less rfl rfl (fun cdv A outer s H E hr => by
    unfold w_law_less
    exact (dss_one (ds_ret (d_cmp c_lt (d_op o_mul (d_ix i_ix (d_var 0) d_int) (d_ix i_ix (d_var 1) d_int)) (d_op o_mul (d_ix i_ix (d_var 1) d_int) (d_ix i_ix (d_var 0) d_int)))))) body
abbrev s_law_prizes : Stmt := topS 28
theorem sc_law_prizes : L2.FnScope ["draws", "script", "many", "sign", "prizes", "k", "prize"] ["draws", "script", "many"] (L2.defScope s_law_prizes) := ⟨rfl, rfl, rfl, by decide +kernel, rfl, by decide +kernel, by decide +kernel⟩
theorem ok_law_prizes {f : Addr} {fd : FuncData} {k : Nat} {sp : Spc} (F : L2.Fun K "_law_prizes" "_law_prizes" s_law_prizes f fd) (hm : mg "_law_prizes" = some (.ref f)) (m_range : mg "range" = none) (m_tuple : mg "tuple" = none) {sp_law_take : Spc} {k_law_take : Nat} (C_law_take : Callee P w K mg base "_law_take" k_law_take 2 sp_law_take) (h_law_take : k_law_take ≤ k) {sp_law_size : Spc} {k_law_size : Nat} (C_law_size : Callee P w K mg base "_law_size" k_law_size 2 sp_law_size) (h_law_size : k_law_size ≤ k) (body : Body 7 3 (w_law_prizes sp_law_take sp_law_size) sp) : Callee P w K mg base "_law_prizes" (k + 1) 3 sp :=
  callee_of F hm (F.binds (ps := ["draws", "script", "many"]) fun _ _ _ _ _ _ us hl => match us, hl with | [_, _, _], _ => rfl) sc_law_prizes rfl rfl (fun cdv A outer s H E hr => by
    unfold w_law_prizes
    exact (dss_cons (ds_set 3 sc_law_prizes.nd (d_calle C_law_take hr h_law_take (by rfl) (da_cons (d_var 0) (da_cons d_int da_nil))))
      (dss_cons (ds_set 4 sc_law_prizes.nd (d_lst da_nil))
      (dss_cons (ds_for rfl PassesOwn.never (di_r1 (by rfl) m_range (d_var 2)) (dg_name 5 sc_law_prizes.nd) (dss_cons (ds_set 6 sc_law_prizes.nd (d_calle C_law_take hr h_law_take (by rfl) (da_cons (d_var 0) (da_cons (d_ix i_ix (d_lst (da_cons d_int (da_cons d_int (da_cons d_int da_nil)))) (d_calle C_law_take hr h_law_take (by rfl) (da_cons (d_var 0) (da_cons d_int da_nil)))) da_nil))))
      (dss_cons (ds_if (dt_cmp (c_eq hr) (d_calle C_law_take hr h_law_take (by rfl) (da_cons (d_var 0) (da_cons d_int da_nil))) d_int) (dss_one (ds_set 6 sc_law_prizes.nd (d_calle C_law_size hr h_law_size (by rfl) (da_cons (d_var 0) (da_cons (d_var 1) da_nil))))) dss_nil)
      (dss_cons (ds_if (PW.pt (dw_or (dt_cmp (c_eq hr) (d_var 3) d_int) (dw_or1 (PW.pt (dw_and (dt_cmp (c_eq hr) (d_var 3) d_int) (dw_and1 (dt_cmp (c_eq hr) (d_calle C_law_take hr h_law_take (by rfl) (da_cons (d_var 0) (da_cons d_int da_nil))) d_int))))))) (dss_one (ds_set 6 sc_law_prizes.nd (d_un u_neg (d_var 6)))) dss_nil)
      (dss_cons (ds_if (PW.pt (dw_and (dt_cmp c_gt (d_var 5) d_int) (dw_and1 (dt_cmp (c_eq hr) (d_calle C_law_take hr h_law_take (by rfl) (da_cons (d_var 0) (da_cons d_int da_nil))) d_int)))) (dss_one (ds_set 6 sc_law_prizes.nd (d_ix i_ix (d_var 4) (d_calle C_law_take hr h_law_take (by rfl) (da_cons (d_var 0) (da_cons (d_var 5) da_nil)))))) dss_nil)
      (dss_one (ds_expr (d_m PySem.F.slot_list_append PySem.F.type_list_append m_append (d_var 4) (da_cons (d_var 6) da_nil)))))))))
      (dss_one (ds_ret (d_callT b_tuple (by rfl) m_tuple (by decide +kernel) (da_cons (d_var 4) da_nil)))))))) body
abbrev s_law_price : Stmt := topS 29
theorem sc_law_price : L2.FnScope ["draws", "script", "prizes", "kind", "prize", "above", "other"] ["draws", "script", "prizes"] (L2.defScope s_law_price) := ⟨rfl, rfl, rfl, by decide +kernel, rfl, by decide +kernel, by decide +kernel⟩
theorem ok_law_price {f : Addr} {fd : FuncData} {k : Nat} {sp : Spc} (F : L2.Fun K "_law_price" "_law_price" s_law_price f fd) (hm : mg "_law_price" = some (.ref f)) (m_len : mg "len" = none) (m_max : mg "max" = none) (m_sum : mg "sum" = none) {sp_law_take : Spc} {k_law_take : Nat} (C_law_take : Callee P w K mg base "_law_take" k_law_take 2 sp_law_take) (h_law_take : k_law_take ≤ k) {sp_law_ratio : Spc} {k_law_ratio : Nat} (C_law_ratio : Callee P w K mg base "_law_ratio" k_law_ratio 2 sp_law_ratio) (h_law_ratio : k_law_ratio ≤ k) {sp_law_size : Spc} {k_law_size : Nat} (C_law_size : Callee P w K mg base "_law_size" k_law_size 2 sp_law_size) (h_law_size : k_law_size ≤ k) (body : Body 7 3 (w_law_price sp_law_take sp_law_ratio sp_law_size) sp) : Callee P w K mg base "_law_price" (k + 1) 3 sp :=
  callee_of F hm (F.binds (ps := ["draws", "script", "prizes"]) fun _ _ _ _ _ _ us hl => match us, hl with | [_, _, _], _ => rfl) sc_law_price rfl rfl (fun cdv A outer s H E hr => by
    unfold w_law_price
    exact (dss_cons (ds_set 3 sc_law_price.nd (d_calle C_law_take hr h_law_take (by rfl) (da_cons (d_var 0) (da_cons d_int da_nil))))
      (dss_cons (ds_set 4 sc_law_price.nd (d_ix i_ix (d_var 2) (d_calle C_law_take hr h_law_take (by rfl) (da_cons (d_var 0) (da_cons (d_callB b_len (by rfl) m_len (by decide +kernel) (da_cons (d_var 2) da_nil)) da_nil)))))
      (dss_cons (ds_set 5 sc_law_price.nd (d_callB (b_sum rfl) (by rfl) m_sum (by decide +kernel) (da_cons (d_lc (own := [("other", 6)]) rfl sc_law_price.nd (di_it (d_var 2)) (L2.blkOk_by (by rfl)) (fun _ _ _ _ _ => (dg_name 6 sc_law_price.nd)) (fun _ _ _ _ _ => dts_nil) (fun _ _ _ _ _ => (d_callB (b_max2 rfl) (by rfl) m_max (by decide +kernel) (da_cons d_int (da_cons (d_op o_sub (d_var 6) (d_var 4)) da_nil))))) da_nil)))
      (dss_cons (ds_if (PW.pt (dw_and (dt_cmp (c_eq hr) (d_var 3) d_int) (dw_and1 (dt_cmp c_gt (d_var 5) d_int)))) (dss_one (ds_ret (d_calle C_law_ratio hr h_law_ratio (by rfl) (da_cons (d_var 5) (da_cons (d_callB b_len (by rfl) m_len (by decide +kernel) (da_cons (d_var 2) da_nil)) da_nil))))) dss_nil)
      (dss_cons (ds_if (dt_cmp (c_eq hr) (d_var 3) d_int) (dss_one (ds_ret (d_calle C_law_ratio hr h_law_ratio (by rfl) (da_cons (d_op o_add d_int (d_op o_mod (d_calle C_law_size hr h_law_size (by rfl) (da_cons (d_var 0) (da_cons (d_var 1) da_nil))) (d_op o_pow d_int d_int))) (da_cons (d_op o_add d_int (d_calle C_law_take hr h_law_take (by rfl) (da_cons (d_var 0) (da_cons d_int da_nil)))) da_nil))))) dss_nil)
      (dss_one (ds_ret (d_calle C_law_ratio hr h_law_ratio (by rfl) (da_cons (d_op o_add d_int (d_calle C_law_take hr h_law_take (by rfl) (da_cons (d_var 0) (da_cons d_int da_nil)))) (da_cons (d_op o_add d_int (d_calle C_law_take hr h_law_take (by rfl) (da_cons (d_var 0) (da_cons d_int da_nil)))) da_nil))))))))))) body
abbrev s_law_bound : Stmt := topS 30
theorem sc_law_bound : L2.FnScope ["prizes", "price", "best", "total", "k", "prize", "bound"] ["prizes", "price"] (L2.defScope s_law_bound) := ⟨rfl, rfl, rfl, by decide +kernel, rfl, by decide +kernel, by decide +kernel⟩
theorem ok_law_bound {f : Addr} {fd : FuncData} {k : Nat} {sp : Spc} (F : L2.Fun K "_law_bound" "_law_bound" s_law_bound f fd) (hm : mg "_law_bound" = some (.ref f)) (m_sorted : mg "sorted" = none) (m_len : mg "len" = none) {sp_law_ratio : Spc} {k_law_ratio : Nat} (C_law_ratio : Callee P w K mg base "_law_ratio" k_law_ratio 2 sp_law_ratio) (h_law_ratio : k_law_ratio ≤ k) {sp_law_less : Spc} {k_law_less : Nat} (C_law_less : Callee P w K mg base "_law_less" k_law_less 2 sp_law_less) (h_law_less : k_law_less ≤ k) (body : Body 7 2 (w_law_bound sp_law_ratio sp_law_less) sp) : Callee P w K mg base "_law_bound" (k + 1) 2 sp :=
  callee_of F hm (F.binds (ps := ["prizes", "price"]) fun _ _ _ _ _ _ us hl => match us, hl with | [_, _], _ => rfl) sc_law_bound rfl rfl (fun cdv A outer s H E hr => by
    unfold w_law_bound
    exact (dss_cons (ds_set 2 sc_law_bound.nd d_non)
      (dss_cons (ds_set 3 sc_law_bound.nd d_int)
      (dss_cons (ds_set 4 sc_law_bound.nd d_int)
      (dss_cons (ds_for rfl PassesOwn.never (di_it (d_revL (d_callB (b_sortedA hr) (by rfl) m_sorted (by decide +kernel) (da_cons (d_var 0) da_nil)))) (dg_name 5 sc_law_bound.nd) (dss_cons (ds_set 3 sc_law_bound.nd (d_op o_add (d_var 3) (d_var 5)))
      (dss_cons (ds_set 4 sc_law_bound.nd (d_op o_add (d_var 4) d_int))
      (dss_cons (ds_set 6 sc_law_bound.nd (d_calle C_law_ratio hr h_law_ratio (by rfl) (da_cons (d_op o_sub (d_op o_mul (d_var 3) (d_ix i_ix (d_var 1) d_int)) (d_op o_mul (d_callB b_len (by rfl) m_len (by decide +kernel) (da_cons (d_var 0) da_nil)) (d_ix i_ix (d_var 1) d_int))) (da_cons (d_op o_mul (d_var 4) (d_ix i_ix (d_var 1) d_int)) da_nil))))
      (dss_one (ds_if (PW.pt (dw_or (dt_cmp c_is (d_var 2) d_non) (dw_or1 (dt_val (d_calle C_law_less hr h_law_less (by rfl) (da_cons (d_var 2) (da_cons (d_var 6) da_nil))))))) (dss_one (ds_set 2 sc_law_bound.nd (d_var 6))) dss_nil))))))
      (dss_one (ds_ret (d_var 2)))))))) body
abbrev s_law_by_bound : Stmt := topS 31
theorem sc_law_by_bound : L2.FnScope ["prizes", "price", "least", "kept", "prize", "turns"] ["prizes", "price", "least"] (L2.defScope s_law_by_bound) := ⟨rfl, rfl, rfl, by decide +kernel, rfl, by decide +kernel, by decide +kernel⟩
theorem ok_law_by_bound {f : Addr} {fd : FuncData} {k : Nat} {sp : Spc} (F : L2.Fun K "_law_by_bound" "_law_by_bound" s_law_by_bound f fd) (hm : mg "_law_by_bound" = some (.ref f)) (m_len : mg "len" = none) (m_sum : mg "sum" = none) {sp_law_ratio : Spc} {k_law_ratio : Nat} (C_law_ratio : Callee P w K mg base "_law_ratio" k_law_ratio 2 sp_law_ratio) (h_law_ratio : k_law_ratio ≤ k) {sp_law_minus : Spc} {k_law_minus : Nat} (C_law_minus : Callee P w K mg base "_law_minus" k_law_minus 2 sp_law_minus) (h_law_minus : k_law_minus ≤ k) {sp_law_times : Spc} {k_law_times : Nat} (C_law_times : Callee P w K mg base "_law_times" k_law_times 2 sp_law_times) (h_law_times : k_law_times ≤ k) (body : Body 6 3 (w_law_by_bound sp_law_ratio sp_law_minus sp_law_times) sp) : Callee P w K mg base "_law_by_bound" (k + 1) 3 sp :=
  callee_of F hm (F.binds (ps := ["prizes", "price", "least"]) fun _ _ _ _ _ _ us hl => match us, hl with | [_, _, _], _ => rfl) sc_law_by_bound rfl rfl (fun cdv A outer s H E hr => by
    unfold w_law_by_bound
    exact (dss_cons (by first | exact (ds_set 3 sc_law_by_bound.nd (d_lc (own := [("prize", 4)]) rfl sc_law_by_bound.nd (di_it (d_var 0)) (L2.blkOk_by (by rfl)) (fun _ _ _ _ _ => (dg_name 4 sc_law_by_bound.nd)) (fun _ _ _ _ _ => (dts_one (dt_cmp c_ge (d_var 4) (d_var 2)))) (fun _ _ _ _ _ => (d_var 4)))) | exact (ds_setLc 3 (own := [("prize", 4)]) rfl sc_law_by_bound.nd (di_it (d_var 0)) (L2.blkOk_by (by rfl)) (fun _ _ _ _ _ => (dg_name 4 sc_law_by_bound.nd)) (fun _ _ _ _ _ => (dts_one (dt_cmp c_ge (d_var 4) (d_var 2)))) (fun _ _ _ _ _ => (d_var 4)) (L2.sw_true rfl rfl rfl (by decide +kernel))))
      (dss_cons (ds_set 5 sc_law_by_bound.nd (d_calle C_law_ratio hr h_law_ratio (by rfl) (da_cons (d_callB b_len (by rfl) m_len (by decide +kernel) (da_cons (d_var 0) da_nil)) (da_cons (d_callB b_len (by rfl) m_len (by decide +kernel) (da_cons (d_var 3) da_nil)) da_nil))))
      (dss_one (ds_ret (d_calle C_law_minus hr h_law_minus (by rfl) (da_cons (d_calle C_law_ratio hr h_law_ratio (by rfl) (da_cons (d_callB (b_sum rfl) (by rfl) m_sum (by decide +kernel) (da_cons (d_var 3) da_nil)) (da_cons (d_callB b_len (by rfl) m_len (by decide +kernel) (da_cons (d_var 3) da_nil)) da_nil))) (da_cons (d_calle C_law_times hr h_law_times (by rfl) (da_cons (d_var 1) (da_cons (d_calle C_law_minus hr h_law_minus (by rfl) (da_cons (d_var 5) (da_cons (d_tup (da_cons d_int (da_cons d_int da_nil))) da_nil))) da_nil))) da_nil)))))))) body
abbrev s_law_worths : Stmt := topS 32
theorem sc_law_worths : L2.FnScope ["prizes", "price", "turns", "worth", "found", "k", "rest", "whole", "total", "prize"] ["prizes", "price", "turns"] (L2.defScope s_law_worths) := ⟨rfl, rfl, rfl, by decide +kernel, rfl, by decide +kernel, by decide +kernel⟩
theorem ok_law_worths {f : Addr} {fd : FuncData} {k : Nat} {sp : Spc} (F : L2.Fun K "_law_worths" "_law_worths" s_law_worths f fd) (hm : mg "_law_worths" = some (.ref f)) (m_len : mg "len" = none) (m_sum : mg "sum" = none) (m_range : mg "range" = none) (m_max : mg "max" = none) {sp_law_ratio : Spc} {k_law_ratio : Nat} (C_law_ratio : Callee P w K mg base "_law_ratio" k_law_ratio 2 sp_law_ratio) (h_law_ratio : k_law_ratio ≤ k) (body : Body 10 3 (w_law_worths sp_law_ratio) sp) : Callee P w K mg base "_law_worths" (k + 1) 3 sp :=
  callee_of F hm (F.binds (ps := ["prizes", "price", "turns"]) fun _ _ _ _ _ _ us hl => match us, hl with | [_, _, _], _ => rfl) sc_law_worths rfl rfl (fun cdv A outer s H E hr => by
    unfold w_law_worths
    exact (dss_cons (ds_set 3 sc_law_worths.nd (d_calle C_law_ratio hr h_law_ratio (by rfl) (da_cons (d_callB (b_sum rfl) (by rfl) m_sum (by decide +kernel) (da_cons (d_var 0) da_nil)) (da_cons (d_callB b_len (by rfl) m_len (by decide +kernel) (da_cons (d_var 0) da_nil)) da_nil))))
      (dss_cons (ds_set 4 sc_law_worths.nd (d_lst (da_cons (d_var 3) da_nil)))
      (dss_cons (ds_for rfl PassesOwn.never (di_r1 (by rfl) m_range (d_op o_sub (d_var 2) d_int)) (dg_name 5 sc_law_worths.nd) (dss_cons (ds_set 6 sc_law_worths.nd (d_op o_sub (d_op o_mul (d_ix i_ix (d_var 3) d_int) (d_ix i_ix (d_var 1) d_int)) (d_op o_mul (d_ix i_ix (d_var 1) d_int) (d_ix i_ix (d_var 3) d_int))))
      (dss_cons (ds_set 7 sc_law_worths.nd (d_op o_mul (d_ix i_ix (d_var 3) d_int) (d_ix i_ix (d_var 1) d_int)))
      (dss_cons (ds_set 8 sc_law_worths.nd d_int)
      (dss_cons (ds_for rfl PassesOwn.never (di_it (d_var 0)) (dg_name 9 sc_law_worths.nd) (dss_one (ds_set 8 sc_law_worths.nd (d_op o_add (d_var 8) (d_callB (b_max2 rfl) (by rfl) m_max (by decide +kernel) (da_cons (d_op o_mul (d_var 9) (d_var 7)) (da_cons (d_var 6) da_nil)))))))
      (dss_cons (ds_set 3 sc_law_worths.nd (d_calle C_law_ratio hr h_law_ratio (by rfl) (da_cons (d_var 8) (da_cons (d_op o_mul (d_var 7) (d_callB b_len (by rfl) m_len (by decide +kernel) (da_cons (d_var 0) da_nil))) da_nil))))
      (dss_one (ds_expr (d_m PySem.F.slot_list_append PySem.F.type_list_append m_append (d_var 4) (da_cons (d_var 3) da_nil))))))))))
      (dss_one (ds_ret (d_var 4))))))) body
abbrev s_law_right : Stmt := topS 33
theorem sc_law_right : L2.FnScope ["draws", "script", "prizes", "most", "price", "bound", "worth", "least", "told", "kept", "prize", "turns", "due", "ahead", "k", "now"] ["draws", "script", "prizes", "most"] (L2.defScope s_law_right) := ⟨rfl, rfl, rfl, by decide +kernel, rfl, by decide +kernel, by decide +kernel⟩
theorem ok_law_right {f : Addr} {fd : FuncData} {k : Nat} {sp : Spc} (F : L2.Fun K "_law_right" "_law_right" s_law_right f fd) (hm : mg "_law_right" = some (.ref f)) (m_len : mg "len" = none) {sp_law_price : Spc} {k_law_price : Nat} (C_law_price : Callee P w K mg base "_law_price" k_law_price 3 sp_law_price) (h_law_price : k_law_price ≤ k) {sp_law_bound : Spc} {k_law_bound : Nat} (C_law_bound : Callee P w K mg base "_law_bound" k_law_bound 2 sp_law_bound) (h_law_bound : k_law_bound ≤ k) {sp_law_plus : Spc} {k_law_plus : Nat} (C_law_plus : Callee P w K mg base "_law_plus" k_law_plus 2 sp_law_plus) (h_law_plus : k_law_plus ≤ k) {sp_worth_of_wheel : Spc} {k_worth_of_wheel : Nat} (C_worth_of_wheel : Callee P w K mg base "worth_of_wheel" k_worth_of_wheel 2 sp_worth_of_wheel) (h_worth_of_wheel : k_worth_of_wheel ≤ k) {sp_law_same : Spc} {k_law_same : Nat} (C_law_same : Callee P w K mg base "_law_same" k_law_same 2 sp_law_same) (h_law_same : k_law_same ≤ k) {sp_stops_at : Spc} {k_stops_at : Nat} (C_stops_at : Callee P w K mg base "stops_at" k_stops_at 2 sp_stops_at) (h_stops_at : k_stops_at ≤ k) {sp_law_ratio : Spc} {k_law_ratio : Nat} (C_law_ratio : Callee P w K mg base "_law_ratio" k_law_ratio 2 sp_law_ratio) (h_law_ratio : k_law_ratio ≤ k) {sp_mean_turns : Spc} {k_mean_turns : Nat} (C_mean_turns : Callee P w K mg base "mean_turns" k_mean_turns 2 sp_mean_turns) (h_mean_turns : k_mean_turns ≤ k) {sp_law_by_bound : Spc} {k_law_by_bound : Nat} (C_law_by_bound : Callee P w K mg base "_law_by_bound" k_law_by_bound 3 sp_law_by_bound) (h_law_by_bound : k_law_by_bound ≤ k) {sp_law_less : Spc} {k_law_less : Nat} (C_law_less : Callee P w K mg base "_law_less" k_law_less 2 sp_law_less) (h_law_less : k_law_less ≤ k) {sp_law_take : Spc} {k_law_take : Nat} (C_law_take : Callee P w K mg base "_law_take" k_law_take 2 sp_law_take) (h_law_take : k_law_take ≤ k) {sp_law_worths : Spc} {k_law_worths : Nat} (C_law_worths : Callee P w K mg base "_law_worths" k_law_worths 3 sp_law_worths) (h_law_worths : k_law_worths ≤ k) {sp_worth_in : Spc} {k_worth_in : Nat} (C_worth_in : Callee P w K mg base "worth_in" k_worth_in 3 sp_worth_in) (h_worth_in : k_worth_in ≤ k) (body : Body 16 4 (w_law_right sp_law_price sp_law_bound sp_law_plus sp_worth_of_wheel sp_law_same sp_stops_at sp_law_ratio sp_mean_turns sp_law_by_bound sp_law_less sp_law_take sp_law_worths sp_worth_in) sp) : Callee P w K mg base "_law_right" (k + 1) 4 sp :=
  callee_of F hm (F.binds (ps := ["draws", "script", "prizes", "most"]) fun _ _ _ _ _ _ us hl => match us, hl with | [_, _, _, _], _ => rfl) sc_law_right rfl rfl (fun cdv A outer s H E hr => by
    unfold w_law_right
    exact (dss_cons (ds_set 4 sc_law_right.nd (d_calle C_law_price hr h_law_price (by rfl) (da_cons (d_var 0) (da_cons (d_var 1) (da_cons (d_var 2) da_nil)))))
      (dss_cons (ds_set 5 sc_law_right.nd (d_calle C_law_bound hr h_law_bound (by rfl) (da_cons (d_var 2) (da_cons (d_var 4) da_nil))))
      (dss_cons (ds_set 6 sc_law_right.nd (d_calle C_law_plus hr h_law_plus (by rfl) (da_cons (d_var 5) (da_cons (d_var 4) da_nil))))
      (dss_cons (ds_set 7 sc_law_right.nd (d_un u_neg (d_op o_div (d_un u_neg (d_ix i_ix (d_var 5) d_int)) (d_ix i_ix (d_var 5) d_int))))
      (dss_cons (ds_set 8 sc_law_right.nd (d_calle C_worth_of_wheel hr h_worth_of_wheel (by rfl) (da_cons (d_var 2) (da_cons (d_var 4) da_nil))))
      (dss_cons (ds_if (PW.pt (dw_or (dt_not (dt_val (d_calle C_law_same hr h_law_same (by rfl) (da_cons (d_var 8) (da_cons (d_var 6) da_nil))))) (dw_or1 (dt_not (dt_val (d_calle C_law_same hr h_law_same (by rfl) (da_cons (d_calle C_stops_at hr h_stops_at (by rfl) (da_cons (d_var 2) (da_cons (d_var 4) da_nil))) (da_cons (d_var 7) da_nil)))))))) (dss_one (ds_ret d_bl)) dss_nil)
      (dss_cons (ds_set 9 sc_law_right.nd (d_callB b_len (by rfl) m_len (by decide +kernel) (da_cons (d_lc (own := [("prize", 10)]) rfl sc_law_right.nd (di_it (d_var 2)) (L2.blkOk_by (by rfl)) (fun _ _ _ _ _ => (dg_name 10 sc_law_right.nd)) (fun _ _ _ _ _ => (dts_one (dt_cmp c_ge (d_var 10) (d_var 7)))) (fun _ _ _ _ _ => (d_var 10))) da_nil)))
      (dss_cons (ds_if (dt_not (dt_val (d_calle C_law_same hr h_law_same (by rfl) (da_cons (d_calle C_mean_turns hr h_mean_turns (by rfl) (da_cons (d_var 2) (da_cons (d_var 4) da_nil))) (da_cons (d_calle C_law_ratio hr h_law_ratio (by rfl) (da_cons (d_callB b_len (by rfl) m_len (by decide +kernel) (da_cons (d_var 2) da_nil)) (da_cons (d_var 9) da_nil))) da_nil))))) (dss_one (ds_ret d_bl)) dss_nil)
      (dss_cons (ds_for rfl PassesOwn.never (di_it (d_var 2)) (dg_name 10 sc_law_right.nd) (dss_one (ds_if (dt_val (d_calle C_law_less hr h_law_less (by rfl) (da_cons (d_var 8) (da_cons (d_calle C_law_by_bound hr h_law_by_bound (by rfl) (da_cons (d_var 2) (da_cons (d_var 4) (da_cons (d_var 10) da_nil)))) da_nil)))) (dss_one (ds_ret d_bl)) dss_nil)))
      (dss_cons (ds_if (dt_cmp (c_ne hr) (d_calle C_law_by_bound hr h_law_by_bound (by rfl) (da_cons (d_var 2) (da_cons (d_var 4) (da_cons (d_calle C_stops_at hr h_stops_at (by rfl) (da_cons (d_var 2) (da_cons (d_var 4) da_nil))) da_nil)))) (d_var 8)) (dss_one (ds_ret d_bl)) dss_nil)
      (dss_cons (ds_set 11 sc_law_right.nd (d_op o_add d_int (d_calle C_law_take hr h_law_take (by rfl) (da_cons (d_var 0) (da_cons (d_var 3) da_nil)))))
      (dss_cons (ds_set 12 sc_law_right.nd (d_calle C_law_worths hr h_law_worths (by rfl) (da_cons (d_var 2) (da_cons (d_var 4) (da_cons (d_var 11) da_nil)))))
      (dss_cons (ds_set 13 sc_law_right.nd d_non)
      (dss_cons (ds_for rfl PassesOwn.never (di_it (d_lst (da_cons d_int (da_cons d_int (da_cons d_int (da_cons (d_op o_sub (d_var 11) d_int) (da_cons (d_var 11) da_nil))))))) (dg_name 14 sc_law_right.nd) (dss_one (ds_if (dt_chain c_le c_le d_int (d_var 14) (d_var 11)) (dss_cons (ds_set 15 sc_law_right.nd (d_calle C_worth_in hr h_worth_in (by rfl) (da_cons (d_var 2) (da_cons (d_var 4) (da_cons (d_var 14) da_nil)))))
      (dss_cons (ds_if (PW.pt (dw_or (dt_not (dt_val (d_calle C_law_same hr h_law_same (by rfl) (da_cons (d_var 15) (da_cons (d_ix i_ix (d_var 12) (d_op o_sub (d_var 14) d_int)) da_nil))))) (dw_or (dt_val (d_calle C_law_less hr h_law_less (by rfl) (da_cons (d_var 8) (da_cons (d_var 15) da_nil)))) (dw_or1 (PW.pt (dw_and (dt_cmp c_isnot (d_var 13) d_non) (dw_and1 (dt_val (d_calle C_law_less hr h_law_less (by rfl) (da_cons (d_var 15) (da_cons (d_var 13) da_nil))))))))))) (dss_one (ds_ret d_bl)) dss_nil)
      (dss_one (ds_if (dt_cmp c_lt (d_var 14) (d_op o_sub (d_var 11) d_int)) (dss_one (ds_set 13 sc_law_right.nd (d_var 15))) dss_nil)))) dss_nil)))
      (dss_one (ds_ret d_bl))))))))))))))))) body
abbrev s_law : Stmt := topS 34
theorem sc_law : L2.FnScope ["script", "draws", "many", "most", "large", "prizes", "price"] ["script"] (L2.defScope s_law) := ⟨rfl, rfl, rfl, by decide +kernel, rfl, by decide +kernel, by decide +kernel⟩
theorem ok_law {f : Addr} {fd : FuncData} {k : Nat} {sp : Spc} (F : L2.Fun K "law" "law" s_law f fd) (hm : mg "law" = some (.ref f)) {sp_law_draws : Spc} {k_law_draws : Nat} (C_law_draws : Callee P w K mg base "_law_draws" k_law_draws 2 sp_law_draws) (h_law_draws : k_law_draws ≤ k) {sp_law_take : Spc} {k_law_take : Nat} (C_law_take : Callee P w K mg base "_law_take" k_law_take 2 sp_law_take) (h_law_take : k_law_take ≤ k) {sp_law_prizes : Spc} {k_law_prizes : Nat} (C_law_prizes : Callee P w K mg base "_law_prizes" k_law_prizes 3 sp_law_prizes) (h_law_prizes : k_law_prizes ≤ k) {sp_law_right : Spc} {k_law_right : Nat} (C_law_right : Callee P w K mg base "_law_right" k_law_right 4 sp_law_right) (h_law_right : k_law_right ≤ k) {sp_law_bound : Spc} {k_law_bound : Nat} (C_law_bound : Callee P w K mg base "_law_bound" k_law_bound 2 sp_law_bound) (h_law_bound : k_law_bound ≤ k) {sp_law_plus : Spc} {k_law_plus : Nat} (C_law_plus : Callee P w K mg base "_law_plus" k_law_plus 2 sp_law_plus) (h_law_plus : k_law_plus ≤ k) {sp_worth_of_wheel : Spc} {k_worth_of_wheel : Nat} (C_worth_of_wheel : Callee P w K mg base "worth_of_wheel" k_worth_of_wheel 2 sp_worth_of_wheel) (h_worth_of_wheel : k_worth_of_wheel ≤ k) {sp_law_same : Spc} {k_law_same : Nat} (C_law_same : Callee P w K mg base "_law_same" k_law_same 2 sp_law_same) (h_law_same : k_law_same ≤ k) (body : Body 7 1 (w_law sp_law_draws sp_law_take sp_law_prizes sp_law_right sp_law_bound sp_law_plus sp_worth_of_wheel sp_law_same) sp) : L2.FnOk P w K mg base L2.CX0 (k + 1) f fd ["script"] (spOf K 1 sp) :=
  fn_body F sc_law rfl rfl (fun cdv A outer s H E hr => by
    unfold w_law
    exact (dss_cons (ds_set 1 sc_law.nd (d_calle C_law_draws hr h_law_draws (by rfl) (da_cons (d_var 0) (da_cons d_int da_nil))))
      (dss_cons (ds_set 2 sc_law.nd (d_op o_add d_int (d_calle C_law_take hr h_law_take (by rfl) (da_cons (d_var 1) (da_cons d_int da_nil)))))
      (dss_cons (ds_set 3 sc_law.nd d_int)
      (dss_cons (ds_set 4 sc_law.nd (d_calle C_law_take hr h_law_take (by rfl) (da_cons (d_var 1) (da_cons d_int da_nil))))
      (dss_cons (ds_if (dt_cmp (c_eq hr) (d_var 4) d_int) (dss_one (ds_set 2 sc_law.nd (d_op o_add d_int (d_calle C_law_take hr h_law_take (by rfl) (da_cons (d_var 1) (da_cons d_int da_nil)))))) dss_nil)
      (dss_cons (ds_if (dt_cmp (c_eq hr) (d_var 4) d_int) (dss_cons (ds_set 2 sc_law.nd (d_op o_add d_int (d_calle C_law_take hr h_law_take (by rfl) (da_cons (d_var 1) (da_cons d_int da_nil)))))
      (dss_one (ds_set 3 sc_law.nd d_int))) dss_nil)
      (dss_cons (ds_set 5 sc_law.nd (d_calle C_law_prizes hr h_law_prizes (by rfl) (da_cons (d_var 1) (da_cons (d_var 0) (da_cons (d_var 2) da_nil)))))
      (dss_cons (ds_if (dt_not (dt_val (d_calle C_law_right hr h_law_right (by rfl) (da_cons (d_var 1) (da_cons (d_var 0) (da_cons (d_var 5) (da_cons (d_var 3) da_nil))))))) (dss_one (ds_ret d_bl)) dss_nil)
      (dss_cons (ds_if (dt_not (dt_val (d_calle C_law_right hr h_law_right (by rfl) (da_cons (d_var 1) (da_cons (d_var 0) (da_cons (d_calle C_law_prizes hr h_law_prizes (by rfl) (da_cons (d_var 1) (da_cons (d_var 0) (da_cons (d_op o_add d_int (d_calle C_law_take hr h_law_take (by rfl) (da_cons (d_var 1) (da_cons d_int da_nil)))) da_nil)))) (da_cons d_int da_nil))))))) (dss_one (ds_ret d_bl)) dss_nil)
      (dss_cons (ds_set 6 sc_law.nd (d_tup (da_cons (d_op o_add d_int (d_calle C_law_take hr h_law_take (by rfl) (da_cons (d_var 1) (da_cons d_int da_nil)))) (da_cons d_int da_nil))))
      (dss_one (ds_ret (d_calle C_law_same hr h_law_same (by rfl) (da_cons (d_calle C_worth_of_wheel hr h_worth_of_wheel (by rfl) (da_cons (d_var 5) (da_cons (d_var 6) da_nil))) (da_cons (d_calle C_law_plus hr h_law_plus (by rfl) (da_cons (d_calle C_law_bound hr h_law_bound (by rfl) (da_cons (d_var 5) (da_cons (d_var 6) da_nil))) (da_cons (d_var 6) da_nil))) da_nil)))))))))))))))) body
end
end K93
set_option linter.all false
set_option maxHeartbeats 4000000
/-! K93A: wheels in plain numbers -/
namespace K93
open DL
def mxQ (a b : Rat) : Rat := if a < b then b else a
theorem mxQ_l (a b : Rat) : a ≤ mxQ a b := by unfold mxQ; split <;> grind
theorem mxQ_r (a b : Rat) : b ≤ mxQ a b := by unfold mxQ; split <;> grind
theorem mxQ_le {a b c : Rat} (h1 : a ≤ c) (h2 : b ≤ c) : mxQ a b ≤ c := by unfold mxQ; split <;> grind
theorem mxQ_of_le {a b : Rat} (h : a ≤ b) : mxQ a b = b := by unfold mxQ; split <;> grind
theorem mxQ_of_ge {a b : Rat} (h : b ≤ a) : mxQ a b = a := by unfold mxQ; split <;> grind
/-- the sum of the greater of each and r -/
def sQ : List Int → Rat → Rat
  | [], _ => 0
  | x :: l, r => mxQ (x : Rat) r + sQ l r
theorem sQ_app (a b : List Int) (r : Rat) : sQ (a ++ b) r = sQ a r + sQ b r := by
  induction a with
  | nil => show sQ b r = 0 + sQ b r; grind
  | cons x a ih => show mxQ x r + sQ (a ++ b) r = mxQ x r + sQ a r + sQ b r; rw [ih]; grind
theorem sQ_perm {a b : List Int} (h : a.Perm b) (r : Rat) : sQ a r = sQ b r := by
  induction h with
  | nil => rfl
  | cons x _ ih => show mxQ x r + _ = mxQ x r + _; rw [ih]
  | swap x y l => show mxQ y r + (mxQ x r + sQ l r) = mxQ x r + (mxQ y r + sQ l r); grind
  | trans _ _ ih1 ih2 => rw [ih1, ih2]
theorem sQ_mono {r r' : Rat} (h : r ≤ r') : ∀ l : List Int, sQ l r ≤ sQ l r'
  | [] => by show (0 : Rat) ≤ 0; grind
  | x :: l => by
    have := sQ_mono h l
    have : mxQ x r ≤ mxQ x r' := mxQ_le (mxQ_l _ _) (by have := mxQ_r (x : Rat) r'; grind)
    show mxQ x r + sQ l r ≤ mxQ x r' + sQ l r'
    grind
theorem sum_cons (x : Int) (l : List Int) : (((x :: l).sum : Int) : Rat) = (x : Rat) + ((l.sum : Int) : Rat) := by rw [List.sum_cons, Rat.intCast_add]
theorem sQ_sum (r : Rat) : ∀ l : List Int, ((l.sum : Int) : Rat) ≤ sQ l r
  | [] => by show (0 : Rat) ≤ 0; grind
  | x :: l => by
    have := sQ_sum r l
    have := mxQ_l (x : Rat) r
    rw [sum_cons]
    show _ ≤ mxQ x r + sQ l r
    grind
theorem len_cons (x : Int) (l : List Int) : (((x :: l).length : Nat) : Rat) = (l.length : Rat) + 1 := by rw [List.length_cons, Rat.natCast_add]; rfl
theorem sQ_len (r : Rat) : ∀ l : List Int, (l.length : Rat) * r ≤ sQ l r
  | [] => by show ((0 : Nat) : Rat) * r ≤ 0; rw [show ((0 : Nat) : Rat) = 0 from rfl]; grind
  | x :: l => by
    have := sQ_len r l
    have := mxQ_r (x : Rat) r
    rw [len_cons]
    show _ ≤ mxQ x r + sQ l r
    grind
theorem sQ_hi {r : Rat} : ∀ l : List Int, (∀ x ∈ l, r ≤ (x : Rat)) → sQ l r = ((l.sum : Int) : Rat)
  | [], _ => rfl
  | x :: l, h => by
    rw [sum_cons, ← sQ_hi l fun y hy => h y (List.mem_cons_of_mem _ hy)]
    show mxQ x r + sQ l r = _
    rw [mxQ_of_ge (h x List.mem_cons_self)]
theorem sQ_lo {r : Rat} : ∀ l : List Int, (∀ x ∈ l, (x : Rat) ≤ r) → sQ l r = (l.length : Rat) * r
  | [], _ => by show (0 : Rat) = ((0 : Nat) : Rat) * r; rw [show ((0 : Nat) : Rat) = 0 from rfl]; grind
  | x :: l, h => by
    rw [len_cons]
    show mxQ x r + sQ l r = _
    rw [sQ_lo l fun y hy => h y (List.mem_cons_of_mem _ hy), mxQ_of_le (h x List.mem_cons_self)]
    grind
/-- by those that are kept -/
theorem sQ_kept (r : Rat) (p : Int → Bool) : ∀ l : List Int, (((l.filter p).sum : Int) : Rat) + ((l.length : Rat) - ((l.filter p).length : Rat)) * r ≤ sQ l r
  | [] => by show ((0 : Int) : Rat) + (((0 : Nat) : Rat) - ((0 : Nat) : Rat)) * r ≤ 0; rw [show ((0 : Nat) : Rat) = 0 from rfl, show ((0 : Int) : Rat) = 0 from rfl]; grind
  | x :: l => by
    have ih := sQ_kept r p l
    have h1 := mxQ_l (x : Rat) r
    have h2 := mxQ_r (x : Rat) r
    rw [len_cons]
    show _ ≤ mxQ x r + sQ l r
    cases e : p x with
    | true => rw [List.filter_cons_of_pos e, sum_cons, len_cons]; grind
    | false => rw [List.filter_cons_of_neg (by rw [e]; decide)]; grind
theorem sQ_kept_eq {r : Rat} {p : Int → Bool} : ∀ l : List Int, (∀ x ∈ l, p x = true → r ≤ (x : Rat)) → (∀ x ∈ l, p x = false → (x : Rat) ≤ r) → (((l.filter p).sum : Int) : Rat) + ((l.length : Rat) - ((l.filter p).length : Rat)) * r = sQ l r
  | [], _, _ => by show ((0 : Int) : Rat) + (((0 : Nat) : Rat) - ((0 : Nat) : Rat)) * r = 0; rw [show ((0 : Nat) : Rat) = 0 from rfl, show ((0 : Int) : Rat) = 0 from rfl]; grind
  | x :: l, h1, h2 => by
    have ih := sQ_kept_eq (r := r) (p := p) l (fun y hy => h1 y (List.mem_cons_of_mem _ hy)) fun y hy => h2 y (List.mem_cons_of_mem _ hy)
    rw [len_cons]
    show _ = mxQ x r + sQ l r
    cases e : p x with
    | true => rw [List.filter_cons_of_pos e, sum_cons, len_cons, mxQ_of_ge (h1 x List.mem_cons_self e)]; grind
    | false => rw [List.filter_cons_of_neg (by rw [e]; decide), mxQ_of_le (h2 x List.mem_cons_self e)]; grind
/-- the bound: what is above it is in the mean the price -/
def IsB (xs : List Int) (p B : Rat) : Prop := sQ xs B = (xs.length : Rat) * (B + p)
theorem grow {r r' : Rat} (h : r < r') : ∀ l : List Int, sQ l r' < sQ l r + (l.length : Rat) * (r' - r) ∨ (sQ l r' = sQ l r + (l.length : Rat) * (r' - r) ∧ sQ l r = (l.length : Rat) * r)
  | [] => by
    right
    show (0 : Rat) = 0 + ((0 : Nat) : Rat) * (r' - r) ∧ (0 : Rat) = ((0 : Nat) : Rat) * r
    rw [show ((0 : Nat) : Rat) = 0 from rfl]
    grind
  | x :: l => by
    rw [len_cons]
    show mxQ x r' + sQ l r' < mxQ x r + sQ l r + _ ∨ (mxQ x r' + sQ l r' = mxQ x r + sQ l r + _ ∧ mxQ x r + sQ l r = _)
    have ih := grow h l
    have hx : mxQ (x : Rat) r' < mxQ x r + (r' - r) ∨ (mxQ (x : Rat) r' = mxQ x r + (r' - r) ∧ mxQ (x : Rat) r = r) := by
      unfold mxQ
      split <;> split <;> grind
    grind
theorem IsB.one {xs : List Int} {p B B' : Rat} (hn : 0 < xs.length) (hp : 0 < p) (h : IsB xs p B) (h' : IsB xs p B') : B = B' := by
  have key : ∀ {B B' : Rat}, IsB xs p B → IsB xs p B' → ¬ B < B' := by
    intro B B' h h' hlt
    unfold IsB at h h'
    have hn' : (0 : Rat) < (xs.length : Rat) := by exact_mod_cast hn
    have hnp : 0 < (xs.length : Rat) * p := Rat.mul_pos hn' hp
    rcases grow hlt xs with g | ⟨g1, g2⟩
    · grind
    · grind
  have h1 := key h h'
  have h2 := key h' h
  grind
theorem nn {n : Nat} : (0 : Rat) ≤ (n : Rat) := by exact_mod_cast Nat.zero_le n
/-- by the first k of them -/
def bd (ys : List Int) (p : Rat) (k : Nat) : Rat := ((((ys.take k).sum : Int) : Rat) - (ys.length : Rat) * p) / (k : Rat)
theorem bd_mul {ys : List Int} {p : Rat} {k : Nat} (hk : 0 < k) : bd ys p k * (k : Rat) = ((((ys.take k).sum : Int) : Rat) - (ys.length : Rat) * p) := by
  unfold bd
  exact Rat.div_mul_cancel (by intro e; have : k = 0 := by exact_mod_cast e
                               omega)
theorem take_split (ys : List Int) (k : Nat) (r : Rat) : sQ ys r = sQ (ys.take k) r + sQ (ys.drop k) r := by rw [← sQ_app, List.take_append_drop]
theorem le_of_mul {a b c : Rat} (hc : 0 < c) (h : a * c ≤ b * c) : a ≤ b := by
  false_or_by_contra
  rename_i hn
  have := Rat.mul_lt_mul_of_pos_right (show b < a by grind) hc
  grind
theorem IsB.ge {ys : List Int} {p B : Rat} (h : IsB ys p B) {k : Nat} (hk : 0 < k) (hk2 : k ≤ ys.length) : bd ys p k ≤ B := by
  have hk' : (0 : Rat) < (k : Rat) := by exact_mod_cast hk
  refine le_of_mul hk' ?_
  rw [bd_mul hk]
  unfold IsB at h
  rw [take_split ys k] at h
  have h1 := sQ_sum B (ys.take k)
  have h2 := sQ_len B (ys.drop k)
  rw [List.length_drop] at h2
  have h3 : ((ys.length - k : Nat) : Rat) = (ys.length : Rat) - (k : Rat) := by
    have : ((ys.length - k + k : Nat) : Rat) = (ys.length : Rat) := by rw [Nat.sub_add_cancel hk2]
    rw [Rat.natCast_add] at this
    grind
  rw [h3] at h2
  grind
theorem IsB.of {ys : List Int} {p : Rat} {k : Nat} (hk : 0 < k) (hk2 : k ≤ ys.length) (h1 : ∀ x ∈ ys.take k, bd ys p k ≤ (x : Rat)) (h2 : ∀ x ∈ ys.drop k, (x : Rat) ≤ bd ys p k) : IsB ys p (bd ys p k) := by
  unfold IsB
  have e := bd_mul (ys := ys) (p := p) hk
  rw [take_split ys k, sQ_hi _ h1, sQ_lo _ h2, List.length_drop]
  have h3 : ((ys.length - k : Nat) : Rat) = (ys.length : Rat) - (k : Rat) := by
    have : ((ys.length - k + k : Nat) : Rat) = (ys.length : Rat) := by rw [Nat.sub_add_cancel hk2]
    rw [Rat.natCast_add] at this
    grind
  rw [h3]
  grind
theorem IsB.perm {xs ys : List Int} {p B : Rat} (h : ys.Perm xs) (hB : IsB ys p B) : IsB xs p B := by
  unfold IsB at hB ⊢
  rw [← sQ_perm h, ← h.length_eq]
  exact hB
theorem take_sum {ys : List Int} {k : Nat} {x : Int} (h : ys[k]? = some x) : (ys.take (k + 1)).sum = (ys.take k).sum + x := by
  rw [List.take_add_one, h]
  simp
/-- the mean with one turn more -/
theorem bd_next {ys : List Int} {p : Rat} {k : Nat} {x : Int} (hk : 0 < k) (hx : ys[k]? = some x) (h : bd ys p k < (x : Rat)) : bd ys p (k + 1) < (x : Rat) := by
  have hk1 : (0 : Rat) < ((k + 1 : Nat) : Rat) := by exact_mod_cast Nat.succ_pos k
  have e1 := bd_mul (ys := ys) (p := p) hk
  have e2 := bd_mul (ys := ys) (p := p) (Nat.succ_pos k)
  rw [take_sum hx, Rat.intCast_add] at e2
  have hk' : (0 : Rat) < (k : Rat) := by exact_mod_cast hk
  have h2 := (Rat.mul_lt_mul_right hk').mpr h
  have h3 : ((k + 1 : Nat) : Rat) = (k : Rat) + 1 := by rw [Rat.natCast_add]; rfl
  have : bd ys p (k + 1) * ((k + 1 : Nat) : Rat) < (x : Rat) * ((k + 1 : Nat) : Rat) := by
    rw [e2, h3]
    grind
  exact (Rat.mul_lt_mul_right hk1).mp this
theorem bd_one {ys : List Int} {p : Rat} {x : Int} (hp : 0 < p) (hx : ys[0]? = some x) : bd ys p 1 < (x : Rat) := by
  have e := bd_mul (ys := ys) (p := p) (k := 1) (by decide)
  rw [take_sum hx, List.take_zero, List.sum_nil, Int.zero_add] at e
  have hl : 0 < ys.length := (List.getElem?_eq_some_iff.mp hx).1
  have hn' : (0 : Rat) < (ys.length : Rat) := by exact_mod_cast hl
  have hnp : 0 < (ys.length : Rat) * p := Rat.mul_pos hn' hp
  rw [show ((1 : Nat) : Rat) = 1 from rfl] at e
  grind
/-! with so many turns -/
def Wk (xs : List Int) (p : Rat) : Nat → Rat
  | 0 => ((xs.sum : Int) : Rat) / (xs.length : Rat)
  | k + 1 => sQ xs (Wk xs p k - p) / (xs.length : Rat)
theorem div_mono {a b c : Rat} (hc : 0 < c) (h : a ≤ b) : a / c ≤ b / c := by
  rw [Rat.div_def, Rat.div_def]
  exact Rat.mul_le_mul_of_nonneg_right h (by have := Rat.inv_pos.mpr hc; grind)
theorem Wk_up {xs : List Int} (p : Rat) (hn : 0 < xs.length) : ∀ k, Wk xs p k ≤ Wk xs p (k + 1)
  | 0 => div_mono (by exact_mod_cast hn) (sQ_sum _ _)
  | k + 1 => div_mono (by exact_mod_cast hn) (sQ_mono (by have := Wk_up p hn k; grind) _)
theorem Wk_mono {xs : List Int} (p : Rat) (hn : 0 < xs.length) {j k : Nat} (h : j ≤ k) : Wk xs p j ≤ Wk xs p k := by
  induction h with
  | refl => grind
  | @step m _ ih => have := Wk_up p hn m; grind
theorem fix {xs : List Int} {p B : Rat} (hn : 0 < xs.length) (h : IsB xs p B) : sQ xs B / (xs.length : Rat) = B + p := by
  rw [h]
  have hn' : (xs.length : Rat) ≠ 0 := by intro e; have : xs.length = 0 := by exact_mod_cast e
                                         omega
  grind
theorem Wk_le {xs : List Int} {p B : Rat} (hn : 0 < xs.length) (h : IsB xs p B) : ∀ k, Wk xs p k ≤ B + p
  | 0 => by
    rw [← fix hn h]
    exact div_mono (by exact_mod_cast hn) (sQ_sum _ _)
  | k + 1 => by
    rw [← fix hn h]
    exact div_mono (by exact_mod_cast hn) (sQ_mono (by have := Wk_le hn h k; grind) _)
/-! keeping from one on -/
def byB (xs : List Int) (p : Rat) (least : Int) : Rat := (((xs.filter fun x => decide (least ≤ x)).sum : Int) : Rat) / ((xs.filter fun x => decide (least ≤ x)).length : Rat) - p * ((xs.length : Rat) / ((xs.filter fun x => decide (least ≤ x)).length : Rat) - 1)
theorem byB_le {xs : List Int} {p B : Rat} {least : Int} (h : IsB xs p B) (hk : 0 < (xs.filter fun x => decide (least ≤ x)).length) : byB xs p least ≤ B + p := by
  have h1 := sQ_kept B (fun x => decide (least ≤ x)) xs
  unfold IsB at h
  rw [h] at h1
  unfold byB
  generalize (xs.filter fun x => decide (least ≤ x)).sum = s at *
  generalize (xs.filter fun x => decide (least ≤ x)).length = m at *
  have hm : (0 : Rat) < (m : Rat) := by exact_mod_cast hk
  have hm0 : (m : Rat) ≠ 0 := by grind
  refine le_of_mul hm ?_
  have e1 : ((s : Rat) / (m : Rat) - p * ((xs.length : Rat) / (m : Rat) - 1)) * (m : Rat) = (s : Rat) - p * (xs.length : Rat) + p * (m : Rat) := by grind
  rw [e1]
  grind
theorem byB_eq {xs : List Int} {p B : Rat} {least : Int} (h : IsB xs p B) (hk : 0 < (xs.filter fun x => decide (least ≤ x)).length) (hl : ∀ x : Int, least ≤ x ↔ B ≤ (x : Rat)) : byB xs p least = B + p := by
  have h1 := sQ_kept_eq (r := B) (p := fun x => decide (least ≤ x)) xs (fun x _ hx => (hl x).mp (of_decide_eq_true hx)) (fun x _ hx => by
    have := of_decide_eq_false hx
    rw [hl] at this
    grind)
  unfold IsB at h
  rw [h] at h1
  unfold byB
  generalize (xs.filter fun x => decide (least ≤ x)).sum = s at *
  generalize (xs.filter fun x => decide (least ≤ x)).length = m at *
  have hm : (0 : Rat) < (m : Rat) := by exact_mod_cast hk
  have hm0 : (m : Rat) ≠ 0 := by grind
  have e1 : ((s : Rat) / (m : Rat) - p * ((xs.length : Rat) / (m : Rat) - 1)) * (m : Rat) = (B + p) * (m : Rat) := by grind
  have a := le_of_mul hm (show _ ≤ _ by rw [e1]; grind : ((s : Rat) / (m : Rat) - p * ((xs.length : Rat) / (m : Rat) - 1)) * (m : Rat) ≤ (B + p) * (m : Rat))
  have b := le_of_mul hm (show _ ≤ _ by rw [e1]; grind : (B + p) * (m : Rat) ≤ ((s : Rat) / (m : Rat) - p * ((xs.length : Rat) / (m : Rat) - 1)) * (m : Rat))
  grind
/-- some prize is above -/
theorem IsB.some {xs : List Int} {p B : Rat} (hn : 0 < xs.length) (hp : 0 < p) (h : IsB xs p B) : ∃ x ∈ xs, B < (x : Rat) := by
  false_or_by_contra
  rename_i hc
  have : ∀ x ∈ xs, (x : Rat) ≤ B := fun x hx => by
    false_or_by_contra
    rename_i h2
    exact hc ⟨x, hx, by grind⟩
  have e := sQ_lo xs this
  unfold IsB at h
  have hn' : (0 : Rat) < (xs.length : Rat) := by exact_mod_cast hn
  have hnp : 0 < (xs.length : Rat) * p := Rat.mul_pos hn' hp
  grind
end K93
set_option linter.all false
set_option maxRecDepth 100000
set_option maxHeartbeats 4000000
namespace K93
open DL
@[reducible] def sp_take : Spc := fun ds S Q => ∃ n many, ds = [.ref n, .int many] ∧ 0 < many ∧ Dr n S ∧ ∀ r S', 0 ≤ r → r < many → Dr n S' → Ch n S S' → Q (.int r) S'
theorem body_law_take : Body 2 2 w_law_take sp_take := by
  rintro ds S Q _ ⟨n, many, rfl, hm, ⟨ns, hS⟩, k⟩
  unfold w_law_take
  (simp only [start, List.map_cons, List.map_nil, List.length_cons, List.length_nil, Nat.reduceAdd, Nat.reduceSub, List.replicate_succ, List.replicate_zero, List.cons_append, List.nil_append, Nat.sub_self, Nat.zero_add])
  ((with_reducible conv => whnf); repeat (first | (refine And.intro (okII _ _) ?_; rw [eqD_ii]; with_reducible conv => whnf) | (refine And.intro (by first | assumption | exact Exists.intro _ (by assumption) | exact ⟨rfl, rfl, by decide, by decide⟩ | exact Nat.le_of_ble_eq_true rfl | exact rfl) ?_; with_reducible conv => whnf) | (rw [isLst_at (by assumption)]; with_reducible conv => whnf) | (refine ifT rfl ?_; with_reducible conv => whnf) | (refine ifF rfl ?_; with_reducible conv => whnf) | (refine it_at (by assumption) ?_; with_reducible conv => whnf)))
  refine ite_d (fun hc => k 0 S (Int.le_refl _) hm ⟨ns, hS⟩ (Ch.refl _ _)) fun hc => ?_
  ((with_reducible conv => whnf); repeat (first | (refine And.intro (okII _ _) ?_; rw [eqD_ii]; with_reducible conv => whnf) | (refine And.intro (by first | assumption | exact Exists.intro _ (by assumption) | exact ⟨rfl, rfl, by decide, by decide⟩ | exact Nat.le_of_ble_eq_true rfl | exact rfl) ?_; with_reducible conv => whnf) | (rw [isLst_at (by assumption)]; with_reducible conv => whnf) | (refine ifT rfl ?_; with_reducible conv => whnf) | (refine ifF rfl ?_; with_reducible conv => whnf) | (refine it_at (by assumption) ?_; with_reducible conv => whnf)))
  have hl : 0 < ns.length := by
    rw [List.length_map] at hc
    omega
  refine ⟨.int ns[ns.length - 1], ?_, ?_⟩
  · rw [List.length_map]
    exact intD_at (List.getElem?_eq_getElem (by omega))
  · ((with_reducible conv => whnf); repeat (first | (refine And.intro (okII _ _) ?_; rw [eqD_ii]; with_reducible conv => whnf) | (refine And.intro (by first | assumption | exact Exists.intro _ (by assumption) | exact ⟨rfl, rfl, by decide, by decide⟩ | exact Nat.le_of_ble_eq_true rfl | exact rfl) ?_; with_reducible conv => whnf) | (rw [isLst_at (by assumption)]; with_reducible conv => whnf) | (refine ifT rfl ?_; with_reducible conv => whnf) | (refine ifF rfl ?_; with_reducible conv => whnf) | (refine it_at (by assumption) ?_; with_reducible conv => whnf)))
    obtain ⟨h0, h1⟩ := fmod_lt (a := ns[ns.length - 1]) hm
    refine ⟨by omega, k _ _ h0 h1 ⟨ns.dropLast, ?_⟩ (Ch.set _ _)⟩
    rw [at_set hS, ← List.map_dropLast]
@[reducible] def sp_draws : Spc := fun ds S Q => ∃ ns many, ds = [.rol (intD ns), .int many] ∧ ns.length ≤ 63 ∧ 0 ≤ many ∧ many ≤ 1000 ∧ ∀ n S', Dr n S' → Sub S S' → S.length ≤ n → Q (.ref n) S'
theorem body_law_draws : Body 9 2 w_law_draws sp_draws := by
  rintro ds S Q _ ⟨ns, many, rfl, hl, hm, hm2, k⟩
  unfold w_law_draws
  (simp only [start, List.map_cons, List.map_nil, List.length_cons, List.length_nil, Nat.reduceAdd, Nat.reduceSub, List.replicate_succ, List.replicate_zero, List.cons_append, List.nil_append, Nat.sub_self, Nat.zero_add])
  ((with_reducible conv => whnf); repeat (first | (refine And.intro (okII _ _) ?_; rw [eqD_ii]; with_reducible conv => whnf) | (refine And.intro (by first | assumption | exact Exists.intro _ (by assumption) | exact ⟨rfl, rfl, by decide, by decide⟩ | exact Nat.le_of_ble_eq_true rfl | exact rfl) ?_; with_reducible conv => whnf) | (rw [isLst_at (by assumption)]; with_reducible conv => whnf) | (refine ifT rfl ?_; with_reducible conv => whnf) | (refine ifF rfl ?_; with_reducible conv => whnf) | (refine it_at (by assumption) ?_; with_reducible conv => whnf)))
  refine Lc_fun (fun d => some d) ?_ (fun _ _ => trivial) (fun i d S' R hi hs hR => ?_) fun S1 hs1 => ?_
  · rw [List.length_map]; unfold szL; omega
  · obtain ⟨x, _, rfl⟩ := intD_get hi
    ((with_reducible conv => whnf); repeat (first | (refine And.intro (okII _ _) ?_; rw [eqD_ii]; with_reducible conv => whnf) | (refine And.intro (by first | assumption | exact Exists.intro _ (by assumption) | exact ⟨rfl, rfl, by decide, by decide⟩ | exact Nat.le_of_ble_eq_true rfl | exact rfl) ?_; with_reducible conv => whnf) | (rw [isLst_at (by assumption)]; with_reducible conv => whnf) | (refine ifT rfl ?_; with_reducible conv => whnf) | (refine ifF rfl ?_; with_reducible conv => whnf) | (refine it_at (by assumption) ?_; with_reducible conv => whnf)))
    exact hR _ (Sub.refl _)
  rw [List.filterMap_some]
  have h2 := at_push S1 (.lst (intD ns))
  have hS1 := hs1.app [.lst (intD ns)]
  have hln : S.length ≤ S1.length := by
    false_or_by_contra
    rename_i hc
    cases S with
    | nil => simp at hc
    | cons o r =>
      have := at_lt (hs1 ((o :: r).length - 1) _ (List.getElem?_eq_getElem (by simp)))
      simp at this hc
      omega
  generalize hm0 : S1.length = m0 at *
  generalize S1 ++ [.lst (intD ns)] = S2 at *
  -- from here: cells cs at m0
  have main : ∀ (cs : List Int) S3, 0 < cs.length → cs.length ≤ 63 → S3[m0]? = some (.lst (intD cs)) → Sub S S3 → sSeq (sAsg (wB rList (wCons (wVar 2) wNil)) (gN 4))
    (sSeq (sAsg (wLst wNil) (gN 5))
    (sSeq (sFor (wR1 (wVar 1)) (gN 6) (sSeq (sAsg (wOp rMod (wVar 6) (wB rLen (wCons (wVar 2) wNil))) (gN 7))
    (sIf (wtAnd (wtVal (wOp rGe (wOp rIx (wVar 2) (wVar 7)) (wOp rPow (wC (.int 10)) (wC (.int 18))))) (wtVal (wOp rGt (wOp rIx (wVar 4) (wVar 7)) (wC (.int 0))))) (sSeq (sDrop (wM rAppend (wVar 5) (wCons (wOp rMod (wB rInt (wCons (wOp rIx (wVar 4) (wVar 7)) wNil)) (wC (.int 1000))) wNil)))
    (sSub rPut (wOp rDiv (wOp rIx (wVar 4) (wVar 7)) (wC (.int 1000))) (wVar 4) (wVar 7))) (sSeq (sAsg (wOp rMod (wB rInt (wCons (wOp rAdd (wOp rAdd (wOp rMul (wOp rIx (wVar 2) (wVar 7)) (wC (.int 48271))) (wOp rMul (wVar 6) (wC (.int 69621)))) (wC (.int 11))) wNil)) (wC (.int 2147483647))) (gN 8))
    (sDrop (wM rAppend (wVar 5) (wCons (wOp rMod (wB rInt (wCons (wOp rAdd (wOp rAdd (wOp rMul (wVar 8) (wVar 8)) (wOp rMul (wC (.int 3)) (wVar 8))) (wVar 6)) wNil)) (wC (.int 1000003))) wNil)))))))
    (sSeq (sDrop (wM0 rReverse (wVar 5)))
    (sRet (wVar 5))))) { nx := fun x S' => Q D.non S', rt := Q, bk := fun x x_1 => False, ct := fun x x_1 => False } [some (.rol (intD ns)), some (.int many), some (.ref m0), none, none, none, none, none, none] S3 := by
    intro cs S3 hc0 hc1 e3 s3
    ((with_reducible conv => whnf); repeat (first | (refine And.intro (okII _ _) ?_; rw [eqD_ii]; with_reducible conv => whnf) | (refine And.intro (by first | assumption | exact Exists.intro _ (by assumption) | exact ⟨rfl, rfl, by decide, by decide⟩ | exact Nat.le_of_ble_eq_true rfl | exact rfl) ?_; with_reducible conv => whnf) | (rw [isLst_at (by assumption)]; with_reducible conv => whnf) | (refine ifT rfl ?_; with_reducible conv => whnf) | (refine ifF rfl ?_; with_reducible conv => whnf) | (refine it_at (by assumption) ?_; with_reducible conv => whnf)))
    refine ⟨⟨by omega, by omega⟩, ?_⟩
    have e4 := push_at e3 [.lst (intD cs)]
    have e5 := at_push S3 (.lst (intD cs))
    have s4 := s3.app [.lst (intD cs)]
    have l3 := at_lt e3
    generalize hm4 : S3.length = m4 at *
    have hm5 : (S3 ++ [O.lst (intD cs)]).length = m4 + 1 := by simp [hm4]
    generalize S3 ++ [.lst (intD cs)] = S4 at *
    have e6 := push_at e4 [.lst []]
    have e7 := push_at e5 [.lst []]
    have e8 := at_push S4 (.lst [])
    have s5 := s4.app [.lst []]
    rw [hm5] at e8 ⊢
    generalize S4 ++ [.lst []] = S5 at *
    refine Loop_mk (fun i ρ S' => ∃ o6 o7 o8 rs ws, ρ = [some (.rol (intD ns)), some (.int many), some (.ref m0), none, some (.ref m4), some (.ref (m4 + 1)), o6, o7, o8] ∧ S'[m0]? = some (.lst (intD cs)) ∧ S'[m4]? = some (.lst (intD rs)) ∧ rs.length = cs.length ∧ S'[m4 + 1]? = some (.lst (intD ws)) ∧ ws.length = i ∧ Sub S S') ?_ ?_ ?_ ?_
    · exact ⟨none, none, none, cs, [], rfl, e6, e7, rfl, e8, rfl, s5⟩
    · intros; trivial
    · rintro i d ρ' S' hi ⟨o6, o7, o8, rs, ws, rfl, f0, f1, f2, f3, f4, f5⟩
      obtain ⟨hi1, rfl⟩ := rangeD_get hi
      ((with_reducible conv => whnf); repeat (first | (refine And.intro (okII _ _) ?_; rw [eqD_ii]; with_reducible conv => whnf) | (refine And.intro (by first | assumption | exact Exists.intro _ (by assumption) | exact ⟨rfl, rfl, by decide, by decide⟩ | exact Nat.le_of_ble_eq_true rfl | exact rfl) ?_; with_reducible conv => whnf) | (rw [isLst_at (by assumption)]; with_reducible conv => whnf) | (refine ifT rfl ?_; with_reducible conv => whnf) | (refine ifF rfl ?_; with_reducible conv => whnf) | (refine it_at (by assumption) ?_; with_reducible conv => whnf)))
      have hz : ((intD cs).length : Int) ≠ 0 := by rw [List.length_map]; omega
      have hz0 : (0 : Int) < ((intD cs).length : Int) := by rw [List.length_map]; omega
      obtain ⟨g0, g1⟩ := fmod_lt (a := 0 + (i : Int)) hz0
      refine ⟨hz, ?_⟩
      generalize hat : (0 + (i : Int)).fmod ((intD cs).length : Int) = at' at *
      rw [List.length_map] at g1
      ((with_reducible conv => whnf); repeat (first | (refine And.intro (okII _ _) ?_; rw [eqD_ii]; with_reducible conv => whnf) | (refine And.intro (by first | assumption | exact Exists.intro _ (by assumption) | exact ⟨rfl, rfl, by decide, by decide⟩ | exact Nat.le_of_ble_eq_true rfl | exact rfl) ?_; with_reducible conv => whnf) | (rw [isLst_at (by assumption)]; with_reducible conv => whnf) | (refine ifT rfl ?_; with_reducible conv => whnf) | (refine ifF rfl ?_; with_reducible conv => whnf) | (refine it_at (by assumption) ?_; with_reducible conv => whnf)))
      refine ⟨_, atZ_intD g0 g1, ?_⟩
      ((with_reducible conv => whnf); repeat (first | (refine And.intro (okII _ _) ?_; rw [eqD_ii]; with_reducible conv => whnf) | (refine And.intro (by first | assumption | exact Exists.intro _ (by assumption) | exact ⟨rfl, rfl, by decide, by decide⟩ | exact Nat.le_of_ble_eq_true rfl | exact rfl) ?_; with_reducible conv => whnf) | (rw [isLst_at (by assumption)]; with_reducible conv => whnf) | (refine ifT rfl ?_; with_reducible conv => whnf) | (refine ifF rfl ?_; with_reducible conv => whnf) | (refine it_at (by assumption) ?_; with_reducible conv => whnf)))
      refine ⟨⟨by omega, by omega, by decide⟩, ?_⟩
      ((with_reducible conv => whnf); repeat (first | (refine And.intro (okII _ _) ?_; rw [eqD_ii]; with_reducible conv => whnf) | (refine And.intro (by first | assumption | exact Exists.intro _ (by assumption) | exact ⟨rfl, rfl, by decide, by decide⟩ | exact Nat.le_of_ble_eq_true rfl | exact rfl) ?_; with_reducible conv => whnf) | (rw [isLst_at (by assumption)]; with_reducible conv => whnf) | (refine ifT rfl ?_; with_reducible conv => whnf) | (refine ifF rfl ?_; with_reducible conv => whnf) | (refine it_at (by assumption) ?_; with_reducible conv => whnf)))
      have push : ∀ (c : Int) o7 o8 rs, S'[m4]? = some (.lst (intD rs)) → rs.length = cs.length → ∀ S6, S6 = S'.set (m4 + 1) (.lst (intD (ws ++ [c]))) → ∃ o6' o7' o8' rs' ws', [some (D.rol (intD ns)), some (D.int many), some (D.ref m0), none, some (D.ref m4), some (D.ref (m4 + 1)), some (.int (0 + i)), o7, o8] =
          [some (D.rol (intD ns)), some (D.int many), some (D.ref m0), none, some (D.ref m4), some (D.ref (m4 + 1)), o6', o7', o8'] ∧ S6[m0]? = some (.lst (intD cs)) ∧ S6[m4]? = some (.lst (intD rs')) ∧ rs'.length = cs.length ∧ S6[m4 + 1]? = some (.lst (intD ws')) ∧ ws'.length = i + 1 ∧ Sub S S6 := by
        rintro c o7 o8 rs q1 q2 S6 rfl
        refine ⟨_, _, _, rs, ws ++ [c], rfl, ?_, ?_, q2, ?_, by simp [f4], f5.put (by omega)⟩
        · rw [at_set_ne (by omega), f0]
        · rw [at_set_ne (by omega), q1]
        · rw [at_set f3]
      have hw : (intD ws).length < szL := by rw [List.length_map]; unfold szL; omega
      have hw2 : ∀ c : Int, intD ws ++ [D.int c] = intD (ws ++ [c]) := fun c => by simp [intD]
      refine ite_i (fun hc => ?_) fun hc => ?_
      · ((with_reducible conv => whnf); repeat (first | (refine And.intro (okII _ _) ?_; rw [eqD_ii]; with_reducible conv => whnf) | (refine And.intro (by first | assumption | exact Exists.intro _ (by assumption) | exact ⟨rfl, rfl, by decide, by decide⟩ | exact Nat.le_of_ble_eq_true rfl | exact rfl) ?_; with_reducible conv => whnf) | (rw [isLst_at (by assumption)]; with_reducible conv => whnf) | (refine ifT rfl ?_; with_reducible conv => whnf) | (refine ifF rfl ?_; with_reducible conv => whnf) | (refine it_at (by assumption) ?_; with_reducible conv => whnf)))
        refine ⟨_, atZ_intD g0 (by rw [f2]; exact g1), ?_⟩
        ((with_reducible conv => whnf); repeat (first | (refine And.intro (okII _ _) ?_; rw [eqD_ii]; with_reducible conv => whnf) | (refine And.intro (by first | assumption | exact Exists.intro _ (by assumption) | exact ⟨rfl, rfl, by decide, by decide⟩ | exact Nat.le_of_ble_eq_true rfl | exact rfl) ?_; with_reducible conv => whnf) | (rw [isLst_at (by assumption)]; with_reducible conv => whnf) | (refine ifT rfl ?_; with_reducible conv => whnf) | (refine ifF rfl ?_; with_reducible conv => whnf) | (refine it_at (by assumption) ?_; with_reducible conv => whnf)))
        refine ite_d (fun hc2 => ?_) fun hc2 => ?_
        · ((with_reducible conv => whnf); repeat (first | (refine And.intro (okII _ _) ?_; rw [eqD_ii]; with_reducible conv => whnf) | (refine And.intro (by first | assumption | exact Exists.intro _ (by assumption) | exact ⟨rfl, rfl, by decide, by decide⟩ | exact Nat.le_of_ble_eq_true rfl | exact rfl) ?_; with_reducible conv => whnf) | (rw [isLst_at (by assumption)]; with_reducible conv => whnf) | (refine ifT rfl ?_; with_reducible conv => whnf) | (refine ifF rfl ?_; with_reducible conv => whnf) | (refine it_at (by assumption) ?_; with_reducible conv => whnf)))
          refine ⟨_, atZ_intD g0 (by rw [f2]; exact g1), ?_⟩
          ((with_reducible conv => whnf); repeat (first | (refine And.intro (okII _ _) ?_; rw [eqD_ii]; with_reducible conv => whnf) | (refine And.intro (by first | assumption | exact Exists.intro _ (by assumption) | exact ⟨rfl, rfl, by decide, by decide⟩ | exact Nat.le_of_ble_eq_true rfl | exact rfl) ?_; with_reducible conv => whnf) | (rw [isLst_at (by assumption)]; with_reducible conv => whnf) | (refine ifT rfl ?_; with_reducible conv => whnf) | (refine ifF rfl ?_; with_reducible conv => whnf) | (refine it_at (by assumption) ?_; with_reducible conv => whnf)))
          refine ⟨by decide, ?_⟩
          ((with_reducible conv => whnf); repeat (first | (refine And.intro (okII _ _) ?_; rw [eqD_ii]; with_reducible conv => whnf) | (refine And.intro (by first | assumption | exact Exists.intro _ (by assumption) | exact ⟨rfl, rfl, by decide, by decide⟩ | exact Nat.le_of_ble_eq_true rfl | exact rfl) ?_; with_reducible conv => whnf) | (rw [isLst_at (by assumption)]; with_reducible conv => whnf) | (refine ifT rfl ?_; with_reducible conv => whnf) | (refine ifF rfl ?_; with_reducible conv => whnf) | (refine it_at (by assumption) ?_; with_reducible conv => whnf)))
          rw [hw2]
          have q4 : (S'.set (m4 + 1) (.lst (intD (ws ++ [(rs.getD at'.toNat 0).fmod 1000]))))[m4]? = some (.lst (intD rs)) := by rw [at_set_ne (by omega), f1]
          ((with_reducible conv => whnf); repeat (first | (refine And.intro (okII _ _) ?_; rw [eqD_ii]; with_reducible conv => whnf) | (refine And.intro (by first | assumption | exact Exists.intro _ (by assumption) | exact ⟨rfl, rfl, by decide, by decide⟩ | exact Nat.le_of_ble_eq_true rfl | exact rfl) ?_; with_reducible conv => whnf) | (rw [isLst_at (by assumption)]; with_reducible conv => whnf) | (refine ifT rfl ?_; with_reducible conv => whnf) | (refine ifF rfl ?_; with_reducible conv => whnf) | (refine it_at (by assumption) ?_; with_reducible conv => whnf)))
          refine ⟨_, atZ_intD g0 (by rw [f2]; exact g1), ?_⟩
          ((with_reducible conv => whnf); repeat (first | (refine And.intro (okII _ _) ?_; rw [eqD_ii]; with_reducible conv => whnf) | (refine And.intro (by first | assumption | exact Exists.intro _ (by assumption) | exact ⟨rfl, rfl, by decide, by decide⟩ | exact Nat.le_of_ble_eq_true rfl | exact rfl) ?_; with_reducible conv => whnf) | (rw [isLst_at (by assumption)]; with_reducible conv => whnf) | (refine ifT rfl ?_; with_reducible conv => whnf) | (refine ifF rfl ?_; with_reducible conv => whnf) | (refine it_at (by assumption) ?_; with_reducible conv => whnf)))
          refine ⟨⟨by decide, by decide⟩, ?_⟩
          ((with_reducible conv => whnf); repeat (first | (refine And.intro (okII _ _) ?_; rw [eqD_ii]; with_reducible conv => whnf) | (refine And.intro (by first | assumption | exact Exists.intro _ (by assumption) | exact ⟨rfl, rfl, by decide, by decide⟩ | exact Nat.le_of_ble_eq_true rfl | exact rfl) ?_; with_reducible conv => whnf) | (rw [isLst_at (by assumption)]; with_reducible conv => whnf) | (refine ifT rfl ?_; with_reducible conv => whnf) | (refine ifF rfl ?_; with_reducible conv => whnf) | (refine it_at (by assumption) ?_; with_reducible conv => whnf)))
          refine ⟨_, ixZ_ok g0 (by rw [List.length_map, f2]; exact g1), ?_⟩
          ((with_reducible conv => whnf); repeat (first | (refine And.intro (okII _ _) ?_; rw [eqD_ii]; with_reducible conv => whnf) | (refine And.intro (by first | assumption | exact Exists.intro _ (by assumption) | exact ⟨rfl, rfl, by decide, by decide⟩ | exact Nat.le_of_ble_eq_true rfl | exact rfl) ?_; with_reducible conv => whnf) | (rw [isLst_at (by assumption)]; with_reducible conv => whnf) | (refine ifT rfl ?_; with_reducible conv => whnf) | (refine ifF rfl ?_; with_reducible conv => whnf) | (refine it_at (by assumption) ?_; with_reducible conv => whnf)))
          rw [intD_set]
          obtain ⟨a1, a2, a3, a4, a5, a6, a7, a8, a9, a10, a11, a12⟩ := push ((rs.getD at'.toNat 0).fmod 1000) (some (.int at')) o8 rs f1 f2 _ rfl
          refine ⟨_, _, _, rs.set at'.toNat _, a5, rfl, ?_, at_set a8, by rw [List.length_set, f2], ?_, a11, a12.put (by omega)⟩
          · rw [at_set_ne (by omega), a7]
          · rw [at_set_ne (by omega), a10]
        · ((with_reducible conv => whnf); repeat (first | (refine And.intro (okII _ _) ?_; rw [eqD_ii]; with_reducible conv => whnf) | (refine And.intro (by first | assumption | exact Exists.intro _ (by assumption) | exact ⟨rfl, rfl, by decide, by decide⟩ | exact Nat.le_of_ble_eq_true rfl | exact rfl) ?_; with_reducible conv => whnf) | (rw [isLst_at (by assumption)]; with_reducible conv => whnf) | (refine ifT rfl ?_; with_reducible conv => whnf) | (refine ifF rfl ?_; with_reducible conv => whnf) | (refine it_at (by assumption) ?_; with_reducible conv => whnf)))
          refine ⟨_, atZ_intD g0 g1, ?_⟩
          ((with_reducible conv => whnf); repeat (first | (refine And.intro (okII _ _) ?_; rw [eqD_ii]; with_reducible conv => whnf) | (refine And.intro (by first | assumption | exact Exists.intro _ (by assumption) | exact ⟨rfl, rfl, by decide, by decide⟩ | exact Nat.le_of_ble_eq_true rfl | exact rfl) ?_; with_reducible conv => whnf) | (rw [isLst_at (by assumption)]; with_reducible conv => whnf) | (refine ifT rfl ?_; with_reducible conv => whnf) | (refine ifF rfl ?_; with_reducible conv => whnf) | (refine it_at (by assumption) ?_; with_reducible conv => whnf)))
          refine ⟨smallMul (by decide), ?_⟩
          ((with_reducible conv => whnf); repeat (first | (refine And.intro (okII _ _) ?_; rw [eqD_ii]; with_reducible conv => whnf) | (refine And.intro (by first | assumption | exact Exists.intro _ (by assumption) | exact ⟨rfl, rfl, by decide, by decide⟩ | exact Nat.le_of_ble_eq_true rfl | exact rfl) ?_; with_reducible conv => whnf) | (rw [isLst_at (by assumption)]; with_reducible conv => whnf) | (refine ifT rfl ?_; with_reducible conv => whnf) | (refine ifF rfl ?_; with_reducible conv => whnf) | (refine it_at (by assumption) ?_; with_reducible conv => whnf)))
          refine ⟨smallMul (by decide), ?_⟩
          ((with_reducible conv => whnf); repeat (first | (refine And.intro (okII _ _) ?_; rw [eqD_ii]; with_reducible conv => whnf) | (refine And.intro (by first | assumption | exact Exists.intro _ (by assumption) | exact ⟨rfl, rfl, by decide, by decide⟩ | exact Nat.le_of_ble_eq_true rfl | exact rfl) ?_; with_reducible conv => whnf) | (rw [isLst_at (by assumption)]; with_reducible conv => whnf) | (refine ifT rfl ?_; with_reducible conv => whnf) | (refine ifF rfl ?_; with_reducible conv => whnf) | (refine it_at (by assumption) ?_; with_reducible conv => whnf)))
          refine ⟨by decide, ?_⟩
          ((with_reducible conv => whnf); repeat (first | (refine And.intro (okII _ _) ?_; rw [eqD_ii]; with_reducible conv => whnf) | (refine And.intro (by first | assumption | exact Exists.intro _ (by assumption) | exact ⟨rfl, rfl, by decide, by decide⟩ | exact Nat.le_of_ble_eq_true rfl | exact rfl) ?_; with_reducible conv => whnf) | (rw [isLst_at (by assumption)]; with_reducible conv => whnf) | (refine ifT rfl ?_; with_reducible conv => whnf) | (refine ifF rfl ?_; with_reducible conv => whnf) | (refine it_at (by assumption) ?_; with_reducible conv => whnf)))
          obtain ⟨h0, h1⟩ := fmod_lt (a := (cs.getD at'.toNat 0) * 48271 + (0 + (i : Int)) * 69621 + 11) (b := 2147483647) (by decide)
          refine ⟨smallMul (by omega), ?_⟩
          ((with_reducible conv => whnf); repeat (first | (refine And.intro (okII _ _) ?_; rw [eqD_ii]; with_reducible conv => whnf) | (refine And.intro (by first | assumption | exact Exists.intro _ (by assumption) | exact ⟨rfl, rfl, by decide, by decide⟩ | exact Nat.le_of_ble_eq_true rfl | exact rfl) ?_; with_reducible conv => whnf) | (rw [isLst_at (by assumption)]; with_reducible conv => whnf) | (refine ifT rfl ?_; with_reducible conv => whnf) | (refine ifF rfl ?_; with_reducible conv => whnf) | (refine it_at (by assumption) ?_; with_reducible conv => whnf)))
          refine ⟨smallMul' (by decide), ?_⟩
          ((with_reducible conv => whnf); repeat (first | (refine And.intro (okII _ _) ?_; rw [eqD_ii]; with_reducible conv => whnf) | (refine And.intro (by first | assumption | exact Exists.intro _ (by assumption) | exact ⟨rfl, rfl, by decide, by decide⟩ | exact Nat.le_of_ble_eq_true rfl | exact rfl) ?_; with_reducible conv => whnf) | (rw [isLst_at (by assumption)]; with_reducible conv => whnf) | (refine ifT rfl ?_; with_reducible conv => whnf) | (refine ifF rfl ?_; with_reducible conv => whnf) | (refine it_at (by assumption) ?_; with_reducible conv => whnf)))
          refine ⟨by decide, ?_⟩
          ((with_reducible conv => whnf); repeat (first | (refine And.intro (okII _ _) ?_; rw [eqD_ii]; with_reducible conv => whnf) | (refine And.intro (by first | assumption | exact Exists.intro _ (by assumption) | exact ⟨rfl, rfl, by decide, by decide⟩ | exact Nat.le_of_ble_eq_true rfl | exact rfl) ?_; with_reducible conv => whnf) | (rw [isLst_at (by assumption)]; with_reducible conv => whnf) | (refine ifT rfl ?_; with_reducible conv => whnf) | (refine ifF rfl ?_; with_reducible conv => whnf) | (refine it_at (by assumption) ?_; with_reducible conv => whnf)))
          rw [hw2]
          exact push _ _ _ rs f1 f2 _ rfl
      · ((with_reducible conv => whnf); repeat (first | (refine And.intro (okII _ _) ?_; rw [eqD_ii]; with_reducible conv => whnf) | (refine And.intro (by first | assumption | exact Exists.intro _ (by assumption) | exact ⟨rfl, rfl, by decide, by decide⟩ | exact Nat.le_of_ble_eq_true rfl | exact rfl) ?_; with_reducible conv => whnf) | (rw [isLst_at (by assumption)]; with_reducible conv => whnf) | (refine ifT rfl ?_; with_reducible conv => whnf) | (refine ifF rfl ?_; with_reducible conv => whnf) | (refine it_at (by assumption) ?_; with_reducible conv => whnf)))
        refine ⟨_, atZ_intD g0 g1, ?_⟩
        ((with_reducible conv => whnf); repeat (first | (refine And.intro (okII _ _) ?_; rw [eqD_ii]; with_reducible conv => whnf) | (refine And.intro (by first | assumption | exact Exists.intro _ (by assumption) | exact ⟨rfl, rfl, by decide, by decide⟩ | exact Nat.le_of_ble_eq_true rfl | exact rfl) ?_; with_reducible conv => whnf) | (rw [isLst_at (by assumption)]; with_reducible conv => whnf) | (refine ifT rfl ?_; with_reducible conv => whnf) | (refine ifF rfl ?_; with_reducible conv => whnf) | (refine it_at (by assumption) ?_; with_reducible conv => whnf)))
        refine ⟨smallMul (by decide), ?_⟩
        ((with_reducible conv => whnf); repeat (first | (refine And.intro (okII _ _) ?_; rw [eqD_ii]; with_reducible conv => whnf) | (refine And.intro (by first | assumption | exact Exists.intro _ (by assumption) | exact ⟨rfl, rfl, by decide, by decide⟩ | exact Nat.le_of_ble_eq_true rfl | exact rfl) ?_; with_reducible conv => whnf) | (rw [isLst_at (by assumption)]; with_reducible conv => whnf) | (refine ifT rfl ?_; with_reducible conv => whnf) | (refine ifF rfl ?_; with_reducible conv => whnf) | (refine it_at (by assumption) ?_; with_reducible conv => whnf)))
        refine ⟨smallMul (by decide), ?_⟩
        ((with_reducible conv => whnf); repeat (first | (refine And.intro (okII _ _) ?_; rw [eqD_ii]; with_reducible conv => whnf) | (refine And.intro (by first | assumption | exact Exists.intro _ (by assumption) | exact ⟨rfl, rfl, by decide, by decide⟩ | exact Nat.le_of_ble_eq_true rfl | exact rfl) ?_; with_reducible conv => whnf) | (rw [isLst_at (by assumption)]; with_reducible conv => whnf) | (refine ifT rfl ?_; with_reducible conv => whnf) | (refine ifF rfl ?_; with_reducible conv => whnf) | (refine it_at (by assumption) ?_; with_reducible conv => whnf)))
        refine ⟨by decide, ?_⟩
        ((with_reducible conv => whnf); repeat (first | (refine And.intro (okII _ _) ?_; rw [eqD_ii]; with_reducible conv => whnf) | (refine And.intro (by first | assumption | exact Exists.intro _ (by assumption) | exact ⟨rfl, rfl, by decide, by decide⟩ | exact Nat.le_of_ble_eq_true rfl | exact rfl) ?_; with_reducible conv => whnf) | (rw [isLst_at (by assumption)]; with_reducible conv => whnf) | (refine ifT rfl ?_; with_reducible conv => whnf) | (refine ifF rfl ?_; with_reducible conv => whnf) | (refine it_at (by assumption) ?_; with_reducible conv => whnf)))
        obtain ⟨h0, h1⟩ := fmod_lt (a := (cs.getD at'.toNat 0) * 48271 + (0 + (i : Int)) * 69621 + 11) (b := 2147483647) (by decide)
        refine ⟨smallMul (by omega), ?_⟩
        ((with_reducible conv => whnf); repeat (first | (refine And.intro (okII _ _) ?_; rw [eqD_ii]; with_reducible conv => whnf) | (refine And.intro (by first | assumption | exact Exists.intro _ (by assumption) | exact ⟨rfl, rfl, by decide, by decide⟩ | exact Nat.le_of_ble_eq_true rfl | exact rfl) ?_; with_reducible conv => whnf) | (rw [isLst_at (by assumption)]; with_reducible conv => whnf) | (refine ifT rfl ?_; with_reducible conv => whnf) | (refine ifF rfl ?_; with_reducible conv => whnf) | (refine it_at (by assumption) ?_; with_reducible conv => whnf)))
        refine ⟨smallMul' (by decide), ?_⟩
        ((with_reducible conv => whnf); repeat (first | (refine And.intro (okII _ _) ?_; rw [eqD_ii]; with_reducible conv => whnf) | (refine And.intro (by first | assumption | exact Exists.intro _ (by assumption) | exact ⟨rfl, rfl, by decide, by decide⟩ | exact Nat.le_of_ble_eq_true rfl | exact rfl) ?_; with_reducible conv => whnf) | (rw [isLst_at (by assumption)]; with_reducible conv => whnf) | (refine ifT rfl ?_; with_reducible conv => whnf) | (refine ifF rfl ?_; with_reducible conv => whnf) | (refine it_at (by assumption) ?_; with_reducible conv => whnf)))
        refine ⟨by decide, ?_⟩
        ((with_reducible conv => whnf); repeat (first | (refine And.intro (okII _ _) ?_; rw [eqD_ii]; with_reducible conv => whnf) | (refine And.intro (by first | assumption | exact Exists.intro _ (by assumption) | exact ⟨rfl, rfl, by decide, by decide⟩ | exact Nat.le_of_ble_eq_true rfl | exact rfl) ?_; with_reducible conv => whnf) | (rw [isLst_at (by assumption)]; with_reducible conv => whnf) | (refine ifT rfl ?_; with_reducible conv => whnf) | (refine ifF rfl ?_; with_reducible conv => whnf) | (refine it_at (by assumption) ?_; with_reducible conv => whnf)))
        rw [hw2]
        exact push _ _ _ rs f1 f2 _ rfl
    · rintro ρ' S' ⟨o6, o7, o8, rs, ws, rfl, f0, f1, f2, f3, f4, f5⟩
      ((with_reducible conv => whnf); repeat (first | (refine And.intro (okII _ _) ?_; rw [eqD_ii]; with_reducible conv => whnf) | (refine And.intro (by first | assumption | exact Exists.intro _ (by assumption) | exact ⟨rfl, rfl, by decide, by decide⟩ | exact Nat.le_of_ble_eq_true rfl | exact rfl) ?_; with_reducible conv => whnf) | (rw [isLst_at (by assumption)]; with_reducible conv => whnf) | (refine ifT rfl ?_; with_reducible conv => whnf) | (refine ifF rfl ?_; with_reducible conv => whnf) | (refine it_at (by assumption) ?_; with_reducible conv => whnf)))
      refine k _ _ ⟨ws.reverse, ?_⟩ (f5.put (by omega)) (by omega)
      rw [at_set f3, ← List.map_reverse]
  ((with_reducible conv => whnf); repeat (first | (refine And.intro (okII _ _) ?_; rw [eqD_ii]; with_reducible conv => whnf) | (refine And.intro (by first | assumption | exact Exists.intro _ (by assumption) | exact ⟨rfl, rfl, by decide, by decide⟩ | exact Nat.le_of_ble_eq_true rfl | exact rfl) ?_; with_reducible conv => whnf) | (rw [isLst_at (by assumption)]; with_reducible conv => whnf) | (refine ifT rfl ?_; with_reducible conv => whnf) | (refine ifF rfl ?_; with_reducible conv => whnf) | (refine it_at (by assumption) ?_; with_reducible conv => whnf)))
  refine ite_d (fun hc => ?_) fun hc => ?_
  · ((with_reducible conv => whnf); repeat (first | (refine And.intro (okII _ _) ?_; rw [eqD_ii]; with_reducible conv => whnf) | (refine And.intro (by first | assumption | exact Exists.intro _ (by assumption) | exact ⟨rfl, rfl, by decide, by decide⟩ | exact Nat.le_of_ble_eq_true rfl | exact rfl) ?_; with_reducible conv => whnf) | (rw [isLst_at (by assumption)]; with_reducible conv => whnf) | (refine ifT rfl ?_; with_reducible conv => whnf) | (refine ifF rfl ?_; with_reducible conv => whnf) | (refine it_at (by assumption) ?_; with_reducible conv => whnf)))
    have hn : ns = [] := by
      rw [List.length_map] at hc
      exact List.length_eq_zero_iff.mp (by omega)
    subst hn
    refine ⟨by decide, ?_⟩
    exact main [0] _ (by decide) (by decide) (at_set h2) (hS1.put hln)
  · rw [List.length_map] at hc
    exact main ns S2 (by omega) hl h2 hS1

@[reducible] def sp_same (N : Nat) : Spc := fun ds S Q => ∃ d, ds = [d, d] ∧ flat d = true ∧ slim d = true ∧ deep d ≤ N ∧ ∀ S', Sub S S' → Q (.bl true) S'
@[reducible] def spNo : Spc := fun _ _ _ => False
theorem body_law_same (sp : Spc) (N : Nat) (hN : N ≤ 60) (hsp : N = 0 ∨ ∃ M, N = M + 1 ∧ sp = sp_same M) : Body 3 2 (w_law_same sp) (sp_same N) := by
  rintro ds S Q _ ⟨d, rfl, hf, hsl, hd, k⟩
  unfold w_law_same
  have hself := eqD_self d hf
  have k0 := k S (Sub.refl _)
  (simp only [start, List.map_cons, List.map_nil, List.length_cons, List.length_nil, Nat.reduceAdd, Nat.reduceSub, List.replicate_succ, List.replicate_zero, List.cons_append, List.nil_append, Nat.sub_self, Nat.zero_add])
  cases d with
  | rol xs => cases hf
  | ref xs => cases hf
  | ty xs => cases hf
  | non =>
    ((with_reducible conv => whnf); repeat (first | (refine And.intro (okII _ _) ?_; rw [eqD_ii]; with_reducible conv => whnf) | (refine And.intro (by first | assumption | exact Exists.intro _ (by assumption) | exact ⟨rfl, rfl, by decide, by decide⟩ | exact Nat.le_of_ble_eq_true rfl | exact rfl) ?_; with_reducible conv => whnf) | (rw [isLst_at (by assumption)]; with_reducible conv => whnf) | (refine ifT rfl ?_; with_reducible conv => whnf) | (refine ifF rfl ?_; with_reducible conv => whnf) | (refine it_at (by assumption) ?_; with_reducible conv => whnf)))
    refine ⟨false, rfl, ?_⟩
    ((with_reducible conv => whnf); repeat (first | (refine And.intro (okII _ _) ?_; rw [eqD_ii]; with_reducible conv => whnf) | (refine And.intro (by first | assumption | exact Exists.intro _ (by assumption) | exact ⟨rfl, rfl, by decide, by decide⟩ | exact Nat.le_of_ble_eq_true rfl | exact rfl) ?_; with_reducible conv => whnf) | (rw [isLst_at (by assumption)]; with_reducible conv => whnf) | (refine ifT rfl ?_; with_reducible conv => whnf) | (refine ifF rfl ?_; with_reducible conv => whnf) | (refine it_at (by assumption) ?_; with_reducible conv => whnf)))
    refine ⟨false, rfl, ?_⟩
    ((with_reducible conv => whnf); repeat (first | (refine And.intro (okII _ _) ?_; rw [eqD_ii]; with_reducible conv => whnf) | (refine And.intro (by first | assumption | exact Exists.intro _ (by assumption) | exact ⟨rfl, rfl, by decide, by decide⟩ | exact Nat.le_of_ble_eq_true rfl | exact rfl) ?_; with_reducible conv => whnf) | (rw [isLst_at (by assumption)]; with_reducible conv => whnf) | (refine ifT rfl ?_; with_reducible conv => whnf) | (refine ifF rfl ?_; with_reducible conv => whnf) | (refine it_at (by assumption) ?_; with_reducible conv => whnf)))
    refine ⟨false, rfl, ?_⟩
    ((with_reducible conv => whnf); repeat (first | (refine And.intro (okII _ _) ?_; rw [eqD_ii]; with_reducible conv => whnf) | (refine And.intro (by first | assumption | exact Exists.intro _ (by assumption) | exact ⟨rfl, rfl, by decide, by decide⟩ | exact Nat.le_of_ble_eq_true rfl | exact rfl) ?_; with_reducible conv => whnf) | (rw [isLst_at (by assumption)]; with_reducible conv => whnf) | (refine ifT rfl ?_; with_reducible conv => whnf) | (refine ifF rfl ?_; with_reducible conv => whnf) | (refine it_at (by assumption) ?_; with_reducible conv => whnf)))
    exact k0
  | bl b =>
    ((with_reducible conv => whnf); repeat (first | (refine And.intro (okII _ _) ?_; rw [eqD_ii]; with_reducible conv => whnf) | (refine And.intro (by first | assumption | exact Exists.intro _ (by assumption) | exact ⟨rfl, rfl, by decide, by decide⟩ | exact Nat.le_of_ble_eq_true rfl | exact rfl) ?_; with_reducible conv => whnf) | (rw [isLst_at (by assumption)]; with_reducible conv => whnf) | (refine ifT rfl ?_; with_reducible conv => whnf) | (refine ifF rfl ?_; with_reducible conv => whnf) | (refine it_at (by assumption) ?_; with_reducible conv => whnf)))
    refine ⟨true, rfl, ?_⟩
    ((with_reducible conv => whnf); repeat (first | (refine And.intro (okII _ _) ?_; rw [eqD_ii]; with_reducible conv => whnf) | (refine And.intro (by first | assumption | exact Exists.intro _ (by assumption) | exact ⟨rfl, rfl, by decide, by decide⟩ | exact Nat.le_of_ble_eq_true rfl | exact rfl) ?_; with_reducible conv => whnf) | (rw [isLst_at (by assumption)]; with_reducible conv => whnf) | (refine ifT rfl ?_; with_reducible conv => whnf) | (refine ifF rfl ?_; with_reducible conv => whnf) | (refine it_at (by assumption) ?_; with_reducible conv => whnf)))
    refine ⟨true, rfl, ?_⟩
    ((with_reducible conv => whnf); repeat (first | (refine And.intro (okII _ _) ?_; rw [eqD_ii]; with_reducible conv => whnf) | (refine And.intro (by first | assumption | exact Exists.intro _ (by assumption) | exact ⟨rfl, rfl, by decide, by decide⟩ | exact Nat.le_of_ble_eq_true rfl | exact rfl) ?_; with_reducible conv => whnf) | (rw [isLst_at (by assumption)]; with_reducible conv => whnf) | (refine ifT rfl ?_; with_reducible conv => whnf) | (refine ifF rfl ?_; with_reducible conv => whnf) | (refine it_at (by assumption) ?_; with_reducible conv => whnf)))
    refine ⟨⟨hf, hf, Nat.zero_le _, Nat.zero_le _⟩, ?_⟩
    rw [hself]
    exact k0
  | int i =>
    ((with_reducible conv => whnf); repeat (first | (refine And.intro (okII _ _) ?_; rw [eqD_ii]; with_reducible conv => whnf) | (refine And.intro (by first | assumption | exact Exists.intro _ (by assumption) | exact ⟨rfl, rfl, by decide, by decide⟩ | exact Nat.le_of_ble_eq_true rfl | exact rfl) ?_; with_reducible conv => whnf) | (rw [isLst_at (by assumption)]; with_reducible conv => whnf) | (refine ifT rfl ?_; with_reducible conv => whnf) | (refine ifF rfl ?_; with_reducible conv => whnf) | (refine it_at (by assumption) ?_; with_reducible conv => whnf)))
    refine ⟨false, rfl, ?_⟩
    ((with_reducible conv => whnf); repeat (first | (refine And.intro (okII _ _) ?_; rw [eqD_ii]; with_reducible conv => whnf) | (refine And.intro (by first | assumption | exact Exists.intro _ (by assumption) | exact ⟨rfl, rfl, by decide, by decide⟩ | exact Nat.le_of_ble_eq_true rfl | exact rfl) ?_; with_reducible conv => whnf) | (rw [isLst_at (by assumption)]; with_reducible conv => whnf) | (refine ifT rfl ?_; with_reducible conv => whnf) | (refine ifF rfl ?_; with_reducible conv => whnf) | (refine it_at (by assumption) ?_; with_reducible conv => whnf)))
    refine ⟨true, rfl, ?_⟩
    ((with_reducible conv => whnf); repeat (first | (refine And.intro (okII _ _) ?_; rw [eqD_ii]; with_reducible conv => whnf) | (refine And.intro (by first | assumption | exact Exists.intro _ (by assumption) | exact ⟨rfl, rfl, by decide, by decide⟩ | exact Nat.le_of_ble_eq_true rfl | exact rfl) ?_; with_reducible conv => whnf) | (rw [isLst_at (by assumption)]; with_reducible conv => whnf) | (refine ifT rfl ?_; with_reducible conv => whnf) | (refine ifF rfl ?_; with_reducible conv => whnf) | (refine it_at (by assumption) ?_; with_reducible conv => whnf)))
    refine ⟨true, rfl, ?_⟩
    ((with_reducible conv => whnf); repeat (first | (refine And.intro (okII _ _) ?_; rw [eqD_ii]; with_reducible conv => whnf) | (refine And.intro (by first | assumption | exact Exists.intro _ (by assumption) | exact ⟨rfl, rfl, by decide, by decide⟩ | exact Nat.le_of_ble_eq_true rfl | exact rfl) ?_; with_reducible conv => whnf) | (rw [isLst_at (by assumption)]; with_reducible conv => whnf) | (refine ifT rfl ?_; with_reducible conv => whnf) | (refine ifF rfl ?_; with_reducible conv => whnf) | (refine it_at (by assumption) ?_; with_reducible conv => whnf)))
    refine ⟨false, rfl, ?_⟩
    ((with_reducible conv => whnf); repeat (first | (refine And.intro (okII _ _) ?_; rw [eqD_ii]; with_reducible conv => whnf) | (refine And.intro (by first | assumption | exact Exists.intro _ (by assumption) | exact ⟨rfl, rfl, by decide, by decide⟩ | exact Nat.le_of_ble_eq_true rfl | exact rfl) ?_; with_reducible conv => whnf) | (rw [isLst_at (by assumption)]; with_reducible conv => whnf) | (refine ifT rfl ?_; with_reducible conv => whnf) | (refine ifF rfl ?_; with_reducible conv => whnf) | (refine it_at (by assumption) ?_; with_reducible conv => whnf)))
    rw [decide_eq_true rfl]
    exact k0
  | str x =>
    ((with_reducible conv => whnf); repeat (first | (refine And.intro (okII _ _) ?_; rw [eqD_ii]; with_reducible conv => whnf) | (refine And.intro (by first | assumption | exact Exists.intro _ (by assumption) | exact ⟨rfl, rfl, by decide, by decide⟩ | exact Nat.le_of_ble_eq_true rfl | exact rfl) ?_; with_reducible conv => whnf) | (rw [isLst_at (by assumption)]; with_reducible conv => whnf) | (refine ifT rfl ?_; with_reducible conv => whnf) | (refine ifF rfl ?_; with_reducible conv => whnf) | (refine it_at (by assumption) ?_; with_reducible conv => whnf)))
    refine ⟨false, rfl, ?_⟩
    ((with_reducible conv => whnf); repeat (first | (refine And.intro (okII _ _) ?_; rw [eqD_ii]; with_reducible conv => whnf) | (refine And.intro (by first | assumption | exact Exists.intro _ (by assumption) | exact ⟨rfl, rfl, by decide, by decide⟩ | exact Nat.le_of_ble_eq_true rfl | exact rfl) ?_; with_reducible conv => whnf) | (rw [isLst_at (by assumption)]; with_reducible conv => whnf) | (refine ifT rfl ?_; with_reducible conv => whnf) | (refine ifF rfl ?_; with_reducible conv => whnf) | (refine it_at (by assumption) ?_; with_reducible conv => whnf)))
    refine ⟨false, rfl, ?_⟩
    ((with_reducible conv => whnf); repeat (first | (refine And.intro (okII _ _) ?_; rw [eqD_ii]; with_reducible conv => whnf) | (refine And.intro (by first | assumption | exact Exists.intro _ (by assumption) | exact ⟨rfl, rfl, by decide, by decide⟩ | exact Nat.le_of_ble_eq_true rfl | exact rfl) ?_; with_reducible conv => whnf) | (rw [isLst_at (by assumption)]; with_reducible conv => whnf) | (refine ifT rfl ?_; with_reducible conv => whnf) | (refine ifF rfl ?_; with_reducible conv => whnf) | (refine it_at (by assumption) ?_; with_reducible conv => whnf)))
    refine ⟨true, rfl, ?_⟩
    ((with_reducible conv => whnf); repeat (first | (refine And.intro (okII _ _) ?_; rw [eqD_ii]; with_reducible conv => whnf) | (refine And.intro (by first | assumption | exact Exists.intro _ (by assumption) | exact ⟨rfl, rfl, by decide, by decide⟩ | exact Nat.le_of_ble_eq_true rfl | exact rfl) ?_; with_reducible conv => whnf) | (rw [isLst_at (by assumption)]; with_reducible conv => whnf) | (refine ifT rfl ?_; with_reducible conv => whnf) | (refine ifF rfl ?_; with_reducible conv => whnf) | (refine it_at (by assumption) ?_; with_reducible conv => whnf)))
    refine ⟨true, rfl, ?_⟩
    ((with_reducible conv => whnf); repeat (first | (refine And.intro (okII _ _) ?_; rw [eqD_ii]; with_reducible conv => whnf) | (refine And.intro (by first | assumption | exact Exists.intro _ (by assumption) | exact ⟨rfl, rfl, by decide, by decide⟩ | exact Nat.le_of_ble_eq_true rfl | exact rfl) ?_; with_reducible conv => whnf) | (rw [isLst_at (by assumption)]; with_reducible conv => whnf) | (refine ifT rfl ?_; with_reducible conv => whnf) | (refine ifF rfl ?_; with_reducible conv => whnf) | (refine it_at (by assumption) ?_; with_reducible conv => whnf)))
    refine ⟨⟨hf, hf, Nat.zero_le _, Nat.zero_le _⟩, ?_⟩
    rw [hself]
    exact k0
  | tup xs =>
    ((with_reducible conv => whnf); repeat (first | (refine And.intro (okII _ _) ?_; rw [eqD_ii]; with_reducible conv => whnf) | (refine And.intro (by first | assumption | exact Exists.intro _ (by assumption) | exact ⟨rfl, rfl, by decide, by decide⟩ | exact Nat.le_of_ble_eq_true rfl | exact rfl) ?_; with_reducible conv => whnf) | (rw [isLst_at (by assumption)]; with_reducible conv => whnf) | (refine ifT rfl ?_; with_reducible conv => whnf) | (refine ifF rfl ?_; with_reducible conv => whnf) | (refine it_at (by assumption) ?_; with_reducible conv => whnf)))
    refine ⟨false, rfl, ?_⟩
    ((with_reducible conv => whnf); repeat (first | (refine And.intro (okII _ _) ?_; rw [eqD_ii]; with_reducible conv => whnf) | (refine And.intro (by first | assumption | exact Exists.intro _ (by assumption) | exact ⟨rfl, rfl, by decide, by decide⟩ | exact Nat.le_of_ble_eq_true rfl | exact rfl) ?_; with_reducible conv => whnf) | (rw [isLst_at (by assumption)]; with_reducible conv => whnf) | (refine ifT rfl ?_; with_reducible conv => whnf) | (refine ifF rfl ?_; with_reducible conv => whnf) | (refine it_at (by assumption) ?_; with_reducible conv => whnf)))
    refine ⟨false, rfl, ?_⟩
    ((with_reducible conv => whnf); repeat (first | (refine And.intro (okII _ _) ?_; rw [eqD_ii]; with_reducible conv => whnf) | (refine And.intro (by first | assumption | exact Exists.intro _ (by assumption) | exact ⟨rfl, rfl, by decide, by decide⟩ | exact Nat.le_of_ble_eq_true rfl | exact rfl) ?_; with_reducible conv => whnf) | (rw [isLst_at (by assumption)]; with_reducible conv => whnf) | (refine ifT rfl ?_; with_reducible conv => whnf) | (refine ifF rfl ?_; with_reducible conv => whnf) | (refine it_at (by assumption) ?_; with_reducible conv => whnf)))
    refine ⟨false, rfl, ?_⟩
    ((with_reducible conv => whnf); repeat (first | (refine And.intro (okII _ _) ?_; rw [eqD_ii]; with_reducible conv => whnf) | (refine And.intro (by first | assumption | exact Exists.intro _ (by assumption) | exact ⟨rfl, rfl, by decide, by decide⟩ | exact Nat.le_of_ble_eq_true rfl | exact rfl) ?_; with_reducible conv => whnf) | (rw [isLst_at (by assumption)]; with_reducible conv => whnf) | (refine ifT rfl ?_; with_reducible conv => whnf) | (refine ifF rfl ?_; with_reducible conv => whnf) | (refine it_at (by assumption) ?_; with_reducible conv => whnf)))
    refine ⟨true, rfl, ?_⟩
    ((with_reducible conv => whnf); repeat (first | (refine And.intro (okII _ _) ?_; rw [eqD_ii]; with_reducible conv => whnf) | (refine And.intro (by first | assumption | exact Exists.intro _ (by assumption) | exact ⟨rfl, rfl, by decide, by decide⟩ | exact Nat.le_of_ble_eq_true rfl | exact rfl) ?_; with_reducible conv => whnf) | (rw [isLst_at (by assumption)]; with_reducible conv => whnf) | (refine ifT rfl ?_; with_reducible conv => whnf) | (refine ifF rfl ?_; with_reducible conv => whnf) | (refine it_at (by assumption) ?_; with_reducible conv => whnf)))
    rw [if_neg (by simp)]
    have hsl := Bool.and_eq_true_iff.mp (show (decide (xs.length ≤ szL) && slims xs) = true from hsl)
    have hz := of_decide_eq_true hsl.1
    unfold szL at hz
    ((with_reducible conv => whnf); repeat (first | (refine And.intro (okII _ _) ?_; rw [eqD_ii]; with_reducible conv => whnf) | (refine And.intro (by first | assumption | exact Exists.intro _ (by assumption) | exact ⟨rfl, rfl, by decide, by decide⟩ | exact Nat.le_of_ble_eq_true rfl | exact rfl) ?_; with_reducible conv => whnf) | (rw [isLst_at (by assumption)]; with_reducible conv => whnf) | (refine ifT rfl ?_; with_reducible conv => whnf) | (refine ifF rfl ?_; with_reducible conv => whnf) | (refine it_at (by assumption) ?_; with_reducible conv => whnf)))
    refine ⟨⟨by omega, by omega⟩, ?_⟩
    refine Loop_mk (fun _ ρ S' => ∃ o, ρ = [some (.tup xs), some (.tup xs), o] ∧ Sub S S') ⟨_, rfl, Sub.refl _⟩ (by intros; trivial) ?_ ?_
    · rintro i d ρ' S' hi ⟨o, rfl, hs⟩
      obtain ⟨hi1, rfl⟩ := rangeD_get hi
      have hl : i < xs.length := by omega
      have e := List.getElem?_eq_getElem hl
      have ez := atZ_nat e
      rw [show ((i : Nat) : Int) = 0 + i by omega] at ez
      ((with_reducible conv => whnf); repeat (first | (refine And.intro (okII _ _) ?_; rw [eqD_ii]; with_reducible conv => whnf) | (refine And.intro (by first | assumption | exact Exists.intro _ (by assumption) | exact ⟨rfl, rfl, by decide, by decide⟩ | exact Nat.le_of_ble_eq_true rfl | exact rfl) ?_; with_reducible conv => whnf) | (rw [isLst_at (by assumption)]; with_reducible conv => whnf) | (refine ifT rfl ?_; with_reducible conv => whnf) | (refine ifF rfl ?_; with_reducible conv => whnf) | (refine it_at (by assumption) ?_; with_reducible conv => whnf)))
      refine ⟨_, ez, ?_⟩
      ((with_reducible conv => whnf); repeat (first | (refine And.intro (okII _ _) ?_; rw [eqD_ii]; with_reducible conv => whnf) | (refine And.intro (by first | assumption | exact Exists.intro _ (by assumption) | exact ⟨rfl, rfl, by decide, by decide⟩ | exact Nat.le_of_ble_eq_true rfl | exact rfl) ?_; with_reducible conv => whnf) | (rw [isLst_at (by assumption)]; with_reducible conv => whnf) | (refine ifT rfl ?_; with_reducible conv => whnf) | (refine ifF rfl ?_; with_reducible conv => whnf) | (refine it_at (by assumption) ?_; with_reducible conv => whnf)))
      refine ⟨_, ez, ?_⟩
      ((with_reducible conv => whnf); repeat (first | (refine And.intro (okII _ _) ?_; rw [eqD_ii]; with_reducible conv => whnf) | (refine And.intro (by first | assumption | exact Exists.intro _ (by assumption) | exact ⟨rfl, rfl, by decide, by decide⟩ | exact Nat.le_of_ble_eq_true rfl | exact rfl) ?_; with_reducible conv => whnf) | (rw [isLst_at (by assumption)]; with_reducible conv => whnf) | (refine ifT rfl ?_; with_reducible conv => whnf) | (refine ifF rfl ?_; with_reducible conv => whnf) | (refine it_at (by assumption) ?_; with_reducible conv => whnf)))
      have hdd : deep (.tup xs) = deeps xs + 1 := rfl
      rcases hsp with h0 | ⟨M, hM, rfl⟩
      · omega
      ((with_reducible conv => whnf); repeat (first | (refine And.intro (okII _ _) ?_; rw [eqD_ii]; with_reducible conv => whnf) | (refine And.intro (by first | assumption | exact Exists.intro _ (by assumption) | exact ⟨rfl, rfl, by decide, by decide⟩ | exact Nat.le_of_ble_eq_true rfl | exact rfl) ?_; with_reducible conv => whnf) | (rw [isLst_at (by assumption)]; with_reducible conv => whnf) | (refine ifT rfl ?_; with_reducible conv => whnf) | (refine ifF rfl ?_; with_reducible conv => whnf) | (refine it_at (by assumption) ?_; with_reducible conv => whnf)))
      have := deeps_get e
      refine ⟨_, rfl, flats_get hf e, slims_get hsl.2 e, by omega, fun S2 hs2 => ?_⟩
      ((with_reducible conv => whnf); repeat (first | (refine And.intro (okII _ _) ?_; rw [eqD_ii]; with_reducible conv => whnf) | (refine And.intro (by first | assumption | exact Exists.intro _ (by assumption) | exact ⟨rfl, rfl, by decide, by decide⟩ | exact Nat.le_of_ble_eq_true rfl | exact rfl) ?_; with_reducible conv => whnf) | (rw [isLst_at (by assumption)]; with_reducible conv => whnf) | (refine ifT rfl ?_; with_reducible conv => whnf) | (refine ifF rfl ?_; with_reducible conv => whnf) | (refine it_at (by assumption) ?_; with_reducible conv => whnf)))
      exact ⟨_, rfl, hs.trans hs2⟩
    · rintro ρ' S' ⟨o, rfl, hs⟩
      ((with_reducible conv => whnf); repeat (first | (refine And.intro (okII _ _) ?_; rw [eqD_ii]; with_reducible conv => whnf) | (refine And.intro (by first | assumption | exact Exists.intro _ (by assumption) | exact ⟨rfl, rfl, by decide, by decide⟩ | exact Nat.le_of_ble_eq_true rfl | exact rfl) ?_; with_reducible conv => whnf) | (rw [isLst_at (by assumption)]; with_reducible conv => whnf) | (refine ifT rfl ?_; with_reducible conv => whnf) | (refine ifF rfl ?_; with_reducible conv => whnf) | (refine it_at (by assumption) ?_; with_reducible conv => whnf)))
      exact k _ hs
/-! fractions -/
@[reducible] def sp_gcd : Spc := fun ds S Q => ∃ n d, ds = [.int n, .int d] ∧ ∀ S', Sub S S' → Q (.int (Nat.gcd n.natAbs d.natAbs : Nat)) S'
theorem body_divisor : Body 2 2 w_divisor sp_gcd := by
  rintro ds S Q _ ⟨n, d, rfl, k⟩
  unfold w_divisor
  (simp only [start, List.map_cons, List.map_nil, List.length_cons, List.length_nil, Nat.reduceAdd, Nat.reduceSub, List.replicate_succ, List.replicate_zero, List.cons_append, List.nil_append, Nat.sub_self, Nat.zero_add])
  ((with_reducible conv => whnf); repeat (first | (rw [natD_len]; with_reducible conv => whnf) | (rw [intD_len]; with_reducible conv => whnf) | (refine Exists.intro _ (And.intro (rfl : _ = some _) ?_); with_reducible conv => whnf) | (refine And.intro (okII _ _) ?_; rw [eqD_ii]; with_reducible conv => whnf) | (refine And.intro (by first | assumption | exact Exists.intro _ (by assumption) | exact ⟨rfl, rfl, by decide, by decide⟩ | exact Nat.le_of_ble_eq_true rfl | exact rfl) ?_; with_reducible conv => whnf) | (rw [isLst_at (by assumption)]; with_reducible conv => whnf) | (refine ifT rfl ?_; with_reducible conv => whnf) | (refine ifF rfl ?_; with_reducible conv => whnf) | (refine it_at (by assumption) ?_; with_reducible conv => whnf)))
  exact k _ (Sub.refl _)
@[reducible] def sp_ratio : Spc := fun ds S Q => ∃ n d, ds = [.int n, .int d] ∧ d ≠ 0 ∧ d.natAbs < 2 ^ 9000 ∧ ∀ S', Sub S S' → Q (qD (Rat.divInt n d)) S'
theorem body_fraction : Body 3 2 (w_fraction sp_gcd) sp_ratio := by
  rintro ds S Q _ ⟨n, d, rfl, h0, hb, k⟩
  unfold w_fraction
  (simp only [start, List.map_cons, List.map_nil, List.length_cons, List.length_nil, Nat.reduceAdd, Nat.reduceSub, List.replicate_succ, List.replicate_zero, List.cons_append, List.nil_append, Nat.sub_self, Nat.zero_add])
  ((with_reducible conv => whnf); repeat (first | (rw [natD_len]; with_reducible conv => whnf) | (rw [intD_len]; with_reducible conv => whnf) | (refine Exists.intro _ (And.intro (rfl : _ = some _) ?_); with_reducible conv => whnf) | (refine And.intro (okII _ _) ?_; rw [eqD_ii]; with_reducible conv => whnf) | (refine And.intro (by first | assumption | exact Exists.intro _ (by assumption) | exact ⟨rfl, rfl, by decide, by decide⟩ | exact Nat.le_of_ble_eq_true rfl | exact rfl) ?_; with_reducible conv => whnf) | (rw [isLst_at (by assumption)]; with_reducible conv => whnf) | (refine ifT rfl ?_; with_reducible conv => whnf) | (refine ifF rfl ?_; with_reducible conv => whnf) | (refine it_at (by assumption) ?_; with_reducible conv => whnf)))
  refine ⟨_, _, rfl, fun S1 h1 => ?_⟩
  have hg : 0 < Nat.gcd n.natAbs d.natAbs := Nat.gcd_pos_of_pos_right _ (by omega)
  have hle : Nat.gcd n.natAbs d.natAbs ≤ d.natAbs := Nat.gcd_le_right _ (by omega)
  have e := ratio_eq (n := n) h0
  have k := k S1 h1
  unfold qD at k
  rw [← e.1, ← e.2] at k
  ((with_reducible conv => whnf); repeat (first | (rw [natD_len]; with_reducible conv => whnf) | (rw [intD_len]; with_reducible conv => whnf) | (refine Exists.intro _ (And.intro (rfl : _ = some _) ?_); with_reducible conv => whnf) | (refine And.intro (okII _ _) ?_; rw [eqD_ii]; with_reducible conv => whnf) | (refine And.intro (by first | assumption | exact Exists.intro _ (by assumption) | exact ⟨rfl, rfl, by decide, by decide⟩ | exact Nat.le_of_ble_eq_true rfl | exact rfl) ?_; with_reducible conv => whnf) | (rw [isLst_at (by assumption)]; with_reducible conv => whnf) | (refine ifT rfl ?_; with_reducible conv => whnf) | (refine ifF rfl ?_; with_reducible conv => whnf) | (refine it_at (by assumption) ?_; with_reducible conv => whnf)))
  refine ite_d (fun hc => ?_) fun hc => ?_
  · rw [if_pos hc] at k
    ((with_reducible conv => whnf); repeat (first | (rw [natD_len]; with_reducible conv => whnf) | (rw [intD_len]; with_reducible conv => whnf) | (refine Exists.intro _ (And.intro (rfl : _ = some _) ?_); with_reducible conv => whnf) | (refine And.intro (okII _ _) ?_; rw [eqD_ii]; with_reducible conv => whnf) | (refine And.intro (by first | assumption | exact Exists.intro _ (by assumption) | exact ⟨rfl, rfl, by decide, by decide⟩ | exact Nat.le_of_ble_eq_true rfl | exact rfl) ?_; with_reducible conv => whnf) | (rw [isLst_at (by assumption)]; with_reducible conv => whnf) | (refine ifT rfl ?_; with_reducible conv => whnf) | (refine ifF rfl ?_; with_reducible conv => whnf) | (refine it_at (by assumption) ?_; with_reducible conv => whnf)))
    refine ⟨⟨by omega, by omega⟩, ?_⟩
    ((with_reducible conv => whnf); repeat (first | (rw [natD_len]; with_reducible conv => whnf) | (rw [intD_len]; with_reducible conv => whnf) | (refine Exists.intro _ (And.intro (rfl : _ = some _) ?_); with_reducible conv => whnf) | (refine And.intro (okII _ _) ?_; rw [eqD_ii]; with_reducible conv => whnf) | (refine And.intro (by first | assumption | exact Exists.intro _ (by assumption) | exact ⟨rfl, rfl, by decide, by decide⟩ | exact Nat.le_of_ble_eq_true rfl | exact rfl) ?_; with_reducible conv => whnf) | (rw [isLst_at (by assumption)]; with_reducible conv => whnf) | (refine ifT rfl ?_; with_reducible conv => whnf) | (refine ifF rfl ?_; with_reducible conv => whnf) | (refine it_at (by assumption) ?_; with_reducible conv => whnf)))
    refine ⟨⟨by omega, by omega⟩, ?_⟩
    ((with_reducible conv => whnf); repeat (first | (rw [natD_len]; with_reducible conv => whnf) | (rw [intD_len]; with_reducible conv => whnf) | (refine Exists.intro _ (And.intro (rfl : _ = some _) ?_); with_reducible conv => whnf) | (refine And.intro (okII _ _) ?_; rw [eqD_ii]; with_reducible conv => whnf) | (refine And.intro (by first | assumption | exact Exists.intro _ (by assumption) | exact ⟨rfl, rfl, by decide, by decide⟩ | exact Nat.le_of_ble_eq_true rfl | exact rfl) ?_; with_reducible conv => whnf) | (rw [isLst_at (by assumption)]; with_reducible conv => whnf) | (refine ifT rfl ?_; with_reducible conv => whnf) | (refine ifF rfl ?_; with_reducible conv => whnf) | (refine it_at (by assumption) ?_; with_reducible conv => whnf)))
    exact k
  · rw [if_neg hc] at k
    ((with_reducible conv => whnf); repeat (first | (rw [natD_len]; with_reducible conv => whnf) | (rw [intD_len]; with_reducible conv => whnf) | (refine Exists.intro _ (And.intro (rfl : _ = some _) ?_); with_reducible conv => whnf) | (refine And.intro (okII _ _) ?_; rw [eqD_ii]; with_reducible conv => whnf) | (refine And.intro (by first | assumption | exact Exists.intro _ (by assumption) | exact ⟨rfl, rfl, by decide, by decide⟩ | exact Nat.le_of_ble_eq_true rfl | exact rfl) ?_; with_reducible conv => whnf) | (rw [isLst_at (by assumption)]; with_reducible conv => whnf) | (refine ifT rfl ?_; with_reducible conv => whnf) | (refine ifF rfl ?_; with_reducible conv => whnf) | (refine it_at (by assumption) ?_; with_reducible conv => whnf)))
    refine ⟨⟨by omega, by omega⟩, ?_⟩
    ((with_reducible conv => whnf); repeat (first | (rw [natD_len]; with_reducible conv => whnf) | (rw [intD_len]; with_reducible conv => whnf) | (refine Exists.intro _ (And.intro (rfl : _ = some _) ?_); with_reducible conv => whnf) | (refine And.intro (okII _ _) ?_; rw [eqD_ii]; with_reducible conv => whnf) | (refine And.intro (by first | assumption | exact Exists.intro _ (by assumption) | exact ⟨rfl, rfl, by decide, by decide⟩ | exact Nat.le_of_ble_eq_true rfl | exact rfl) ?_; with_reducible conv => whnf) | (rw [isLst_at (by assumption)]; with_reducible conv => whnf) | (refine ifT rfl ?_; with_reducible conv => whnf) | (refine ifF rfl ?_; with_reducible conv => whnf) | (refine it_at (by assumption) ?_; with_reducible conv => whnf)))
    refine ⟨⟨by omega, by omega⟩, ?_⟩
    ((with_reducible conv => whnf); repeat (first | (rw [natD_len]; with_reducible conv => whnf) | (rw [intD_len]; with_reducible conv => whnf) | (refine Exists.intro _ (And.intro (rfl : _ = some _) ?_); with_reducible conv => whnf) | (refine And.intro (okII _ _) ?_; rw [eqD_ii]; with_reducible conv => whnf) | (refine And.intro (by first | assumption | exact Exists.intro _ (by assumption) | exact ⟨rfl, rfl, by decide, by decide⟩ | exact Nat.le_of_ble_eq_true rfl | exact rfl) ?_; with_reducible conv => whnf) | (rw [isLst_at (by assumption)]; with_reducible conv => whnf) | (refine ifT rfl ?_; with_reducible conv => whnf) | (refine ifF rfl ?_; with_reducible conv => whnf) | (refine it_at (by assumption) ?_; with_reducible conv => whnf)))
    exact k
@[reducible] def sp_q2 (f : Rat → Rat → Rat) : Spc := fun ds S Q => ∃ a b, ds = [qD a, qD b] ∧ sm a ∧ sm b ∧ ∀ S', Sub S S' → Q (qD (f a b)) S'
theorem sm_dd {a b : Rat} (ha : sm a) (hb : sm b) : (a.den : Int) * (b.den : Int) ≠ 0 ∧ ((a.den : Int) * (b.den : Int)).natAbs < 2 ^ 9000 := by
  refine ⟨Int.mul_ne_zero (by have := a.den_nz; omega) (by have := b.den_nz; omega), ?_⟩
  rw [Int.natAbs_mul, Int.natAbs_natCast, Int.natAbs_natCast]
  exact Nat.lt_of_lt_of_le (Nat.mul_lt_mul'' ha.1 hb.1) (by rw [← Nat.pow_add]; exact pow_le2 (by decide))
theorem sm_mn {a b : Rat} (ha : sm a) (hb : sm b) : MulOk a.num b.den := sm_mul (Nat.lt_of_lt_of_le ha.2 (pow_le2 (by decide))) (by rw [Int.natAbs_natCast]; exact Nat.lt_of_lt_of_le hb.1 (pow_le2 (by decide)))
theorem sm_nn {a b : Rat} (ha : sm a) (hb : sm b) : MulOk a.num b.num := sm_mul (Nat.lt_of_lt_of_le ha.2 (pow_le2 (by decide))) (Nat.lt_of_lt_of_le hb.2 (pow_le2 (by decide)))
theorem sm_mm {a b : Rat} (ha : sm a) (hb : sm b) : MulOk a.den b.den := sm_mul (by rw [Int.natAbs_natCast]; exact Nat.lt_of_lt_of_le ha.1 (pow_le2 (by decide))) (by rw [Int.natAbs_natCast]; exact Nat.lt_of_lt_of_le hb.1 (pow_le2 (by decide)))
theorem sm_nm {a b : Rat} (ha : sm a) (hb : sm b) : MulOk a.den b.num := sm_mul (by rw [Int.natAbs_natCast]; exact Nat.lt_of_lt_of_le ha.1 (pow_le2 (by decide))) (Nat.lt_of_lt_of_le hb.2 (pow_le2 (by decide)))
theorem body_plus : Body 2 2 (w_plus sp_ratio) (sp_q2 (· + ·)) := by
  rintro ds S Q _ ⟨a, b, rfl, ha, hb, k⟩
  unfold w_plus
  (simp only [start, List.map_cons, List.map_nil, List.length_cons, List.length_nil, Nat.reduceAdd, Nat.reduceSub, List.replicate_succ, List.replicate_zero, List.cons_append, List.nil_append, Nat.sub_self, Nat.zero_add])
  ((with_reducible conv => whnf); repeat (first | (rw [natD_len]; with_reducible conv => whnf) | (rw [intD_len]; with_reducible conv => whnf) | (refine Exists.intro _ (And.intro (rfl : _ = some _) ?_); with_reducible conv => whnf) | (refine And.intro (okII _ _) ?_; rw [eqD_ii]; with_reducible conv => whnf) | (refine And.intro (by first | assumption | exact Exists.intro _ (by assumption) | exact ⟨rfl, rfl, by decide, by decide⟩ | exact Nat.le_of_ble_eq_true rfl | exact rfl) ?_; with_reducible conv => whnf) | (rw [isLst_at (by assumption)]; with_reducible conv => whnf) | (refine ifT rfl ?_; with_reducible conv => whnf) | (refine ifF rfl ?_; with_reducible conv => whnf) | (refine it_at (by assumption) ?_; with_reducible conv => whnf)))
  refine ⟨sm_mn ha hb, ?_⟩
  ((with_reducible conv => whnf); repeat (first | (rw [natD_len]; with_reducible conv => whnf) | (rw [intD_len]; with_reducible conv => whnf) | (refine Exists.intro _ (And.intro (rfl : _ = some _) ?_); with_reducible conv => whnf) | (refine And.intro (okII _ _) ?_; rw [eqD_ii]; with_reducible conv => whnf) | (refine And.intro (by first | assumption | exact Exists.intro _ (by assumption) | exact ⟨rfl, rfl, by decide, by decide⟩ | exact Nat.le_of_ble_eq_true rfl | exact rfl) ?_; with_reducible conv => whnf) | (rw [isLst_at (by assumption)]; with_reducible conv => whnf) | (refine ifT rfl ?_; with_reducible conv => whnf) | (refine ifF rfl ?_; with_reducible conv => whnf) | (refine it_at (by assumption) ?_; with_reducible conv => whnf)))
  refine ⟨sm_mn hb ha, ?_⟩
  ((with_reducible conv => whnf); repeat (first | (rw [natD_len]; with_reducible conv => whnf) | (rw [intD_len]; with_reducible conv => whnf) | (refine Exists.intro _ (And.intro (rfl : _ = some _) ?_); with_reducible conv => whnf) | (refine And.intro (okII _ _) ?_; rw [eqD_ii]; with_reducible conv => whnf) | (refine And.intro (by first | assumption | exact Exists.intro _ (by assumption) | exact ⟨rfl, rfl, by decide, by decide⟩ | exact Nat.le_of_ble_eq_true rfl | exact rfl) ?_; with_reducible conv => whnf) | (rw [isLst_at (by assumption)]; with_reducible conv => whnf) | (refine ifT rfl ?_; with_reducible conv => whnf) | (refine ifF rfl ?_; with_reducible conv => whnf) | (refine it_at (by assumption) ?_; with_reducible conv => whnf)))
  refine ⟨sm_mm ha hb, ?_⟩
  ((with_reducible conv => whnf); repeat (first | (rw [natD_len]; with_reducible conv => whnf) | (rw [intD_len]; with_reducible conv => whnf) | (refine Exists.intro _ (And.intro (rfl : _ = some _) ?_); with_reducible conv => whnf) | (refine And.intro (okII _ _) ?_; rw [eqD_ii]; with_reducible conv => whnf) | (refine And.intro (by first | assumption | exact Exists.intro _ (by assumption) | exact ⟨rfl, rfl, by decide, by decide⟩ | exact Nat.le_of_ble_eq_true rfl | exact rfl) ?_; with_reducible conv => whnf) | (rw [isLst_at (by assumption)]; with_reducible conv => whnf) | (refine ifT rfl ?_; with_reducible conv => whnf) | (refine ifF rfl ?_; with_reducible conv => whnf) | (refine it_at (by assumption) ?_; with_reducible conv => whnf)))
  obtain ⟨h1, h2⟩ := sm_dd ha hb
  refine ⟨_, _, rfl, h1, h2, fun S' h => ?_⟩
  rw [q_plus]
  exact k S' h
theorem body_minus : Body 2 2 (w_minus sp_ratio) (sp_q2 (· - ·)) := by
  rintro ds S Q _ ⟨a, b, rfl, ha, hb, k⟩
  unfold w_minus
  (simp only [start, List.map_cons, List.map_nil, List.length_cons, List.length_nil, Nat.reduceAdd, Nat.reduceSub, List.replicate_succ, List.replicate_zero, List.cons_append, List.nil_append, Nat.sub_self, Nat.zero_add])
  ((with_reducible conv => whnf); repeat (first | (rw [natD_len]; with_reducible conv => whnf) | (rw [intD_len]; with_reducible conv => whnf) | (refine Exists.intro _ (And.intro (rfl : _ = some _) ?_); with_reducible conv => whnf) | (refine And.intro (okII _ _) ?_; rw [eqD_ii]; with_reducible conv => whnf) | (refine And.intro (by first | assumption | exact Exists.intro _ (by assumption) | exact ⟨rfl, rfl, by decide, by decide⟩ | exact Nat.le_of_ble_eq_true rfl | exact rfl) ?_; with_reducible conv => whnf) | (rw [isLst_at (by assumption)]; with_reducible conv => whnf) | (refine ifT rfl ?_; with_reducible conv => whnf) | (refine ifF rfl ?_; with_reducible conv => whnf) | (refine it_at (by assumption) ?_; with_reducible conv => whnf)))
  refine ⟨sm_mn ha hb, ?_⟩
  ((with_reducible conv => whnf); repeat (first | (rw [natD_len]; with_reducible conv => whnf) | (rw [intD_len]; with_reducible conv => whnf) | (refine Exists.intro _ (And.intro (rfl : _ = some _) ?_); with_reducible conv => whnf) | (refine And.intro (okII _ _) ?_; rw [eqD_ii]; with_reducible conv => whnf) | (refine And.intro (by first | assumption | exact Exists.intro _ (by assumption) | exact ⟨rfl, rfl, by decide, by decide⟩ | exact Nat.le_of_ble_eq_true rfl | exact rfl) ?_; with_reducible conv => whnf) | (rw [isLst_at (by assumption)]; with_reducible conv => whnf) | (refine ifT rfl ?_; with_reducible conv => whnf) | (refine ifF rfl ?_; with_reducible conv => whnf) | (refine it_at (by assumption) ?_; with_reducible conv => whnf)))
  refine ⟨sm_mn hb ha, ?_⟩
  ((with_reducible conv => whnf); repeat (first | (rw [natD_len]; with_reducible conv => whnf) | (rw [intD_len]; with_reducible conv => whnf) | (refine Exists.intro _ (And.intro (rfl : _ = some _) ?_); with_reducible conv => whnf) | (refine And.intro (okII _ _) ?_; rw [eqD_ii]; with_reducible conv => whnf) | (refine And.intro (by first | assumption | exact Exists.intro _ (by assumption) | exact ⟨rfl, rfl, by decide, by decide⟩ | exact Nat.le_of_ble_eq_true rfl | exact rfl) ?_; with_reducible conv => whnf) | (rw [isLst_at (by assumption)]; with_reducible conv => whnf) | (refine ifT rfl ?_; with_reducible conv => whnf) | (refine ifF rfl ?_; with_reducible conv => whnf) | (refine it_at (by assumption) ?_; with_reducible conv => whnf)))
  refine ⟨sm_mm ha hb, ?_⟩
  ((with_reducible conv => whnf); repeat (first | (rw [natD_len]; with_reducible conv => whnf) | (rw [intD_len]; with_reducible conv => whnf) | (refine Exists.intro _ (And.intro (rfl : _ = some _) ?_); with_reducible conv => whnf) | (refine And.intro (okII _ _) ?_; rw [eqD_ii]; with_reducible conv => whnf) | (refine And.intro (by first | assumption | exact Exists.intro _ (by assumption) | exact ⟨rfl, rfl, by decide, by decide⟩ | exact Nat.le_of_ble_eq_true rfl | exact rfl) ?_; with_reducible conv => whnf) | (rw [isLst_at (by assumption)]; with_reducible conv => whnf) | (refine ifT rfl ?_; with_reducible conv => whnf) | (refine ifF rfl ?_; with_reducible conv => whnf) | (refine it_at (by assumption) ?_; with_reducible conv => whnf)))
  obtain ⟨h1, h2⟩ := sm_dd ha hb
  refine ⟨_, _, rfl, h1, h2, fun S' h => ?_⟩
  rw [q_minus]
  exact k S' h
theorem body_times : Body 2 2 (w_times sp_ratio) (sp_q2 (· * ·)) := by
  rintro ds S Q _ ⟨a, b, rfl, ha, hb, k⟩
  unfold w_times
  (simp only [start, List.map_cons, List.map_nil, List.length_cons, List.length_nil, Nat.reduceAdd, Nat.reduceSub, List.replicate_succ, List.replicate_zero, List.cons_append, List.nil_append, Nat.sub_self, Nat.zero_add])
  ((with_reducible conv => whnf); repeat (first | (rw [natD_len]; with_reducible conv => whnf) | (rw [intD_len]; with_reducible conv => whnf) | (refine Exists.intro _ (And.intro (rfl : _ = some _) ?_); with_reducible conv => whnf) | (refine And.intro (okII _ _) ?_; rw [eqD_ii]; with_reducible conv => whnf) | (refine And.intro (by first | assumption | exact Exists.intro _ (by assumption) | exact ⟨rfl, rfl, by decide, by decide⟩ | exact Nat.le_of_ble_eq_true rfl | exact rfl) ?_; with_reducible conv => whnf) | (rw [isLst_at (by assumption)]; with_reducible conv => whnf) | (refine ifT rfl ?_; with_reducible conv => whnf) | (refine ifF rfl ?_; with_reducible conv => whnf) | (refine it_at (by assumption) ?_; with_reducible conv => whnf)))
  refine ⟨sm_nn ha hb, ?_⟩
  ((with_reducible conv => whnf); repeat (first | (rw [natD_len]; with_reducible conv => whnf) | (rw [intD_len]; with_reducible conv => whnf) | (refine Exists.intro _ (And.intro (rfl : _ = some _) ?_); with_reducible conv => whnf) | (refine And.intro (okII _ _) ?_; rw [eqD_ii]; with_reducible conv => whnf) | (refine And.intro (by first | assumption | exact Exists.intro _ (by assumption) | exact ⟨rfl, rfl, by decide, by decide⟩ | exact Nat.le_of_ble_eq_true rfl | exact rfl) ?_; with_reducible conv => whnf) | (rw [isLst_at (by assumption)]; with_reducible conv => whnf) | (refine ifT rfl ?_; with_reducible conv => whnf) | (refine ifF rfl ?_; with_reducible conv => whnf) | (refine it_at (by assumption) ?_; with_reducible conv => whnf)))
  refine ⟨sm_mm ha hb, ?_⟩
  ((with_reducible conv => whnf); repeat (first | (rw [natD_len]; with_reducible conv => whnf) | (rw [intD_len]; with_reducible conv => whnf) | (refine Exists.intro _ (And.intro (rfl : _ = some _) ?_); with_reducible conv => whnf) | (refine And.intro (okII _ _) ?_; rw [eqD_ii]; with_reducible conv => whnf) | (refine And.intro (by first | assumption | exact Exists.intro _ (by assumption) | exact ⟨rfl, rfl, by decide, by decide⟩ | exact Nat.le_of_ble_eq_true rfl | exact rfl) ?_; with_reducible conv => whnf) | (rw [isLst_at (by assumption)]; with_reducible conv => whnf) | (refine ifT rfl ?_; with_reducible conv => whnf) | (refine ifF rfl ?_; with_reducible conv => whnf) | (refine it_at (by assumption) ?_; with_reducible conv => whnf)))
  obtain ⟨h1, h2⟩ := sm_dd ha hb
  refine ⟨_, _, rfl, h1, h2, fun S' h => ?_⟩
  rw [q_times]
  exact k S' h
@[reducible] def sp_over : Spc := fun ds S Q => ∃ a b, ds = [qD a, qD b] ∧ sm a ∧ sm b ∧ b.num ≠ 0 ∧ ∀ S', Sub S S' → Q (qD (a / b)) S'
theorem body_divided : Body 2 2 (w_divided sp_ratio) sp_over := by
  rintro ds S Q _ ⟨a, b, rfl, ha, hb, hb0, k⟩
  unfold w_divided
  (simp only [start, List.map_cons, List.map_nil, List.length_cons, List.length_nil, Nat.reduceAdd, Nat.reduceSub, List.replicate_succ, List.replicate_zero, List.cons_append, List.nil_append, Nat.sub_self, Nat.zero_add])
  ((with_reducible conv => whnf); repeat (first | (rw [natD_len]; with_reducible conv => whnf) | (rw [intD_len]; with_reducible conv => whnf) | (refine Exists.intro _ (And.intro (rfl : _ = some _) ?_); with_reducible conv => whnf) | (refine And.intro (okII _ _) ?_; rw [eqD_ii]; with_reducible conv => whnf) | (refine And.intro (by first | assumption | exact Exists.intro _ (by assumption) | exact ⟨rfl, rfl, by decide, by decide⟩ | exact Nat.le_of_ble_eq_true rfl | exact rfl) ?_; with_reducible conv => whnf) | (rw [isLst_at (by assumption)]; with_reducible conv => whnf) | (refine ifT rfl ?_; with_reducible conv => whnf) | (refine ifF rfl ?_; with_reducible conv => whnf) | (refine it_at (by assumption) ?_; with_reducible conv => whnf)))
  refine ⟨sm_mn ha hb, ?_⟩
  ((with_reducible conv => whnf); repeat (first | (rw [natD_len]; with_reducible conv => whnf) | (rw [intD_len]; with_reducible conv => whnf) | (refine Exists.intro _ (And.intro (rfl : _ = some _) ?_); with_reducible conv => whnf) | (refine And.intro (okII _ _) ?_; rw [eqD_ii]; with_reducible conv => whnf) | (refine And.intro (by first | assumption | exact Exists.intro _ (by assumption) | exact ⟨rfl, rfl, by decide, by decide⟩ | exact Nat.le_of_ble_eq_true rfl | exact rfl) ?_; with_reducible conv => whnf) | (rw [isLst_at (by assumption)]; with_reducible conv => whnf) | (refine ifT rfl ?_; with_reducible conv => whnf) | (refine ifF rfl ?_; with_reducible conv => whnf) | (refine it_at (by assumption) ?_; with_reducible conv => whnf)))
  refine ⟨sm_nm ha hb, ?_⟩
  ((with_reducible conv => whnf); repeat (first | (rw [natD_len]; with_reducible conv => whnf) | (rw [intD_len]; with_reducible conv => whnf) | (refine Exists.intro _ (And.intro (rfl : _ = some _) ?_); with_reducible conv => whnf) | (refine And.intro (okII _ _) ?_; rw [eqD_ii]; with_reducible conv => whnf) | (refine And.intro (by first | assumption | exact Exists.intro _ (by assumption) | exact ⟨rfl, rfl, by decide, by decide⟩ | exact Nat.le_of_ble_eq_true rfl | exact rfl) ?_; with_reducible conv => whnf) | (rw [isLst_at (by assumption)]; with_reducible conv => whnf) | (refine ifT rfl ?_; with_reducible conv => whnf) | (refine ifF rfl ?_; with_reducible conv => whnf) | (refine it_at (by assumption) ?_; with_reducible conv => whnf)))
  refine ⟨_, _, rfl, Int.mul_ne_zero (by have := a.den_nz; omega) hb0, ?_, fun S' h => ?_⟩
  · rw [Int.natAbs_mul, Int.natAbs_natCast]
    exact Nat.lt_of_lt_of_le (Nat.mul_lt_mul'' ha.1 hb.2) (by rw [← Nat.pow_add]; exact pow_le2 (by decide))
  · rw [q_over]
    exact k S' h
@[reducible] def sp_less : Spc := fun ds S Q => ∃ a b, ds = [qD a, qD b] ∧ sm a ∧ sm b ∧ ∀ S', Sub S S' → Q (.bl (decide (a < b))) S'
theorem body_is_less : Body 2 2 w_is_less sp_less := by
  rintro ds S Q _ ⟨a, b, rfl, ha, hb, k⟩
  unfold w_is_less
  (simp only [start, List.map_cons, List.map_nil, List.length_cons, List.length_nil, Nat.reduceAdd, Nat.reduceSub, List.replicate_succ, List.replicate_zero, List.cons_append, List.nil_append, Nat.sub_self, Nat.zero_add])
  ((with_reducible conv => whnf); repeat (first | (rw [natD_len]; with_reducible conv => whnf) | (rw [intD_len]; with_reducible conv => whnf) | (refine Exists.intro _ (And.intro (rfl : _ = some _) ?_); with_reducible conv => whnf) | (refine And.intro (okII _ _) ?_; rw [eqD_ii]; with_reducible conv => whnf) | (refine And.intro (by first | assumption | exact Exists.intro _ (by assumption) | exact ⟨rfl, rfl, by decide, by decide⟩ | exact Nat.le_of_ble_eq_true rfl | exact rfl) ?_; with_reducible conv => whnf) | (rw [isLst_at (by assumption)]; with_reducible conv => whnf) | (refine ifT rfl ?_; with_reducible conv => whnf) | (refine ifF rfl ?_; with_reducible conv => whnf) | (refine it_at (by assumption) ?_; with_reducible conv => whnf)))
  refine ⟨sm_mn ha hb, ?_⟩
  ((with_reducible conv => whnf); repeat (first | (rw [natD_len]; with_reducible conv => whnf) | (rw [intD_len]; with_reducible conv => whnf) | (refine Exists.intro _ (And.intro (rfl : _ = some _) ?_); with_reducible conv => whnf) | (refine And.intro (okII _ _) ?_; rw [eqD_ii]; with_reducible conv => whnf) | (refine And.intro (by first | assumption | exact Exists.intro _ (by assumption) | exact ⟨rfl, rfl, by decide, by decide⟩ | exact Nat.le_of_ble_eq_true rfl | exact rfl) ?_; with_reducible conv => whnf) | (rw [isLst_at (by assumption)]; with_reducible conv => whnf) | (refine ifT rfl ?_; with_reducible conv => whnf) | (refine ifF rfl ?_; with_reducible conv => whnf) | (refine it_at (by assumption) ?_; with_reducible conv => whnf)))
  refine ⟨sm_mn hb ha, ?_⟩
  ((with_reducible conv => whnf); repeat (first | (rw [natD_len]; with_reducible conv => whnf) | (rw [intD_len]; with_reducible conv => whnf) | (refine Exists.intro _ (And.intro (rfl : _ = some _) ?_); with_reducible conv => whnf) | (refine And.intro (okII _ _) ?_; rw [eqD_ii]; with_reducible conv => whnf) | (refine And.intro (by first | assumption | exact Exists.intro _ (by assumption) | exact ⟨rfl, rfl, by decide, by decide⟩ | exact Nat.le_of_ble_eq_true rfl | exact rfl) ?_; with_reducible conv => whnf) | (rw [isLst_at (by assumption)]; with_reducible conv => whnf) | (refine ifT rfl ?_; with_reducible conv => whnf) | (refine ifF rfl ?_; with_reducible conv => whnf) | (refine it_at (by assumption) ?_; with_reducible conv => whnf)))
  have k := k S (Sub.refl _)
  rw [← q_lt] at k
  exact k
/-! the law's own -/
theorem body_law_divisor : Body 2 2 w_law_divisor sp_gcd := by
  rintro ds S Q _ ⟨n, d, rfl, k⟩
  unfold w_law_divisor
  (simp only [start, List.map_cons, List.map_nil, List.length_cons, List.length_nil, Nat.reduceAdd, Nat.reduceSub, List.replicate_succ, List.replicate_zero, List.cons_append, List.nil_append, Nat.sub_self, Nat.zero_add])
  ((with_reducible conv => whnf); repeat (first | (rw [natD_len]; with_reducible conv => whnf) | (rw [intD_len]; with_reducible conv => whnf) | (refine Exists.intro _ (And.intro (rfl : _ = some _) ?_); with_reducible conv => whnf) | (refine And.intro (okII _ _) ?_; rw [eqD_ii]; with_reducible conv => whnf) | (refine And.intro (by first | assumption | exact Exists.intro _ (by assumption) | exact ⟨rfl, rfl, by decide, by decide⟩ | exact Nat.le_of_ble_eq_true rfl | exact rfl) ?_; with_reducible conv => whnf) | (rw [isLst_at (by assumption)]; with_reducible conv => whnf) | (refine ifT rfl ?_; with_reducible conv => whnf) | (refine ifF rfl ?_; with_reducible conv => whnf) | (refine it_at (by assumption) ?_; with_reducible conv => whnf)))
  refine ⟨fun m ρ S' => ∃ a b : Nat, ρ = [some (.int a), some (.int b)] ∧ m = b ∧ Nat.gcd a b = Nat.gcd n.natAbs d.natAbs ∧ S' = S, ⟨_, _, _, rfl, rfl, rfl, rfl⟩, ?_⟩
  rintro m ρ S' ⟨a, b, rfl, rfl, hg, rfl⟩
  ((with_reducible conv => whnf); repeat (first | (rw [natD_len]; with_reducible conv => whnf) | (rw [intD_len]; with_reducible conv => whnf) | (refine Exists.intro _ (And.intro (rfl : _ = some _) ?_); with_reducible conv => whnf) | (refine And.intro (okII _ _) ?_; rw [eqD_ii]; with_reducible conv => whnf) | (refine And.intro (by first | assumption | exact Exists.intro _ (by assumption) | exact ⟨rfl, rfl, by decide, by decide⟩ | exact Nat.le_of_ble_eq_true rfl | exact rfl) ?_; with_reducible conv => whnf) | (rw [isLst_at (by assumption)]; with_reducible conv => whnf) | (refine ifT rfl ?_; with_reducible conv => whnf) | (refine ifF rfl ?_; with_reducible conv => whnf) | (refine it_at (by assumption) ?_; with_reducible conv => whnf)))
  by_cases hm : m = 0
  · subst hm
    refine ifF (by simp) ?_
    ((with_reducible conv => whnf); repeat (first | (rw [natD_len]; with_reducible conv => whnf) | (rw [intD_len]; with_reducible conv => whnf) | (refine Exists.intro _ (And.intro (rfl : _ = some _) ?_); with_reducible conv => whnf) | (refine And.intro (okII _ _) ?_; rw [eqD_ii]; with_reducible conv => whnf) | (refine And.intro (by first | assumption | exact Exists.intro _ (by assumption) | exact ⟨rfl, rfl, by decide, by decide⟩ | exact Nat.le_of_ble_eq_true rfl | exact rfl) ?_; with_reducible conv => whnf) | (rw [isLst_at (by assumption)]; with_reducible conv => whnf) | (refine ifT rfl ?_; with_reducible conv => whnf) | (refine ifF rfl ?_; with_reducible conv => whnf) | (refine it_at (by assumption) ?_; with_reducible conv => whnf)))
    have := k S' (Sub.refl _)
    rw [← hg, Nat.gcd_zero_right] at this
    exact this
  · refine ifT (by simp; omega) ?_
    ((with_reducible conv => whnf); repeat (first | (rw [natD_len]; with_reducible conv => whnf) | (rw [intD_len]; with_reducible conv => whnf) | (refine Exists.intro _ (And.intro (rfl : _ = some _) ?_); with_reducible conv => whnf) | (refine And.intro (okII _ _) ?_; rw [eqD_ii]; with_reducible conv => whnf) | (refine And.intro (by first | assumption | exact Exists.intro _ (by assumption) | exact ⟨rfl, rfl, by decide, by decide⟩ | exact Nat.le_of_ble_eq_true rfl | exact rfl) ?_; with_reducible conv => whnf) | (rw [isLst_at (by assumption)]; with_reducible conv => whnf) | (refine ifT rfl ?_; with_reducible conv => whnf) | (refine ifF rfl ?_; with_reducible conv => whnf) | (refine it_at (by assumption) ?_; with_reducible conv => whnf)))
    refine ⟨by omega, ?_⟩
    have e : (a : Int).fmod (m : Int) = ((a % m : Nat) : Int) := by
      rw [Int.fmod_eq_emod_of_nonneg _ (by omega), Int.natCast_emod]
    rw [e]
    ((with_reducible conv => whnf); repeat (first | (rw [natD_len]; with_reducible conv => whnf) | (rw [intD_len]; with_reducible conv => whnf) | (refine Exists.intro _ (And.intro (rfl : _ = some _) ?_); with_reducible conv => whnf) | (refine And.intro (okII _ _) ?_; rw [eqD_ii]; with_reducible conv => whnf) | (refine And.intro (by first | assumption | exact Exists.intro _ (by assumption) | exact ⟨rfl, rfl, by decide, by decide⟩ | exact Nat.le_of_ble_eq_true rfl | exact rfl) ?_; with_reducible conv => whnf) | (rw [isLst_at (by assumption)]; with_reducible conv => whnf) | (refine ifT rfl ?_; with_reducible conv => whnf) | (refine ifF rfl ?_; with_reducible conv => whnf) | (refine it_at (by assumption) ?_; with_reducible conv => whnf)))
    refine ⟨a % m, Nat.mod_lt _ (by omega), m, a % m, rfl, rfl, ?_, rfl⟩
    rw [← hg, Nat.gcd_comm a m, Nat.gcd_rec m a, Nat.gcd_comm]
theorem body_law_ratio : Body 3 2 (w_law_ratio sp_gcd) sp_ratio := by
  rintro ds S Q h1 h2
  exact body_fraction ds S Q h1 h2
theorem body_law_plus : Body 2 2 (w_law_plus sp_ratio) (sp_q2 (· + ·)) := body_plus
theorem body_law_minus : Body 2 2 (w_law_minus sp_ratio) (sp_q2 (· - ·)) := body_minus
theorem body_law_times : Body 2 2 (w_law_times sp_ratio) (sp_q2 (· * ·)) := body_times
theorem body_law_over : Body 2 2 (w_law_over sp_ratio) sp_over := body_divided
theorem body_law_less : Body 2 2 w_law_less sp_less := body_is_less
end K93
set_option linter.all false
set_option maxRecDepth 100000
set_option maxHeartbeats 4000000
namespace K93
open DL
/-! sizes -/
def cX : Rat := ((2 ^ 300 : Nat) : Rat)
def big : Rat := ((2 ^ 400 : Nat) : Rat)
theorem cX_1 : 1 ≤ cX := by
  unfold cX
  exact_mod_cast (by decide : 1 ≤ 2 ^ 300)
theorem cX_big : 1000000 * cX ≤ big := by
  unfold cX big
  exact_mod_cast (by decide : 1000000 * 2 ^ 300 ≤ 2 ^ 400)
structure OkX (xs : List Int) : Prop where
  pos : 0 < xs.length
  le : xs.length ≤ 40
  lo : ∀ x ∈ xs, -cX ≤ (x : Rat)
  hi : ∀ x ∈ xs, (x : Rat) ≤ cX
structure OkP (p : Rat) : Prop where
  pos : 0 < p
  le : p ≤ cX
  den : p.den ≤ 1024
theorem smB {P : Nat} {q : Rat} (h : Ov P q) (h0 : 0 < P) (hP : P ≤ 2 ^ 1500) (l : -big ≤ q) (u : q ≤ big) : sm q :=
  sm_of (M := 2 ^ 400) h h0 l u (Nat.lt_of_le_of_lt hP (Nat.pow_lt_pow_right (by decide) (by decide))) (Nat.lt_of_le_of_lt (Nat.mul_le_mul_left _ hP) (by rw [← Nat.pow_add]; exact Nat.pow_lt_pow_right (by decide) (by decide)))
theorem sm_int {i : Int} (l : -big ≤ (i : Rat)) (u : (i : Rat) ≤ big) : sm (i : Rat) := smB (Ov_int 1 i) (by decide) (Nat.one_le_two_pow) l u
theorem OkP.sm {p : Rat} (h : OkP p) : DL.sm p := smB (Ov_self p) p.den_pos (Nat.le_trans h.den (pow_le2 (a := 10) (by decide))) (by have := h.pos; have := cX_1; have := cX_big; grind) (by have := h.le; have := cX_1; have := cX_big; grind)
theorem len40 {n : Nat} (h : n ≤ 40) : (n : Rat) ≤ 40 := by exact_mod_cast h
theorem sum_bd : ∀ {l : List Int}, (∀ x ∈ l, -cX ≤ (x : Rat)) → (∀ x ∈ l, (x : Rat) ≤ cX) → -((l.length : Rat) * cX) ≤ ((l.sum : Int) : Rat) ∧ ((l.sum : Int) : Rat) ≤ (l.length : Rat) * cX
  | [], _, _ => by
    show -(((0 : Nat) : Rat) * cX) ≤ ((0 : Int) : Rat) ∧ ((0 : Int) : Rat) ≤ ((0 : Nat) : Rat) * cX
    rw [show ((0 : Nat) : Rat) = 0 from rfl, show ((0 : Int) : Rat) = 0 from rfl]
    grind
  | x :: l, h1, h2 => by
    have ih := sum_bd (l := l) (fun y hy => h1 y (List.mem_cons_of_mem _ hy)) fun y hy => h2 y (List.mem_cons_of_mem _ hy)
    have a := h1 x List.mem_cons_self
    have b := h2 x List.mem_cons_self
    rw [sum_cons, len_cons]
    grind
theorem sQ_bd {R r : Rat} (r1 : -R ≤ r) (r2 : r ≤ R) : ∀ {l : List Int}, (∀ x ∈ l, -R ≤ (x : Rat)) → (∀ x ∈ l, (x : Rat) ≤ R) → -((l.length : Rat) * R) ≤ sQ l r ∧ sQ l r ≤ (l.length : Rat) * R
  | [], _, _ => by
    show -(((0 : Nat) : Rat) * R) ≤ 0 ∧ 0 ≤ ((0 : Nat) : Rat) * R
    rw [show ((0 : Nat) : Rat) = 0 from rfl]
    grind
  | x :: l, h1, h2 => by
    have ih := sQ_bd r1 r2 (l := l) (fun y hy => h1 y (List.mem_cons_of_mem _ hy)) fun y hy => h2 y (List.mem_cons_of_mem _ hy)
    have a := h1 x List.mem_cons_self
    have b := h2 x List.mem_cons_self
    have c := mxQ_l (x : Rat) r
    have d := mxQ_le b r2
    rw [len_cons]
    show -_ ≤ mxQ x r + sQ l r ∧ mxQ x r + sQ l r ≤ _
    grind
theorem nX {n : Nat} (h : n ≤ 40) : (n : Rat) * cX ≤ 40 * cX := Rat.mul_le_mul_of_nonneg_right (len40 h) (by have := cX_1; grind)
theorem div_bd {q k a M : Rat} (h : q * k = a) (hk : 1 ≤ k) (hM : 0 ≤ M) (l : -M ≤ a) (u : a ≤ M) : -M ≤ q ∧ q ≤ M := by
  constructor
  · false_or_by_contra
    rename_i hc
    have h1 : q < -M := by grind
    have h2 := Rat.mul_le_mul_of_nonneg_left (a := 1) (b := k) (c := -q) hk (by grind)
    grind
  · false_or_by_contra
    rename_i hc
    have h1 : M < q := by grind
    have h2 := Rat.mul_le_mul_of_nonneg_left (a := 1) (b := k) (c := q) hk (by grind)
    grind
theorem one_le {k : Nat} (h : 0 < k) : (1 : Rat) ≤ (k : Rat) := by exact_mod_cast h
theorem OkX.np {xs : List Int} {p : Rat} (hx : xs.length ≤ 40) (hp : OkP p) : 0 ≤ (xs.length : Rat) * p ∧ (xs.length : Rat) * p ≤ 40 * cX := by
  have h0 : (0 : Rat) ≤ (xs.length : Rat) := nn
  have := hp.pos
  have := hp.le
  have a := Rat.mul_le_mul_of_nonneg_left (a := p) (b := cX) (c := (xs.length : Rat)) hp.le h0
  have b := nX hx
  have c := Rat.mul_nonneg h0 (show 0 ≤ p by grind)
  grind
theorem take_bd {xs : List Int} (h : OkX xs) (k : Nat) : -(40 * cX) ≤ (((xs.take k).sum : Int) : Rat) ∧ (((xs.take k).sum : Int) : Rat) ≤ 40 * cX := by
  have a := sum_bd (l := xs.take k) (fun x hx => h.lo x (List.mem_of_mem_take hx)) fun x hx => h.hi x (List.mem_of_mem_take hx)
  have b := nX (n := (xs.take k).length) (by rw [List.length_take]; have := h.le; omega)
  grind
theorem bd_bd {ys : List Int} {p : Rat} (h : OkX ys) (hp : OkP p) {k : Nat} (hk : 0 < k) : -(80 * cX) ≤ bd ys p k ∧ bd ys p k ≤ 80 * cX := by
  have a := take_bd h k
  have b := OkX.np h.le hp
  have := cX_1
  exact div_bd (bd_mul hk) (one_le hk) (by grind) (by grind) (by grind)
theorem bd_ov (ys : List Int) (p : Rat) {k : Nat} (hk : 0 < k) : Ov (1 * p.den * k) (bd ys p k) := by
  unfold bd
  refine Ov.over (Ov.sub (Ov_int _ _) ?_) (by omega)
  exact Ov.mul (Ov_int 1 (ys.length : Int)) (Ov_self p)
theorem bd_sm {ys : List Int} {p : Rat} (h : OkX ys) (hp : OkP p) {k : Nat} (hk : 0 < k) (hk2 : k ≤ 40) : sm (bd ys p k) := by
  have a := bd_bd h hp hk
  have := cX_big
  have := cX_1
  refine smB (bd_ov ys p hk) (Nat.mul_pos (by have := p.den_pos; omega) hk) ?_ (by grind) (by grind)
  have := hp.den
  have h2 : 1 * p.den * k ≤ 1024 * 40 := Nat.mul_le_mul (by omega) hk2
  exact Nat.le_trans h2 (Nat.le_trans (by decide : 1024 * 40 ≤ 2 ^ 20) (pow_le2 (by decide)))
/-! descending -/
def Desc (ys : List Int) : Prop := ys.Pairwise fun a b => b ≤ a
theorem stop_isB {ys : List Int} {p : Rat} {k : Nat} {x : Int} (hd : Desc ys) (hx : ys[k]? = some x) (h1 : bd ys p (k + 1) < (x : Rat)) (h2 : ∀ y, ys[k + 1]? = some y → (y : Rat) ≤ bd ys p (k + 1)) : IsB ys p (bd ys p (k + 1)) := by
  obtain ⟨hk, ex⟩ := List.getElem?_eq_some_iff.mp hx
  refine IsB.of (by omega) (by omega) (fun y hy => ?_) fun y hy => ?_
  · obtain ⟨j, hj, rfl⟩ := List.mem_take_iff_getElem.mp hy
    have : x ≤ ys[j] := by
      rcases Nat.lt_or_ge j k with c | c
      · have := List.pairwise_iff_getElem.mp hd j k (by omega) hk c
        rw [ex] at this
        exact this
      · have : j = k := by omega
        subst this
        rw [ex]
        exact Int.le_refl _
    have := Rat.intCast_le_intCast.mpr this
    grind
  · obtain ⟨j, hj, rfl⟩ := List.mem_drop_iff_getElem.mp hy
    have hn : k + 1 < ys.length := by omega
    have h3 := h2 _ (List.getElem?_eq_getElem hn)
    have : ys[k + 1 + j] ≤ ys[k + 1] := by
      rcases Nat.eq_zero_or_pos j with c | c
      · subst c; exact Int.le_refl _
      · exact List.pairwise_iff_getElem.mp hd (k + 1) (k + 1 + j) hn (by omega) (by omega)
    have := Rat.intCast_le_intCast.mpr this
    grind
theorem stop_from {ys : List Int} {p : Rat} (hd : Desc ys) : ∀ (m k : Nat) (x : Int), ys.length = k + 1 + m → ys[k]? = some x → bd ys p (k + 1) < (x : Rat) → ∃ j, 0 < j ∧ j ≤ ys.length ∧ IsB ys p (bd ys p j)
  | 0, k, x, hl, hx, h => ⟨k + 1, by omega, by omega, stop_isB hd hx h fun y hy => by
      have := (List.getElem?_eq_some_iff.mp hy).1
      omega⟩
  | m + 1, k, x, hl, hx, h => by
    have hn : k + 1 < ys.length := by omega
    by_cases c : (ys[k + 1] : Rat) ≤ bd ys p (k + 1)
    · exact ⟨k + 1, by omega, by omega, stop_isB hd hx h fun y hy => by
        rw [List.getElem?_eq_getElem hn] at hy
        rw [← Option.some.inj hy]
        exact c⟩
    · exact stop_from hd m (k + 1) ys[k + 1] (by omega) (List.getElem?_eq_getElem hn) (bd_next (by omega) (List.getElem?_eq_getElem hn) (by grind))
theorem stop_some {ys : List Int} {p : Rat} (hd : Desc ys) (hn : 0 < ys.length) (hp : 0 < p) : ∃ j, 0 < j ∧ j ≤ ys.length ∧ IsB ys p (bd ys p j) :=
  stop_from hd (ys.length - 1) 0 ys[0] (by omega) (List.getElem?_eq_getElem hn) (bd_one hp (List.getElem?_eq_getElem hn))
/-- the bound and its size -/
structure GoodB (xs : List Int) (p B : Rat) : Prop where
  is : IsB xs p B
  sm : sm B
  lo : -(80 * cX) ≤ B
  hi : B ≤ 80 * cX
  den : B.den ≤ 2 ^ 60
theorem OkX.perm {xs ys : List Int} (h : OkX xs) (hp : ys.Perm xs) : OkX ys := ⟨by rw [hp.length_eq]; exact h.pos, by rw [hp.length_eq]; exact h.le, fun x hx => h.lo x (hp.mem_iff.mp hx), fun x hx => h.hi x (hp.mem_iff.mp hx)⟩
theorem good_of {xs ys : List Int} {p : Rat} (h : OkX xs) (hp : OkP p) (hpm : ys.Perm xs) {j : Nat} (h0 : 0 < j) (h1 : j ≤ ys.length) (hB : IsB ys p (bd ys p j)) : GoodB xs p (bd ys p j) := by
  have hy := h.perm hpm
  have a := bd_bd hy hp h0
  have hj : j ≤ 40 := by have := hy.le; omega
  refine ⟨hB.perm hpm, bd_sm hy hp h0 hj, a.1, a.2, ?_⟩
  have h2 : 1 * p.den * j ≤ 1024 * 40 := Nat.mul_le_mul (by have := hp.den; omega) hj
  exact Nat.le_trans (Nat.le_of_dvd (Nat.mul_pos (by have := p.den_pos; omega) h0) (bd_ov ys p h0)) (Nat.le_trans h2 (by decide))
theorem GoodB.one {xs : List Int} {p B B' : Rat} (h : OkX xs) (hp : OkP p) (a : GoodB xs p B) (b : GoodB xs p B') : B = B' := a.is.one h.pos hp.pos b.is
@[reducible] def sp_bound : Spc := fun ds S Q => ∃ xs p, ds = [.tup (intD xs), qD p] ∧ OkX xs ∧ OkP p ∧ ∀ B S', GoodB xs p B → Sub S S' → Q (qD B) S'
theorem desc_rev {ms : List Int} (h : ms.Pairwise (· ≤ ·)) : Desc ms.reverse := by
  unfold Desc
  rw [List.pairwise_reverse]
  exact h
theorem body_bound_of : Body 7 2 (w_bound_of (sp_q2 (· * ·)) (sp_q2 (· - ·)) sp_over sp_less) sp_bound := by
  rintro ds S Q _ ⟨xs, p, rfl, hX, hP, k⟩
  unfold w_bound_of
  (simp only [start, List.map_cons, List.map_nil, List.length_cons, List.length_nil, Nat.reduceAdd, Nat.reduceSub, List.replicate_succ, List.replicate_zero, List.cons_append, List.nil_append, Nat.sub_self, Nat.zero_add])
  ((with_reducible conv => whnf); repeat (first | (rw [natD_len]; with_reducible conv => whnf) | (rw [intD_len]; with_reducible conv => whnf) | (refine Exists.intro _ (And.intro (rfl : _ = some _) ?_); with_reducible conv => whnf) | (refine And.intro (okII _ _) ?_; rw [eqD_ii]; with_reducible conv => whnf) | (refine And.intro (by first | assumption | exact Exists.intro _ (by assumption) | exact ⟨rfl, rfl, by decide, by decide⟩ | exact Nat.le_of_ble_eq_true rfl | exact rfl) ?_; with_reducible conv => whnf) | (rw [isLst_at (by assumption)]; with_reducible conv => whnf) | (refine ifT rfl ?_; with_reducible conv => whnf) | (refine ifF rfl ?_; with_reducible conv => whnf) | (refine it_at (by assumption) ?_; with_reducible conv => whnf)))
  refine ⟨sortOk_int _, fun ys hp hw => ?_⟩
  obtain ⟨ms, rfl, hm1, hm2⟩ := sort_int hp hw
  have e1 := at_push S (.lst (intD ms))
  have s1 := (Sub.refl S).app [.lst (intD ms)]
  generalize S ++ [.lst (intD ms)] = S1 at *
  ((with_reducible conv => whnf); repeat (first | (rw [natD_len]; with_reducible conv => whnf) | (rw [intD_len]; with_reducible conv => whnf) | (refine Exists.intro _ (And.intro (rfl : _ = some _) ?_); with_reducible conv => whnf) | (refine And.intro (okII _ _) ?_; rw [eqD_ii]; with_reducible conv => whnf) | (refine And.intro (by first | assumption | exact Exists.intro _ (by assumption) | exact ⟨rfl, rfl, by decide, by decide⟩ | exact Nat.le_of_ble_eq_true rfl | exact rfl) ?_; with_reducible conv => whnf) | (rw [isLst_at (by assumption)]; with_reducible conv => whnf) | (refine ifT rfl ?_; with_reducible conv => whnf) | (refine ifF rfl ?_; with_reducible conv => whnf) | (refine it_at (by assumption) ?_; with_reducible conv => whnf)))
  rw [show (intD ms).reverse = intD ms.reverse by simp [intD]]
  have hd := desc_rev hm2
  have hpm : ms.reverse.Perm xs := (List.reverse_perm ms).trans hm1
  generalize ms.reverse = os at *
  have hO := hX.perm hpm
  have hol : os.length = xs.length := hpm.length_eq
  have e2 := at_push S1 (.lst (intD os))
  have s2 := s1.app [.lst (intD os)]
  generalize S1 ++ [.lst (intD os)] = S2 at *
  generalize S1.length = no at *
  have hx40 := hX.le
  have hx0 := hX.pos
  refine ⟨⟨by decide, by decide⟩, ⟨by omega, by omega⟩, ?_⟩
  refine Loop_mk (fun i ρ S' => ∃ o5 o6, ρ = [some (.tup (intD xs)), some (qD p), some (.int xs.length), some (.ref no), some (.int (os.take i).sum), o5, o6] ∧ i < xs.length ∧ (0 < i → ∀ x, os[i]? = some x → bd os p i < (x : Rat)) ∧ Sub S2 S') ⟨none, none, rfl, hx0, by omega, Sub.refl _⟩ (by intros; trivial) ?_ ?_
  · rintro i d ρ' S' hi ⟨o5, o6, rfl, hil, hb, hs⟩
    obtain ⟨_, rfl⟩ := rangeD_get hi
    have e2 := hs _ _ e2
    have hio : i < os.length := by omega
    have hget := List.getElem?_eq_getElem hio
    ((with_reducible conv => whnf); repeat (first | (rw [natD_len]; with_reducible conv => whnf) | (rw [intD_len]; with_reducible conv => whnf) | (refine Exists.intro _ (And.intro (rfl : _ = some _) ?_); with_reducible conv => whnf) | (refine And.intro (okII _ _) ?_; rw [eqD_ii]; with_reducible conv => whnf) | (refine And.intro (by first | assumption | exact Exists.intro _ (by assumption) | exact ⟨rfl, rfl, by decide, by decide⟩ | exact Nat.le_of_ble_eq_true rfl | exact rfl) ?_; with_reducible conv => whnf) | (rw [isLst_at (by assumption)]; with_reducible conv => whnf) | (refine ifT rfl ?_; with_reducible conv => whnf) | (refine ifF rfl ?_; with_reducible conv => whnf) | (refine it_at (by assumption) ?_; with_reducible conv => whnf)))
    refine ⟨.int os[i], ?_, ?_⟩
    · rw [show (1 : Int) + i - 1 = (i : Int) by omega]
      exact atZ_nat (intD_at hget)
    ((with_reducible conv => whnf); repeat (first | (rw [natD_len]; with_reducible conv => whnf) | (rw [intD_len]; with_reducible conv => whnf) | (refine Exists.intro _ (And.intro (rfl : _ = some _) ?_); with_reducible conv => whnf) | (refine And.intro (okII _ _) ?_; rw [eqD_ii]; with_reducible conv => whnf) | (refine And.intro (by first | assumption | exact Exists.intro _ (by assumption) | exact ⟨rfl, rfl, by decide, by decide⟩ | exact Nat.le_of_ble_eq_true rfl | exact rfl) ?_; with_reducible conv => whnf) | (rw [isLst_at (by assumption)]; with_reducible conv => whnf) | (refine ifT rfl ?_; with_reducible conv => whnf) | (refine ifF rfl ?_; with_reducible conv => whnf) | (refine it_at (by assumption) ?_; with_reducible conv => whnf)))
    rw [← take_sum hget]
    have tb := take_bd hO (i + 1)
    have := cX_big
    have := cX_1
    have nb := OkX.np hX.le hP
    have hbd := bd_bd hO hP (Nat.succ_pos i)
    have hn1 := len40 hX.le
    refine ⟨((xs.length : Int) : Rat), p, rfl, sm_int (by have : (0 : Rat) ≤ (xs.length : Rat) := nn; show _ ≤ (xs.length : Rat); grind) (by show (xs.length : Rat) ≤ _; grind), hP.sm, fun S3 h3 => ?_⟩
    ((with_reducible conv => whnf); repeat (first | (rw [natD_len]; with_reducible conv => whnf) | (rw [intD_len]; with_reducible conv => whnf) | (refine Exists.intro _ (And.intro (rfl : _ = some _) ?_); with_reducible conv => whnf) | (refine And.intro (okII _ _) ?_; rw [eqD_ii]; with_reducible conv => whnf) | (refine And.intro (by first | assumption | exact Exists.intro _ (by assumption) | exact ⟨rfl, rfl, by decide, by decide⟩ | exact Nat.le_of_ble_eq_true rfl | exact rfl) ?_; with_reducible conv => whnf) | (rw [isLst_at (by assumption)]; with_reducible conv => whnf) | (refine ifT rfl ?_; with_reducible conv => whnf) | (refine ifF rfl ?_; with_reducible conv => whnf) | (refine it_at (by assumption) ?_; with_reducible conv => whnf)))
    have ovnp : Ov (1 * p.den) (((xs.length : Int) : Rat) * p) := Ov.mul (Ov_int 1 (xs.length : Int)) (Ov_self p)
    have npd : 0 < 1 * p.den := by have := p.den_pos; omega
    have npl : 1 * p.den ≤ 2 ^ 1500 := by
      have := hP.den
      exact Nat.le_trans (by omega : 1 * p.den ≤ 2 ^ 10) (pow_le2 (by decide))
    have smnp : sm (((xs.length : Int) : Rat) * p) := smB ovnp npd npl (by show _ ≤ (xs.length : Rat) * p; grind) (by show (xs.length : Rat) * p ≤ _; grind)
    refine ⟨(((os.take (i + 1)).sum : Int) : Rat), ((xs.length : Int) : Rat) * p, rfl, sm_int (by grind) (by grind), smnp, fun S4 h4 => ?_⟩
    ((with_reducible conv => whnf); repeat (first | (rw [natD_len]; with_reducible conv => whnf) | (rw [intD_len]; with_reducible conv => whnf) | (refine Exists.intro _ (And.intro (rfl : _ = some _) ?_); with_reducible conv => whnf) | (refine And.intro (okII _ _) ?_; rw [eqD_ii]; with_reducible conv => whnf) | (refine And.intro (by first | assumption | exact Exists.intro _ (by assumption) | exact ⟨rfl, rfl, by decide, by decide⟩ | exact Nat.le_of_ble_eq_true rfl | exact rfl) ?_; with_reducible conv => whnf) | (rw [isLst_at (by assumption)]; with_reducible conv => whnf) | (refine ifT rfl ?_; with_reducible conv => whnf) | (refine ifF rfl ?_; with_reducible conv => whnf) | (refine it_at (by assumption) ?_; with_reducible conv => whnf)))
    have smd : sm ((((os.take (i + 1)).sum : Int) : Rat) - ((xs.length : Int) : Rat) * p) := smB (Ov.sub (Ov_int _ _) ovnp) npd npl (by show _ ≤ _ - (xs.length : Rat) * p; grind) (by show _ - (xs.length : Rat) * p ≤ _; grind)
    have hk1 : (((1 + (i : Int) : Int)) : Rat) = ((i + 1 : Nat) : Rat) := by
      rw [show (1 + (i : Int) : Int) = ((i + 1 : Nat) : Int) by omega]
      rfl
    have hk40 : ((i + 1 : Nat) : Rat) ≤ 40 := len40 (by omega)
    have hk00 : (0 : Rat) ≤ ((i + 1 : Nat) : Rat) := nn
    refine ⟨_, ((1 + (i : Int) : Int) : Rat), rfl, smd, sm_int (by rw [hk1]; grind) (by rw [hk1]; grind), by rw [Rat.num_intCast]; omega, fun S5 h5 => ?_⟩
    have hq : ((((os.take (i + 1)).sum : Int) : Rat) - ((xs.length : Int) : Rat) * p) / ((1 + (i : Int) : Int) : Rat) = bd os p (i + 1) := by
      rw [hk1]
      unfold bd
      rw [hol]
      rfl
    rw [hq]
    have hnext : bd os p (i + 1) < (os[i] : Rat) := by
      rcases Nat.eq_zero_or_pos i with c | c
      · subst c; exact bd_one hP.pos hget
      · exact bd_next c hget (hb c _ hget)
    have hS := ((hs.trans h3).trans h4).trans h5
    ((with_reducible conv => whnf); repeat (first | (rw [natD_len]; with_reducible conv => whnf) | (rw [intD_len]; with_reducible conv => whnf) | (refine Exists.intro _ (And.intro (rfl : _ = some _) ?_); with_reducible conv => whnf) | (refine And.intro (okII _ _) ?_; rw [eqD_ii]; with_reducible conv => whnf) | (refine And.intro (by first | assumption | exact Exists.intro _ (by assumption) | exact ⟨rfl, rfl, by decide, by decide⟩ | exact Nat.le_of_ble_eq_true rfl | exact rfl) ?_; with_reducible conv => whnf) | (rw [isLst_at (by assumption)]; with_reducible conv => whnf) | (refine ifT rfl ?_; with_reducible conv => whnf) | (refine ifF rfl ?_; with_reducible conv => whnf) | (refine it_at (by assumption) ?_; with_reducible conv => whnf)))
    refine ite_d (fun hc => ?_) fun hc => ?_
    · ((with_reducible conv => whnf); repeat (first | (rw [natD_len]; with_reducible conv => whnf) | (rw [intD_len]; with_reducible conv => whnf) | (refine Exists.intro _ (And.intro (rfl : _ = some _) ?_); with_reducible conv => whnf) | (refine And.intro (okII _ _) ?_; rw [eqD_ii]; with_reducible conv => whnf) | (refine And.intro (by first | assumption | exact Exists.intro _ (by assumption) | exact ⟨rfl, rfl, by decide, by decide⟩ | exact Nat.le_of_ble_eq_true rfl | exact rfl) ?_; with_reducible conv => whnf) | (rw [isLst_at (by assumption)]; with_reducible conv => whnf) | (refine ifT rfl ?_; with_reducible conv => whnf) | (refine ifF rfl ?_; with_reducible conv => whnf) | (refine it_at (by assumption) ?_; with_reducible conv => whnf)))
      refine k _ _ (good_of hX hP hpm (Nat.succ_pos i) (by omega) (stop_isB hd hget hnext fun y hy => ?_)) (s2.trans hS)
      have := (List.getElem?_eq_some_iff.mp hy).1
      omega
    · have hn : i + 1 < os.length := by omega
      have hget2 := List.getElem?_eq_getElem hn
      have e5 := h5 _ _ (h4 _ _ (h3 _ _ e2))
      ((with_reducible conv => whnf); repeat (first | (rw [natD_len]; with_reducible conv => whnf) | (rw [intD_len]; with_reducible conv => whnf) | (refine Exists.intro _ (And.intro (rfl : _ = some _) ?_); with_reducible conv => whnf) | (refine And.intro (okII _ _) ?_; rw [eqD_ii]; with_reducible conv => whnf) | (refine And.intro (by first | assumption | exact Exists.intro _ (by assumption) | exact ⟨rfl, rfl, by decide, by decide⟩ | exact Nat.le_of_ble_eq_true rfl | exact rfl) ?_; with_reducible conv => whnf) | (rw [isLst_at (by assumption)]; with_reducible conv => whnf) | (refine ifT rfl ?_; with_reducible conv => whnf) | (refine ifF rfl ?_; with_reducible conv => whnf) | (refine it_at (by assumption) ?_; with_reducible conv => whnf)))
      refine ⟨.int os[i + 1], ?_, ?_⟩
      · rw [show (1 : Int) + i = ((i + 1 : Nat) : Int) by omega]
        exact atZ_nat (intD_at hget2)
      ((with_reducible conv => whnf); repeat (first | (rw [natD_len]; with_reducible conv => whnf) | (rw [intD_len]; with_reducible conv => whnf) | (refine Exists.intro _ (And.intro (rfl : _ = some _) ?_); with_reducible conv => whnf) | (refine And.intro (okII _ _) ?_; rw [eqD_ii]; with_reducible conv => whnf) | (refine And.intro (by first | assumption | exact Exists.intro _ (by assumption) | exact ⟨rfl, rfl, by decide, by decide⟩ | exact Nat.le_of_ble_eq_true rfl | exact rfl) ?_; with_reducible conv => whnf) | (rw [isLst_at (by assumption)]; with_reducible conv => whnf) | (refine ifT rfl ?_; with_reducible conv => whnf) | (refine ifF rfl ?_; with_reducible conv => whnf) | (refine it_at (by assumption) ?_; with_reducible conv => whnf)))
      have hl := hO.lo _ (List.mem_of_getElem? hget2)
      have hh := hO.hi _ (List.mem_of_getElem? hget2)
      refine ⟨_, (os[i + 1] : Rat), rfl, bd_sm hO hP (Nat.succ_pos i) (by omega), sm_int (by grind) (by grind), fun S6 h6 => ?_⟩
      ((with_reducible conv => whnf); repeat (first | (rw [natD_len]; with_reducible conv => whnf) | (rw [intD_len]; with_reducible conv => whnf) | (refine Exists.intro _ (And.intro (rfl : _ = some _) ?_); with_reducible conv => whnf) | (refine And.intro (okII _ _) ?_; rw [eqD_ii]; with_reducible conv => whnf) | (refine And.intro (by first | assumption | exact Exists.intro _ (by assumption) | exact ⟨rfl, rfl, by decide, by decide⟩ | exact Nat.le_of_ble_eq_true rfl | exact rfl) ?_; with_reducible conv => whnf) | (rw [isLst_at (by assumption)]; with_reducible conv => whnf) | (refine ifT rfl ?_; with_reducible conv => whnf) | (refine ifF rfl ?_; with_reducible conv => whnf) | (refine it_at (by assumption) ?_; with_reducible conv => whnf)))
      by_cases c : bd os p (i + 1) < (os[i + 1] : Rat)
      · refine ifF (by simp [c]) ?_
        ((with_reducible conv => whnf); repeat (first | (rw [natD_len]; with_reducible conv => whnf) | (rw [intD_len]; with_reducible conv => whnf) | (refine Exists.intro _ (And.intro (rfl : _ = some _) ?_); with_reducible conv => whnf) | (refine And.intro (okII _ _) ?_; rw [eqD_ii]; with_reducible conv => whnf) | (refine And.intro (by first | assumption | exact Exists.intro _ (by assumption) | exact ⟨rfl, rfl, by decide, by decide⟩ | exact Nat.le_of_ble_eq_true rfl | exact rfl) ?_; with_reducible conv => whnf) | (rw [isLst_at (by assumption)]; with_reducible conv => whnf) | (refine ifT rfl ?_; with_reducible conv => whnf) | (refine ifF rfl ?_; with_reducible conv => whnf) | (refine it_at (by assumption) ?_; with_reducible conv => whnf)))
        exact ⟨_, _, rfl, by omega, fun _ x hx => by rw [hget2] at hx; rw [← Option.some.inj hx]; exact c, hS.trans h6⟩
      · refine ifT (by simp [c]) ?_
        ((with_reducible conv => whnf); repeat (first | (rw [natD_len]; with_reducible conv => whnf) | (rw [intD_len]; with_reducible conv => whnf) | (refine Exists.intro _ (And.intro (rfl : _ = some _) ?_); with_reducible conv => whnf) | (refine And.intro (okII _ _) ?_; rw [eqD_ii]; with_reducible conv => whnf) | (refine And.intro (by first | assumption | exact Exists.intro _ (by assumption) | exact ⟨rfl, rfl, by decide, by decide⟩ | exact Nat.le_of_ble_eq_true rfl | exact rfl) ?_; with_reducible conv => whnf) | (rw [isLst_at (by assumption)]; with_reducible conv => whnf) | (refine ifT rfl ?_; with_reducible conv => whnf) | (refine ifF rfl ?_; with_reducible conv => whnf) | (refine it_at (by assumption) ?_; with_reducible conv => whnf)))
        refine k _ _ (good_of hX hP hpm (Nat.succ_pos i) (by omega) (stop_isB hd hget hnext fun y hy => ?_)) (s2.trans (hS.trans h6))
        rw [hget2] at hy
        rw [← Option.some.inj hy]
        grind
  · rintro ρ' S' ⟨o5, o6, rfl, hil, _, _⟩
    rw [rangeD_len] at hil
    omega
end K93
set_option linter.all false
set_option maxRecDepth 100000
set_option maxHeartbeats 4000000
namespace K93
open DL
theorem good_ex {xs : List Int} {p : Rat} (h : OkX xs) (hp : OkP p) : ∃ B, GoodB xs p B := by
  have pm := List.mergeSort_perm xs (fun a b => decide (b ≤ a))
  have pw := List.pairwise_mergeSort (le := fun a b : Int => decide (b ≤ a)) (by intro a b c; simp; omega) (by intro a b; simp; omega) xs
  have hd : Desc (xs.mergeSort fun a b => decide (b ≤ a)) := pw.imp fun h => of_decide_eq_true h
  obtain ⟨j, h0, h1, hB⟩ := stop_some hd (by rw [pm.length_eq]; exact h.pos) hp.pos
  exact ⟨_, good_of h hp pm h0 h1 hB⟩
@[reducible] def sp_worth : Spc := fun ds S Q => ∃ xs p, ds = [.tup (intD xs), qD p] ∧ OkX xs ∧ OkP p ∧ ∀ B S', GoodB xs p B → Sub S S' → Q (qD (B + p)) S'
theorem body_worth_of_wheel : Body 2 2 (w_worth_of_wheel sp_bound (sp_q2 (· + ·))) sp_worth := by
  rintro ds S Q _ ⟨xs, p, rfl, hX, hP, k⟩
  unfold w_worth_of_wheel
  (simp only [start, List.map_cons, List.map_nil, List.length_cons, List.length_nil, Nat.reduceAdd, Nat.reduceSub, List.replicate_succ, List.replicate_zero, List.cons_append, List.nil_append, Nat.sub_self, Nat.zero_add])
  ((with_reducible conv => whnf); repeat (first | (rw [natD_len]; with_reducible conv => whnf) | (rw [intD_len]; with_reducible conv => whnf) | (refine Exists.intro _ (And.intro (rfl : _ = some _) ?_); with_reducible conv => whnf) | (refine And.intro (okII _ _) ?_; rw [eqD_ii]; with_reducible conv => whnf) | (refine And.intro (by first | assumption | exact Exists.intro _ (by assumption) | exact ⟨rfl, rfl, by decide, by decide⟩ | exact Nat.le_of_ble_eq_true rfl | exact rfl) ?_; with_reducible conv => whnf) | (rw [isLst_at (by assumption)]; with_reducible conv => whnf) | (refine ifT rfl ?_; with_reducible conv => whnf) | (refine ifF rfl ?_; with_reducible conv => whnf) | (refine it_at (by assumption) ?_; with_reducible conv => whnf)))
  refine ⟨_, p, rfl, hX, hP, fun B S1 hB h1 => ?_⟩
  ((with_reducible conv => whnf); repeat (first | (rw [natD_len]; with_reducible conv => whnf) | (rw [intD_len]; with_reducible conv => whnf) | (refine Exists.intro _ (And.intro (rfl : _ = some _) ?_); with_reducible conv => whnf) | (refine And.intro (okII _ _) ?_; rw [eqD_ii]; with_reducible conv => whnf) | (refine And.intro (by first | assumption | exact Exists.intro _ (by assumption) | exact ⟨rfl, rfl, by decide, by decide⟩ | exact Nat.le_of_ble_eq_true rfl | exact rfl) ?_; with_reducible conv => whnf) | (rw [isLst_at (by assumption)]; with_reducible conv => whnf) | (refine ifT rfl ?_; with_reducible conv => whnf) | (refine ifF rfl ?_; with_reducible conv => whnf) | (refine it_at (by assumption) ?_; with_reducible conv => whnf)))
  refine ⟨_, p, rfl, hB.sm, hP.sm, fun S2 h2 => ?_⟩
  exact k B S2 hB (h1.trans h2)
def ceilB (B : Rat) : Int := -((-B.num).fdiv B.den)
theorem ceil_le {B : Rat} (x : Int) : ceilB B ≤ x ↔ B ≤ (x : Rat) := by
  have hd : (0 : Int) < B.den := by have := B.den_pos; omega
  rw [Rat.le_iff, Rat.num_intCast, Rat.den_intCast]
  unfold ceilB
  rw [Int.fdiv_eq_ediv_of_nonneg _ (by omega)]
  have := Int.le_ediv_iff_mul_le (a := -x) (b := -B.num) hd
  rw [Int.neg_mul] at this
  constructor
  · intro h
    have := this.mp (by omega)
    rw [show ((1 : Nat) : Int) = 1 from rfl, Int.mul_one]
    omega
  · intro h
    rw [show ((1 : Nat) : Int) = 1 from rfl, Int.mul_one] at h
    have := this.mpr (by omega)
    omega
@[reducible] def sp_stops : Spc := fun ds S Q => ∃ xs p, ds = [.tup (intD xs), qD p] ∧ OkX xs ∧ OkP p ∧ ∀ B S', GoodB xs p B → Sub S S' → Q (.int (ceilB B)) S'
theorem div_den {B : Rat} (h : sm B) : DivOk B.den := ⟨by have := B.den_pos; omega, by rw [Int.natAbs_natCast]; exact Nat.lt_of_lt_of_le h.1 (pow_le2 (by decide))⟩
theorem body_stops_at : Body 4 2 (w_stops_at sp_bound) sp_stops := by
  rintro ds S Q _ ⟨xs, p, rfl, hX, hP, k⟩
  unfold w_stops_at
  (simp only [start, List.map_cons, List.map_nil, List.length_cons, List.length_nil, Nat.reduceAdd, Nat.reduceSub, List.replicate_succ, List.replicate_zero, List.cons_append, List.nil_append, Nat.sub_self, Nat.zero_add])
  ((with_reducible conv => whnf); repeat (first | (rw [natD_len]; with_reducible conv => whnf) | (rw [intD_len]; with_reducible conv => whnf) | (refine Exists.intro _ (And.intro (rfl : _ = some _) ?_); with_reducible conv => whnf) | (refine And.intro (okII _ _) ?_; rw [eqD_ii]; with_reducible conv => whnf) | (refine And.intro (by first | assumption | exact Exists.intro _ (by assumption) | exact ⟨rfl, rfl, by decide, by decide⟩ | exact Nat.le_of_ble_eq_true rfl | exact rfl) ?_; with_reducible conv => whnf) | (rw [isLst_at (by assumption)]; with_reducible conv => whnf) | (refine ifT rfl ?_; with_reducible conv => whnf) | (refine ifF rfl ?_; with_reducible conv => whnf) | (refine it_at (by assumption) ?_; with_reducible conv => whnf)))
  refine ⟨_, p, rfl, hX, hP, fun B S1 hB h1 => ?_⟩
  ((with_reducible conv => whnf); repeat (first | (rw [natD_len]; with_reducible conv => whnf) | (rw [intD_len]; with_reducible conv => whnf) | (refine Exists.intro _ (And.intro (rfl : _ = some _) ?_); with_reducible conv => whnf) | (refine And.intro (okII _ _) ?_; rw [eqD_ii]; with_reducible conv => whnf) | (refine And.intro (by first | assumption | exact Exists.intro _ (by assumption) | exact ⟨rfl, rfl, by decide, by decide⟩ | exact Nat.le_of_ble_eq_true rfl | exact rfl) ?_; with_reducible conv => whnf) | (rw [isLst_at (by assumption)]; with_reducible conv => whnf) | (refine ifT rfl ?_; with_reducible conv => whnf) | (refine ifF rfl ?_; with_reducible conv => whnf) | (refine it_at (by assumption) ?_; with_reducible conv => whnf)))
  refine ⟨div_den hB.sm, ?_⟩
  exact k B S1 hB h1
def keptN (xs : List Int) (B : Rat) : Nat := (xs.filter fun x => decide (ceilB B ≤ x)).length
theorem kept_pos {xs : List Int} {p B : Rat} (hX : OkX xs) (hP : OkP p) (h : GoodB xs p B) : 0 < keptN xs B := by
  obtain ⟨x, hx, hl⟩ := h.is.some hX.pos hP.pos
  exact List.length_pos_of_mem (List.mem_filter.mpr ⟨hx, decide_eq_true ((ceil_le x).mpr (by grind))⟩)
theorem kept_le (xs : List Int) (B : Rat) : keptN xs B ≤ xs.length := List.length_filter_le _ _
@[reducible] def sp_turns : Spc := fun ds S Q => ∃ xs p, ds = [.tup (intD xs), qD p] ∧ OkX xs ∧ OkP p ∧ ∀ B S', GoodB xs p B → Sub S S' → Q (qD (Rat.divInt (xs.length : Int) (keptN xs B : Int))) S'
theorem nat_small {m : Nat} (h : m ≤ 40) : ((m : Nat) : Int).natAbs < 2 ^ 9000 := by
  rw [Int.natAbs_natCast]
  exact Nat.lt_of_le_of_lt h (Nat.lt_of_lt_of_le (by decide : 40 < 2 ^ 6) (pow_le2 (by decide)))
theorem body_mean_turns : Body 4 2 (w_mean_turns sp_stops sp_ratio) sp_turns := by
  rintro ds S Q _ ⟨xs, p, rfl, hX, hP, k⟩
  unfold w_mean_turns
  (simp only [start, List.map_cons, List.map_nil, List.length_cons, List.length_nil, Nat.reduceAdd, Nat.reduceSub, List.replicate_succ, List.replicate_zero, List.cons_append, List.nil_append, Nat.sub_self, Nat.zero_add])
  ((with_reducible conv => whnf); repeat (first | (rw [natD_len]; with_reducible conv => whnf) | (rw [intD_len]; with_reducible conv => whnf) | (refine Exists.intro _ (And.intro (rfl : _ = some _) ?_); with_reducible conv => whnf) | (refine And.intro (okII _ _) ?_; rw [eqD_ii]; with_reducible conv => whnf) | (refine And.intro (by first | assumption | exact Exists.intro _ (by assumption) | exact ⟨rfl, rfl, by decide, by decide⟩ | exact Nat.le_of_ble_eq_true rfl | exact rfl) ?_; with_reducible conv => whnf) | (rw [isLst_at (by assumption)]; with_reducible conv => whnf) | (refine ifT rfl ?_; with_reducible conv => whnf) | (refine ifF rfl ?_; with_reducible conv => whnf) | (refine it_at (by assumption) ?_; with_reducible conv => whnf)))
  refine ⟨_, p, rfl, hX, hP, fun B S1 hB h1 => ?_⟩
  ((with_reducible conv => whnf); repeat (first | (rw [natD_len]; with_reducible conv => whnf) | (rw [intD_len]; with_reducible conv => whnf) | (refine Exists.intro _ (And.intro (rfl : _ = some _) ?_); with_reducible conv => whnf) | (refine And.intro (okII _ _) ?_; rw [eqD_ii]; with_reducible conv => whnf) | (refine And.intro (by first | assumption | exact Exists.intro _ (by assumption) | exact ⟨rfl, rfl, by decide, by decide⟩ | exact Nat.le_of_ble_eq_true rfl | exact rfl) ?_; with_reducible conv => whnf) | (rw [isLst_at (by assumption)]; with_reducible conv => whnf) | (refine ifT rfl ?_; with_reducible conv => whnf) | (refine ifF rfl ?_; with_reducible conv => whnf) | (refine it_at (by assumption) ?_; with_reducible conv => whnf)))
  refine Lc_lf (xs := xs) (e := D.int) (fun x => decide (ceilB B ≤ x)) D.int (by have := hX.le; unfold szL; omega) (by intros; trivial) (fun x S' R hx h hR => ?_) fun S2 h2 => ?_
  · ((with_reducible conv => whnf); repeat (first | (rw [natD_len]; with_reducible conv => whnf) | (rw [intD_len]; with_reducible conv => whnf) | (refine Exists.intro _ (And.intro (rfl : _ = some _) ?_); with_reducible conv => whnf) | (refine And.intro (okII _ _) ?_; rw [eqD_ii]; with_reducible conv => whnf) | (refine And.intro (by first | assumption | exact Exists.intro _ (by assumption) | exact ⟨rfl, rfl, by decide, by decide⟩ | exact Nat.le_of_ble_eq_true rfl | exact rfl) ?_; with_reducible conv => whnf) | (rw [isLst_at (by assumption)]; with_reducible conv => whnf) | (refine ifT rfl ?_; with_reducible conv => whnf) | (refine ifF rfl ?_; with_reducible conv => whnf) | (refine it_at (by assumption) ?_; with_reducible conv => whnf)))
    have := hR S' (Sub.refl _)
    refine ite_d (fun hc => ?_) fun hc => ?_
    · rw [if_pos (decide_eq_true hc)] at this; exact this
    · rw [if_neg (by simpa using hc)] at this; exact this
  · have e := at_push S2 (.lst ((xs.filter fun x => decide (ceilB B ≤ x)).map D.int))
    have h3 := (h1.trans h2).app [.lst ((xs.filter fun x => decide (ceilB B ≤ x)).map D.int)]
    generalize S2 ++ [.lst ((xs.filter fun x => decide (ceilB B ≤ x)).map D.int)] = S3 at *
    ((with_reducible conv => whnf); repeat (first | (rw [natD_len]; with_reducible conv => whnf) | (rw [intD_len]; with_reducible conv => whnf) | (refine Exists.intro _ (And.intro (rfl : _ = some _) ?_); with_reducible conv => whnf) | (refine And.intro (okII _ _) ?_; rw [eqD_ii]; with_reducible conv => whnf) | (refine And.intro (by first | assumption | exact Exists.intro _ (by assumption) | exact ⟨rfl, rfl, by decide, by decide⟩ | exact Nat.le_of_ble_eq_true rfl | exact rfl) ?_; with_reducible conv => whnf) | (rw [isLst_at (by assumption)]; with_reducible conv => whnf) | (refine ifT rfl ?_; with_reducible conv => whnf) | (refine ifF rfl ?_; with_reducible conv => whnf) | (refine it_at (by assumption) ?_; with_reducible conv => whnf)))
    have kp := kept_pos hX hP hB
    have kl := kept_le xs B
    have := hX.le
    unfold keptN at kp kl
    refine ⟨_, _, rfl, by omega, nat_small (by omega), fun S4 h4 => ?_⟩
    exact k B S4 hB (h3.trans h4)
/-! with so many turns -/
theorem mxQ_ov {P : Nat} {a b : Rat} (ha : Ov P a) (hb : Ov P b) : Ov P (mxQ a b) := by unfold mxQ; split <;> assumption
theorem sQ_ov {P : Nat} {r : Rat} (hr : Ov P r) : ∀ l : List Int, Ov P (sQ l r)
  | [] => Ov_int P 0
  | x :: l => Ov.add (mxQ_ov (Ov_int P x) hr) (sQ_ov hr l)
theorem Wk_ov (xs : List Int) (p : Rat) (hn : 0 < xs.length) : ∀ k, Ov (p.den * xs.length ^ (k + 1)) (Wk xs p k)
  | 0 => by
    rw [Nat.pow_one]
    exact Ov.over (Ov_int _ _) (by omega)
  | k + 1 => by
    have h : Ov (p.den * xs.length ^ (k + 1)) (Wk xs p k - p) := (Wk_ov xs p hn k).sub ((Ov_self p).mono (Nat.dvd_mul_right _ _))
    have := Ov.over (sQ_ov h xs) (show xs.length ≠ 0 by omega)
    rw [Nat.mul_assoc, ← Nat.pow_succ] at this
    exact this
theorem Wk_bd {xs : List Int} {p : Rat} (hX : OkX xs) (hP : OkP p) (k : Nat) : -(81 * cX) ≤ Wk xs p k ∧ Wk xs p k ≤ 81 * cX := by
  obtain ⟨B, hB⟩ := good_ex hX hP
  have h1 := Wk_le hX.pos hB.is k
  have h2 := Wk_mono p hX.pos (Nat.zero_le k)
  have h3 := hB.hi
  have h4 := hP.le
  have h5 := cX_1
  have h6 : -(40 * cX) ≤ Wk xs p 0 := by
    have e : Wk xs p 0 * (xs.length : Rat) = ((xs.sum : Int) : Rat) := by
      unfold Wk
      exact Rat.div_mul_cancel (by have := one_le hX.pos; grind)
    have b := take_bd hX xs.length
    rw [List.take_length] at b
    exact (div_bd e (one_le hX.pos) (by grind) b.1 b.2).1
  grind
theorem wden {xs : List Int} {p : Rat} (hX : OkX xs) (hP : OkP p) {k : Nat} (hk : k ≤ 100) : 0 < p.den * xs.length ^ k ∧ p.den * xs.length ^ k ≤ 2 ^ 1500 := by
  refine ⟨Nat.mul_pos p.den_pos (Nat.pow_pos hX.pos), ?_⟩
  have h1 : xs.length ^ k ≤ (2 ^ 6) ^ 100 := Nat.le_trans (Nat.pow_le_pow_left (Nat.le_trans hX.le (by decide)) k) (Nat.pow_le_pow_right (by decide) hk)
  rw [← Nat.pow_mul] at h1
  have h2 : p.den * xs.length ^ k ≤ 2 ^ 10 * 2 ^ 600 := Nat.mul_le_mul (Nat.le_trans hP.den (by decide)) h1
  rw [← Nat.pow_add] at h2
  exact Nat.le_trans h2 (pow_le2 (by decide))
theorem Wk_sm {xs : List Int} {p : Rat} (hX : OkX xs) (hP : OkP p) {k : Nat} (hk : k ≤ 90) : sm (Wk xs p k) := by
  have a := Wk_bd hX hP k
  have b := wden hX hP (k := k + 1) (by omega)
  have := cX_1
  have := cX_big
  exact smB (Wk_ov xs p hX.pos k) b.1 b.2 (by grind) (by grind)
theorem rest_ov {xs : List Int} {p : Rat} (hX : OkX xs) (k : Nat) : Ov (p.den * xs.length ^ (k + 1)) (Wk xs p k - p) := (Wk_ov xs p hX.pos k).sub ((Ov_self p).mono (Nat.dvd_mul_right _ _))
theorem rest_sm {xs : List Int} {p : Rat} (hX : OkX xs) (hP : OkP p) {k : Nat} (hk : k ≤ 90) : sm (Wk xs p k - p) := by
  have a := Wk_bd hX hP k
  have b := wden hX hP (k := k + 1) (by omega)
  have := cX_1
  have := cX_big
  have := hP.le
  have := hP.pos
  exact smB (rest_ov hX k) b.1 b.2 (by grind) (by grind)
theorem part_bd {xs : List Int} {p : Rat} (hX : OkX xs) (hP : OkP p) (k j : Nat) : -(4000 * cX) ≤ sQ (xs.take j) (Wk xs p k - p) ∧ sQ (xs.take j) (Wk xs p k - p) ≤ 4000 * cX := by
  have a := Wk_bd hX hP k
  have := cX_1
  have := hP.le
  have := hP.pos
  have b := sQ_bd (R := 82 * cX) (r := Wk xs p k - p) (by grind) (by grind) (l := xs.take j) (fun x hx => by have := hX.lo x (List.mem_of_mem_take hx); grind) fun x hx => by have := hX.hi x (List.mem_of_mem_take hx); grind
  have c := nX (n := (xs.take j).length) (by rw [List.length_take]; have := hX.le; omega)
  have e : ((xs.take j).length : Rat) * (82 * cX) = 82 * (((xs.take j).length : Rat) * cX) := by grind
  rw [e] at b
  grind
theorem part_sm {xs : List Int} {p : Rat} (hX : OkX xs) (hP : OkP p) {k : Nat} (hk : k ≤ 90) (j : Nat) : sm (sQ (xs.take j) (Wk xs p k - p)) := by
  have a := part_bd hX hP k j
  have b := wden hX hP (k := k + 1) (by omega)
  have := cX_1
  have := cX_big
  exact smB (sQ_ov (rest_ov hX k) _) b.1 b.2 (by grind) (by grind)
theorem sQ_take {xs : List Int} {j : Nat} {x : Int} (r : Rat) (h : xs[j]? = some x) : sQ (xs.take (j + 1)) r = sQ (xs.take j) r + mxQ x r := by
  rw [List.take_add_one, h, sQ_app]
  show _ + (mxQ x r + 0) = _
  grind
theorem sm_x {xs : List Int} (hX : OkX xs) {x : Int} (h : x ∈ xs) : sm (x : Rat) := by
  have := hX.lo x h
  have := hX.hi x h
  have := cX_1
  have := cX_big
  exact sm_int (by grind) (by grind)
theorem sm_len {xs : List Int} (hX : OkX xs) : sm ((xs.length : Int) : Rat) := by
  have h1 : (0 : Rat) ≤ (xs.length : Rat) := nn
  have h2 := len40 hX.le
  have := cX_1
  have := cX_big
  exact sm_int (by show _ ≤ (xs.length : Rat); grind) (by show (xs.length : Rat) ≤ _; grind)
@[reducible] def sp_in : Spc := fun ds S Q => ∃ xs p, ∃ t : Nat, ds = [.tup (intD xs), qD p, .int (t + 1 : Nat)] ∧ OkX xs ∧ OkP p ∧ t ≤ 80 ∧ ∀ S', Sub S S' → Q (qD (Wk xs p t)) S'
theorem body_worth_in : Body 8 3 (w_worth_in sp_ratio (sp_q2 (· - ·)) sp_less (sp_q2 (· + ·)) sp_over) sp_in := by
  rintro ds S Q _ ⟨xs, p, t, rfl, hX, hP, ht, k⟩
  unfold w_worth_in
  (simp only [start, List.map_cons, List.map_nil, List.length_cons, List.length_nil, Nat.reduceAdd, Nat.reduceSub, List.replicate_succ, List.replicate_zero, List.cons_append, List.nil_append, Nat.sub_self, Nat.zero_add])
  ((with_reducible conv => whnf); repeat (first | (rw [natD_len]; with_reducible conv => whnf) | (rw [intD_len]; with_reducible conv => whnf) | (refine Exists.intro _ (And.intro (rfl : _ = some _) ?_); with_reducible conv => whnf) | (refine And.intro (okII _ _) ?_; rw [eqD_ii]; with_reducible conv => whnf) | (refine And.intro (by first | assumption | exact Exists.intro _ (by assumption) | exact ⟨rfl, rfl, by decide, by decide⟩ | exact Nat.le_of_ble_eq_true rfl | exact rfl) ?_; with_reducible conv => whnf) | (rw [isLst_at (by assumption)]; with_reducible conv => whnf) | (refine ifT rfl ?_; with_reducible conv => whnf) | (refine ifF rfl ?_; with_reducible conv => whnf) | (refine it_at (by assumption) ?_; with_reducible conv => whnf)))
  have hx0 := hX.pos
  have hx40 := hX.le
  refine ⟨_, _, rfl, by omega, nat_small hX.le, fun S1 h1 => ?_⟩
  rw [show Rat.divInt xs.sum (xs.length : Int) = Wk xs p 0 from divInt_eq _ _]
  ((with_reducible conv => whnf); repeat (first | (rw [natD_len]; with_reducible conv => whnf) | (rw [intD_len]; with_reducible conv => whnf) | (refine Exists.intro _ (And.intro (rfl : _ = some _) ?_); with_reducible conv => whnf) | (refine And.intro (okII _ _) ?_; rw [eqD_ii]; with_reducible conv => whnf) | (refine And.intro (by first | assumption | exact Exists.intro _ (by assumption) | exact ⟨rfl, rfl, by decide, by decide⟩ | exact Nat.le_of_ble_eq_true rfl | exact rfl) ?_; with_reducible conv => whnf) | (rw [isLst_at (by assumption)]; with_reducible conv => whnf) | (refine ifT rfl ?_; with_reducible conv => whnf) | (refine ifF rfl ?_; with_reducible conv => whnf) | (refine it_at (by assumption) ?_; with_reducible conv => whnf)))
  refine ⟨⟨by omega, by omega⟩, ?_⟩
  refine Loop_mk (fun i ρ S' => ∃ o4 o5 o6 o7, ρ = [some (.tup (intD xs)), some (qD p), some (.int (t + 1 : Nat)), some (qD (Wk xs p i)), o4, o5, o6, o7] ∧ Sub S1 S') ⟨none, none, none, none, rfl, Sub.refl _⟩ (by intros; trivial) ?_ ?_
  · rintro i d ρ' S' hi ⟨o4, o5, o6, o7, rfl, hs⟩
    obtain ⟨hil, rfl⟩ := rangeD_get hi
    have hi90 : i ≤ 90 := by omega
    ((with_reducible conv => whnf); repeat (first | (rw [natD_len]; with_reducible conv => whnf) | (rw [intD_len]; with_reducible conv => whnf) | (refine Exists.intro _ (And.intro (rfl : _ = some _) ?_); with_reducible conv => whnf) | (refine And.intro (okII _ _) ?_; rw [eqD_ii]; with_reducible conv => whnf) | (refine And.intro (by first | assumption | exact Exists.intro _ (by assumption) | exact ⟨rfl, rfl, by decide, by decide⟩ | exact Nat.le_of_ble_eq_true rfl | exact rfl) ?_; with_reducible conv => whnf) | (rw [isLst_at (by assumption)]; with_reducible conv => whnf) | (refine ifT rfl ?_; with_reducible conv => whnf) | (refine ifF rfl ?_; with_reducible conv => whnf) | (refine it_at (by assumption) ?_; with_reducible conv => whnf)))
    refine ⟨_, p, rfl, Wk_sm hX hP hi90, hP.sm, fun S2 h2 => ?_⟩
    ((with_reducible conv => whnf); repeat (first | (rw [natD_len]; with_reducible conv => whnf) | (rw [intD_len]; with_reducible conv => whnf) | (refine Exists.intro _ (And.intro (rfl : _ = some _) ?_); with_reducible conv => whnf) | (refine And.intro (okII _ _) ?_; rw [eqD_ii]; with_reducible conv => whnf) | (refine And.intro (by first | assumption | exact Exists.intro _ (by assumption) | exact ⟨rfl, rfl, by decide, by decide⟩ | exact Nat.le_of_ble_eq_true rfl | exact rfl) ?_; with_reducible conv => whnf) | (rw [isLst_at (by assumption)]; with_reducible conv => whnf) | (refine ifT rfl ?_; with_reducible conv => whnf) | (refine ifF rfl ?_; with_reducible conv => whnf) | (refine it_at (by assumption) ?_; with_reducible conv => whnf)))
    refine Loop_mk (fun j ρ S' => ∃ o7, ρ = [some (.tup (intD xs)), some (qD p), some (.int (t + 1 : Nat)), some (qD (Wk xs p i)), some (.int (0 + i)), some (qD (Wk xs p i - p)), some (qD (sQ (xs.take j) (Wk xs p i - p))), o7] ∧ Sub S2 S') ⟨o7, rfl, Sub.refl _⟩ (by intros; trivial) ?_ ?_
    · rintro j d ρ' S3 hj ⟨o7, rfl, h3⟩
      obtain ⟨x, hx, rfl⟩ := intD_get hj
      have hxm := List.mem_of_getElem? hx
      ((with_reducible conv => whnf); repeat (first | (rw [natD_len]; with_reducible conv => whnf) | (rw [intD_len]; with_reducible conv => whnf) | (refine Exists.intro _ (And.intro (rfl : _ = some _) ?_); with_reducible conv => whnf) | (refine And.intro (okII _ _) ?_; rw [eqD_ii]; with_reducible conv => whnf) | (refine And.intro (by first | assumption | exact Exists.intro _ (by assumption) | exact ⟨rfl, rfl, by decide, by decide⟩ | exact Nat.le_of_ble_eq_true rfl | exact rfl) ?_; with_reducible conv => whnf) | (rw [isLst_at (by assumption)]; with_reducible conv => whnf) | (refine ifT rfl ?_; with_reducible conv => whnf) | (refine ifF rfl ?_; with_reducible conv => whnf) | (refine it_at (by assumption) ?_; with_reducible conv => whnf)))
      refine ⟨(x : Rat), _, rfl, sm_x hX hxm, rest_sm hX hP hi90, fun S4 h4 => ?_⟩
      ((with_reducible conv => whnf); repeat (first | (rw [natD_len]; with_reducible conv => whnf) | (rw [intD_len]; with_reducible conv => whnf) | (refine Exists.intro _ (And.intro (rfl : _ = some _) ?_); with_reducible conv => whnf) | (refine And.intro (okII _ _) ?_; rw [eqD_ii]; with_reducible conv => whnf) | (refine And.intro (by first | assumption | exact Exists.intro _ (by assumption) | exact ⟨rfl, rfl, by decide, by decide⟩ | exact Nat.le_of_ble_eq_true rfl | exact rfl) ?_; with_reducible conv => whnf) | (rw [isLst_at (by assumption)]; with_reducible conv => whnf) | (refine ifT rfl ?_; with_reducible conv => whnf) | (refine ifF rfl ?_; with_reducible conv => whnf) | (refine it_at (by assumption) ?_; with_reducible conv => whnf)))
      rw [sQ_take _ hx]
      refine ite_d (fun hc => ?_) fun hc => ?_
      · ((with_reducible conv => whnf); repeat (first | (rw [natD_len]; with_reducible conv => whnf) | (rw [intD_len]; with_reducible conv => whnf) | (refine Exists.intro _ (And.intro (rfl : _ = some _) ?_); with_reducible conv => whnf) | (refine And.intro (okII _ _) ?_; rw [eqD_ii]; with_reducible conv => whnf) | (refine And.intro (by first | assumption | exact Exists.intro _ (by assumption) | exact ⟨rfl, rfl, by decide, by decide⟩ | exact Nat.le_of_ble_eq_true rfl | exact rfl) ?_; with_reducible conv => whnf) | (rw [isLst_at (by assumption)]; with_reducible conv => whnf) | (refine ifT rfl ?_; with_reducible conv => whnf) | (refine ifF rfl ?_; with_reducible conv => whnf) | (refine it_at (by assumption) ?_; with_reducible conv => whnf)))
        refine ⟨_, _, rfl, part_sm hX hP hi90 j, rest_sm hX hP hi90, fun S5 h5 => ?_⟩
        rw [show mxQ (x : Rat) (Wk xs p i - p) = Wk xs p i - p from if_pos hc]
        exact ⟨_, rfl, (h3.trans h4).trans h5⟩
      · ((with_reducible conv => whnf); repeat (first | (rw [natD_len]; with_reducible conv => whnf) | (rw [intD_len]; with_reducible conv => whnf) | (refine Exists.intro _ (And.intro (rfl : _ = some _) ?_); with_reducible conv => whnf) | (refine And.intro (okII _ _) ?_; rw [eqD_ii]; with_reducible conv => whnf) | (refine And.intro (by first | assumption | exact Exists.intro _ (by assumption) | exact ⟨rfl, rfl, by decide, by decide⟩ | exact Nat.le_of_ble_eq_true rfl | exact rfl) ?_; with_reducible conv => whnf) | (rw [isLst_at (by assumption)]; with_reducible conv => whnf) | (refine ifT rfl ?_; with_reducible conv => whnf) | (refine ifF rfl ?_; with_reducible conv => whnf) | (refine it_at (by assumption) ?_; with_reducible conv => whnf)))
        refine ⟨_, (x : Rat), rfl, part_sm hX hP hi90 j, sm_x hX hxm, fun S5 h5 => ?_⟩
        rw [show mxQ (x : Rat) (Wk xs p i - p) = x from if_neg hc]
        exact ⟨_, rfl, (h3.trans h4).trans h5⟩
    · rintro ρ' S3 ⟨o7, rfl, h3⟩
      rw [intD_len, List.take_length]
      ((with_reducible conv => whnf); repeat (first | (rw [natD_len]; with_reducible conv => whnf) | (rw [intD_len]; with_reducible conv => whnf) | (refine Exists.intro _ (And.intro (rfl : _ = some _) ?_); with_reducible conv => whnf) | (refine And.intro (okII _ _) ?_; rw [eqD_ii]; with_reducible conv => whnf) | (refine And.intro (by first | assumption | exact Exists.intro _ (by assumption) | exact ⟨rfl, rfl, by decide, by decide⟩ | exact Nat.le_of_ble_eq_true rfl | exact rfl) ?_; with_reducible conv => whnf) | (rw [isLst_at (by assumption)]; with_reducible conv => whnf) | (refine ifT rfl ?_; with_reducible conv => whnf) | (refine ifF rfl ?_; with_reducible conv => whnf) | (refine it_at (by assumption) ?_; with_reducible conv => whnf)))
      have hps := part_sm hX hP hi90 xs.length
      rw [List.take_length] at hps
      refine ⟨_, ((xs.length : Int) : Rat), rfl, hps, sm_len hX, by rw [Rat.num_intCast]; omega, fun S4 h4 => ?_⟩
      exact ⟨_, _, _, _, rfl, (hs.trans h2).trans (h3.trans h4)⟩
  · rintro ρ' S' ⟨o4, o5, o6, o7, rfl, hs⟩
    rw [rangeD_len, show ((t + 1 : Nat) - 1 - 0 : Int).toNat = t by omega]
    ((with_reducible conv => whnf); repeat (first | (rw [natD_len]; with_reducible conv => whnf) | (rw [intD_len]; with_reducible conv => whnf) | (refine Exists.intro _ (And.intro (rfl : _ = some _) ?_); with_reducible conv => whnf) | (refine And.intro (okII _ _) ?_; rw [eqD_ii]; with_reducible conv => whnf) | (refine And.intro (by first | assumption | exact Exists.intro _ (by assumption) | exact ⟨rfl, rfl, by decide, by decide⟩ | exact Nat.le_of_ble_eq_true rfl | exact rfl) ?_; with_reducible conv => whnf) | (rw [isLst_at (by assumption)]; with_reducible conv => whnf) | (refine ifT rfl ?_; with_reducible conv => whnf) | (refine ifF rfl ?_; with_reducible conv => whnf) | (refine it_at (by assumption) ?_; with_reducible conv => whnf)))
    exact k _ (h1.trans hs)
end K93
set_option linter.all false
set_option maxRecDepth 100000
set_option maxHeartbeats 4000000
namespace K93
open DL
def Zb : Int := 10 ^ 62
theorem Zb_eq : Zb = 10 ^ 62 := rfl
@[reducible] def sp_size : Spc := fun ds S Q => ∃ n ns, ds = [.ref n, .rol (intD ns)] ∧ ns.length ≤ 63 ∧ Dr n S ∧ ∀ x S', 0 ≤ x → x ≤ Zb → Dr n S' → Ch n S S' → Q (.int x) S'
theorem body_law_size : Body 4 2 (w_law_size sp_take) sp_size := by
  rintro ds S Q _ ⟨n, ns, rfl, hl, hd, k⟩
  unfold w_law_size
  (simp only [start, List.map_cons, List.map_nil, List.length_cons, List.length_nil, Nat.reduceAdd, Nat.reduceSub, List.replicate_succ, List.replicate_zero, List.cons_append, List.nil_append, Nat.sub_self, Nat.zero_add])
  ((with_reducible conv => whnf); repeat (first | (rw [natD_len]; with_reducible conv => whnf) | (rw [intD_len]; with_reducible conv => whnf) | (refine Exists.intro _ (And.intro (rfl : _ = some _) ?_); with_reducible conv => whnf) | (refine And.intro (okII _ _) ?_; rw [eqD_ii]; with_reducible conv => whnf) | (refine And.intro (by first | assumption | exact Exists.intro _ (by assumption) | exact ⟨rfl, rfl, by decide, by decide⟩ | exact Nat.le_of_ble_eq_true rfl | exact rfl) ?_; with_reducible conv => whnf) | (rw [isLst_at (by assumption)]; with_reducible conv => whnf) | (refine ifT rfl ?_; with_reducible conv => whnf) | (refine ifF rfl ?_; with_reducible conv => whnf) | (refine it_at (by assumption) ?_; with_reducible conv => whnf)))
  refine ⟨_, _, rfl, by decide, hd, fun r1 S1 a0 a1 ad ac => ?_⟩
  ((with_reducible conv => whnf); repeat (first | (rw [natD_len]; with_reducible conv => whnf) | (rw [intD_len]; with_reducible conv => whnf) | (refine Exists.intro _ (And.intro (rfl : _ = some _) ?_); with_reducible conv => whnf) | (refine And.intro (okII _ _) ?_; rw [eqD_ii]; with_reducible conv => whnf) | (refine And.intro (by first | assumption | exact Exists.intro _ (by assumption) | exact ⟨rfl, rfl, by decide, by decide⟩ | exact Nat.le_of_ble_eq_true rfl | exact rfl) ?_; with_reducible conv => whnf) | (rw [isLst_at (by assumption)]; with_reducible conv => whnf) | (refine ifT rfl ?_; with_reducible conv => whnf) | (refine ifF rfl ?_; with_reducible conv => whnf) | (refine it_at (by assumption) ?_; with_reducible conv => whnf)))
  refine ⟨_, _, rfl, by decide, ad, fun r2 S2 b0 b1 bd bc => ?_⟩
  have ac := ac.trans bc
  have hz := Zb_eq
  have : r1 = 0 ∨ r1 = 1 ∨ r1 = 2 ∨ r1 = 3 := by omega
  rcases this with rfl | rfl | rfl | rfl
  · ((with_reducible conv => whnf); repeat (first | (rw [natD_len]; with_reducible conv => whnf) | (rw [intD_len]; with_reducible conv => whnf) | (refine Exists.intro _ (And.intro (rfl : _ = some _) ?_); with_reducible conv => whnf) | (refine And.intro (okII _ _) ?_; rw [eqD_ii]; with_reducible conv => whnf) | (refine And.intro (by first | assumption | exact Exists.intro _ (by assumption) | exact ⟨rfl, rfl, by decide, by decide⟩ | exact Nat.le_of_ble_eq_true rfl | exact rfl) ?_; with_reducible conv => whnf) | (rw [isLst_at (by assumption)]; with_reducible conv => whnf) | (refine ifT rfl ?_; with_reducible conv => whnf) | (refine ifF rfl ?_; with_reducible conv => whnf) | (refine it_at (by assumption) ?_; with_reducible conv => whnf)))
    exact k _ _ b0 (by omega) bd ac
  · ((with_reducible conv => whnf); repeat (first | (rw [natD_len]; with_reducible conv => whnf) | (rw [intD_len]; with_reducible conv => whnf) | (refine Exists.intro _ (And.intro (rfl : _ = some _) ?_); with_reducible conv => whnf) | (refine And.intro (okII _ _) ?_; rw [eqD_ii]; with_reducible conv => whnf) | (refine And.intro (by first | assumption | exact Exists.intro _ (by assumption) | exact ⟨rfl, rfl, by decide, by decide⟩ | exact Nat.le_of_ble_eq_true rfl | exact rfl) ?_; with_reducible conv => whnf) | (rw [isLst_at (by assumption)]; with_reducible conv => whnf) | (refine ifT rfl ?_; with_reducible conv => whnf) | (refine ifF rfl ?_; with_reducible conv => whnf) | (refine it_at (by assumption) ?_; with_reducible conv => whnf)))
    refine ⟨_, _, rfl, by decide, bd, fun r3 S3 c0 c1 cd cc => ?_⟩
    ((with_reducible conv => whnf); repeat (first | (rw [natD_len]; with_reducible conv => whnf) | (rw [intD_len]; with_reducible conv => whnf) | (refine Exists.intro _ (And.intro (rfl : _ = some _) ?_); with_reducible conv => whnf) | (refine And.intro (okII _ _) ?_; rw [eqD_ii]; with_reducible conv => whnf) | (refine And.intro (by first | assumption | exact Exists.intro _ (by assumption) | exact ⟨rfl, rfl, by decide, by decide⟩ | exact Nat.le_of_ble_eq_true rfl | exact rfl) ?_; with_reducible conv => whnf) | (rw [isLst_at (by assumption)]; with_reducible conv => whnf) | (refine ifT rfl ?_; with_reducible conv => whnf) | (refine ifF rfl ?_; with_reducible conv => whnf) | (refine it_at (by assumption) ?_; with_reducible conv => whnf)))
    refine ⟨⟨by omega, by omega, by decide⟩, ?_⟩
    ((with_reducible conv => whnf); repeat (first | (rw [natD_len]; with_reducible conv => whnf) | (rw [intD_len]; with_reducible conv => whnf) | (refine Exists.intro _ (And.intro (rfl : _ = some _) ?_); with_reducible conv => whnf) | (refine And.intro (okII _ _) ?_; rw [eqD_ii]; with_reducible conv => whnf) | (refine And.intro (by first | assumption | exact Exists.intro _ (by assumption) | exact ⟨rfl, rfl, by decide, by decide⟩ | exact Nat.le_of_ble_eq_true rfl | exact rfl) ?_; with_reducible conv => whnf) | (rw [isLst_at (by assumption)]; with_reducible conv => whnf) | (refine ifT rfl ?_; with_reducible conv => whnf) | (refine ifF rfl ?_; with_reducible conv => whnf) | (refine it_at (by assumption) ?_; with_reducible conv => whnf)))
    refine ⟨smallMul' (by omega), ?_⟩
    rw [show (10 : Int) ^ Int.toNat 15 = 1000000000000000 by decide]
    ((with_reducible conv => whnf); repeat (first | (rw [natD_len]; with_reducible conv => whnf) | (rw [intD_len]; with_reducible conv => whnf) | (refine Exists.intro _ (And.intro (rfl : _ = some _) ?_); with_reducible conv => whnf) | (refine And.intro (okII _ _) ?_; rw [eqD_ii]; with_reducible conv => whnf) | (refine And.intro (by first | assumption | exact Exists.intro _ (by assumption) | exact ⟨rfl, rfl, by decide, by decide⟩ | exact Nat.le_of_ble_eq_true rfl | exact rfl) ?_; with_reducible conv => whnf) | (rw [isLst_at (by assumption)]; with_reducible conv => whnf) | (refine ifT rfl ?_; with_reducible conv => whnf) | (refine ifF rfl ?_; with_reducible conv => whnf) | (refine it_at (by assumption) ?_; with_reducible conv => whnf)))
    exact k _ _ (by omega) (by omega) cd (ac.trans cc)
  · ((with_reducible conv => whnf); repeat (first | (rw [natD_len]; with_reducible conv => whnf) | (rw [intD_len]; with_reducible conv => whnf) | (refine Exists.intro _ (And.intro (rfl : _ = some _) ?_); with_reducible conv => whnf) | (refine And.intro (okII _ _) ?_; rw [eqD_ii]; with_reducible conv => whnf) | (refine And.intro (by first | assumption | exact Exists.intro _ (by assumption) | exact ⟨rfl, rfl, by decide, by decide⟩ | exact Nat.le_of_ble_eq_true rfl | exact rfl) ?_; with_reducible conv => whnf) | (rw [isLst_at (by assumption)]; with_reducible conv => whnf) | (refine ifT rfl ?_; with_reducible conv => whnf) | (refine ifF rfl ?_; with_reducible conv => whnf) | (refine it_at (by assumption) ?_; with_reducible conv => whnf)))
    refine ite_d (fun hc => ?_) fun hc => ?_
    · ((with_reducible conv => whnf); repeat (first | (rw [natD_len]; with_reducible conv => whnf) | (rw [intD_len]; with_reducible conv => whnf) | (refine Exists.intro _ (And.intro (rfl : _ = some _) ?_); with_reducible conv => whnf) | (refine And.intro (okII _ _) ?_; rw [eqD_ii]; with_reducible conv => whnf) | (refine And.intro (by first | assumption | exact Exists.intro _ (by assumption) | exact ⟨rfl, rfl, by decide, by decide⟩ | exact Nat.le_of_ble_eq_true rfl | exact rfl) ?_; with_reducible conv => whnf) | (rw [isLst_at (by assumption)]; with_reducible conv => whnf) | (refine ifT rfl ?_; with_reducible conv => whnf) | (refine ifF rfl ?_; with_reducible conv => whnf) | (refine it_at (by assumption) ?_; with_reducible conv => whnf)))
      refine ⟨_, _, rfl, hc, bd, fun r3 S3 c0 c1 cd cc => ?_⟩
      ((with_reducible conv => whnf); repeat (first | (rw [natD_len]; with_reducible conv => whnf) | (rw [intD_len]; with_reducible conv => whnf) | (refine Exists.intro _ (And.intro (rfl : _ = some _) ?_); with_reducible conv => whnf) | (refine And.intro (okII _ _) ?_; rw [eqD_ii]; with_reducible conv => whnf) | (refine And.intro (by first | assumption | exact Exists.intro _ (by assumption) | exact ⟨rfl, rfl, by decide, by decide⟩ | exact Nat.le_of_ble_eq_true rfl | exact rfl) ?_; with_reducible conv => whnf) | (rw [isLst_at (by assumption)]; with_reducible conv => whnf) | (refine ifT rfl ?_; with_reducible conv => whnf) | (refine ifF rfl ?_; with_reducible conv => whnf) | (refine it_at (by assumption) ?_; with_reducible conv => whnf)))
      refine ⟨_, atZ_intD c0 c1, ?_⟩
      ((with_reducible conv => whnf); repeat (first | (rw [natD_len]; with_reducible conv => whnf) | (rw [intD_len]; with_reducible conv => whnf) | (refine Exists.intro _ (And.intro (rfl : _ = some _) ?_); with_reducible conv => whnf) | (refine And.intro (okII _ _) ?_; rw [eqD_ii]; with_reducible conv => whnf) | (refine And.intro (by first | assumption | exact Exists.intro _ (by assumption) | exact ⟨rfl, rfl, by decide, by decide⟩ | exact Nat.le_of_ble_eq_true rfl | exact rfl) ?_; with_reducible conv => whnf) | (rw [isLst_at (by assumption)]; with_reducible conv => whnf) | (refine ifT rfl ?_; with_reducible conv => whnf) | (refine ifF rfl ?_; with_reducible conv => whnf) | (refine it_at (by assumption) ?_; with_reducible conv => whnf)))
      refine ⟨⟨by omega, by omega, by decide⟩, ?_⟩
      ((with_reducible conv => whnf); repeat (first | (rw [natD_len]; with_reducible conv => whnf) | (rw [intD_len]; with_reducible conv => whnf) | (refine Exists.intro _ (And.intro (rfl : _ = some _) ?_); with_reducible conv => whnf) | (refine And.intro (okII _ _) ?_; rw [eqD_ii]; with_reducible conv => whnf) | (refine And.intro (by first | assumption | exact Exists.intro _ (by assumption) | exact ⟨rfl, rfl, by decide, by decide⟩ | exact Nat.le_of_ble_eq_true rfl | exact rfl) ?_; with_reducible conv => whnf) | (rw [isLst_at (by assumption)]; with_reducible conv => whnf) | (refine ifT rfl ?_; with_reducible conv => whnf) | (refine ifF rfl ?_; with_reducible conv => whnf) | (refine it_at (by assumption) ?_; with_reducible conv => whnf)))
      refine ⟨by decide, ?_⟩
      have hm := fmod_lt (a := ((ns.getD r3.toNat 0).natAbs : Int)) (b := (10 : Int) ^ Int.toNat 60) (by decide)
      rw [show (10 : Int) ^ Int.toNat 60 = 10 ^ 60 by decide] at hm ⊢
      ((with_reducible conv => whnf); repeat (first | (rw [natD_len]; with_reducible conv => whnf) | (rw [intD_len]; with_reducible conv => whnf) | (refine Exists.intro _ (And.intro (rfl : _ = some _) ?_); with_reducible conv => whnf) | (refine And.intro (okII _ _) ?_; rw [eqD_ii]; with_reducible conv => whnf) | (refine And.intro (by first | assumption | exact Exists.intro _ (by assumption) | exact ⟨rfl, rfl, by decide, by decide⟩ | exact Nat.le_of_ble_eq_true rfl | exact rfl) ?_; with_reducible conv => whnf) | (rw [isLst_at (by assumption)]; with_reducible conv => whnf) | (refine ifT rfl ?_; with_reducible conv => whnf) | (refine ifF rfl ?_; with_reducible conv => whnf) | (refine it_at (by assumption) ?_; with_reducible conv => whnf)))
      exact k _ _ (by omega) (by omega) cd (ac.trans cc)
    · ((with_reducible conv => whnf); repeat (first | (rw [natD_len]; with_reducible conv => whnf) | (rw [intD_len]; with_reducible conv => whnf) | (refine Exists.intro _ (And.intro (rfl : _ = some _) ?_); with_reducible conv => whnf) | (refine And.intro (okII _ _) ?_; rw [eqD_ii]; with_reducible conv => whnf) | (refine And.intro (by first | assumption | exact Exists.intro _ (by assumption) | exact ⟨rfl, rfl, by decide, by decide⟩ | exact Nat.le_of_ble_eq_true rfl | exact rfl) ?_; with_reducible conv => whnf) | (rw [isLst_at (by assumption)]; with_reducible conv => whnf) | (refine ifT rfl ?_; with_reducible conv => whnf) | (refine ifF rfl ?_; with_reducible conv => whnf) | (refine it_at (by assumption) ?_; with_reducible conv => whnf)))
      exact k _ _ b0 (by omega) bd ac
  · ((with_reducible conv => whnf); repeat (first | (rw [natD_len]; with_reducible conv => whnf) | (rw [intD_len]; with_reducible conv => whnf) | (refine Exists.intro _ (And.intro (rfl : _ = some _) ?_); with_reducible conv => whnf) | (refine And.intro (okII _ _) ?_; rw [eqD_ii]; with_reducible conv => whnf) | (refine And.intro (by first | assumption | exact Exists.intro _ (by assumption) | exact ⟨rfl, rfl, by decide, by decide⟩ | exact Nat.le_of_ble_eq_true rfl | exact rfl) ?_; with_reducible conv => whnf) | (rw [isLst_at (by assumption)]; with_reducible conv => whnf) | (refine ifT rfl ?_; with_reducible conv => whnf) | (refine ifF rfl ?_; with_reducible conv => whnf) | (refine it_at (by assumption) ?_; with_reducible conv => whnf)))
    refine ⟨smallMul (by decide), ?_⟩
    ((with_reducible conv => whnf); repeat (first | (rw [natD_len]; with_reducible conv => whnf) | (rw [intD_len]; with_reducible conv => whnf) | (refine Exists.intro _ (And.intro (rfl : _ = some _) ?_); with_reducible conv => whnf) | (refine And.intro (okII _ _) ?_; rw [eqD_ii]; with_reducible conv => whnf) | (refine And.intro (by first | assumption | exact Exists.intro _ (by assumption) | exact ⟨rfl, rfl, by decide, by decide⟩ | exact Nat.le_of_ble_eq_true rfl | exact rfl) ?_; with_reducible conv => whnf) | (rw [isLst_at (by assumption)]; with_reducible conv => whnf) | (refine ifT rfl ?_; with_reducible conv => whnf) | (refine ifF rfl ?_; with_reducible conv => whnf) | (refine it_at (by assumption) ?_; with_reducible conv => whnf)))
    refine ⟨_, _, rfl, by decide, bd, fun r3 S3 c0 c1 cd cc => ?_⟩
    ((with_reducible conv => whnf); repeat (first | (rw [natD_len]; with_reducible conv => whnf) | (rw [intD_len]; with_reducible conv => whnf) | (refine Exists.intro _ (And.intro (rfl : _ = some _) ?_); with_reducible conv => whnf) | (refine And.intro (okII _ _) ?_; rw [eqD_ii]; with_reducible conv => whnf) | (refine And.intro (by first | assumption | exact Exists.intro _ (by assumption) | exact ⟨rfl, rfl, by decide, by decide⟩ | exact Nat.le_of_ble_eq_true rfl | exact rfl) ?_; with_reducible conv => whnf) | (rw [isLst_at (by assumption)]; with_reducible conv => whnf) | (refine ifT rfl ?_; with_reducible conv => whnf) | (refine ifF rfl ?_; with_reducible conv => whnf) | (refine it_at (by assumption) ?_; with_reducible conv => whnf)))
    exact k _ _ (by omega) (by omega) cd (ac.trans cc)
structure OkZ (xs : List Int) : Prop where
  lo : ∀ x ∈ xs, -Zb ≤ x
  hi : ∀ x ∈ xs, x ≤ Zb
@[reducible] def sp_prizes : Spc := fun ds S Q => ∃ n ns m, ds = [.ref n, .rol (intD ns), .int m] ∧ ns.length ≤ 63 ∧ 0 < m ∧ m ≤ 40 ∧ Dr n S ∧ ∀ xs S', (xs.length : Int) = m → OkZ xs → Dr n S' → Ch n S S' → Q (.tup (intD xs)) S'
theorem body_law_prizes : Body 7 3 (w_law_prizes sp_take sp_size) sp_prizes := by
  rintro ds S Q _ ⟨n, ns, m, rfl, hl, hm0, hm1, hd, k⟩
  unfold w_law_prizes
  (simp only [start, List.map_cons, List.map_nil, List.length_cons, List.length_nil, Nat.reduceAdd, Nat.reduceSub, List.replicate_succ, List.replicate_zero, List.cons_append, List.nil_append, Nat.sub_self, Nat.zero_add])
  ((with_reducible conv => whnf); repeat (first | (rw [natD_len]; with_reducible conv => whnf) | (rw [intD_len]; with_reducible conv => whnf) | (refine Exists.intro _ (And.intro (rfl : _ = some _) ?_); with_reducible conv => whnf) | (refine And.intro (okII _ _) ?_; rw [eqD_ii]; with_reducible conv => whnf) | (refine And.intro (by first | assumption | exact Exists.intro _ (by assumption) | exact ⟨rfl, rfl, by decide, by decide⟩ | exact Nat.le_of_ble_eq_true rfl | exact rfl) ?_; with_reducible conv => whnf) | (rw [isLst_at (by assumption)]; with_reducible conv => whnf) | (refine ifT rfl ?_; with_reducible conv => whnf) | (refine ifF rfl ?_; with_reducible conv => whnf) | (refine it_at (by assumption) ?_; with_reducible conv => whnf)))
  refine ⟨_, _, rfl, by decide, hd, fun sg S1 h0 h1 hd1 hc1 => ?_⟩
  ((with_reducible conv => whnf); repeat (first | (rw [natD_len]; with_reducible conv => whnf) | (rw [intD_len]; with_reducible conv => whnf) | (refine Exists.intro _ (And.intro (rfl : _ = some _) ?_); with_reducible conv => whnf) | (refine And.intro (okII _ _) ?_; rw [eqD_ii]; with_reducible conv => whnf) | (refine And.intro (by first | assumption | exact Exists.intro _ (by assumption) | exact ⟨rfl, rfl, by decide, by decide⟩ | exact Nat.le_of_ble_eq_true rfl | exact rfl) ?_; with_reducible conv => whnf) | (rw [isLst_at (by assumption)]; with_reducible conv => whnf) | (refine ifT rfl ?_; with_reducible conv => whnf) | (refine ifF rfl ?_; with_reducible conv => whnf) | (refine it_at (by assumption) ?_; with_reducible conv => whnf)))
  have e0 := at_push S1 (.lst [])
  have hs0 := hc1.app [.lst []]
  have hd2 := hd1.app [.lst []]
  have hnl := hd1.lt
  have hlen := hc1.len hnl
  generalize S1.length = nf at *
  generalize S1 ++ [.lst []] = S2 at *
  have hz := Zb_eq
  refine ⟨⟨by omega, by omega⟩, ?_⟩
  refine Loop_mk (fun i ρ S' => ∃ o5 o6 xs, ρ = [some (.ref n), some (.rol (intD ns)), some (.int m), some (.int sg), some (.ref nf), o5, o6] ∧ S'[nf]? = some (.lst (intD xs)) ∧ xs.length = i ∧ OkZ xs ∧ Dr n S' ∧ Ch n S S') ⟨none, none, [], rfl, e0, rfl, ⟨by simp, by simp⟩, hd2, hs0⟩ (by intros; trivial) ?_ ?_
  · rintro i d ρ' S' hi ⟨o5, o6, xs, rfl, f1, f2, f3, f4, f5⟩
    obtain ⟨hi1, rfl⟩ := rangeD_get hi
    have last : ∀ (E : Ends) (v : Int) (T : Sto), (∀ o6 xs' T', T'[nf]? = some (.lst (intD xs')) → xs'.length = i + 1 → OkZ xs' → Dr n T' → Ch n S T' → E.nx [some (.ref n), some (.rol (intD ns)), some (.int m), some (.int sg), some (.ref nf), some (.int (0 + i)), o6] T') → -Zb ≤ v → v ≤ Zb → T[nf]? = some (.lst (intD xs)) → Dr n T → Ch n S T →
        sSeq (sIf (wtAnd (wtVal (wOp rGt (wVar 5) (wC (.int 0)))) (wtVal (wOp rEq (wCall 2 sp_take (wCons (wVar 0) (wCons (wC (.int 4)) wNil))) (wC (.int 0))))) (sAsg (wOp rIx (wVar 4) (wCall 2 sp_take (wCons (wVar 0) (wCons (wVar 5) wNil)))) (gN 6)) sNext)
          (sDrop (wM rAppend (wVar 4) (wCons (wVar 6) wNil))) E [some (.ref n), some (.rol (intD ns)), some (.int m), some (.int sg), some (.ref nf), some (.int (0 + i)), some (.int v)] T := by
      intro E v T hE v0 v1 t1 td tc
      have fin : ∀ (u : Int) (T' : Sto), -Zb ≤ u → u ≤ Zb → T'[nf]? = some (.lst (intD xs)) → Dr n T' → Ch n S T' → (intD xs).length < szL ∧ E.nx [some (.ref n), some (.rol (intD ns)), some (.int m), some (.int sg), some (.ref nf), some (.int (0 + i)), some (.int u)] (T'.set nf (.lst (intD xs ++ [.int u]))) := by
        intro u T' u0 u1 t1 td tc
        refine ⟨by rw [intD_len]; unfold szL; omega, hE _ (xs ++ [u]) _ ((at_set t1).trans (by simp [intD])) (by simp [f2]) ⟨fun x hx => ?_, fun x hx => ?_⟩ (td.put (by omega)) (tc.put hlen)⟩
        · rcases List.mem_append.mp hx with h | h
          · exact f3.lo x h
          · rw [List.mem_singleton.mp h]; exact u0
        · rcases List.mem_append.mp hx with h | h
          · exact f3.hi x h
          · rw [List.mem_singleton.mp h]; exact u1
      ((with_reducible conv => whnf); repeat (first | (refine And.intro (okII _ _) ?_; rw [eqD_ii]; with_reducible conv => whnf) | (refine And.intro (by first | assumption | exact Exists.intro _ (by assumption) | exact ⟨rfl, rfl, by decide, by decide⟩ | exact Nat.le_of_ble_eq_true rfl | exact rfl) ?_; with_reducible conv => whnf) | (rw [isLst_at (by assumption)]; with_reducible conv => whnf) | (refine ifT rfl ?_; with_reducible conv => whnf) | (refine ifF rfl ?_; with_reducible conv => whnf) | (refine it_at (by assumption) ?_; with_reducible conv => whnf)))
      refine ite_d (fun hc => ?_) fun hc => ?_
      · ((with_reducible conv => whnf); repeat (first | (refine And.intro (okII _ _) ?_; rw [eqD_ii]; with_reducible conv => whnf) | (refine And.intro (by first | assumption | exact Exists.intro _ (by assumption) | exact ⟨rfl, rfl, by decide, by decide⟩ | exact Nat.le_of_ble_eq_true rfl | exact rfl) ?_; with_reducible conv => whnf) | (rw [isLst_at (by assumption)]; with_reducible conv => whnf) | (refine ifT rfl ?_; with_reducible conv => whnf) | (refine ifF rfl ?_; with_reducible conv => whnf) | (refine it_at (by assumption) ?_; with_reducible conv => whnf)))
        refine ⟨_, _, rfl, by decide, td, fun q1 T1 q0 q1' qd qc => ?_⟩
        have t1 := qc _ _ (by omega) t1
        ((with_reducible conv => whnf); repeat (first | (refine And.intro (okII _ _) ?_; rw [eqD_ii]; with_reducible conv => whnf) | (refine And.intro (by first | assumption | exact Exists.intro _ (by assumption) | exact ⟨rfl, rfl, by decide, by decide⟩ | exact Nat.le_of_ble_eq_true rfl | exact rfl) ?_; with_reducible conv => whnf) | (rw [isLst_at (by assumption)]; with_reducible conv => whnf) | (refine ifT rfl ?_; with_reducible conv => whnf) | (refine ifF rfl ?_; with_reducible conv => whnf) | (refine it_at (by assumption) ?_; with_reducible conv => whnf)))
        refine ite_d (fun hc2 => ?_) fun hc2 => ?_
        · ((with_reducible conv => whnf); repeat (first | (refine And.intro (okII _ _) ?_; rw [eqD_ii]; with_reducible conv => whnf) | (refine And.intro (by first | assumption | exact Exists.intro _ (by assumption) | exact ⟨rfl, rfl, by decide, by decide⟩ | exact Nat.le_of_ble_eq_true rfl | exact rfl) ?_; with_reducible conv => whnf) | (rw [isLst_at (by assumption)]; with_reducible conv => whnf) | (refine ifT rfl ?_; with_reducible conv => whnf) | (refine ifF rfl ?_; with_reducible conv => whnf) | (refine it_at (by assumption) ?_; with_reducible conv => whnf)))
          refine ⟨_, _, rfl, hc, qd, fun q2 T2 p0 p1 pd pc => ?_⟩
          have t2 := pc _ _ (by omega) t1
          ((with_reducible conv => whnf); repeat (first | (refine And.intro (okII _ _) ?_; rw [eqD_ii]; with_reducible conv => whnf) | (refine And.intro (by first | assumption | exact Exists.intro _ (by assumption) | exact ⟨rfl, rfl, by decide, by decide⟩ | exact Nat.le_of_ble_eq_true rfl | exact rfl) ?_; with_reducible conv => whnf) | (rw [isLst_at (by assumption)]; with_reducible conv => whnf) | (refine ifT rfl ?_; with_reducible conv => whnf) | (refine ifF rfl ?_; with_reducible conv => whnf) | (refine it_at (by assumption) ?_; with_reducible conv => whnf)))
          have hq : q2 < xs.length := by omega
          refine ⟨_, atZ_intD p0 hq, ?_⟩
          ((with_reducible conv => whnf); repeat (first | (refine And.intro (okII _ _) ?_; rw [eqD_ii]; with_reducible conv => whnf) | (refine And.intro (by first | assumption | exact Exists.intro _ (by assumption) | exact ⟨rfl, rfl, by decide, by decide⟩ | exact Nat.le_of_ble_eq_true rfl | exact rfl) ?_; with_reducible conv => whnf) | (rw [isLst_at (by assumption)]; with_reducible conv => whnf) | (refine ifT rfl ?_; with_reducible conv => whnf) | (refine ifF rfl ?_; with_reducible conv => whnf) | (refine it_at (by assumption) ?_; with_reducible conv => whnf)))
          have hmem : xs.getD q2.toNat 0 ∈ xs := by
            rw [List.getD_eq_getElem?_getD, List.getElem?_eq_getElem (show q2.toNat < xs.length by omega)]
            exact List.getElem_mem _
          exact fin _ _ (f3.lo _ hmem) (f3.hi _ hmem) t2 pd ((tc.trans qc).trans pc)
        · ((with_reducible conv => whnf); repeat (first | (refine And.intro (okII _ _) ?_; rw [eqD_ii]; with_reducible conv => whnf) | (refine And.intro (by first | assumption | exact Exists.intro _ (by assumption) | exact ⟨rfl, rfl, by decide, by decide⟩ | exact Nat.le_of_ble_eq_true rfl | exact rfl) ?_; with_reducible conv => whnf) | (rw [isLst_at (by assumption)]; with_reducible conv => whnf) | (refine ifT rfl ?_; with_reducible conv => whnf) | (refine ifF rfl ?_; with_reducible conv => whnf) | (refine it_at (by assumption) ?_; with_reducible conv => whnf)))
          exact fin _ _ v0 v1 t1 qd (tc.trans qc)
      · ((with_reducible conv => whnf); repeat (first | (refine And.intro (okII _ _) ?_; rw [eqD_ii]; with_reducible conv => whnf) | (refine And.intro (by first | assumption | exact Exists.intro _ (by assumption) | exact ⟨rfl, rfl, by decide, by decide⟩ | exact Nat.le_of_ble_eq_true rfl | exact rfl) ?_; with_reducible conv => whnf) | (rw [isLst_at (by assumption)]; with_reducible conv => whnf) | (refine ifT rfl ?_; with_reducible conv => whnf) | (refine ifF rfl ?_; with_reducible conv => whnf) | (refine it_at (by assumption) ?_; with_reducible conv => whnf)))
        exact fin _ _ v0 v1 t1 td tc
    have mid : ∀ (E : Ends) (v : Int) (T : Sto), (∀ o6 xs' T', T'[nf]? = some (.lst (intD xs')) → xs'.length = i + 1 → OkZ xs' → Dr n T' → Ch n S T' → E.nx [some (.ref n), some (.rol (intD ns)), some (.int m), some (.int sg), some (.ref nf), some (.int (0 + i)), o6] T') → -Zb ≤ v → v ≤ Zb → T[nf]? = some (.lst (intD xs)) → Dr n T → Ch n S T →
        sSeq (sIf (wtOr (wtVal (wOp rEq (wVar 3) (wC (.int 0)))) (wtAnd (wtVal (wOp rEq (wVar 3) (wC (.int 1)))) (wtVal (wOp rEq (wCall 2 sp_take (wCons (wVar 0) (wCons (wC (.int 2)) wNil))) (wC (.int 0)))))) (sAsg (wUn rNeg (wVar 6)) (gN 6)) sNext)
        (sSeq (sIf (wtAnd (wtVal (wOp rGt (wVar 5) (wC (.int 0)))) (wtVal (wOp rEq (wCall 2 sp_take (wCons (wVar 0) (wCons (wC (.int 4)) wNil))) (wC (.int 0))))) (sAsg (wOp rIx (wVar 4) (wCall 2 sp_take (wCons (wVar 0) (wCons (wVar 5) wNil)))) (gN 6)) sNext)
          (sDrop (wM rAppend (wVar 4) (wCons (wVar 6) wNil)))) E [some (.ref n), some (.rol (intD ns)), some (.int m), some (.int sg), some (.ref nf), some (.int (0 + i)), some (.int v)] T := by
      intro E v T hE v0 v1 t1 td tc
      have : sg = 0 ∨ sg = 1 ∨ sg = 2 := by omega
      rcases this with rfl | rfl | rfl
      · ((with_reducible conv => whnf); repeat (first | (refine And.intro (okII _ _) ?_; rw [eqD_ii]; with_reducible conv => whnf) | (refine And.intro (by first | assumption | exact Exists.intro _ (by assumption) | exact ⟨rfl, rfl, by decide, by decide⟩ | exact Nat.le_of_ble_eq_true rfl | exact rfl) ?_; with_reducible conv => whnf) | (rw [isLst_at (by assumption)]; with_reducible conv => whnf) | (refine ifT rfl ?_; with_reducible conv => whnf) | (refine ifF rfl ?_; with_reducible conv => whnf) | (refine it_at (by assumption) ?_; with_reducible conv => whnf)))
        exact last _ (-v) T hE (by omega) (by omega) t1 td tc
      · ((with_reducible conv => whnf); repeat (first | (refine And.intro (okII _ _) ?_; rw [eqD_ii]; with_reducible conv => whnf) | (refine And.intro (by first | assumption | exact Exists.intro _ (by assumption) | exact ⟨rfl, rfl, by decide, by decide⟩ | exact Nat.le_of_ble_eq_true rfl | exact rfl) ?_; with_reducible conv => whnf) | (rw [isLst_at (by assumption)]; with_reducible conv => whnf) | (refine ifT rfl ?_; with_reducible conv => whnf) | (refine ifF rfl ?_; with_reducible conv => whnf) | (refine it_at (by assumption) ?_; with_reducible conv => whnf)))
        refine ⟨_, _, rfl, by decide, td, fun q1 T1 q0 q1' qd qc => ?_⟩
        have t2 := qc _ _ (by omega) t1
        ((with_reducible conv => whnf); repeat (first | (refine And.intro (okII _ _) ?_; rw [eqD_ii]; with_reducible conv => whnf) | (refine And.intro (by first | assumption | exact Exists.intro _ (by assumption) | exact ⟨rfl, rfl, by decide, by decide⟩ | exact Nat.le_of_ble_eq_true rfl | exact rfl) ?_; with_reducible conv => whnf) | (rw [isLst_at (by assumption)]; with_reducible conv => whnf) | (refine ifT rfl ?_; with_reducible conv => whnf) | (refine ifF rfl ?_; with_reducible conv => whnf) | (refine it_at (by assumption) ?_; with_reducible conv => whnf)))
        refine ite_d (fun _ => ?_) fun _ => ?_
        · exact last _ (-v) T1 hE (by omega) (by omega) t2 qd (tc.trans qc)
        · exact last _ v T1 hE v0 v1 t2 qd (tc.trans qc)
      · ((with_reducible conv => whnf); repeat (first | (refine And.intro (okII _ _) ?_; rw [eqD_ii]; with_reducible conv => whnf) | (refine And.intro (by first | assumption | exact Exists.intro _ (by assumption) | exact ⟨rfl, rfl, by decide, by decide⟩ | exact Nat.le_of_ble_eq_true rfl | exact rfl) ?_; with_reducible conv => whnf) | (rw [isLst_at (by assumption)]; with_reducible conv => whnf) | (refine ifT rfl ?_; with_reducible conv => whnf) | (refine ifF rfl ?_; with_reducible conv => whnf) | (refine it_at (by assumption) ?_; with_reducible conv => whnf)))
        exact last _ v T hE v0 v1 t1 td tc
    ((with_reducible conv => whnf); repeat (first | (rw [natD_len]; with_reducible conv => whnf) | (rw [intD_len]; with_reducible conv => whnf) | (refine Exists.intro _ (And.intro (rfl : _ = some _) ?_); with_reducible conv => whnf) | (refine And.intro (okII _ _) ?_; rw [eqD_ii]; with_reducible conv => whnf) | (refine And.intro (by first | assumption | exact Exists.intro _ (by assumption) | exact ⟨rfl, rfl, by decide, by decide⟩ | exact Nat.le_of_ble_eq_true rfl | exact rfl) ?_; with_reducible conv => whnf) | (rw [isLst_at (by assumption)]; with_reducible conv => whnf) | (refine ifT rfl ?_; with_reducible conv => whnf) | (refine ifF rfl ?_; with_reducible conv => whnf) | (refine it_at (by assumption) ?_; with_reducible conv => whnf)))
    have hnfl := at_lt f1
    have hlt := f4.lt
    have g1 := at_push S' (.lst [.int 4, .int 30, .int 1000])
    have f1 := push_at f1 [.lst [.int 4, .int 30, .int 1000]]
    have f5 := f5.app [.lst [.int 4, .int 30, .int 1000]]
    have f4 := f4.app [.lst [.int 4, .int 30, .int 1000]]
    generalize S'.length = n4 at *
    generalize S' ++ [.lst [.int 4, .int 30, .int 1000]] = T0 at *
    refine ⟨_, _, rfl, by decide, f4, fun r1 T1 a0 a1 ad ac => ?_⟩
    have f1 := ac _ _ (by omega) f1
    have f5 := f5.trans ac
    have g1 := ac _ _ (by omega) g1
    ((with_reducible conv => whnf); repeat (first | (rw [natD_len]; with_reducible conv => whnf) | (rw [intD_len]; with_reducible conv => whnf) | (refine Exists.intro _ (And.intro (rfl : _ = some _) ?_); with_reducible conv => whnf) | (refine And.intro (okII _ _) ?_; rw [eqD_ii]; with_reducible conv => whnf) | (refine And.intro (by first | assumption | exact Exists.intro _ (by assumption) | exact ⟨rfl, rfl, by decide, by decide⟩ | exact Nat.le_of_ble_eq_true rfl | exact rfl) ?_; with_reducible conv => whnf) | (rw [isLst_at (by assumption)]; with_reducible conv => whnf) | (refine ifT rfl ?_; with_reducible conv => whnf) | (refine ifF rfl ?_; with_reducible conv => whnf) | (refine it_at (by assumption) ?_; with_reducible conv => whnf)))
    have hz1 := atZ_intD (ns := [4, 30, 1000]) a0 a1
    have hq : 1 ≤ ([4, 30, 1000] : List Int).getD r1.toNat 0 ∧ ([4, 30, 1000] : List Int).getD r1.toNat 0 ≤ 1000 := by
      have : r1 = 0 ∨ r1 = 1 ∨ r1 = 2 := by omega
      rcases this with rfl | rfl | rfl <;> decide
    generalize ([4, 30, 1000] : List Int).getD r1.toNat 0 = w at *
    refine ⟨_, hz1, ?_⟩
    ((with_reducible conv => whnf); repeat (first | (rw [natD_len]; with_reducible conv => whnf) | (rw [intD_len]; with_reducible conv => whnf) | (refine Exists.intro _ (And.intro (rfl : _ = some _) ?_); with_reducible conv => whnf) | (refine And.intro (okII _ _) ?_; rw [eqD_ii]; with_reducible conv => whnf) | (refine And.intro (by first | assumption | exact Exists.intro _ (by assumption) | exact ⟨rfl, rfl, by decide, by decide⟩ | exact Nat.le_of_ble_eq_true rfl | exact rfl) ?_; with_reducible conv => whnf) | (rw [isLst_at (by assumption)]; with_reducible conv => whnf) | (refine ifT rfl ?_; with_reducible conv => whnf) | (refine ifF rfl ?_; with_reducible conv => whnf) | (refine it_at (by assumption) ?_; with_reducible conv => whnf)))
    refine ⟨_, _, rfl, by omega, ad, fun r2 T2 b0 b1 bd bc => ?_⟩
    have f1 := bc _ _ (by omega) f1
    have f5 := f5.trans bc
    ((with_reducible conv => whnf); repeat (first | (rw [natD_len]; with_reducible conv => whnf) | (rw [intD_len]; with_reducible conv => whnf) | (refine Exists.intro _ (And.intro (rfl : _ = some _) ?_); with_reducible conv => whnf) | (refine And.intro (okII _ _) ?_; rw [eqD_ii]; with_reducible conv => whnf) | (refine And.intro (by first | assumption | exact Exists.intro _ (by assumption) | exact ⟨rfl, rfl, by decide, by decide⟩ | exact Nat.le_of_ble_eq_true rfl | exact rfl) ?_; with_reducible conv => whnf) | (rw [isLst_at (by assumption)]; with_reducible conv => whnf) | (refine ifT rfl ?_; with_reducible conv => whnf) | (refine ifF rfl ?_; with_reducible conv => whnf) | (refine it_at (by assumption) ?_; with_reducible conv => whnf)))
    refine ⟨_, _, rfl, by decide, bd, fun r3 T3 c0 c1 cd cc => ?_⟩
    have f1 := cc _ _ (by omega) f1
    have f5 := f5.trans cc
    ((with_reducible conv => whnf); repeat (first | (rw [natD_len]; with_reducible conv => whnf) | (rw [intD_len]; with_reducible conv => whnf) | (refine Exists.intro _ (And.intro (rfl : _ = some _) ?_); with_reducible conv => whnf) | (refine And.intro (okII _ _) ?_; rw [eqD_ii]; with_reducible conv => whnf) | (refine And.intro (by first | assumption | exact Exists.intro _ (by assumption) | exact ⟨rfl, rfl, by decide, by decide⟩ | exact Nat.le_of_ble_eq_true rfl | exact rfl) ?_; with_reducible conv => whnf) | (rw [isLst_at (by assumption)]; with_reducible conv => whnf) | (refine ifT rfl ?_; with_reducible conv => whnf) | (refine ifF rfl ?_; with_reducible conv => whnf) | (refine it_at (by assumption) ?_; with_reducible conv => whnf)))
    refine ite_d (fun hc => ?_) fun hc => ?_
    · ((with_reducible conv => whnf); repeat (first | (rw [natD_len]; with_reducible conv => whnf) | (rw [intD_len]; with_reducible conv => whnf) | (refine Exists.intro _ (And.intro (rfl : _ = some _) ?_); with_reducible conv => whnf) | (refine And.intro (okII _ _) ?_; rw [eqD_ii]; with_reducible conv => whnf) | (refine And.intro (by first | assumption | exact Exists.intro _ (by assumption) | exact ⟨rfl, rfl, by decide, by decide⟩ | exact Nat.le_of_ble_eq_true rfl | exact rfl) ?_; with_reducible conv => whnf) | (rw [isLst_at (by assumption)]; with_reducible conv => whnf) | (refine ifT rfl ?_; with_reducible conv => whnf) | (refine ifF rfl ?_; with_reducible conv => whnf) | (refine it_at (by assumption) ?_; with_reducible conv => whnf)))
      refine ⟨_, _, rfl, hl, cd, fun x T4 d0 d1 dd dc => ?_⟩
      have f1 := dc _ _ (by omega) f1
      have f5 := f5.trans dc
      exact mid _ x T4 (fun o6 xs' T' q1 q2 q3 q4 q5 => ⟨_, _, xs', rfl, q1, q2, q3, q4, q5⟩) (by omega) d1 f1 dd f5
    · exact mid _ r2 T3 (fun o6 xs' T' q1 q2 q3 q4 q5 => ⟨_, _, xs', rfl, q1, q2, q3, q4, q5⟩) (by omega) (by omega) f1 cd f5
  · rintro ρ' S' ⟨o5, o6, xs, rfl, f1, f2, f3, f4, f5⟩
    rw [rangeD_len] at f2
    ((with_reducible conv => whnf); repeat (first | (rw [natD_len]; with_reducible conv => whnf) | (rw [intD_len]; with_reducible conv => whnf) | (refine Exists.intro _ (And.intro (rfl : _ = some _) ?_); with_reducible conv => whnf) | (refine And.intro (okII _ _) ?_; rw [eqD_ii]; with_reducible conv => whnf) | (refine And.intro (by first | assumption | exact Exists.intro _ (by assumption) | exact ⟨rfl, rfl, by decide, by decide⟩ | exact Nat.le_of_ble_eq_true rfl | exact rfl) ?_; with_reducible conv => whnf) | (rw [isLst_at (by assumption)]; with_reducible conv => whnf) | (refine ifT rfl ?_; with_reducible conv => whnf) | (refine ifF rfl ?_; with_reducible conv => whnf) | (refine it_at (by assumption) ?_; with_reducible conv => whnf)))
    exact k _ _ (by omega) f3 f4 f5
theorem okP_div {a m : Int} (ha : 1 ≤ a) (ha2 : a ≤ 10 ^ 80) (hm : 1 ≤ m) (hm2 : m ≤ 1024) : OkP (Rat.divInt a m) := by
  have e : Rat.divInt a m = (a : Rat) / (m : Rat) := divInt_eq a m
  have hm' : (1 : Rat) ≤ (m : Rat) := by exact_mod_cast hm
  have ha' : (1 : Rat) ≤ (a : Rat) := by exact_mod_cast ha
  have hX : (a : Rat) ≤ cX := by
    unfold cX
    have : a ≤ ((2 ^ 300 : Nat) : Int) := Int.le_trans ha2 (by decide)
    exact Rat.intCast_le_intCast.mpr this
  have em : Rat.divInt a m * (m : Rat) = (a : Rat) := by rw [e]; exact Rat.div_mul_cancel (by grind)
  have hb := div_bd em hm' (M := (a : Rat)) (by grind) (by grind) (by grind)
  refine ⟨?_, by grind, ?_⟩
  · false_or_by_contra
    rename_i hc
    have := Rat.mul_le_mul_of_nonneg_right (a := Rat.divInt a m) (b := 0) (c := (m : Rat)) (by grind) (by grind)
    grind
  · rw [Rat.den_divInt, if_neg (by omega)]
    exact Nat.le_trans (Nat.div_le_self _ _) (by omega)
@[reducible] def sp_price : Spc := fun ds S Q => ∃ n ns xs, ds = [.ref n, .rol (intD ns), .tup (intD xs)] ∧ ns.length ≤ 63 ∧ 0 < xs.length ∧ xs.length ≤ 40 ∧ OkZ xs ∧ Dr n S ∧ ∀ p S', OkP p → Dr n S' → Ch n S S' → Q (qD p) S'
theorem sum_nn : ∀ {l : List Int} {M : Int}, (∀ x ∈ l, 0 ≤ x) → (∀ x ∈ l, x ≤ M) → 0 ≤ l.sum ∧ l.sum ≤ l.length * M
  | [], M, _, _ => by simp
  | x :: l, M, h1, h2 => by
    have ih := sum_nn (l := l) (M := M) (fun y hy => h1 y (List.mem_cons_of_mem _ hy)) fun y hy => h2 y (List.mem_cons_of_mem _ hy)
    have a := h1 x List.mem_cons_self
    have b := h2 x List.mem_cons_self
    rw [List.sum_cons, List.length_cons, Int.natCast_add, Int.add_mul]
    omega
theorem body_law_price : Body 7 3 (w_law_price sp_take sp_ratio sp_size) sp_price := by
  rintro ds S Q _ ⟨n, ns, xs, rfl, hl, hx0, hx40, hZ, hd, k⟩
  unfold w_law_price
  (simp only [start, List.map_cons, List.map_nil, List.length_cons, List.length_nil, Nat.reduceAdd, Nat.reduceSub, List.replicate_succ, List.replicate_zero, List.cons_append, List.nil_append, Nat.sub_self, Nat.zero_add])
  have hz := Zb_eq
  ((with_reducible conv => whnf); repeat (first | (rw [natD_len]; with_reducible conv => whnf) | (rw [intD_len]; with_reducible conv => whnf) | (refine Exists.intro _ (And.intro (rfl : _ = some _) ?_); with_reducible conv => whnf) | (refine And.intro (okII _ _) ?_; rw [eqD_ii]; with_reducible conv => whnf) | (refine And.intro (by first | assumption | exact Exists.intro _ (by assumption) | exact ⟨rfl, rfl, by decide, by decide⟩ | exact Nat.le_of_ble_eq_true rfl | exact rfl) ?_; with_reducible conv => whnf) | (rw [isLst_at (by assumption)]; with_reducible conv => whnf) | (refine ifT rfl ?_; with_reducible conv => whnf) | (refine ifF rfl ?_; with_reducible conv => whnf) | (refine it_at (by assumption) ?_; with_reducible conv => whnf)))
  refine ⟨_, _, rfl, by decide, hd, fun kd S1 a0 a1 ad ac => ?_⟩
  ((with_reducible conv => whnf); repeat (first | (rw [natD_len]; with_reducible conv => whnf) | (rw [intD_len]; with_reducible conv => whnf) | (refine Exists.intro _ (And.intro (rfl : _ = some _) ?_); with_reducible conv => whnf) | (refine And.intro (okII _ _) ?_; rw [eqD_ii]; with_reducible conv => whnf) | (refine And.intro (by first | assumption | exact Exists.intro _ (by assumption) | exact ⟨rfl, rfl, by decide, by decide⟩ | exact Nat.le_of_ble_eq_true rfl | exact rfl) ?_; with_reducible conv => whnf) | (rw [isLst_at (by assumption)]; with_reducible conv => whnf) | (refine ifT rfl ?_; with_reducible conv => whnf) | (refine ifF rfl ?_; with_reducible conv => whnf) | (refine it_at (by assumption) ?_; with_reducible conv => whnf)))
  refine ⟨_, _, rfl, by omega, ad, fun r1 S2 b0 b1 bd bc => ?_⟩
  have ac := ac.trans bc
  ((with_reducible conv => whnf); repeat (first | (rw [natD_len]; with_reducible conv => whnf) | (rw [intD_len]; with_reducible conv => whnf) | (refine Exists.intro _ (And.intro (rfl : _ = some _) ?_); with_reducible conv => whnf) | (refine And.intro (okII _ _) ?_; rw [eqD_ii]; with_reducible conv => whnf) | (refine And.intro (by first | assumption | exact Exists.intro _ (by assumption) | exact ⟨rfl, rfl, by decide, by decide⟩ | exact Nat.le_of_ble_eq_true rfl | exact rfl) ?_; with_reducible conv => whnf) | (rw [isLst_at (by assumption)]; with_reducible conv => whnf) | (refine ifT rfl ?_; with_reducible conv => whnf) | (refine ifF rfl ?_; with_reducible conv => whnf) | (refine it_at (by assumption) ?_; with_reducible conv => whnf)))
  have hmem : xs.getD r1.toNat 0 ∈ xs := by
    rw [List.getD_eq_getElem?_getD, List.getElem?_eq_getElem (show r1.toNat < xs.length by omega)]
    exact List.getElem_mem _
  have q0 := hZ.lo _ hmem
  have q1 := hZ.hi _ hmem
  refine ⟨_, atZ_intD b0 b1, ?_⟩
  generalize xs.getD r1.toNat 0 = q at *
  ((with_reducible conv => whnf); repeat (first | (rw [natD_len]; with_reducible conv => whnf) | (rw [intD_len]; with_reducible conv => whnf) | (refine Exists.intro _ (And.intro (rfl : _ = some _) ?_); with_reducible conv => whnf) | (refine And.intro (okII _ _) ?_; rw [eqD_ii]; with_reducible conv => whnf) | (refine And.intro (by first | assumption | exact Exists.intro _ (by assumption) | exact ⟨rfl, rfl, by decide, by decide⟩ | exact Nat.le_of_ble_eq_true rfl | exact rfl) ?_; with_reducible conv => whnf) | (rw [isLst_at (by assumption)]; with_reducible conv => whnf) | (refine ifT rfl ?_; with_reducible conv => whnf) | (refine ifF rfl ?_; with_reducible conv => whnf) | (refine it_at (by assumption) ?_; with_reducible conv => whnf)))
  refine Lc_lm (xs := xs) (e := D.int) (fun x => .int (max 0 (x - q))) (by unfold szL; omega) (by intros; trivial) (fun x S3 R hx h hR => ?_) fun S3 h3 => ?_
  · ((with_reducible conv => whnf); repeat (first | (rw [natD_len]; with_reducible conv => whnf) | (rw [intD_len]; with_reducible conv => whnf) | (refine Exists.intro _ (And.intro (rfl : _ = some _) ?_); with_reducible conv => whnf) | (refine And.intro (okII _ _) ?_; rw [eqD_ii]; with_reducible conv => whnf) | (refine And.intro (by first | assumption | exact Exists.intro _ (by assumption) | exact ⟨rfl, rfl, by decide, by decide⟩ | exact Nat.le_of_ble_eq_true rfl | exact rfl) ?_; with_reducible conv => whnf) | (rw [isLst_at (by assumption)]; with_reducible conv => whnf) | (refine ifT rfl ?_; with_reducible conv => whnf) | (refine ifF rfl ?_; with_reducible conv => whnf) | (refine it_at (by assumption) ?_; with_reducible conv => whnf)))
    exact hR _ (Sub.refl _)
  · have e1 := at_push S3 (.lst (xs.map fun x => .int (max 0 (x - q))))
    have ac := (ac.trans h3.ch).app [.lst (xs.map fun x => .int (max 0 (x - q)))]
    have cd := (bd.sub h3).app [.lst (xs.map fun x => .int (max 0 (x - q)))]
    have em : (xs.map fun x => D.int (max 0 (x - q))) = intD (xs.map fun x => max 0 (x - q)) := by simp [intD]
    rw [em] at e1 ac cd ⊢
    generalize S3 ++ [.lst (intD (xs.map fun x => max 0 (x - q)))] = S4 at *
    generalize S3.length = n3 at *
    have hs := sum_nn (l := xs.map fun x => max 0 (x - q)) (M := 2 * Zb) (fun y hy => by
      obtain ⟨x, _, rfl⟩ := List.mem_map.mp hy
      omega) (fun y hy => by
      obtain ⟨x, hx, rfl⟩ := List.mem_map.mp hy
      have := hZ.lo x hx
      have := hZ.hi x hx
      omega)
    rw [List.length_map] at hs
    have hs2 : (xs.map fun x => max 0 (x - q)).sum ≤ 80 * Zb := by
      have : (xs.length : Int) * (2 * Zb) ≤ 40 * (2 * Zb) := Int.mul_le_mul_of_nonneg_right (by omega) (by omega)
      omega
    refine ⟨xs.map fun x => max 0 (x - q), by show (match S4[n3]? with | some (.lst xs) => some xs | _ => none) = _; rw [e1], ?_⟩
    ((with_reducible conv => whnf); repeat (first | (rw [natD_len]; with_reducible conv => whnf) | (rw [intD_len]; with_reducible conv => whnf) | (refine Exists.intro _ (And.intro (rfl : _ = some _) ?_); with_reducible conv => whnf) | (refine And.intro (okII _ _) ?_; rw [eqD_ii]; with_reducible conv => whnf) | (refine And.intro (by first | assumption | exact Exists.intro _ (by assumption) | exact ⟨rfl, rfl, by decide, by decide⟩ | exact Nat.le_of_ble_eq_true rfl | exact rfl) ?_; with_reducible conv => whnf) | (rw [isLst_at (by assumption)]; with_reducible conv => whnf) | (refine ifT rfl ?_; with_reducible conv => whnf) | (refine ifF rfl ?_; with_reducible conv => whnf) | (refine it_at (by assumption) ?_; with_reducible conv => whnf)))
    generalize (xs.map fun x => max 0 (x - q)).sum = ab at *
    have tail : ∀ (a m : Int) (T : Sto), 1 ≤ a → a ≤ 10 ^ 80 → 1 ≤ m → m ≤ 1024 → Dr n T → Ch n S T → sp_ratio [.int a, .int m] T Q := fun a m T h1 h2 h3 h4 h5 h6 => ⟨a, m, rfl, by omega, Nat.lt_of_lt_of_le (show m.natAbs < 2 ^ 11 by omega) (pow_le2 (by decide)), fun S' h => k _ _ (okP_div h1 h2 h3 h4) (h5.sub h) (h6.trans h.ch)⟩
    have : kd = 0 ∨ kd = 1 ∨ kd = 2 ∨ kd = 3 := by omega
    have rest : ∀ T, Dr n T → Ch n S T → wCall 2 sp_ratio (wCons (wOp rAdd (wC (.int 1)) (wCall 2 sp_take (wCons (wVar 0) (wCons (wC (.int 40)) wNil)))) (wCons (wOp rAdd (wC (.int 1)) (wCall 2 sp_take (wCons (wVar 0) (wCons (wC (.int 12)) wNil)))) wNil)) [some (.ref n), some (.rol (intD ns)), some (.tup (intD xs)), some (.int kd), some (.int q), some (.int ab), none] T Q := by
      intro T td tc
      ((with_reducible conv => whnf); repeat (first | (rw [natD_len]; with_reducible conv => whnf) | (rw [intD_len]; with_reducible conv => whnf) | (refine Exists.intro _ (And.intro (rfl : _ = some _) ?_); with_reducible conv => whnf) | (refine And.intro (okII _ _) ?_; rw [eqD_ii]; with_reducible conv => whnf) | (refine And.intro (by first | assumption | exact Exists.intro _ (by assumption) | exact ⟨rfl, rfl, by decide, by decide⟩ | exact Nat.le_of_ble_eq_true rfl | exact rfl) ?_; with_reducible conv => whnf) | (rw [isLst_at (by assumption)]; with_reducible conv => whnf) | (refine ifT rfl ?_; with_reducible conv => whnf) | (refine ifF rfl ?_; with_reducible conv => whnf) | (refine it_at (by assumption) ?_; with_reducible conv => whnf)))
      refine ⟨_, _, rfl, by decide, td, fun r2 T2 c0 c1 cd cc => ?_⟩
      ((with_reducible conv => whnf); repeat (first | (rw [natD_len]; with_reducible conv => whnf) | (rw [intD_len]; with_reducible conv => whnf) | (refine Exists.intro _ (And.intro (rfl : _ = some _) ?_); with_reducible conv => whnf) | (refine And.intro (okII _ _) ?_; rw [eqD_ii]; with_reducible conv => whnf) | (refine And.intro (by first | assumption | exact Exists.intro _ (by assumption) | exact ⟨rfl, rfl, by decide, by decide⟩ | exact Nat.le_of_ble_eq_true rfl | exact rfl) ?_; with_reducible conv => whnf) | (rw [isLst_at (by assumption)]; with_reducible conv => whnf) | (refine ifT rfl ?_; with_reducible conv => whnf) | (refine ifF rfl ?_; with_reducible conv => whnf) | (refine it_at (by assumption) ?_; with_reducible conv => whnf)))
      refine ⟨_, _, rfl, by decide, cd, fun r3 T3 d0 d1 dd dc => ?_⟩
      ((with_reducible conv => whnf); repeat (first | (rw [natD_len]; with_reducible conv => whnf) | (rw [intD_len]; with_reducible conv => whnf) | (refine Exists.intro _ (And.intro (rfl : _ = some _) ?_); with_reducible conv => whnf) | (refine And.intro (okII _ _) ?_; rw [eqD_ii]; with_reducible conv => whnf) | (refine And.intro (by first | assumption | exact Exists.intro _ (by assumption) | exact ⟨rfl, rfl, by decide, by decide⟩ | exact Nat.le_of_ble_eq_true rfl | exact rfl) ?_; with_reducible conv => whnf) | (rw [isLst_at (by assumption)]; with_reducible conv => whnf) | (refine ifT rfl ?_; with_reducible conv => whnf) | (refine ifF rfl ?_; with_reducible conv => whnf) | (refine it_at (by assumption) ?_; with_reducible conv => whnf)))
      exact tail _ _ _ (by omega) (by omega) (by omega) (by omega) dd ((tc.trans cc).trans dc)
    rcases this with rfl | rfl | rfl | rfl
    · ((with_reducible conv => whnf); repeat (first | (rw [natD_len]; with_reducible conv => whnf) | (rw [intD_len]; with_reducible conv => whnf) | (refine Exists.intro _ (And.intro (rfl : _ = some _) ?_); with_reducible conv => whnf) | (refine And.intro (okII _ _) ?_; rw [eqD_ii]; with_reducible conv => whnf) | (refine And.intro (by first | assumption | exact Exists.intro _ (by assumption) | exact ⟨rfl, rfl, by decide, by decide⟩ | exact Nat.le_of_ble_eq_true rfl | exact rfl) ?_; with_reducible conv => whnf) | (rw [isLst_at (by assumption)]; with_reducible conv => whnf) | (refine ifT rfl ?_; with_reducible conv => whnf) | (refine ifF rfl ?_; with_reducible conv => whnf) | (refine it_at (by assumption) ?_; with_reducible conv => whnf)))
      refine ite_d (fun hc => ?_) fun hc => ?_
      · ((with_reducible conv => whnf); repeat (first | (rw [natD_len]; with_reducible conv => whnf) | (rw [intD_len]; with_reducible conv => whnf) | (refine Exists.intro _ (And.intro (rfl : _ = some _) ?_); with_reducible conv => whnf) | (refine And.intro (okII _ _) ?_; rw [eqD_ii]; with_reducible conv => whnf) | (refine And.intro (by first | assumption | exact Exists.intro _ (by assumption) | exact ⟨rfl, rfl, by decide, by decide⟩ | exact Nat.le_of_ble_eq_true rfl | exact rfl) ?_; with_reducible conv => whnf) | (rw [isLst_at (by assumption)]; with_reducible conv => whnf) | (refine ifT rfl ?_; with_reducible conv => whnf) | (refine ifF rfl ?_; with_reducible conv => whnf) | (refine it_at (by assumption) ?_; with_reducible conv => whnf)))
        exact tail _ _ _ (by omega) (by omega) (by omega) (by omega) cd ac
      · ((with_reducible conv => whnf); repeat (first | (rw [natD_len]; with_reducible conv => whnf) | (rw [intD_len]; with_reducible conv => whnf) | (refine Exists.intro _ (And.intro (rfl : _ = some _) ?_); with_reducible conv => whnf) | (refine And.intro (okII _ _) ?_; rw [eqD_ii]; with_reducible conv => whnf) | (refine And.intro (by first | assumption | exact Exists.intro _ (by assumption) | exact ⟨rfl, rfl, by decide, by decide⟩ | exact Nat.le_of_ble_eq_true rfl | exact rfl) ?_; with_reducible conv => whnf) | (rw [isLst_at (by assumption)]; with_reducible conv => whnf) | (refine ifT rfl ?_; with_reducible conv => whnf) | (refine ifF rfl ?_; with_reducible conv => whnf) | (refine it_at (by assumption) ?_; with_reducible conv => whnf)))
        exact (rest S4 cd ac).2
    · ((with_reducible conv => whnf); repeat (first | (rw [natD_len]; with_reducible conv => whnf) | (rw [intD_len]; with_reducible conv => whnf) | (refine Exists.intro _ (And.intro (rfl : _ = some _) ?_); with_reducible conv => whnf) | (refine And.intro (okII _ _) ?_; rw [eqD_ii]; with_reducible conv => whnf) | (refine And.intro (by first | assumption | exact Exists.intro _ (by assumption) | exact ⟨rfl, rfl, by decide, by decide⟩ | exact Nat.le_of_ble_eq_true rfl | exact rfl) ?_; with_reducible conv => whnf) | (rw [isLst_at (by assumption)]; with_reducible conv => whnf) | (refine ifT rfl ?_; with_reducible conv => whnf) | (refine ifF rfl ?_; with_reducible conv => whnf) | (refine it_at (by assumption) ?_; with_reducible conv => whnf)))
      refine ⟨_, _, rfl, hl, cd, fun x T d0 d1 dd dc => ?_⟩
      ((with_reducible conv => whnf); repeat (first | (rw [natD_len]; with_reducible conv => whnf) | (rw [intD_len]; with_reducible conv => whnf) | (refine Exists.intro _ (And.intro (rfl : _ = some _) ?_); with_reducible conv => whnf) | (refine And.intro (okII _ _) ?_; rw [eqD_ii]; with_reducible conv => whnf) | (refine And.intro (by first | assumption | exact Exists.intro _ (by assumption) | exact ⟨rfl, rfl, by decide, by decide⟩ | exact Nat.le_of_ble_eq_true rfl | exact rfl) ?_; with_reducible conv => whnf) | (rw [isLst_at (by assumption)]; with_reducible conv => whnf) | (refine ifT rfl ?_; with_reducible conv => whnf) | (refine ifF rfl ?_; with_reducible conv => whnf) | (refine it_at (by assumption) ?_; with_reducible conv => whnf)))
      refine ⟨⟨by omega, by omega, by decide⟩, ?_⟩
      ((with_reducible conv => whnf); repeat (first | (rw [natD_len]; with_reducible conv => whnf) | (rw [intD_len]; with_reducible conv => whnf) | (refine Exists.intro _ (And.intro (rfl : _ = some _) ?_); with_reducible conv => whnf) | (refine And.intro (okII _ _) ?_; rw [eqD_ii]; with_reducible conv => whnf) | (refine And.intro (by first | assumption | exact Exists.intro _ (by assumption) | exact ⟨rfl, rfl, by decide, by decide⟩ | exact Nat.le_of_ble_eq_true rfl | exact rfl) ?_; with_reducible conv => whnf) | (rw [isLst_at (by assumption)]; with_reducible conv => whnf) | (refine ifT rfl ?_; with_reducible conv => whnf) | (refine ifF rfl ?_; with_reducible conv => whnf) | (refine it_at (by assumption) ?_; with_reducible conv => whnf)))
      refine ⟨by decide, ?_⟩
      have hm := fmod_lt (a := x) (b := (10 : Int) ^ Int.toNat 30) (by decide)
      rw [show (10 : Int) ^ Int.toNat 30 = 10 ^ 30 by decide] at hm ⊢
      ((with_reducible conv => whnf); repeat (first | (rw [natD_len]; with_reducible conv => whnf) | (rw [intD_len]; with_reducible conv => whnf) | (refine Exists.intro _ (And.intro (rfl : _ = some _) ?_); with_reducible conv => whnf) | (refine And.intro (okII _ _) ?_; rw [eqD_ii]; with_reducible conv => whnf) | (refine And.intro (by first | assumption | exact Exists.intro _ (by assumption) | exact ⟨rfl, rfl, by decide, by decide⟩ | exact Nat.le_of_ble_eq_true rfl | exact rfl) ?_; with_reducible conv => whnf) | (rw [isLst_at (by assumption)]; with_reducible conv => whnf) | (refine ifT rfl ?_; with_reducible conv => whnf) | (refine ifF rfl ?_; with_reducible conv => whnf) | (refine it_at (by assumption) ?_; with_reducible conv => whnf)))
      refine ⟨_, _, rfl, by decide, dd, fun r2 T2 c0 c1 cd cc => ?_⟩
      ((with_reducible conv => whnf); repeat (first | (rw [natD_len]; with_reducible conv => whnf) | (rw [intD_len]; with_reducible conv => whnf) | (refine Exists.intro _ (And.intro (rfl : _ = some _) ?_); with_reducible conv => whnf) | (refine And.intro (okII _ _) ?_; rw [eqD_ii]; with_reducible conv => whnf) | (refine And.intro (by first | assumption | exact Exists.intro _ (by assumption) | exact ⟨rfl, rfl, by decide, by decide⟩ | exact Nat.le_of_ble_eq_true rfl | exact rfl) ?_; with_reducible conv => whnf) | (rw [isLst_at (by assumption)]; with_reducible conv => whnf) | (refine ifT rfl ?_; with_reducible conv => whnf) | (refine ifF rfl ?_; with_reducible conv => whnf) | (refine it_at (by assumption) ?_; with_reducible conv => whnf)))
      exact tail _ _ _ (by omega) (by omega) (by omega) (by omega) cd ((ac.trans dc).trans cc)
    · ((with_reducible conv => whnf); repeat (first | (rw [natD_len]; with_reducible conv => whnf) | (rw [intD_len]; with_reducible conv => whnf) | (refine Exists.intro _ (And.intro (rfl : _ = some _) ?_); with_reducible conv => whnf) | (refine And.intro (okII _ _) ?_; rw [eqD_ii]; with_reducible conv => whnf) | (refine And.intro (by first | assumption | exact Exists.intro _ (by assumption) | exact ⟨rfl, rfl, by decide, by decide⟩ | exact Nat.le_of_ble_eq_true rfl | exact rfl) ?_; with_reducible conv => whnf) | (rw [isLst_at (by assumption)]; with_reducible conv => whnf) | (refine ifT rfl ?_; with_reducible conv => whnf) | (refine ifF rfl ?_; with_reducible conv => whnf) | (refine it_at (by assumption) ?_; with_reducible conv => whnf)))
      exact (rest S4 cd ac).2
    · ((with_reducible conv => whnf); repeat (first | (rw [natD_len]; with_reducible conv => whnf) | (rw [intD_len]; with_reducible conv => whnf) | (refine Exists.intro _ (And.intro (rfl : _ = some _) ?_); with_reducible conv => whnf) | (refine And.intro (okII _ _) ?_; rw [eqD_ii]; with_reducible conv => whnf) | (refine And.intro (by first | assumption | exact Exists.intro _ (by assumption) | exact ⟨rfl, rfl, by decide, by decide⟩ | exact Nat.le_of_ble_eq_true rfl | exact rfl) ?_; with_reducible conv => whnf) | (rw [isLst_at (by assumption)]; with_reducible conv => whnf) | (refine ifT rfl ?_; with_reducible conv => whnf) | (refine ifF rfl ?_; with_reducible conv => whnf) | (refine it_at (by assumption) ?_; with_reducible conv => whnf)))
      exact (rest S4 cd ac).2
end K93
set_option linter.all false
set_option maxRecDepth 100000
set_option maxHeartbeats 4000000
namespace K93
open DL
theorem bd_div {ys : List Int} {p : Rat} {k : Nat} (hk : 0 < k) : Rat.divInt ((ys.take k).sum * p.den - (ys.length : Int) * p.num) ((k : Int) * p.den) = bd ys p k := by
  rw [divInt_eq]
  unfold bd
  have hk' := one_le hk
  have hd := one_le p.den_pos
  have e := q_den p
  rw [Rat.intCast_sub, Rat.intCast_mul, Rat.intCast_mul, Rat.intCast_mul, ← e]
  show ((((ys.take k).sum : Int) : Rat) * (p.den : Rat) - (ys.length : Rat) * (p * (p.den : Rat))) / ((k : Rat) * (p.den : Rat)) = _
  generalize (((ys.take k).sum : Int) : Rat) = s
  generalize (k : Rat) = kk at *
  generalize (p.den : Rat) = dd at *
  have h1 : kk ≠ 0 := by grind
  have h2 : dd ≠ 0 := by grind
  grind
theorem nat_of {q : Rat} {i : Int} (h : q = (i : Rat)) (hs : sm q) : i.natAbs < 2 ^ 4000 := by
  have := hs.2
  rw [h, Rat.num_intCast] at this
  exact this
def bestD : Option Rat → D
  | none => .non
  | some q => qD q
theorem body_law_bound : Body 7 2 (w_law_bound sp_ratio sp_less) sp_bound := by
  rintro ds S Q _ ⟨xs, p, rfl, hX, hP, k⟩
  unfold w_law_bound
  (simp only [start, List.map_cons, List.map_nil, List.length_cons, List.length_nil, Nat.reduceAdd, Nat.reduceSub, List.replicate_succ, List.replicate_zero, List.cons_append, List.nil_append, Nat.sub_self, Nat.zero_add])
  ((with_reducible conv => whnf); repeat (first | (rw [natD_len]; with_reducible conv => whnf) | (rw [intD_len]; with_reducible conv => whnf) | (refine Exists.intro _ (And.intro (rfl : _ = some _) ?_); with_reducible conv => whnf) | (refine And.intro (okII _ _) ?_; rw [eqD_ii]; with_reducible conv => whnf) | (refine And.intro (by first | assumption | exact Exists.intro _ (by assumption) | exact ⟨rfl, rfl, by decide, by decide⟩ | exact Nat.le_of_ble_eq_true rfl | exact rfl) ?_; with_reducible conv => whnf) | (rw [isLst_at (by assumption)]; with_reducible conv => whnf) | (refine ifT rfl ?_; with_reducible conv => whnf) | (refine ifF rfl ?_; with_reducible conv => whnf) | (refine it_at (by assumption) ?_; with_reducible conv => whnf)))
  refine ⟨sortOk_int _, fun ys hp hw => ?_⟩
  obtain ⟨ms, rfl, hm1, hm2⟩ := sort_int hp hw
  have e1 := at_push S (.lst (intD ms))
  have s1 := (Sub.refl S).app [.lst (intD ms)]
  generalize S ++ [.lst (intD ms)] = S1 at *
  ((with_reducible conv => whnf); repeat (first | (rw [natD_len]; with_reducible conv => whnf) | (rw [intD_len]; with_reducible conv => whnf) | (refine Exists.intro _ (And.intro (rfl : _ = some _) ?_); with_reducible conv => whnf) | (refine And.intro (okII _ _) ?_; rw [eqD_ii]; with_reducible conv => whnf) | (refine And.intro (by first | assumption | exact Exists.intro _ (by assumption) | exact ⟨rfl, rfl, by decide, by decide⟩ | exact Nat.le_of_ble_eq_true rfl | exact rfl) ?_; with_reducible conv => whnf) | (rw [isLst_at (by assumption)]; with_reducible conv => whnf) | (refine ifT rfl ?_; with_reducible conv => whnf) | (refine ifF rfl ?_; with_reducible conv => whnf) | (refine it_at (by assumption) ?_; with_reducible conv => whnf)))
  rw [show (intD ms).reverse = intD ms.reverse by simp [intD]]
  have hd := desc_rev hm2
  have hpm : ms.reverse.Perm xs := (List.reverse_perm ms).trans hm1
  generalize ms.reverse = os at *
  have hO := hX.perm hpm
  have hol : os.length = xs.length := hpm.length_eq
  have e2 := at_push S1 (.lst (intD os))
  have s2 := s1.app [.lst (intD os)]
  ((with_reducible conv => whnf); repeat (first | (rw [natD_len]; with_reducible conv => whnf) | (rw [intD_len]; with_reducible conv => whnf) | (refine Exists.intro _ (And.intro (rfl : _ = some _) ?_); with_reducible conv => whnf) | (refine And.intro (okII _ _) ?_; rw [eqD_ii]; with_reducible conv => whnf) | (refine And.intro (by first | assumption | exact Exists.intro _ (by assumption) | exact ⟨rfl, rfl, by decide, by decide⟩ | exact Nat.le_of_ble_eq_true rfl | exact rfl) ?_; with_reducible conv => whnf) | (rw [isLst_at (by assumption)]; with_reducible conv => whnf) | (refine ifT rfl ?_; with_reducible conv => whnf) | (refine ifF rfl ?_; with_reducible conv => whnf) | (refine it_at (by assumption) ?_; with_reducible conv => whnf)))
  generalize S1 ++ [.lst (intD os)] = S2 at *
  generalize S1.length = no at *
  have hx40 := hX.le
  have hx0 := hX.pos
  refine Loop_mk (fun i ρ S' => ∃ o5 o6 best, ρ = [some (.tup (intD xs)), some (qD p), some (bestD best), some (.int (os.take i).sum), some (.int i), o5, o6] ∧ (best = none → i = 0) ∧ (∀ M, best = some M → (∃ j, 0 < j ∧ j ≤ i ∧ M = bd os p j) ∧ ∀ j, 0 < j → j ≤ i → bd os p j ≤ M) ∧ Sub S2 S') ⟨none, none, none, rfl, by simp, by simp, Sub.refl _⟩ (by rintro i ρ' S' ⟨o5, o6, best, rfl, _, _, h⟩; exact h _ _ e2) ?_ ?_
  · rintro i d ρ' S' hi ⟨o5, o6, best, rfl, hb0, hb1, hs⟩
    obtain ⟨x, hget, rfl⟩ := intD_get hi
    have hio := (List.getElem?_eq_some_iff.mp hget).1
    have tb := take_bd hO (i + 1)
    have := cX_big
    have := cX_1
    have hk1 : ((i : Int) + 1) = ((i + 1 : Nat) : Int) := by omega
    have st := nat_of rfl (sm_int (i := (os.take (i + 1)).sum) (by grind) (by grind))
    have hpn := hP.sm.2
    have hpd := hP.sm.1
    have b4 : (2 : Nat) ^ 4000 ≤ 2 ^ 100000 := pow_le2 (by decide)
    have b2 : (2 : Nat) ^ 2000 ≤ 2 ^ 100000 := pow_le2 (by decide)
    ((with_reducible conv => whnf); repeat (first | (rw [natD_len]; with_reducible conv => whnf) | (rw [intD_len]; with_reducible conv => whnf) | (refine Exists.intro _ (And.intro (rfl : _ = some _) ?_); with_reducible conv => whnf) | (refine And.intro (okII _ _) ?_; rw [eqD_ii]; with_reducible conv => whnf) | (refine And.intro (by first | assumption | exact Exists.intro _ (by assumption) | exact ⟨rfl, rfl, by decide, by decide⟩ | exact Nat.le_of_ble_eq_true rfl | exact rfl) ?_; with_reducible conv => whnf) | (rw [isLst_at (by assumption)]; with_reducible conv => whnf) | (refine ifT rfl ?_; with_reducible conv => whnf) | (refine ifF rfl ?_; with_reducible conv => whnf) | (refine it_at (by assumption) ?_; with_reducible conv => whnf)))
    rw [← take_sum hget]
    refine ⟨sm_mul (Nat.lt_of_lt_of_le st b4) (by rw [Int.natAbs_natCast]; exact Nat.lt_of_lt_of_le hpd b2), ?_⟩
    ((with_reducible conv => whnf); repeat (first | (rw [natD_len]; with_reducible conv => whnf) | (rw [intD_len]; with_reducible conv => whnf) | (refine Exists.intro _ (And.intro (rfl : _ = some _) ?_); with_reducible conv => whnf) | (refine And.intro (okII _ _) ?_; rw [eqD_ii]; with_reducible conv => whnf) | (refine And.intro (by first | assumption | exact Exists.intro _ (by assumption) | exact ⟨rfl, rfl, by decide, by decide⟩ | exact Nat.le_of_ble_eq_true rfl | exact rfl) ?_; with_reducible conv => whnf) | (rw [isLst_at (by assumption)]; with_reducible conv => whnf) | (refine ifT rfl ?_; with_reducible conv => whnf) | (refine ifF rfl ?_; with_reducible conv => whnf) | (refine it_at (by assumption) ?_; with_reducible conv => whnf)))
    refine ⟨smallMul' (by omega), ?_⟩
    ((with_reducible conv => whnf); repeat (first | (rw [natD_len]; with_reducible conv => whnf) | (rw [intD_len]; with_reducible conv => whnf) | (refine Exists.intro _ (And.intro (rfl : _ = some _) ?_); with_reducible conv => whnf) | (refine And.intro (okII _ _) ?_; rw [eqD_ii]; with_reducible conv => whnf) | (refine And.intro (by first | assumption | exact Exists.intro _ (by assumption) | exact ⟨rfl, rfl, by decide, by decide⟩ | exact Nat.le_of_ble_eq_true rfl | exact rfl) ?_; with_reducible conv => whnf) | (rw [isLst_at (by assumption)]; with_reducible conv => whnf) | (refine ifT rfl ?_; with_reducible conv => whnf) | (refine ifF rfl ?_; with_reducible conv => whnf) | (refine it_at (by assumption) ?_; with_reducible conv => whnf)))
    refine ⟨smallMul' (by omega), ?_⟩
    ((with_reducible conv => whnf); repeat (first | (rw [natD_len]; with_reducible conv => whnf) | (rw [intD_len]; with_reducible conv => whnf) | (refine Exists.intro _ (And.intro (rfl : _ = some _) ?_); with_reducible conv => whnf) | (refine And.intro (okII _ _) ?_; rw [eqD_ii]; with_reducible conv => whnf) | (refine And.intro (by first | assumption | exact Exists.intro _ (by assumption) | exact ⟨rfl, rfl, by decide, by decide⟩ | exact Nat.le_of_ble_eq_true rfl | exact rfl) ?_; with_reducible conv => whnf) | (rw [isLst_at (by assumption)]; with_reducible conv => whnf) | (refine ifT rfl ?_; with_reducible conv => whnf) | (refine ifF rfl ?_; with_reducible conv => whnf) | (refine it_at (by assumption) ?_; with_reducible conv => whnf)))
    rw [hk1, ← hol]
    have hpd0 := p.den_pos
    refine ⟨_, _, rfl, Int.mul_ne_zero (by omega) (by omega), ?_, fun S3 h3 => ?_⟩
    · rw [Int.natAbs_mul, Int.natAbs_natCast, Int.natAbs_natCast]
      exact Nat.lt_of_le_of_lt (Nat.mul_le_mul (show i + 1 ≤ 2 ^ 10 by omega) hP.den) (Nat.lt_of_lt_of_le (by decide : 2 ^ 10 * 1024 < 2 ^ 21) (pow_le2 (by decide)))
    rw [bd_div (Nat.succ_pos i)]
    cases best with
    | none =>
      have hi0 := hb0 rfl
      subst hi0
      ((with_reducible conv => whnf); repeat (first | (rw [natD_len]; with_reducible conv => whnf) | (rw [intD_len]; with_reducible conv => whnf) | (refine Exists.intro _ (And.intro (rfl : _ = some _) ?_); with_reducible conv => whnf) | (refine And.intro (okII _ _) ?_; rw [eqD_ii]; with_reducible conv => whnf) | (refine And.intro (by first | assumption | exact Exists.intro _ (by assumption) | exact ⟨rfl, rfl, by decide, by decide⟩ | exact Nat.le_of_ble_eq_true rfl | exact rfl) ?_; with_reducible conv => whnf) | (rw [isLst_at (by assumption)]; with_reducible conv => whnf) | (refine ifT rfl ?_; with_reducible conv => whnf) | (refine ifF rfl ?_; with_reducible conv => whnf) | (refine it_at (by assumption) ?_; with_reducible conv => whnf)))
      exact ⟨_, _, some (bd os p 1), rfl, by simp, fun M e => by cases e; exact ⟨⟨1, by decide, by decide, rfl⟩, fun j h1 h2 => by rw [show j = 1 by omega]; grind⟩, hs.trans h3⟩
    | some M =>
      obtain ⟨⟨j0, j1, j2, rfl⟩, hmax⟩ := hb1 M rfl
      ((with_reducible conv => whnf); repeat (first | (rw [natD_len]; with_reducible conv => whnf) | (rw [intD_len]; with_reducible conv => whnf) | (refine Exists.intro _ (And.intro (rfl : _ = some _) ?_); with_reducible conv => whnf) | (refine And.intro (okII _ _) ?_; rw [eqD_ii]; with_reducible conv => whnf) | (refine And.intro (by first | assumption | exact Exists.intro _ (by assumption) | exact ⟨rfl, rfl, by decide, by decide⟩ | exact Nat.le_of_ble_eq_true rfl | exact rfl) ?_; with_reducible conv => whnf) | (rw [isLst_at (by assumption)]; with_reducible conv => whnf) | (refine ifT rfl ?_; with_reducible conv => whnf) | (refine ifF rfl ?_; with_reducible conv => whnf) | (refine it_at (by assumption) ?_; with_reducible conv => whnf)))
      refine ⟨_, _, rfl, bd_sm hO hP j1 (by omega), bd_sm hO hP (Nat.succ_pos i) (by omega), fun S4 h4 => ?_⟩
      ((with_reducible conv => whnf); repeat (first | (rw [natD_len]; with_reducible conv => whnf) | (rw [intD_len]; with_reducible conv => whnf) | (refine Exists.intro _ (And.intro (rfl : _ = some _) ?_); with_reducible conv => whnf) | (refine And.intro (okII _ _) ?_; rw [eqD_ii]; with_reducible conv => whnf) | (refine And.intro (by first | assumption | exact Exists.intro _ (by assumption) | exact ⟨rfl, rfl, by decide, by decide⟩ | exact Nat.le_of_ble_eq_true rfl | exact rfl) ?_; with_reducible conv => whnf) | (rw [isLst_at (by assumption)]; with_reducible conv => whnf) | (refine ifT rfl ?_; with_reducible conv => whnf) | (refine ifF rfl ?_; with_reducible conv => whnf) | (refine it_at (by assumption) ?_; with_reducible conv => whnf)))
      refine ite_d (fun hc => ?_) fun hc => ?_
      · ((with_reducible conv => whnf); repeat (first | (rw [natD_len]; with_reducible conv => whnf) | (rw [intD_len]; with_reducible conv => whnf) | (refine Exists.intro _ (And.intro (rfl : _ = some _) ?_); with_reducible conv => whnf) | (refine And.intro (okII _ _) ?_; rw [eqD_ii]; with_reducible conv => whnf) | (refine And.intro (by first | assumption | exact Exists.intro _ (by assumption) | exact ⟨rfl, rfl, by decide, by decide⟩ | exact Nat.le_of_ble_eq_true rfl | exact rfl) ?_; with_reducible conv => whnf) | (rw [isLst_at (by assumption)]; with_reducible conv => whnf) | (refine ifT rfl ?_; with_reducible conv => whnf) | (refine ifF rfl ?_; with_reducible conv => whnf) | (refine it_at (by assumption) ?_; with_reducible conv => whnf)))
        refine ⟨_, _, some (bd os p (i + 1)), rfl, by simp, fun M e => ?_, (hs.trans h3).trans h4⟩
        cases e
        refine ⟨⟨i + 1, by omega, by omega, rfl⟩, fun j h1 h2 => ?_⟩
        rcases Nat.lt_or_ge j (i + 1) with c | c
        · have := hmax j h1 (by omega)
          grind
        · rw [show j = i + 1 by omega]; grind
      · ((with_reducible conv => whnf); repeat (first | (rw [natD_len]; with_reducible conv => whnf) | (rw [intD_len]; with_reducible conv => whnf) | (refine Exists.intro _ (And.intro (rfl : _ = some _) ?_); with_reducible conv => whnf) | (refine And.intro (okII _ _) ?_; rw [eqD_ii]; with_reducible conv => whnf) | (refine And.intro (by first | assumption | exact Exists.intro _ (by assumption) | exact ⟨rfl, rfl, by decide, by decide⟩ | exact Nat.le_of_ble_eq_true rfl | exact rfl) ?_; with_reducible conv => whnf) | (rw [isLst_at (by assumption)]; with_reducible conv => whnf) | (refine ifT rfl ?_; with_reducible conv => whnf) | (refine ifF rfl ?_; with_reducible conv => whnf) | (refine it_at (by assumption) ?_; with_reducible conv => whnf)))
        refine ⟨_, _, some (bd os p j0), rfl, by simp, fun M e => ?_, (hs.trans h3).trans h4⟩
        cases e
        refine ⟨⟨j0, j1, by omega, rfl⟩, fun j h1 h2 => ?_⟩
        rcases Nat.lt_or_ge j (i + 1) with c | c
        · exact hmax j h1 (by omega)
        · rw [show j = i + 1 by omega]; grind
  · rintro ρ' S' ⟨o5, o6, best, rfl, hb0, hb1, hs⟩
    rw [intD_len] at hb0 hb1
    cases best with
    | none => have := hb0 rfl; omega
    | some M =>
      obtain ⟨⟨j0, j1, j2, rfl⟩, hmax⟩ := hb1 M rfl
      ((with_reducible conv => whnf); repeat (first | (rw [natD_len]; with_reducible conv => whnf) | (rw [intD_len]; with_reducible conv => whnf) | (refine Exists.intro _ (And.intro (rfl : _ = some _) ?_); with_reducible conv => whnf) | (refine And.intro (okII _ _) ?_; rw [eqD_ii]; with_reducible conv => whnf) | (refine And.intro (by first | assumption | exact Exists.intro _ (by assumption) | exact ⟨rfl, rfl, by decide, by decide⟩ | exact Nat.le_of_ble_eq_true rfl | exact rfl) ?_; with_reducible conv => whnf) | (rw [isLst_at (by assumption)]; with_reducible conv => whnf) | (refine ifT rfl ?_; with_reducible conv => whnf) | (refine ifF rfl ?_; with_reducible conv => whnf) | (refine it_at (by assumption) ?_; with_reducible conv => whnf)))
      obtain ⟨j, g0, g1, hB⟩ := stop_some hd (by omega) hP.pos
      have a := hmax j g0 g1
      have b := hB.ge j1 j2
      have e : bd os p j0 = bd os p j := by grind
      refine k _ _ ?_ (s2.trans hs)
      rw [e]
      exact good_of hX hP hpm g0 g1 hB
/-! keeping from one on -/
theorem divInt_sm {a m : Int} (hm : 1 ≤ m) (hm2 : m ≤ 1024) (h1 : -(100 * cX) ≤ (a : Rat)) (h2 : (a : Rat) ≤ 100 * cX) : sm (Rat.divInt a m) := by
  have e : Rat.divInt a m = (a : Rat) / (m : Rat) := divInt_eq a m
  have hm' : (1 : Rat) ≤ (m : Rat) := by exact_mod_cast hm
  have em : Rat.divInt a m * (m : Rat) = (a : Rat) := by rw [e]; exact Rat.div_mul_cancel (by grind)
  have := cX_1
  have := cX_big
  have hb := div_bd em hm' (M := 100 * cX) (by grind) (by grind) (by grind)
  refine smB (Ov_self _) (Rat.den_pos _) ?_ (by grind) (by grind)
  rw [Rat.den_divInt, if_neg (by omega)]
  exact Nat.le_trans (Nat.div_le_self _ _) (Nat.le_trans (show m.natAbs ≤ 2 ^ 10 by omega) (pow_le2 (by decide)))
theorem byB_sm {xs : List Int} {p : Rat} {l : Int} (hX : OkX xs) (hP : OkP p) (hk : 0 < (xs.filter fun x => decide (l ≤ x)).length) : sm (byB xs p l) := by
  have hx40 := hX.le
  have klen := List.length_filter_le (fun x => decide (l ≤ x)) xs
  have ksum := sum_bd (l := xs.filter fun x => decide (l ≤ x)) (fun x hx => hX.lo x (List.mem_filter.mp hx).1) fun x hx => hX.hi x (List.mem_filter.mp hx).1
  have kn := nX (n := (xs.filter fun x => decide (l ≤ x)).length) (by omega)
  unfold byB
  generalize xs.filter (fun x => decide (l ≤ x)) = ks at *
  have := cX_1
  have := cX_big
  have hn := len40 hX.le
  have hn0 : (0 : Rat) ≤ (xs.length : Rat) := nn
  have hm1 := one_le hk
  have hq : (xs.length : Rat) / (ks.length : Rat) * (ks.length : Rat) = (xs.length : Rat) := Rat.div_mul_cancel (by grind)
  have hq2 : ((ks.sum : Int) : Rat) / (ks.length : Rat) * (ks.length : Rat) = ((ks.sum : Int) : Rat) := Rat.div_mul_cancel (by grind)
  have db := div_bd hq hm1 (M := 40) (by grind) (by grind) (by grind)
  have db2 := div_bd hq2 hm1 (M := 40 * cX) (by grind) (by grind) (by grind)
  have hov : Ov ks.length ((xs.length : Rat) / (ks.length : Rat)) := by
    have := Ov.over (P := 1) (Ov_int 1 (xs.length : Int)) (k := ks.length) (by omega)
    rw [Nat.one_mul] at this
    exact this
  have hov2 : Ov ks.length (((ks.sum : Int) : Rat) / (ks.length : Rat)) := by
    have := Ov.over (P := 1) (Ov_int 1 ks.sum) (k := ks.length) (by omega)
    rw [Nat.one_mul] at this
    exact this
  have hov1 : Ov ks.length ((xs.length : Rat) / (ks.length : Rat) - 1) := hov.sub (Ov_int _ 1)
  have hpm := Ov.mul (Ov_self p) hov1
  have p0 := hP.pos
  have pX := hP.le
  generalize hv : (xs.length : Rat) / (ks.length : Rat) - 1 = v at *
  have v1 : -41 ≤ v ∧ v ≤ 41 := by grind
  have pv1 := Rat.mul_le_mul_of_nonneg_left (a := v) (b := 41) (c := p) v1.2 (by grind)
  have pv2 := Rat.mul_le_mul_of_nonneg_left (a := -41) (b := v) (c := p) v1.1 (by grind)
  exact smB ((hov2.mono (Nat.dvd_mul_left _ _)).sub hpm) (Nat.mul_pos p.den_pos hk) (Nat.le_trans (Nat.mul_le_mul hP.den (show ks.length ≤ 2 ^ 10 by omega)) (Nat.le_trans (by decide : 1024 * 2 ^ 10 ≤ 2 ^ 20) (pow_le2 (by decide)))) (by grind) (by grind)
@[reducible] def sp_byb : Spc := fun ds S Q => ∃ xs p l, ds = [.tup (intD xs), qD p, .int l] ∧ OkX xs ∧ OkP p ∧ 0 < (xs.filter fun x => decide (l ≤ x)).length ∧ ∀ S', Sub S S' → Q (qD (byB xs p l)) S'
theorem body_law_by_bound : Body 6 3 (w_law_by_bound sp_ratio (sp_q2 (· - ·)) (sp_q2 (· * ·))) sp_byb := by
  rintro ds S Q _ ⟨xs, p, l, rfl, hX, hP, hk, k⟩
  unfold w_law_by_bound
  (simp only [start, List.map_cons, List.map_nil, List.length_cons, List.length_nil, Nat.reduceAdd, Nat.reduceSub, List.replicate_succ, List.replicate_zero, List.cons_append, List.nil_append, Nat.sub_self, Nat.zero_add])
  ((with_reducible conv => whnf); repeat (first | (rw [natD_len]; with_reducible conv => whnf) | (rw [intD_len]; with_reducible conv => whnf) | (refine Exists.intro _ (And.intro (rfl : _ = some _) ?_); with_reducible conv => whnf) | (refine And.intro (okII _ _) ?_; rw [eqD_ii]; with_reducible conv => whnf) | (refine And.intro (by first | assumption | exact Exists.intro _ (by assumption) | exact ⟨rfl, rfl, by decide, by decide⟩ | exact Nat.le_of_ble_eq_true rfl | exact rfl) ?_; with_reducible conv => whnf) | (rw [isLst_at (by assumption)]; with_reducible conv => whnf) | (refine ifT rfl ?_; with_reducible conv => whnf) | (refine ifF rfl ?_; with_reducible conv => whnf) | (refine it_at (by assumption) ?_; with_reducible conv => whnf)))
  have hx40 := hX.le
  have hx0 := hX.pos
  refine Lc_lf (xs := xs) (e := D.int) (fun x => decide (l ≤ x)) D.int (by unfold szL; omega) (by intros; trivial) (fun x S' R hx h hR => ?_) fun S1 h1 => ?_
  · ((with_reducible conv => whnf); repeat (first | (rw [natD_len]; with_reducible conv => whnf) | (rw [intD_len]; with_reducible conv => whnf) | (refine Exists.intro _ (And.intro (rfl : _ = some _) ?_); with_reducible conv => whnf) | (refine And.intro (okII _ _) ?_; rw [eqD_ii]; with_reducible conv => whnf) | (refine And.intro (by first | assumption | exact Exists.intro _ (by assumption) | exact ⟨rfl, rfl, by decide, by decide⟩ | exact Nat.le_of_ble_eq_true rfl | exact rfl) ?_; with_reducible conv => whnf) | (rw [isLst_at (by assumption)]; with_reducible conv => whnf) | (refine ifT rfl ?_; with_reducible conv => whnf) | (refine ifF rfl ?_; with_reducible conv => whnf) | (refine it_at (by assumption) ?_; with_reducible conv => whnf)))
    have := hR S' (Sub.refl _)
    refine ite_d (fun hc => ?_) fun hc => ?_
    · rw [if_pos (decide_eq_true hc)] at this; exact this
    · rw [if_neg (by simpa using hc)] at this; exact this
  · have e := at_push S1 (.lst (intD (xs.filter fun x => decide (l ≤ x))))
    have s1 := h1.app [.lst (intD (xs.filter fun x => decide (l ≤ x)))]
    unfold byB at k
    have klen := List.length_filter_le (fun x => decide (l ≤ x)) xs
    have ksum := sum_bd (l := xs.filter fun x => decide (l ≤ x)) (fun x hx => hX.lo x (List.mem_filter.mp hx).1) fun x hx => hX.hi x (List.mem_filter.mp hx).1
    have kn := nX (n := (xs.filter fun x => decide (l ≤ x)).length) (by omega)
    generalize hks : xs.filter (fun x => decide (l ≤ x)) = ks at *
    show _
    generalize S1 ++ [.lst (intD ks)] = S2 at *
    generalize S1.length = n1 at *
    have := cX_1
    have := cX_big
    have hn := len40 hX.le
    have hn0 : (0 : Rat) ≤ (xs.length : Rat) := nn
    have hm1 := one_le hk
    ((with_reducible conv => whnf); repeat (first | (rw [natD_len]; with_reducible conv => whnf) | (rw [intD_len]; with_reducible conv => whnf) | (refine Exists.intro _ (And.intro (rfl : _ = some _) ?_); with_reducible conv => whnf) | (refine And.intro (okII _ _) ?_; rw [eqD_ii]; with_reducible conv => whnf) | (refine And.intro (by first | assumption | exact Exists.intro _ (by assumption) | exact ⟨rfl, rfl, by decide, by decide⟩ | exact Nat.le_of_ble_eq_true rfl | exact rfl) ?_; with_reducible conv => whnf) | (rw [isLst_at (by assumption)]; with_reducible conv => whnf) | (refine ifT rfl ?_; with_reducible conv => whnf) | (refine ifF rfl ?_; with_reducible conv => whnf) | (refine it_at (by assumption) ?_; with_reducible conv => whnf)))
    refine ⟨_, _, rfl, by omega, nat_small (by omega), fun S3 h3 => ?_⟩
    have e := h3 _ _ e
    have sd : sm (Rat.divInt (xs.length : Int) (ks.length : Int)) := divInt_sm (by omega) (by omega) (by show -_ ≤ (xs.length : Rat); grind) (by show (xs.length : Rat) ≤ _; grind)
    ((with_reducible conv => whnf); repeat (first | (rw [natD_len]; with_reducible conv => whnf) | (rw [intD_len]; with_reducible conv => whnf) | (refine Exists.intro _ (And.intro (rfl : _ = some _) ?_); with_reducible conv => whnf) | (refine And.intro (okII _ _) ?_; rw [eqD_ii]; with_reducible conv => whnf) | (refine And.intro (by first | assumption | exact Exists.intro _ (by assumption) | exact ⟨rfl, rfl, by decide, by decide⟩ | exact Nat.le_of_ble_eq_true rfl | exact rfl) ?_; with_reducible conv => whnf) | (rw [isLst_at (by assumption)]; with_reducible conv => whnf) | (refine ifT rfl ?_; with_reducible conv => whnf) | (refine ifF rfl ?_; with_reducible conv => whnf) | (refine it_at (by assumption) ?_; with_reducible conv => whnf)))
    refine ⟨ks, by show (match S3[n1]? with | some (.lst xs) => some xs | _ => none) = _; rw [e], ?_⟩
    ((with_reducible conv => whnf); repeat (first | (rw [natD_len]; with_reducible conv => whnf) | (rw [intD_len]; with_reducible conv => whnf) | (refine Exists.intro _ (And.intro (rfl : _ = some _) ?_); with_reducible conv => whnf) | (refine And.intro (okII _ _) ?_; rw [eqD_ii]; with_reducible conv => whnf) | (refine And.intro (by first | assumption | exact Exists.intro _ (by assumption) | exact ⟨rfl, rfl, by decide, by decide⟩ | exact Nat.le_of_ble_eq_true rfl | exact rfl) ?_; with_reducible conv => whnf) | (rw [isLst_at (by assumption)]; with_reducible conv => whnf) | (refine ifT rfl ?_; with_reducible conv => whnf) | (refine ifF rfl ?_; with_reducible conv => whnf) | (refine it_at (by assumption) ?_; with_reducible conv => whnf)))
    refine ⟨_, _, rfl, by omega, nat_small (by omega), fun S4 h4 => ?_⟩
    have ss : sm (Rat.divInt ks.sum (ks.length : Int)) := divInt_sm (by omega) (by omega) (by grind) (by grind)
    ((with_reducible conv => whnf); repeat (first | (rw [natD_len]; with_reducible conv => whnf) | (rw [intD_len]; with_reducible conv => whnf) | (refine Exists.intro _ (And.intro (rfl : _ = some _) ?_); with_reducible conv => whnf) | (refine And.intro (okII _ _) ?_; rw [eqD_ii]; with_reducible conv => whnf) | (refine And.intro (by first | assumption | exact Exists.intro _ (by assumption) | exact ⟨rfl, rfl, by decide, by decide⟩ | exact Nat.le_of_ble_eq_true rfl | exact rfl) ?_; with_reducible conv => whnf) | (rw [isLst_at (by assumption)]; with_reducible conv => whnf) | (refine ifT rfl ?_; with_reducible conv => whnf) | (refine ifF rfl ?_; with_reducible conv => whnf) | (refine it_at (by assumption) ?_; with_reducible conv => whnf)))
    have e1 : Rat.divInt (xs.length : Int) (ks.length : Int) = (xs.length : Rat) / (ks.length : Rat) := divInt_eq _ _
    have e2 : Rat.divInt ks.sum (ks.length : Int) = ((ks.sum : Int) : Rat) / (ks.length : Rat) := divInt_eq _ _
    have hq : Rat.divInt (xs.length : Int) (ks.length : Int) * (ks.length : Rat) = (xs.length : Rat) := by rw [e1]; exact Rat.div_mul_cancel (by grind)
    have hq2 : Rat.divInt ks.sum (ks.length : Int) * (ks.length : Rat) = ((ks.sum : Int) : Rat) := by rw [e2]; exact Rat.div_mul_cancel (by grind)
    have db := div_bd hq hm1 (M := 40) (by grind) (by grind) (by grind)
    have db2 := div_bd hq2 hm1 (M := 40 * cX) (by grind) (by grind) (by grind)
    refine ⟨_, ((1 : Int) : Rat), rfl, sd, sm_int (by show -_ ≤ (1 : Rat); grind) (by show (1 : Rat) ≤ _; grind), fun S5 h5 => ?_⟩
    ((with_reducible conv => whnf); repeat (first | (rw [natD_len]; with_reducible conv => whnf) | (rw [intD_len]; with_reducible conv => whnf) | (refine Exists.intro _ (And.intro (rfl : _ = some _) ?_); with_reducible conv => whnf) | (refine And.intro (okII _ _) ?_; rw [eqD_ii]; with_reducible conv => whnf) | (refine And.intro (by first | assumption | exact Exists.intro _ (by assumption) | exact ⟨rfl, rfl, by decide, by decide⟩ | exact Nat.le_of_ble_eq_true rfl | exact rfl) ?_; with_reducible conv => whnf) | (rw [isLst_at (by assumption)]; with_reducible conv => whnf) | (refine ifT rfl ?_; with_reducible conv => whnf) | (refine ifF rfl ?_; with_reducible conv => whnf) | (refine it_at (by assumption) ?_; with_reducible conv => whnf)))
    have hov : Ov ks.length (Rat.divInt (xs.length : Int) (ks.length : Int)) := by
      rw [e1]
      have := Ov.over (P := 1) (Ov_int 1 (xs.length : Int)) (k := ks.length) (by omega)
      rw [Nat.one_mul] at this
      exact this
    have hov2 : Ov ks.length (Rat.divInt ks.sum (ks.length : Int)) := by
      rw [e2]
      have := Ov.over (P := 1) (Ov_int 1 ks.sum) (k := ks.length) (by omega)
      rw [Nat.one_mul] at this
      exact this
    have hov1 : Ov ks.length (Rat.divInt (xs.length : Int) (ks.length : Int) - ((1 : Int) : Rat)) := hov.sub (Ov_int _ 1)
    have one' : ((1 : Int) : Rat) = 1 := rfl
    have k15 : ks.length ≤ 2 ^ 1500 := Nat.le_trans (show ks.length ≤ 2 ^ 10 by omega) (pow_le2 (by decide))
    have sd1 : sm (Rat.divInt (xs.length : Int) (ks.length : Int) - ((1 : Int) : Rat)) := smB hov1 hk k15 (by rw [one']; grind) (by rw [one']; grind)
    refine ⟨p, _, rfl, hP.sm, sd1, fun S6 h6 => ?_⟩
    ((with_reducible conv => whnf); repeat (first | (rw [natD_len]; with_reducible conv => whnf) | (rw [intD_len]; with_reducible conv => whnf) | (refine Exists.intro _ (And.intro (rfl : _ = some _) ?_); with_reducible conv => whnf) | (refine And.intro (okII _ _) ?_; rw [eqD_ii]; with_reducible conv => whnf) | (refine And.intro (by first | assumption | exact Exists.intro _ (by assumption) | exact ⟨rfl, rfl, by decide, by decide⟩ | exact Nat.le_of_ble_eq_true rfl | exact rfl) ?_; with_reducible conv => whnf) | (rw [isLst_at (by assumption)]; with_reducible conv => whnf) | (refine ifT rfl ?_; with_reducible conv => whnf) | (refine ifF rfl ?_; with_reducible conv => whnf) | (refine it_at (by assumption) ?_; with_reducible conv => whnf)))
    dsimp only
    have hpm : Ov (p.den * ks.length) (p * (Rat.divInt (xs.length : Int) (ks.length : Int) - ((1 : Int) : Rat))) := Ov.mul (Ov_self p) hov1
    have p0 := hP.pos
    have pX := hP.le
    generalize hv : Rat.divInt (xs.length : Int) (ks.length : Int) - ((1 : Int) : Rat) = v at *
    have v1 : -41 ≤ v ∧ v ≤ 41 := by rw [one'] at hv; grind
    have pv1 := Rat.mul_le_mul_of_nonneg_left (a := v) (b := 41) (c := p) v1.2 (by grind)
    have pv2 := Rat.mul_le_mul_of_nonneg_left (a := -41) (b := v) (c := p) v1.1 (by grind)
    have spv : sm (p * v) := smB hpm (Nat.mul_pos p.den_pos hk) (Nat.le_trans (Nat.mul_le_mul hP.den (show ks.length ≤ 2 ^ 10 by omega)) (Nat.le_trans (by decide : 1024 * 2 ^ 10 ≤ 2 ^ 20) (pow_le2 (by decide)))) (by grind) (by grind)
    refine ⟨_, _, rfl, ss, spv, fun S7 h7 => ?_⟩
    have := k S7 ((((s1.trans h3).trans h4).trans h5).trans (h6.trans h7))
    rw [← e1, ← e2, show (1 : Rat) = ((1 : Int) : Rat) from rfl, hv] at this
    exact this
/-! the worths with one turn, two, .. -/
@[reducible] def sp_worths : Spc := fun ds S Q => ∃ xs p, ∃ t : Nat, ds = [.tup (intD xs), qD p, .int (t + 1 : Nat)] ∧ OkX xs ∧ OkP p ∧ t ≤ 80 ∧ ∀ n S', S'[n]? = some (.lst ((List.range (t + 1)).map fun i => qD (Wk xs p i))) → Sub S S' → Q (.ref n) S'
theorem body_law_worths : Body 10 3 (w_law_worths sp_ratio) sp_worths := by
  rintro ds S Q _ ⟨xs, p, t, rfl, hX, hP, ht, k⟩
  unfold w_law_worths
  (simp only [start, List.map_cons, List.map_nil, List.length_cons, List.length_nil, Nat.reduceAdd, Nat.reduceSub, List.replicate_succ, List.replicate_zero, List.cons_append, List.nil_append, Nat.sub_self, Nat.zero_add])
  ((with_reducible conv => whnf); repeat (first | (rw [natD_len]; with_reducible conv => whnf) | (rw [intD_len]; with_reducible conv => whnf) | (refine Exists.intro _ (And.intro (rfl : _ = some _) ?_); with_reducible conv => whnf) | (refine And.intro (okII _ _) ?_; rw [eqD_ii]; with_reducible conv => whnf) | (refine And.intro (by first | assumption | exact Exists.intro _ (by assumption) | exact ⟨rfl, rfl, by decide, by decide⟩ | exact Nat.le_of_ble_eq_true rfl | exact rfl) ?_; with_reducible conv => whnf) | (rw [isLst_at (by assumption)]; with_reducible conv => whnf) | (refine ifT rfl ?_; with_reducible conv => whnf) | (refine ifF rfl ?_; with_reducible conv => whnf) | (refine it_at (by assumption) ?_; with_reducible conv => whnf)))
  have hx0 := hX.pos
  have hx40 := hX.le
  refine ⟨_, _, rfl, by omega, nat_small hX.le, fun S1 h1 => ?_⟩
  rw [show Rat.divInt xs.sum (xs.length : Int) = Wk xs p 0 from divInt_eq _ _]
  ((with_reducible conv => whnf); repeat (first | (rw [natD_len]; with_reducible conv => whnf) | (rw [intD_len]; with_reducible conv => whnf) | (refine Exists.intro _ (And.intro (rfl : _ = some _) ?_); with_reducible conv => whnf) | (refine And.intro (okII _ _) ?_; rw [eqD_ii]; with_reducible conv => whnf) | (refine And.intro (by first | assumption | exact Exists.intro _ (by assumption) | exact ⟨rfl, rfl, by decide, by decide⟩ | exact Nat.le_of_ble_eq_true rfl | exact rfl) ?_; with_reducible conv => whnf) | (rw [isLst_at (by assumption)]; with_reducible conv => whnf) | (refine ifT rfl ?_; with_reducible conv => whnf) | (refine ifF rfl ?_; with_reducible conv => whnf) | (refine it_at (by assumption) ?_; with_reducible conv => whnf)))
  have e1 := at_push S1 (.lst [qD (Wk xs p 0)])
  have s1 := h1.app [.lst [qD (Wk xs p 0)]]
  have hlen := h1.len
  generalize S1 ++ [.lst [qD (Wk xs p 0)]] = S2 at *
  generalize S1.length = nf at *
  refine ⟨⟨by omega, by omega⟩, ?_⟩
  refine Loop_mk (fun i ρ S' => ∃ o5 o6 o7 o8 o9, ρ = [some (.tup (intD xs)), some (qD p), some (.int (t + 1 : Nat)), some (qD (Wk xs p i)), some (.ref nf), o5, o6, o7, o8, o9] ∧ S'[nf]? = some (.lst ((List.range (i + 1)).map fun i => qD (Wk xs p i))) ∧ Sub S S') ⟨none, none, none, none, none, rfl, e1, s1⟩ (by intros; trivial) ?_ ?_
  · rintro i d ρ' S' hi ⟨o5, o6, o7, o8, o9, rfl, f1, f2⟩
    obtain ⟨hil, rfl⟩ := rangeD_get hi
    have hi90 : i ≤ 90 := by omega
    have hw := Wk_sm hX hP hi90
    ((with_reducible conv => whnf); repeat (first | (rw [natD_len]; with_reducible conv => whnf) | (rw [intD_len]; with_reducible conv => whnf) | (refine Exists.intro _ (And.intro (rfl : _ = some _) ?_); with_reducible conv => whnf) | (refine And.intro (okII _ _) ?_; rw [eqD_ii]; with_reducible conv => whnf) | (refine And.intro (by first | assumption | exact Exists.intro _ (by assumption) | exact ⟨rfl, rfl, by decide, by decide⟩ | exact Nat.le_of_ble_eq_true rfl | exact rfl) ?_; with_reducible conv => whnf) | (rw [isLst_at (by assumption)]; with_reducible conv => whnf) | (refine ifT rfl ?_; with_reducible conv => whnf) | (refine ifF rfl ?_; with_reducible conv => whnf) | (refine it_at (by assumption) ?_; with_reducible conv => whnf)))
    refine ⟨sm_mn hw hP.sm, ?_⟩
    ((with_reducible conv => whnf); repeat (first | (rw [natD_len]; with_reducible conv => whnf) | (rw [intD_len]; with_reducible conv => whnf) | (refine Exists.intro _ (And.intro (rfl : _ = some _) ?_); with_reducible conv => whnf) | (refine And.intro (okII _ _) ?_; rw [eqD_ii]; with_reducible conv => whnf) | (refine And.intro (by first | assumption | exact Exists.intro _ (by assumption) | exact ⟨rfl, rfl, by decide, by decide⟩ | exact Nat.le_of_ble_eq_true rfl | exact rfl) ?_; with_reducible conv => whnf) | (rw [isLst_at (by assumption)]; with_reducible conv => whnf) | (refine ifT rfl ?_; with_reducible conv => whnf) | (refine ifF rfl ?_; with_reducible conv => whnf) | (refine it_at (by assumption) ?_; with_reducible conv => whnf)))
    refine ⟨sm_mn hP.sm hw, ?_⟩
    ((with_reducible conv => whnf); repeat (first | (rw [natD_len]; with_reducible conv => whnf) | (rw [intD_len]; with_reducible conv => whnf) | (refine Exists.intro _ (And.intro (rfl : _ = some _) ?_); with_reducible conv => whnf) | (refine And.intro (okII _ _) ?_; rw [eqD_ii]; with_reducible conv => whnf) | (refine And.intro (by first | assumption | exact Exists.intro _ (by assumption) | exact ⟨rfl, rfl, by decide, by decide⟩ | exact Nat.le_of_ble_eq_true rfl | exact rfl) ?_; with_reducible conv => whnf) | (rw [isLst_at (by assumption)]; with_reducible conv => whnf) | (refine ifT rfl ?_; with_reducible conv => whnf) | (refine ifF rfl ?_; with_reducible conv => whnf) | (refine it_at (by assumption) ?_; with_reducible conv => whnf)))
    refine ⟨sm_mm hw hP.sm, ?_⟩
    ((with_reducible conv => whnf); repeat (first | (rw [natD_len]; with_reducible conv => whnf) | (rw [intD_len]; with_reducible conv => whnf) | (refine Exists.intro _ (And.intro (rfl : _ = some _) ?_); with_reducible conv => whnf) | (refine And.intro (okII _ _) ?_; rw [eqD_ii]; with_reducible conv => whnf) | (refine And.intro (by first | assumption | exact Exists.intro _ (by assumption) | exact ⟨rfl, rfl, by decide, by decide⟩ | exact Nat.le_of_ble_eq_true rfl | exact rfl) ?_; with_reducible conv => whnf) | (rw [isLst_at (by assumption)]; with_reducible conv => whnf) | (refine ifT rfl ?_; with_reducible conv => whnf) | (refine ifF rfl ?_; with_reducible conv => whnf) | (refine it_at (by assumption) ?_; with_reducible conv => whnf)))
    have hwd := (Wk xs p i).den_pos
    have hpd := p.den_pos
    have hW0 : (0 : Rat) < (((Wk xs p i).den : Int) : Rat) * ((p.den : Int) : Rat) := Rat.mul_pos (by exact_mod_cast hwd) (by exact_mod_cast hpd)
    have hrest : (((Wk xs p i).num * p.den - p.num * (Wk xs p i).den : Int) : Rat) = (((Wk xs p i).den : Int) : Rat) * ((p.den : Int) : Rat) * (Wk xs p i - p) := by
      have a := q_den (Wk xs p i)
      have b := q_den p
      rw [Rat.intCast_sub, Rat.intCast_mul, Rat.intCast_mul, ← a, ← b]
      show Wk xs p i * ((Wk xs p i).den : Rat) * (p.den : Rat) - p * (p.den : Rat) * ((Wk xs p i).den : Rat) = ((Wk xs p i).den : Rat) * (p.den : Rat) * (Wk xs p i - p)
      grind
    have hwn : (((Wk xs p i).den : Int) * (p.den : Int)).natAbs < 2 ^ 4000 := by
      rw [Int.natAbs_mul, Int.natAbs_natCast, Int.natAbs_natCast]
      exact Nat.lt_of_lt_of_le (Nat.mul_lt_mul'' hw.1 hP.sm.1) (by rw [← Nat.pow_add]; exact pow_le2 (by decide))
    have hwz : ((Wk xs p i).den : Int) * (p.den : Int) ≠ 0 := Int.mul_ne_zero (by omega) (by omega)
    rw [← Rat.intCast_mul] at hW0 hrest
    generalize ((Wk xs p i).den : Int) * (p.den : Int) = W at *
    generalize (Wk xs p i).num * (p.den : Int) - p.num * ((Wk xs p i).den : Int) = rs at *
    generalize hr : Wk xs p i - p = r at *
    refine Loop_mk (fun j ρ S3 => ∃ o9 tot, ρ = [some (.tup (intD xs)), some (qD p), some (.int (t + 1 : Nat)), some (qD (Wk xs p i)), some (.ref nf), some (.int (0 + i)), some (.int rs), some (.int W), some (.int tot), o9] ∧ (tot : Rat) = (W : Rat) * sQ (xs.take j) r ∧ S3 = S') ⟨o9, 0, rfl, by show ((0 : Int) : Rat) = (W : Rat) * 0; rw [Rat.mul_zero]; rfl, rfl⟩ (by intros; trivial) ?_ ?_
    · rintro j d ρ' S3 hj ⟨o9, tot, rfl, htot, rfl⟩
      obtain ⟨x, hx, rfl⟩ := intD_get hj
      have hxm := List.mem_of_getElem? hx
      have hxn := nat_of rfl (sm_x hX hxm)
      have b4 : (2 : Nat) ^ 4000 ≤ 2 ^ 100000 := pow_le2 (by decide)
      ((with_reducible conv => whnf); repeat (first | (rw [natD_len]; with_reducible conv => whnf) | (rw [intD_len]; with_reducible conv => whnf) | (refine Exists.intro _ (And.intro (rfl : _ = some _) ?_); with_reducible conv => whnf) | (refine And.intro (okII _ _) ?_; rw [eqD_ii]; with_reducible conv => whnf) | (refine And.intro (by first | assumption | exact Exists.intro _ (by assumption) | exact ⟨rfl, rfl, by decide, by decide⟩ | exact Nat.le_of_ble_eq_true rfl | exact rfl) ?_; with_reducible conv => whnf) | (rw [isLst_at (by assumption)]; with_reducible conv => whnf) | (refine ifT rfl ?_; with_reducible conv => whnf) | (refine ifF rfl ?_; with_reducible conv => whnf) | (refine it_at (by assumption) ?_; with_reducible conv => whnf)))
      refine ⟨sm_mul (Nat.lt_of_lt_of_le hxn b4) (Nat.lt_of_lt_of_le hwn b4), ?_⟩
      ((with_reducible conv => whnf); repeat (first | (rw [natD_len]; with_reducible conv => whnf) | (rw [intD_len]; with_reducible conv => whnf) | (refine Exists.intro _ (And.intro (rfl : _ = some _) ?_); with_reducible conv => whnf) | (refine And.intro (okII _ _) ?_; rw [eqD_ii]; with_reducible conv => whnf) | (refine And.intro (by first | assumption | exact Exists.intro _ (by assumption) | exact ⟨rfl, rfl, by decide, by decide⟩ | exact Nat.le_of_ble_eq_true rfl | exact rfl) ?_; with_reducible conv => whnf) | (rw [isLst_at (by assumption)]; with_reducible conv => whnf) | (refine ifT rfl ?_; with_reducible conv => whnf) | (refine ifF rfl ?_; with_reducible conv => whnf) | (refine it_at (by assumption) ?_; with_reducible conv => whnf)))
      refine ⟨_, _, rfl, ?_, rfl⟩
      rw [sQ_take _ hx, Rat.intCast_add, htot, Rat.mul_add]
      congr 1
      unfold mxQ
      have hlt : (x : Rat) < r ↔ x * W < rs := by
        rw [← Rat.intCast_lt_intCast, hrest, Rat.intCast_mul, Rat.mul_comm (x : Rat)]
        constructor
        · intro h
          exact Rat.mul_lt_mul_of_pos_left h hW0
        · intro h
          false_or_by_contra
          rename_i hc
          have := Rat.mul_le_mul_of_nonneg_left (a := r) (b := (x : Rat)) (c := (W : Rat)) (by grind) (by grind)
          grind
      by_cases c : (x : Rat) < r
      · rw [if_pos c, Int.max_eq_right (Int.le_of_lt (hlt.mp c)), hrest]
      · rw [if_neg c, Int.max_eq_left (Int.not_lt.mp fun h => c (hlt.mpr h)), Rat.intCast_mul, Rat.mul_comm]
    · rintro ρ' S3 ⟨o9, tot, rfl, htot, rfl⟩
      rw [intD_len, List.take_length] at htot
      ((with_reducible conv => whnf); repeat (first | (rw [natD_len]; with_reducible conv => whnf) | (rw [intD_len]; with_reducible conv => whnf) | (refine Exists.intro _ (And.intro (rfl : _ = some _) ?_); with_reducible conv => whnf) | (refine And.intro (okII _ _) ?_; rw [eqD_ii]; with_reducible conv => whnf) | (refine And.intro (by first | assumption | exact Exists.intro _ (by assumption) | exact ⟨rfl, rfl, by decide, by decide⟩ | exact Nat.le_of_ble_eq_true rfl | exact rfl) ?_; with_reducible conv => whnf) | (rw [isLst_at (by assumption)]; with_reducible conv => whnf) | (refine ifT rfl ?_; with_reducible conv => whnf) | (refine ifF rfl ?_; with_reducible conv => whnf) | (refine it_at (by assumption) ?_; with_reducible conv => whnf)))
      refine ⟨smallMul (by omega), ?_⟩
      ((with_reducible conv => whnf); repeat (first | (rw [natD_len]; with_reducible conv => whnf) | (rw [intD_len]; with_reducible conv => whnf) | (refine Exists.intro _ (And.intro (rfl : _ = some _) ?_); with_reducible conv => whnf) | (refine And.intro (okII _ _) ?_; rw [eqD_ii]; with_reducible conv => whnf) | (refine And.intro (by first | assumption | exact Exists.intro _ (by assumption) | exact ⟨rfl, rfl, by decide, by decide⟩ | exact Nat.le_of_ble_eq_true rfl | exact rfl) ?_; with_reducible conv => whnf) | (rw [isLst_at (by assumption)]; with_reducible conv => whnf) | (refine ifT rfl ?_; with_reducible conv => whnf) | (refine ifF rfl ?_; with_reducible conv => whnf) | (refine it_at (by assumption) ?_; with_reducible conv => whnf)))
      refine ⟨_, _, rfl, Int.mul_ne_zero hwz (by omega), ?_, fun S4 h4 => ?_⟩
      · rw [Int.natAbs_mul, Int.natAbs_natCast]
        exact Nat.lt_of_lt_of_le (Nat.mul_lt_mul'' hwn (show xs.length < 2 ^ 10 by omega)) (by rw [← Nat.pow_add]; exact pow_le2 (by decide))
      have e : Rat.divInt tot (W * (xs.length : Int)) = Wk xs p (i + 1) := by
        rw [divInt_eq, htot, Rat.intCast_mul]
        unfold Wk
        rw [hr]
        show (W : Rat) * sQ xs r / ((W : Rat) * (xs.length : Rat)) = sQ xs r / (xs.length : Rat)
        have := one_le hx0
        generalize (xs.length : Rat) = nn at *
        generalize (W : Rat) = ww at *
        have h1 : nn ≠ 0 := by grind
        have h2 : ww ≠ 0 := by grind
        grind
      rw [e]
      have f1 := h4 _ _ f1
      ((with_reducible conv => whnf); repeat (first | (rw [natD_len]; with_reducible conv => whnf) | (rw [intD_len]; with_reducible conv => whnf) | (refine Exists.intro _ (And.intro (rfl : _ = some _) ?_); with_reducible conv => whnf) | (refine And.intro (okII _ _) ?_; rw [eqD_ii]; with_reducible conv => whnf) | (refine And.intro (by first | assumption | exact Exists.intro _ (by assumption) | exact ⟨rfl, rfl, by decide, by decide⟩ | exact Nat.le_of_ble_eq_true rfl | exact rfl) ?_; with_reducible conv => whnf) | (rw [isLst_at (by assumption)]; with_reducible conv => whnf) | (refine ifT rfl ?_; with_reducible conv => whnf) | (refine ifF rfl ?_; with_reducible conv => whnf) | (refine it_at (by assumption) ?_; with_reducible conv => whnf)))
      refine ⟨by rw [List.length_map, List.length_range]; unfold szL; omega, ?_⟩
      refine ⟨_, _, _, _, _, rfl, ?_, (f2.trans h4).put hlen⟩
      rw [at_set f1, List.range_succ (n := i + 1), List.map_append]
      rfl
  · rintro ρ' S' ⟨o5, o6, o7, o8, o9, rfl, f1, f2⟩
    rw [rangeD_len, show ((t + 1 : Nat) - 1 - 0 : Int).toNat = t by omega] at f1
    ((with_reducible conv => whnf); repeat (first | (rw [natD_len]; with_reducible conv => whnf) | (rw [intD_len]; with_reducible conv => whnf) | (refine Exists.intro _ (And.intro (rfl : _ = some _) ?_); with_reducible conv => whnf) | (refine And.intro (okII _ _) ?_; rw [eqD_ii]; with_reducible conv => whnf) | (refine And.intro (by first | assumption | exact Exists.intro _ (by assumption) | exact ⟨rfl, rfl, by decide, by decide⟩ | exact Nat.le_of_ble_eq_true rfl | exact rfl) ?_; with_reducible conv => whnf) | (rw [isLst_at (by assumption)]; with_reducible conv => whnf) | (refine ifT rfl ?_; with_reducible conv => whnf) | (refine ifF rfl ?_; with_reducible conv => whnf) | (refine it_at (by assumption) ?_; with_reducible conv => whnf)))
    exact k _ _ f1 f2
end K93
set_option linter.all false
set_option maxRecDepth 100000
set_option maxHeartbeats 4000000
namespace K93
open DL
theorem OkZ.X {xs : List Int} (h : OkZ xs) (h0 : 0 < xs.length) (h1 : xs.length ≤ 40) : OkX xs := by
  have hc : ((2 ^ 300 : Nat) : Int) ≥ Zb := by rw [Zb_eq]; decide
  refine ⟨h0, h1, fun x hx => ?_, fun x hx => ?_⟩
  · have a := h.lo x hx
    have : ((-((2 ^ 300 : Nat) : Int) : Int) : Rat) ≤ (x : Rat) := Rat.intCast_le_intCast.mpr (by omega)
    rw [Rat.intCast_neg] at this
    exact this
  · have a := h.hi x hx
    exact Rat.intCast_le_intCast.mpr (show x ≤ ((2 ^ 300 : Nat) : Int) by omega)
theorem q_same (q : Rat) : flat (qD q) = true ∧ slim (qD q) = true ∧ deep (qD q) ≤ 3 := ⟨rfl, rfl, by show max 0 (max 0 0) + 1 ≤ 3; decide⟩
@[reducible] def sp_right : Spc := fun ds S Q => ∃ n ns xs most, ds = [.ref n, .rol (intD ns), .tup (intD xs), .int most] ∧ ns.length ≤ 63 ∧ 0 < xs.length ∧ xs.length ≤ 40 ∧ OkZ xs ∧ 0 < most ∧ most ≤ 60 ∧ Dr n S ∧ ∀ S', Dr n S' → Ch n S S' → Q (.bl true) S'
theorem body_law_right : Body 16 4 (w_law_right sp_price sp_bound (sp_q2 (· + ·)) sp_worth (sp_same 3) sp_stops sp_ratio sp_turns sp_byb sp_less sp_take sp_worths sp_in) sp_right := by
  rintro ds S Q _ ⟨n, ns, xs, most, rfl, hl, hx0, hx40, hZ, hm0, hm1, hd, kk⟩
  unfold w_law_right
  (simp only [start, List.map_cons, List.map_nil, List.length_cons, List.length_nil, Nat.reduceAdd, Nat.reduceSub, List.replicate_succ, List.replicate_zero, List.cons_append, List.nil_append, Nat.sub_self, Nat.zero_add])
  have hX := hZ.X hx0 hx40
  ((with_reducible conv => whnf); repeat (first | (rw [natD_len]; with_reducible conv => whnf) | (rw [intD_len]; with_reducible conv => whnf) | (refine Exists.intro _ (And.intro (rfl : _ = some _) ?_); with_reducible conv => whnf) | (refine And.intro (okII _ _) ?_; rw [eqD_ii]; with_reducible conv => whnf) | (refine And.intro (by first | assumption | exact Exists.intro _ (by assumption) | exact ⟨rfl, rfl, by decide, by decide⟩ | exact Nat.le_of_ble_eq_true rfl | exact rfl) ?_; with_reducible conv => whnf) | (rw [isLst_at (by assumption)]; with_reducible conv => whnf) | (refine ifT rfl ?_; with_reducible conv => whnf) | (refine ifF rfl ?_; with_reducible conv => whnf) | (refine it_at (by assumption) ?_; with_reducible conv => whnf)))
  refine ⟨n, ns, xs, rfl, hl, hx0, hx40, hZ, hd, fun p S1 hP d1 c1 => ?_⟩
  ((with_reducible conv => whnf); repeat (first | (rw [natD_len]; with_reducible conv => whnf) | (rw [intD_len]; with_reducible conv => whnf) | (refine Exists.intro _ (And.intro (rfl : _ = some _) ?_); with_reducible conv => whnf) | (refine And.intro (okII _ _) ?_; rw [eqD_ii]; with_reducible conv => whnf) | (refine And.intro (by first | assumption | exact Exists.intro _ (by assumption) | exact ⟨rfl, rfl, by decide, by decide⟩ | exact Nat.le_of_ble_eq_true rfl | exact rfl) ?_; with_reducible conv => whnf) | (rw [isLst_at (by assumption)]; with_reducible conv => whnf) | (refine ifT rfl ?_; with_reducible conv => whnf) | (refine ifF rfl ?_; with_reducible conv => whnf) | (refine it_at (by assumption) ?_; with_reducible conv => whnf)))
  refine ⟨xs, p, rfl, hX, hP, fun B S2 hB h2 => ?_⟩
  have cc := c1.trans h2.ch
  have dd := d1.sub h2
  ((with_reducible conv => whnf); repeat (first | (rw [natD_len]; with_reducible conv => whnf) | (rw [intD_len]; with_reducible conv => whnf) | (refine Exists.intro _ (And.intro (rfl : _ = some _) ?_); with_reducible conv => whnf) | (refine And.intro (okII _ _) ?_; rw [eqD_ii]; with_reducible conv => whnf) | (refine And.intro (by first | assumption | exact Exists.intro _ (by assumption) | exact ⟨rfl, rfl, by decide, by decide⟩ | exact Nat.le_of_ble_eq_true rfl | exact rfl) ?_; with_reducible conv => whnf) | (rw [isLst_at (by assumption)]; with_reducible conv => whnf) | (refine ifT rfl ?_; with_reducible conv => whnf) | (refine ifF rfl ?_; with_reducible conv => whnf) | (refine it_at (by assumption) ?_; with_reducible conv => whnf)))
  refine ⟨B, p, rfl, hB.sm, hP.sm, fun S3 h3 => ?_⟩
  ((with_reducible conv => whnf); repeat (first | (rw [natD_len]; with_reducible conv => whnf) | (rw [intD_len]; with_reducible conv => whnf) | (refine Exists.intro _ (And.intro (rfl : _ = some _) ?_); with_reducible conv => whnf) | (refine And.intro (okII _ _) ?_; rw [eqD_ii]; with_reducible conv => whnf) | (refine And.intro (by first | assumption | exact Exists.intro _ (by assumption) | exact ⟨rfl, rfl, by decide, by decide⟩ | exact Nat.le_of_ble_eq_true rfl | exact rfl) ?_; with_reducible conv => whnf) | (rw [isLst_at (by assumption)]; with_reducible conv => whnf) | (refine ifT rfl ?_; with_reducible conv => whnf) | (refine ifF rfl ?_; with_reducible conv => whnf) | (refine it_at (by assumption) ?_; with_reducible conv => whnf)))
  refine ⟨div_den hB.sm, ?_⟩
  ((with_reducible conv => whnf); repeat (first | (rw [natD_len]; with_reducible conv => whnf) | (rw [intD_len]; with_reducible conv => whnf) | (refine Exists.intro _ (And.intro (rfl : _ = some _) ?_); with_reducible conv => whnf) | (refine And.intro (okII _ _) ?_; rw [eqD_ii]; with_reducible conv => whnf) | (refine And.intro (by first | assumption | exact Exists.intro _ (by assumption) | exact ⟨rfl, rfl, by decide, by decide⟩ | exact Nat.le_of_ble_eq_true rfl | exact rfl) ?_; with_reducible conv => whnf) | (rw [isLst_at (by assumption)]; with_reducible conv => whnf) | (refine ifT rfl ?_; with_reducible conv => whnf) | (refine ifF rfl ?_; with_reducible conv => whnf) | (refine it_at (by assumption) ?_; with_reducible conv => whnf)))
  refine ⟨xs, p, rfl, hX, hP, fun B' S4 hB' h4 => ?_⟩
  have eB := hB.one hX hP hB'
  subst eB
  ((with_reducible conv => whnf); repeat (first | (rw [natD_len]; with_reducible conv => whnf) | (rw [intD_len]; with_reducible conv => whnf) | (refine Exists.intro _ (And.intro (rfl : _ = some _) ?_); with_reducible conv => whnf) | (refine And.intro (okII _ _) ?_; rw [eqD_ii]; with_reducible conv => whnf) | (refine And.intro (by first | assumption | exact Exists.intro _ (by assumption) | exact ⟨rfl, rfl, by decide, by decide⟩ | exact Nat.le_of_ble_eq_true rfl | exact rfl) ?_; with_reducible conv => whnf) | (rw [isLst_at (by assumption)]; with_reducible conv => whnf) | (refine ifT rfl ?_; with_reducible conv => whnf) | (refine ifF rfl ?_; with_reducible conv => whnf) | (refine it_at (by assumption) ?_; with_reducible conv => whnf)))
  obtain ⟨z1, z2, z3⟩ := q_same (B + p)
  refine ⟨qD (B + p), rfl, z1, z2, z3, fun S5 h5 => ?_⟩
  ((with_reducible conv => whnf); repeat (first | (rw [natD_len]; with_reducible conv => whnf) | (rw [intD_len]; with_reducible conv => whnf) | (refine Exists.intro _ (And.intro (rfl : _ = some _) ?_); with_reducible conv => whnf) | (refine And.intro (okII _ _) ?_; rw [eqD_ii]; with_reducible conv => whnf) | (refine And.intro (by first | assumption | exact Exists.intro _ (by assumption) | exact ⟨rfl, rfl, by decide, by decide⟩ | exact Nat.le_of_ble_eq_true rfl | exact rfl) ?_; with_reducible conv => whnf) | (rw [isLst_at (by assumption)]; with_reducible conv => whnf) | (refine ifT rfl ?_; with_reducible conv => whnf) | (refine ifF rfl ?_; with_reducible conv => whnf) | (refine it_at (by assumption) ?_; with_reducible conv => whnf)))
  refine ⟨xs, p, rfl, hX, hP, fun B' S6 hB' h6 => ?_⟩
  have eB := hB.one hX hP hB'
  subst eB
  ((with_reducible conv => whnf); repeat (first | (rw [natD_len]; with_reducible conv => whnf) | (rw [intD_len]; with_reducible conv => whnf) | (refine Exists.intro _ (And.intro (rfl : _ = some _) ?_); with_reducible conv => whnf) | (refine And.intro (okII _ _) ?_; rw [eqD_ii]; with_reducible conv => whnf) | (refine And.intro (by first | assumption | exact Exists.intro _ (by assumption) | exact ⟨rfl, rfl, by decide, by decide⟩ | exact Nat.le_of_ble_eq_true rfl | exact rfl) ?_; with_reducible conv => whnf) | (rw [isLst_at (by assumption)]; with_reducible conv => whnf) | (refine ifT rfl ?_; with_reducible conv => whnf) | (refine ifF rfl ?_; with_reducible conv => whnf) | (refine it_at (by assumption) ?_; with_reducible conv => whnf)))
  refine ⟨.int (ceilB B), rfl, rfl, rfl, Nat.zero_le _, fun S7 h7 => ?_⟩
  ((with_reducible conv => whnf); repeat (first | (rw [natD_len]; with_reducible conv => whnf) | (rw [intD_len]; with_reducible conv => whnf) | (refine Exists.intro _ (And.intro (rfl : _ = some _) ?_); with_reducible conv => whnf) | (refine And.intro (okII _ _) ?_; rw [eqD_ii]; with_reducible conv => whnf) | (refine And.intro (by first | assumption | exact Exists.intro _ (by assumption) | exact ⟨rfl, rfl, by decide, by decide⟩ | exact Nat.le_of_ble_eq_true rfl | exact rfl) ?_; with_reducible conv => whnf) | (rw [isLst_at (by assumption)]; with_reducible conv => whnf) | (refine ifT rfl ?_; with_reducible conv => whnf) | (refine ifF rfl ?_; with_reducible conv => whnf) | (refine it_at (by assumption) ?_; with_reducible conv => whnf)))
  have hq := ((h3.trans h4).trans h5).trans (h6.trans h7)
  have cc := cc.trans hq.ch
  have dd := dd.sub hq
  have hcb : -((-B.num).fdiv (B.den : Int)) = ceilB B := rfl
  rw [hcb]
  refine Lc_lf (xs := xs) (e := D.int) (fun x => decide (ceilB B ≤ x)) D.int (by unfold szL; omega) (by intros; trivial) (fun x S' R hx h hR => ?_) fun S8 h8 => ?_
  · ((with_reducible conv => whnf); repeat (first | (rw [natD_len]; with_reducible conv => whnf) | (rw [intD_len]; with_reducible conv => whnf) | (refine Exists.intro _ (And.intro (rfl : _ = some _) ?_); with_reducible conv => whnf) | (refine And.intro (okII _ _) ?_; rw [eqD_ii]; with_reducible conv => whnf) | (refine And.intro (by first | assumption | exact Exists.intro _ (by assumption) | exact ⟨rfl, rfl, by decide, by decide⟩ | exact Nat.le_of_ble_eq_true rfl | exact rfl) ?_; with_reducible conv => whnf) | (rw [isLst_at (by assumption)]; with_reducible conv => whnf) | (refine ifT rfl ?_; with_reducible conv => whnf) | (refine ifF rfl ?_; with_reducible conv => whnf) | (refine it_at (by assumption) ?_; with_reducible conv => whnf)))
    have := hR S' (Sub.refl _)
    refine ite_d (fun hc => ?_) fun hc => ?_
    · rw [if_pos (decide_eq_true hc)] at this; exact this
    · rw [if_neg (by simpa using hc)] at this; exact this
  have e := at_push S8 (.lst (intD (xs.filter fun x => decide (ceilB B ≤ x))))
  have cc := (cc.trans h8.ch).app [.lst (intD (xs.filter fun x => decide (ceilB B ≤ x)))]
  have dd := (dd.sub h8).app [.lst (intD (xs.filter fun x => decide (ceilB B ≤ x)))]
  have kp := kept_pos hX hP hB
  have kl := kept_le xs B
  generalize S8 ++ [.lst (intD (xs.filter fun x => decide (ceilB B ≤ x)))] = S9 at *
  ((with_reducible conv => whnf); repeat (first | (rw [natD_len]; with_reducible conv => whnf) | (rw [intD_len]; with_reducible conv => whnf) | (refine Exists.intro _ (And.intro (rfl : _ = some _) ?_); with_reducible conv => whnf) | (refine And.intro (okII _ _) ?_; rw [eqD_ii]; with_reducible conv => whnf) | (refine And.intro (by first | assumption | exact Exists.intro _ (by assumption) | exact ⟨rfl, rfl, by decide, by decide⟩ | exact Nat.le_of_ble_eq_true rfl | exact rfl) ?_; with_reducible conv => whnf) | (rw [isLst_at (by assumption)]; with_reducible conv => whnf) | (refine ifT rfl ?_; with_reducible conv => whnf) | (refine ifF rfl ?_; with_reducible conv => whnf) | (refine it_at (by assumption) ?_; with_reducible conv => whnf)))
  rw [show (xs.filter fun x => decide (ceilB B ≤ x)).length = keptN xs B from rfl]
  refine ⟨xs, p, rfl, hX, hP, fun B' S10 hB' h10 => ?_⟩
  have eB := hB.one hX hP hB'
  subst eB
  ((with_reducible conv => whnf); repeat (first | (rw [natD_len]; with_reducible conv => whnf) | (rw [intD_len]; with_reducible conv => whnf) | (refine Exists.intro _ (And.intro (rfl : _ = some _) ?_); with_reducible conv => whnf) | (refine And.intro (okII _ _) ?_; rw [eqD_ii]; with_reducible conv => whnf) | (refine And.intro (by first | assumption | exact Exists.intro _ (by assumption) | exact ⟨rfl, rfl, by decide, by decide⟩ | exact Nat.le_of_ble_eq_true rfl | exact rfl) ?_; with_reducible conv => whnf) | (rw [isLst_at (by assumption)]; with_reducible conv => whnf) | (refine ifT rfl ?_; with_reducible conv => whnf) | (refine ifF rfl ?_; with_reducible conv => whnf) | (refine it_at (by assumption) ?_; with_reducible conv => whnf)))
  refine ⟨_, _, rfl, by omega, nat_small (by omega), fun S11 h11 => ?_⟩
  ((with_reducible conv => whnf); repeat (first | (rw [natD_len]; with_reducible conv => whnf) | (rw [intD_len]; with_reducible conv => whnf) | (refine Exists.intro _ (And.intro (rfl : _ = some _) ?_); with_reducible conv => whnf) | (refine And.intro (okII _ _) ?_; rw [eqD_ii]; with_reducible conv => whnf) | (refine And.intro (by first | assumption | exact Exists.intro _ (by assumption) | exact ⟨rfl, rfl, by decide, by decide⟩ | exact Nat.le_of_ble_eq_true rfl | exact rfl) ?_; with_reducible conv => whnf) | (rw [isLst_at (by assumption)]; with_reducible conv => whnf) | (refine ifT rfl ?_; with_reducible conv => whnf) | (refine ifF rfl ?_; with_reducible conv => whnf) | (refine it_at (by assumption) ?_; with_reducible conv => whnf)))
  obtain ⟨y1, y2, y3⟩ := q_same (Rat.divInt (xs.length : Int) (keptN xs B : Int))
  refine ⟨qD _, rfl, y1, y2, y3, fun S12 h12 => ?_⟩
  ((with_reducible conv => whnf); repeat (first | (rw [natD_len]; with_reducible conv => whnf) | (rw [intD_len]; with_reducible conv => whnf) | (refine Exists.intro _ (And.intro (rfl : _ = some _) ?_); with_reducible conv => whnf) | (refine And.intro (okII _ _) ?_; rw [eqD_ii]; with_reducible conv => whnf) | (refine And.intro (by first | assumption | exact Exists.intro _ (by assumption) | exact ⟨rfl, rfl, by decide, by decide⟩ | exact Nat.le_of_ble_eq_true rfl | exact rfl) ?_; with_reducible conv => whnf) | (rw [isLst_at (by assumption)]; with_reducible conv => whnf) | (refine ifT rfl ?_; with_reducible conv => whnf) | (refine ifF rfl ?_; with_reducible conv => whnf) | (refine it_at (by assumption) ?_; with_reducible conv => whnf)))
  have hq := (h10.trans h11).trans h12
  have cc := cc.trans hq.ch
  have dd := dd.sub hq
  have a1 := cX_1
  have a2 := cX_big
  have pX := hP.le
  have p0 := hP.pos
  have bl := hB.lo
  have bh := hB.hi
  have sBp : sm (B + p) := smB (P := B.den * p.den) (Ov.add ((Ov_self B).mono (Nat.dvd_mul_right _ _)) ((Ov_self p).mono (Nat.dvd_mul_left _ _))) (Nat.mul_pos B.den_pos p.den_pos) (Nat.le_trans (Nat.mul_le_mul hB.den hP.den) (Nat.le_trans (by decide : 2 ^ 60 * 1024 ≤ 2 ^ 70) (pow_le2 (by decide)))) (by grind) (by grind)
  refine Loop_mk (fun i ρ S' => ∃ o10, ρ = [some (.ref n), some (.rol (intD ns)), some (.tup (intD xs)), some (.int most), some (qD p), some (qD B), some (qD (B + p)), some (.int (ceilB B)), some (qD (B + p)), some (.int (keptN xs B)), o10, none, none, none, none, none] ∧ Sub S12 S') ⟨none, rfl, Sub.refl _⟩ (by intros; trivial) ?_ ?_
  · rintro i d ρ' S' hi ⟨o10, rfl, hs⟩
    obtain ⟨x, hx, rfl⟩ := intD_get hi
    have hkx : 0 < (xs.filter fun y => decide (x ≤ y)).length := List.length_pos_of_mem (List.mem_filter.mpr ⟨List.mem_of_getElem? hx, decide_eq_true (Int.le_refl x)⟩)
    ((with_reducible conv => whnf); repeat (first | (rw [natD_len]; with_reducible conv => whnf) | (rw [intD_len]; with_reducible conv => whnf) | (refine Exists.intro _ (And.intro (rfl : _ = some _) ?_); with_reducible conv => whnf) | (refine And.intro (okII _ _) ?_; rw [eqD_ii]; with_reducible conv => whnf) | (refine And.intro (by first | assumption | exact Exists.intro _ (by assumption) | exact ⟨rfl, rfl, by decide, by decide⟩ | exact Nat.le_of_ble_eq_true rfl | exact rfl) ?_; with_reducible conv => whnf) | (rw [isLst_at (by assumption)]; with_reducible conv => whnf) | (refine ifT rfl ?_; with_reducible conv => whnf) | (refine ifF rfl ?_; with_reducible conv => whnf) | (refine it_at (by assumption) ?_; with_reducible conv => whnf)))
    refine ⟨xs, p, x, rfl, hX, hP, hkx, fun T1 g1 => ?_⟩
    have hle := byB_le hB.is hkx
    ((with_reducible conv => whnf); repeat (first | (rw [natD_len]; with_reducible conv => whnf) | (rw [intD_len]; with_reducible conv => whnf) | (refine Exists.intro _ (And.intro (rfl : _ = some _) ?_); with_reducible conv => whnf) | (refine And.intro (okII _ _) ?_; rw [eqD_ii]; with_reducible conv => whnf) | (refine And.intro (by first | assumption | exact Exists.intro _ (by assumption) | exact ⟨rfl, rfl, by decide, by decide⟩ | exact Nat.le_of_ble_eq_true rfl | exact rfl) ?_; with_reducible conv => whnf) | (rw [isLst_at (by assumption)]; with_reducible conv => whnf) | (refine ifT rfl ?_; with_reducible conv => whnf) | (refine ifF rfl ?_; with_reducible conv => whnf) | (refine it_at (by assumption) ?_; with_reducible conv => whnf)))
    refine ⟨_, _, rfl, sBp, byB_sm hX hP hkx, fun T2 g2 => ?_⟩
    ((with_reducible conv => whnf); repeat (first | (rw [natD_len]; with_reducible conv => whnf) | (rw [intD_len]; with_reducible conv => whnf) | (refine Exists.intro _ (And.intro (rfl : _ = some _) ?_); with_reducible conv => whnf) | (refine And.intro (okII _ _) ?_; rw [eqD_ii]; with_reducible conv => whnf) | (refine And.intro (by first | assumption | exact Exists.intro _ (by assumption) | exact ⟨rfl, rfl, by decide, by decide⟩ | exact Nat.le_of_ble_eq_true rfl | exact rfl) ?_; with_reducible conv => whnf) | (rw [isLst_at (by assumption)]; with_reducible conv => whnf) | (refine ifT rfl ?_; with_reducible conv => whnf) | (refine ifF rfl ?_; with_reducible conv => whnf) | (refine it_at (by assumption) ?_; with_reducible conv => whnf)))
    refine ite_d (fun hc => by grind) fun hc => ?_
    ((with_reducible conv => whnf); repeat (first | (rw [natD_len]; with_reducible conv => whnf) | (rw [intD_len]; with_reducible conv => whnf) | (refine Exists.intro _ (And.intro (rfl : _ = some _) ?_); with_reducible conv => whnf) | (refine And.intro (okII _ _) ?_; rw [eqD_ii]; with_reducible conv => whnf) | (refine And.intro (by first | assumption | exact Exists.intro _ (by assumption) | exact ⟨rfl, rfl, by decide, by decide⟩ | exact Nat.le_of_ble_eq_true rfl | exact rfl) ?_; with_reducible conv => whnf) | (rw [isLst_at (by assumption)]; with_reducible conv => whnf) | (refine ifT rfl ?_; with_reducible conv => whnf) | (refine ifF rfl ?_; with_reducible conv => whnf) | (refine it_at (by assumption) ?_; with_reducible conv => whnf)))
    exact ⟨_, rfl, (hs.trans g1).trans g2⟩
  rintro ρ' S13 ⟨o10, rfl, h13⟩
  have cc := cc.trans h13.ch
  have dd := dd.sub h13
  ((with_reducible conv => whnf); repeat (first | (rw [natD_len]; with_reducible conv => whnf) | (rw [intD_len]; with_reducible conv => whnf) | (refine Exists.intro _ (And.intro (rfl : _ = some _) ?_); with_reducible conv => whnf) | (refine And.intro (okII _ _) ?_; rw [eqD_ii]; with_reducible conv => whnf) | (refine And.intro (by first | assumption | exact Exists.intro _ (by assumption) | exact ⟨rfl, rfl, by decide, by decide⟩ | exact Nat.le_of_ble_eq_true rfl | exact rfl) ?_; with_reducible conv => whnf) | (rw [isLst_at (by assumption)]; with_reducible conv => whnf) | (refine ifT rfl ?_; with_reducible conv => whnf) | (refine ifF rfl ?_; with_reducible conv => whnf) | (refine it_at (by assumption) ?_; with_reducible conv => whnf)))
  refine ⟨xs, p, rfl, hX, hP, fun B' S14 hB' h14 => ?_⟩
  have eB := hB.one hX hP hB'
  subst eB
  ((with_reducible conv => whnf); repeat (first | (rw [natD_len]; with_reducible conv => whnf) | (rw [intD_len]; with_reducible conv => whnf) | (refine Exists.intro _ (And.intro (rfl : _ = some _) ?_); with_reducible conv => whnf) | (refine And.intro (okII _ _) ?_; rw [eqD_ii]; with_reducible conv => whnf) | (refine And.intro (by first | assumption | exact Exists.intro _ (by assumption) | exact ⟨rfl, rfl, by decide, by decide⟩ | exact Nat.le_of_ble_eq_true rfl | exact rfl) ?_; with_reducible conv => whnf) | (rw [isLst_at (by assumption)]; with_reducible conv => whnf) | (refine ifT rfl ?_; with_reducible conv => whnf) | (refine ifF rfl ?_; with_reducible conv => whnf) | (refine it_at (by assumption) ?_; with_reducible conv => whnf)))
  refine ⟨xs, p, _, rfl, hX, hP, kp, fun S15 h15 => ?_⟩
  rw [byB_eq hB.is kp fun x => ceil_le x]
  ((with_reducible conv => whnf); repeat (first | (rw [natD_len]; with_reducible conv => whnf) | (rw [intD_len]; with_reducible conv => whnf) | (refine Exists.intro _ (And.intro (rfl : _ = some _) ?_); with_reducible conv => whnf) | (refine And.intro (okII _ _) ?_; rw [eqD_ii]; with_reducible conv => whnf) | (refine And.intro (by first | assumption | exact Exists.intro _ (by assumption) | exact ⟨rfl, rfl, by decide, by decide⟩ | exact Nat.le_of_ble_eq_true rfl | exact rfl) ?_; with_reducible conv => whnf) | (rw [isLst_at (by assumption)]; with_reducible conv => whnf) | (refine ifT rfl ?_; with_reducible conv => whnf) | (refine ifF rfl ?_; with_reducible conv => whnf) | (refine it_at (by assumption) ?_; with_reducible conv => whnf)))
  refine ⟨qD_ok _ _, ?_⟩
  rw [qD_eq, decide_eq_true rfl]
  ((with_reducible conv => whnf); repeat (first | (rw [natD_len]; with_reducible conv => whnf) | (rw [intD_len]; with_reducible conv => whnf) | (refine Exists.intro _ (And.intro (rfl : _ = some _) ?_); with_reducible conv => whnf) | (refine And.intro (okII _ _) ?_; rw [eqD_ii]; with_reducible conv => whnf) | (refine And.intro (by first | assumption | exact Exists.intro _ (by assumption) | exact ⟨rfl, rfl, by decide, by decide⟩ | exact Nat.le_of_ble_eq_true rfl | exact rfl) ?_; with_reducible conv => whnf) | (rw [isLst_at (by assumption)]; with_reducible conv => whnf) | (refine ifT rfl ?_; with_reducible conv => whnf) | (refine ifF rfl ?_; with_reducible conv => whnf) | (refine it_at (by assumption) ?_; with_reducible conv => whnf)))
  have hq := h14.trans h15
  have cc := cc.trans hq.ch
  have dd := dd.sub hq
  refine ⟨_, _, rfl, hm0, dd, fun r S16 r0 r1 dd c16 => ?_⟩
  have cc := cc.trans c16
  obtain ⟨t, rfl⟩ : ∃ t : Nat, r = t := ⟨r.toNat, by omega⟩
  ((with_reducible conv => whnf); repeat (first | (rw [natD_len]; with_reducible conv => whnf) | (rw [intD_len]; with_reducible conv => whnf) | (refine Exists.intro _ (And.intro (rfl : _ = some _) ?_); with_reducible conv => whnf) | (refine And.intro (okII _ _) ?_; rw [eqD_ii]; with_reducible conv => whnf) | (refine And.intro (by first | assumption | exact Exists.intro _ (by assumption) | exact ⟨rfl, rfl, by decide, by decide⟩ | exact Nat.le_of_ble_eq_true rfl | exact rfl) ?_; with_reducible conv => whnf) | (rw [isLst_at (by assumption)]; with_reducible conv => whnf) | (refine ifT rfl ?_; with_reducible conv => whnf) | (refine ifF rfl ?_; with_reducible conv => whnf) | (refine it_at (by assumption) ?_; with_reducible conv => whnf)))
  rw [show (1 : Int) + (t : Int) = ((t + 1 : Nat) : Int) by omega]
  refine ⟨xs, p, t, rfl, hX, hP, by omega, fun nd S17 e17 h17 => ?_⟩
  have cc := cc.trans h17.ch
  have dd := dd.sub h17
  ((with_reducible conv => whnf); repeat (first | (rw [natD_len]; with_reducible conv => whnf) | (rw [intD_len]; with_reducible conv => whnf) | (refine Exists.intro _ (And.intro (rfl : _ = some _) ?_); with_reducible conv => whnf) | (refine And.intro (okII _ _) ?_; rw [eqD_ii]; with_reducible conv => whnf) | (refine And.intro (by first | assumption | exact Exists.intro _ (by assumption) | exact ⟨rfl, rfl, by decide, by decide⟩ | exact Nat.le_of_ble_eq_true rfl | exact rfl) ?_; with_reducible conv => whnf) | (rw [isLst_at (by assumption)]; with_reducible conv => whnf) | (refine ifT rfl ?_; with_reducible conv => whnf) | (refine ifF rfl ?_; with_reducible conv => whnf) | (refine it_at (by assumption) ?_; with_reducible conv => whnf)))
  have e18 := at_push S17 (.lst [.int 1, .int 2, .int 3, .int ((t + 1 : Nat) - 1), .int (t + 1 : Nat)])
  have e17 := push_at e17 [.lst [.int 1, .int 2, .int 3, .int ((t + 1 : Nat) - 1), .int (t + 1 : Nat)]]
  have cc := cc.app [.lst [.int 1, .int 2, .int 3, .int ((t + 1 : Nat) - 1), .int (t + 1 : Nat)]]
  have dd := dd.app [.lst [.int 1, .int 2, .int 3, .int ((t + 1 : Nat) - 1), .int (t + 1 : Nat)]]
  ((with_reducible conv => whnf); repeat (first | (rw [natD_len]; with_reducible conv => whnf) | (rw [intD_len]; with_reducible conv => whnf) | (refine Exists.intro _ (And.intro (rfl : _ = some _) ?_); with_reducible conv => whnf) | (refine And.intro (okII _ _) ?_; rw [eqD_ii]; with_reducible conv => whnf) | (refine And.intro (by first | assumption | exact Exists.intro _ (by assumption) | exact ⟨rfl, rfl, by decide, by decide⟩ | exact Nat.le_of_ble_eq_true rfl | exact rfl) ?_; with_reducible conv => whnf) | (rw [isLst_at (by assumption)]; with_reducible conv => whnf) | (refine ifT rfl ?_; with_reducible conv => whnf) | (refine ifF rfl ?_; with_reducible conv => whnf) | (refine it_at (by assumption) ?_; with_reducible conv => whnf)))
  generalize S17 ++ [.lst [.int 1, .int 2, .int 3, .int ((t + 1 : Nat) - 1), .int (t + 1 : Nat)]] = S18 at *
  generalize S17.length = n18 at *
  refine Loop_mk (fun i ρ S' => ∃ o10 o14 o15, ∃ ah : Option Nat, ρ = [some (.ref n), some (.rol (intD ns)), some (.tup (intD xs)), some (.int most), some (qD p), some (qD B), some (qD (B + p)), some (.int (ceilB B)), some (qD (B + p)), some (.int (keptN xs B)), o10, some (.int (t + 1 : Nat)), some (.ref nd), some (bestD (ah.map (Wk xs p))), o14, o15] ∧ (∀ j, ah = some j → j + 1 ≤ i ∧ j + 1 < t) ∧ Sub S18 S') ⟨o10, none, none, none, rfl, by simp, Sub.refl _⟩ (by rintro i ρ S' ⟨_, _, _, _, _, _, h⟩; exact h _ _ e18) ?_ ?_
  · rintro i d ρ' S' hi ⟨o10, o14, o15, ah, rfl, hah, hs⟩
    obtain ⟨kx, hk, rfl⟩ : ∃ kx : Int, ((i < 3 ∧ kx = i + 1) ∨ (i = 3 ∧ kx = t) ∨ (i = 4 ∧ kx = t + 1)) ∧ d = .int kx := by
      match i, hi with
      | 0, hi => exact ⟨1, by omega, (Option.some.inj hi).symm⟩
      | 1, hi => exact ⟨2, by omega, (Option.some.inj hi).symm⟩
      | 2, hi => exact ⟨3, by omega, (Option.some.inj hi).symm⟩
      | 3, hi => exact ⟨_, .inr (.inl ⟨rfl, by omega⟩), (Option.some.inj hi).symm⟩
      | 4, hi => exact ⟨_, .inr (.inr ⟨rfl, by omega⟩), (Option.some.inj hi).symm⟩
      | i + 5, hi => exact absurd hi (by simp)
    have e17 := hs _ _ e17
    ((with_reducible conv => whnf); repeat (first | (rw [natD_len]; with_reducible conv => whnf) | (rw [intD_len]; with_reducible conv => whnf) | (refine Exists.intro _ (And.intro (rfl : _ = some _) ?_); with_reducible conv => whnf) | (refine And.intro (okII _ _) ?_; rw [eqD_ii]; with_reducible conv => whnf) | (refine And.intro (by first | assumption | exact Exists.intro _ (by assumption) | exact ⟨rfl, rfl, by decide, by decide⟩ | exact Nat.le_of_ble_eq_true rfl | exact rfl) ?_; with_reducible conv => whnf) | (rw [isLst_at (by assumption)]; with_reducible conv => whnf) | (refine ifT rfl ?_; with_reducible conv => whnf) | (refine ifF rfl ?_; with_reducible conv => whnf) | (refine it_at (by assumption) ?_; with_reducible conv => whnf)))
    refine ite_d (fun hc1 => ?_) fun hc1 => ?_
    · ((with_reducible conv => whnf); repeat (first | (rw [natD_len]; with_reducible conv => whnf) | (rw [intD_len]; with_reducible conv => whnf) | (refine Exists.intro _ (And.intro (rfl : _ = some _) ?_); with_reducible conv => whnf) | (refine And.intro (okII _ _) ?_; rw [eqD_ii]; with_reducible conv => whnf) | (refine And.intro (by first | assumption | exact Exists.intro _ (by assumption) | exact ⟨rfl, rfl, by decide, by decide⟩ | exact Nat.le_of_ble_eq_true rfl | exact rfl) ?_; with_reducible conv => whnf) | (rw [isLst_at (by assumption)]; with_reducible conv => whnf) | (refine ifT rfl ?_; with_reducible conv => whnf) | (refine ifF rfl ?_; with_reducible conv => whnf) | (refine it_at (by assumption) ?_; with_reducible conv => whnf)))
      refine ite_d (fun hc2 => ?_) fun hc2 => ?_
      · obtain ⟨u, rfl⟩ : ∃ u : Nat, kx = ((u + 1 : Nat) : Int) := ⟨kx.toNat - 1, by omega⟩
        ((with_reducible conv => whnf); repeat (first | (rw [natD_len]; with_reducible conv => whnf) | (rw [intD_len]; with_reducible conv => whnf) | (refine Exists.intro _ (And.intro (rfl : _ = some _) ?_); with_reducible conv => whnf) | (refine And.intro (okII _ _) ?_; rw [eqD_ii]; with_reducible conv => whnf) | (refine And.intro (by first | assumption | exact Exists.intro _ (by assumption) | exact ⟨rfl, rfl, by decide, by decide⟩ | exact Nat.le_of_ble_eq_true rfl | exact rfl) ?_; with_reducible conv => whnf) | (rw [isLst_at (by assumption)]; with_reducible conv => whnf) | (refine ifT rfl ?_; with_reducible conv => whnf) | (refine ifF rfl ?_; with_reducible conv => whnf) | (refine it_at (by assumption) ?_; with_reducible conv => whnf)))
        refine ⟨xs, p, u, rfl, hX, hP, by omega, fun T1 g1 => ?_⟩
        have e17 := g1 _ _ e17
        ((with_reducible conv => whnf); repeat (first | (rw [natD_len]; with_reducible conv => whnf) | (rw [intD_len]; with_reducible conv => whnf) | (refine Exists.intro _ (And.intro (rfl : _ = some _) ?_); with_reducible conv => whnf) | (refine And.intro (okII _ _) ?_; rw [eqD_ii]; with_reducible conv => whnf) | (refine And.intro (by first | assumption | exact Exists.intro _ (by assumption) | exact ⟨rfl, rfl, by decide, by decide⟩ | exact Nat.le_of_ble_eq_true rfl | exact rfl) ?_; with_reducible conv => whnf) | (rw [isLst_at (by assumption)]; with_reducible conv => whnf) | (refine ifT rfl ?_; with_reducible conv => whnf) | (refine ifF rfl ?_; with_reducible conv => whnf) | (refine it_at (by assumption) ?_; with_reducible conv => whnf)))
        refine ⟨qD (Wk xs p u), ?_, ?_⟩
        · rw [show ((u + 1 : Nat) : Int) - 1 = (u : Int) by omega]
          refine atZ_nat ?_
          rw [List.getElem?_map, List.getElem?_range (by omega)]
          rfl
        ((with_reducible conv => whnf); repeat (first | (rw [natD_len]; with_reducible conv => whnf) | (rw [intD_len]; with_reducible conv => whnf) | (refine Exists.intro _ (And.intro (rfl : _ = some _) ?_); with_reducible conv => whnf) | (refine And.intro (okII _ _) ?_; rw [eqD_ii]; with_reducible conv => whnf) | (refine And.intro (by first | assumption | exact Exists.intro _ (by assumption) | exact ⟨rfl, rfl, by decide, by decide⟩ | exact Nat.le_of_ble_eq_true rfl | exact rfl) ?_; with_reducible conv => whnf) | (rw [isLst_at (by assumption)]; with_reducible conv => whnf) | (refine ifT rfl ?_; with_reducible conv => whnf) | (refine ifF rfl ?_; with_reducible conv => whnf) | (refine it_at (by assumption) ?_; with_reducible conv => whnf)))
        obtain ⟨w1, w2, w3⟩ := q_same (Wk xs p u)
        refine ⟨qD (Wk xs p u), rfl, w1, w2, w3, fun T2 g2 => ?_⟩
        ((with_reducible conv => whnf); repeat (first | (rw [natD_len]; with_reducible conv => whnf) | (rw [intD_len]; with_reducible conv => whnf) | (refine Exists.intro _ (And.intro (rfl : _ = some _) ?_); with_reducible conv => whnf) | (refine And.intro (okII _ _) ?_; rw [eqD_ii]; with_reducible conv => whnf) | (refine And.intro (by first | assumption | exact Exists.intro _ (by assumption) | exact ⟨rfl, rfl, by decide, by decide⟩ | exact Nat.le_of_ble_eq_true rfl | exact rfl) ?_; with_reducible conv => whnf) | (rw [isLst_at (by assumption)]; with_reducible conv => whnf) | (refine ifT rfl ?_; with_reducible conv => whnf) | (refine ifF rfl ?_; with_reducible conv => whnf) | (refine it_at (by assumption) ?_; with_reducible conv => whnf)))
        have swu := Wk_sm hX hP (k := u) (by omega)
        refine ⟨_, _, rfl, sBp, swu, fun T3 g3 => ?_⟩
        have hwl := Wk_le hX.pos hB.is u
        ((with_reducible conv => whnf); repeat (first | (rw [natD_len]; with_reducible conv => whnf) | (rw [intD_len]; with_reducible conv => whnf) | (refine Exists.intro _ (And.intro (rfl : _ = some _) ?_); with_reducible conv => whnf) | (refine And.intro (okII _ _) ?_; rw [eqD_ii]; with_reducible conv => whnf) | (refine And.intro (by first | assumption | exact Exists.intro _ (by assumption) | exact ⟨rfl, rfl, by decide, by decide⟩ | exact Nat.le_of_ble_eq_true rfl | exact rfl) ?_; with_reducible conv => whnf) | (rw [isLst_at (by assumption)]; with_reducible conv => whnf) | (refine ifT rfl ?_; with_reducible conv => whnf) | (refine ifF rfl ?_; with_reducible conv => whnf) | (refine it_at (by assumption) ?_; with_reducible conv => whnf)))
        refine ite_d (fun hc => by grind) fun hc => ?_
        have hs := ((hs.trans g1).trans g2).trans g3
        have fin : ∀ (E : Ends) T, Sub S18 T → (∀ o10 o14 o15 (ah : Option Nat) T', (∀ j, ah = some j → j + 1 ≤ i + 1 ∧ j + 1 < t) → Sub S18 T' → E.nx [some (.ref n), some (.rol (intD ns)), some (.tup (intD xs)), some (.int most), some (qD p), some (qD B), some (qD (B + p)), some (.int (ceilB B)), some (qD (B + p)), some (.int (keptN xs B)), o10, some (.int (t + 1 : Nat)), some (.ref nd), some (bestD (ah.map (Wk xs p))), o14, o15] T') →
            sIf (wtVal (wOp rLt (wVar 14) (wOp rSub (wVar 11) (wC (.int 1))))) (sAsg (wVar 15) (gN 13)) sNext E [some (.ref n), some (.rol (intD ns)), some (.tup (intD xs)), some (.int most), some (qD p), some (qD B), some (qD (B + p)), some (.int (ceilB B)), some (qD (B + p)), some (.int (keptN xs B)), o10, some (.int (t + 1 : Nat)), some (.ref nd), some (bestD (ah.map (Wk xs p))), some (.int (u + 1 : Nat)), some (qD (Wk xs p u))] T := by
          intro E T hT hE
          ((with_reducible conv => whnf); repeat (first | (refine And.intro (okII _ _) ?_; rw [eqD_ii]; with_reducible conv => whnf) | (refine And.intro (by first | assumption | exact Exists.intro _ (by assumption) | exact ⟨rfl, rfl, by decide, by decide⟩ | exact Nat.le_of_ble_eq_true rfl | exact rfl) ?_; with_reducible conv => whnf) | (rw [isLst_at (by assumption)]; with_reducible conv => whnf) | (refine ifT rfl ?_; with_reducible conv => whnf) | (refine ifF rfl ?_; with_reducible conv => whnf) | (refine it_at (by assumption) ?_; with_reducible conv => whnf)))
          refine ite_d (fun hc => ?_) fun hc => ?_
          · exact hE o10 _ _ (some u) T (fun j ej => by cases ej; omega) hT
          · exact hE o10 _ _ ah T (fun j ej => by have := hah j ej; omega) hT
        cases ah with
        | none =>
          ((with_reducible conv => whnf); repeat (first | (rw [natD_len]; with_reducible conv => whnf) | (rw [intD_len]; with_reducible conv => whnf) | (refine Exists.intro _ (And.intro (rfl : _ = some _) ?_); with_reducible conv => whnf) | (refine And.intro (okII _ _) ?_; rw [eqD_ii]; with_reducible conv => whnf) | (refine And.intro (by first | assumption | exact Exists.intro _ (by assumption) | exact ⟨rfl, rfl, by decide, by decide⟩ | exact Nat.le_of_ble_eq_true rfl | exact rfl) ?_; with_reducible conv => whnf) | (rw [isLst_at (by assumption)]; with_reducible conv => whnf) | (refine ifT rfl ?_; with_reducible conv => whnf) | (refine ifF rfl ?_; with_reducible conv => whnf) | (refine it_at (by assumption) ?_; with_reducible conv => whnf)))
          exact fin _ T3 hs fun o10 o14 o15 ah T' h1 h2 => ⟨o10, o14, o15, ah, rfl, h1, h2⟩
        | some j =>
          have hj := hah j rfl
          ((with_reducible conv => whnf); repeat (first | (rw [natD_len]; with_reducible conv => whnf) | (rw [intD_len]; with_reducible conv => whnf) | (refine Exists.intro _ (And.intro (rfl : _ = some _) ?_); with_reducible conv => whnf) | (refine And.intro (okII _ _) ?_; rw [eqD_ii]; with_reducible conv => whnf) | (refine And.intro (by first | assumption | exact Exists.intro _ (by assumption) | exact ⟨rfl, rfl, by decide, by decide⟩ | exact Nat.le_of_ble_eq_true rfl | exact rfl) ?_; with_reducible conv => whnf) | (rw [isLst_at (by assumption)]; with_reducible conv => whnf) | (refine ifT rfl ?_; with_reducible conv => whnf) | (refine ifF rfl ?_; with_reducible conv => whnf) | (refine it_at (by assumption) ?_; with_reducible conv => whnf)))
          refine ⟨_, _, rfl, swu, Wk_sm hX hP (by omega), fun T4 g4 => ?_⟩
          have hmo := Wk_mono p hX.pos (j := j) (k := u) (by omega)
          ((with_reducible conv => whnf); repeat (first | (rw [natD_len]; with_reducible conv => whnf) | (rw [intD_len]; with_reducible conv => whnf) | (refine Exists.intro _ (And.intro (rfl : _ = some _) ?_); with_reducible conv => whnf) | (refine And.intro (okII _ _) ?_; rw [eqD_ii]; with_reducible conv => whnf) | (refine And.intro (by first | assumption | exact Exists.intro _ (by assumption) | exact ⟨rfl, rfl, by decide, by decide⟩ | exact Nat.le_of_ble_eq_true rfl | exact rfl) ?_; with_reducible conv => whnf) | (rw [isLst_at (by assumption)]; with_reducible conv => whnf) | (refine ifT rfl ?_; with_reducible conv => whnf) | (refine ifF rfl ?_; with_reducible conv => whnf) | (refine it_at (by assumption) ?_; with_reducible conv => whnf)))
          refine ite_d (fun hc => by grind) fun hc => ?_
          exact fin _ T4 (hs.trans g4) fun o10 o14 o15 ah T' h1 h2 => ⟨o10, o14, o15, ah, rfl, h1, h2⟩
      · ((with_reducible conv => whnf); repeat (first | (rw [natD_len]; with_reducible conv => whnf) | (rw [intD_len]; with_reducible conv => whnf) | (refine Exists.intro _ (And.intro (rfl : _ = some _) ?_); with_reducible conv => whnf) | (refine And.intro (okII _ _) ?_; rw [eqD_ii]; with_reducible conv => whnf) | (refine And.intro (by first | assumption | exact Exists.intro _ (by assumption) | exact ⟨rfl, rfl, by decide, by decide⟩ | exact Nat.le_of_ble_eq_true rfl | exact rfl) ?_; with_reducible conv => whnf) | (rw [isLst_at (by assumption)]; with_reducible conv => whnf) | (refine ifT rfl ?_; with_reducible conv => whnf) | (refine ifF rfl ?_; with_reducible conv => whnf) | (refine it_at (by assumption) ?_; with_reducible conv => whnf)))
        exact ⟨_, _, _, ah, rfl, fun j ej => by have := hah j ej; omega, hs⟩
    · ((with_reducible conv => whnf); repeat (first | (rw [natD_len]; with_reducible conv => whnf) | (rw [intD_len]; with_reducible conv => whnf) | (refine Exists.intro _ (And.intro (rfl : _ = some _) ?_); with_reducible conv => whnf) | (refine And.intro (okII _ _) ?_; rw [eqD_ii]; with_reducible conv => whnf) | (refine And.intro (by first | assumption | exact Exists.intro _ (by assumption) | exact ⟨rfl, rfl, by decide, by decide⟩ | exact Nat.le_of_ble_eq_true rfl | exact rfl) ?_; with_reducible conv => whnf) | (rw [isLst_at (by assumption)]; with_reducible conv => whnf) | (refine ifT rfl ?_; with_reducible conv => whnf) | (refine ifF rfl ?_; with_reducible conv => whnf) | (refine it_at (by assumption) ?_; with_reducible conv => whnf)))
      exact ⟨_, _, _, ah, rfl, fun j ej => by have := hah j ej; omega, hs⟩
  · rintro ρ' S' ⟨o10, o14, o15, ah, rfl, hah, hs⟩
    ((with_reducible conv => whnf); repeat (first | (rw [natD_len]; with_reducible conv => whnf) | (rw [intD_len]; with_reducible conv => whnf) | (refine Exists.intro _ (And.intro (rfl : _ = some _) ?_); with_reducible conv => whnf) | (refine And.intro (okII _ _) ?_; rw [eqD_ii]; with_reducible conv => whnf) | (refine And.intro (by first | assumption | exact Exists.intro _ (by assumption) | exact ⟨rfl, rfl, by decide, by decide⟩ | exact Nat.le_of_ble_eq_true rfl | exact rfl) ?_; with_reducible conv => whnf) | (rw [isLst_at (by assumption)]; with_reducible conv => whnf) | (refine ifT rfl ?_; with_reducible conv => whnf) | (refine ifF rfl ?_; with_reducible conv => whnf) | (refine it_at (by assumption) ?_; with_reducible conv => whnf)))
    exact kk S' (dd.sub hs) (cc.trans hs.ch)
@[reducible] def sp_law : Spc := fun ds S Q => ∃ ns, ds = [.rol (intD ns)] ∧ ns.length ≤ 63 ∧ ∀ S', Q (.bl true) S'
theorem body_law : Body 7 1 (w_law sp_draws sp_take sp_prizes sp_right sp_bound (sp_q2 (· + ·)) sp_worth (sp_same 3)) sp_law := by
  rintro ds S Q _ ⟨ns, rfl, hl, kk⟩
  unfold w_law
  (simp only [start, List.map_cons, List.map_nil, List.length_cons, List.length_nil, Nat.reduceAdd, Nat.reduceSub, List.replicate_succ, List.replicate_zero, List.cons_append, List.nil_append, Nat.sub_self, Nat.zero_add])
  ((with_reducible conv => whnf); repeat (first | (rw [natD_len]; with_reducible conv => whnf) | (rw [intD_len]; with_reducible conv => whnf) | (refine Exists.intro _ (And.intro (rfl : _ = some _) ?_); with_reducible conv => whnf) | (refine And.intro (okII _ _) ?_; rw [eqD_ii]; with_reducible conv => whnf) | (refine And.intro (by first | assumption | exact Exists.intro _ (by assumption) | exact ⟨rfl, rfl, by decide, by decide⟩ | exact Nat.le_of_ble_eq_true rfl | exact rfl) ?_; with_reducible conv => whnf) | (rw [isLst_at (by assumption)]; with_reducible conv => whnf) | (refine ifT rfl ?_; with_reducible conv => whnf) | (refine ifF rfl ?_; with_reducible conv => whnf) | (refine it_at (by assumption) ?_; with_reducible conv => whnf)))
  refine ⟨ns, 350, rfl, hl, by decide, by decide, fun n S1 d1 h1 hn => ?_⟩
  ((with_reducible conv => whnf); repeat (first | (rw [natD_len]; with_reducible conv => whnf) | (rw [intD_len]; with_reducible conv => whnf) | (refine Exists.intro _ (And.intro (rfl : _ = some _) ?_); with_reducible conv => whnf) | (refine And.intro (okII _ _) ?_; rw [eqD_ii]; with_reducible conv => whnf) | (refine And.intro (by first | assumption | exact Exists.intro _ (by assumption) | exact ⟨rfl, rfl, by decide, by decide⟩ | exact Nat.le_of_ble_eq_true rfl | exact rfl) ?_; with_reducible conv => whnf) | (rw [isLst_at (by assumption)]; with_reducible conv => whnf) | (refine ifT rfl ?_; with_reducible conv => whnf) | (refine ifF rfl ?_; with_reducible conv => whnf) | (refine it_at (by assumption) ?_; with_reducible conv => whnf)))
  refine ⟨_, _, rfl, by decide, d1, fun r1 S2 a0 a1 d2 _ => ?_⟩
  ((with_reducible conv => whnf); repeat (first | (rw [natD_len]; with_reducible conv => whnf) | (rw [intD_len]; with_reducible conv => whnf) | (refine Exists.intro _ (And.intro (rfl : _ = some _) ?_); with_reducible conv => whnf) | (refine And.intro (okII _ _) ?_; rw [eqD_ii]; with_reducible conv => whnf) | (refine And.intro (by first | assumption | exact Exists.intro _ (by assumption) | exact ⟨rfl, rfl, by decide, by decide⟩ | exact Nat.le_of_ble_eq_true rfl | exact rfl) ?_; with_reducible conv => whnf) | (rw [isLst_at (by assumption)]; with_reducible conv => whnf) | (refine ifT rfl ?_; with_reducible conv => whnf) | (refine ifF rfl ?_; with_reducible conv => whnf) | (refine it_at (by assumption) ?_; with_reducible conv => whnf)))
  refine ⟨_, _, rfl, by decide, d2, fun lg S3 b0 b1 d3 _ => ?_⟩
  have tail : ∀ (m mo : Int) (T : Sto), 0 < m → m ≤ 40 → 0 < mo → mo ≤ 60 → Dr n T → (sSeq (sAsg (wCall 3 sp_prizes (wCons (wVar 1) (wCons (wVar 0) (wCons (wVar 2) wNil)))) (gN 5))
    (sSeq (sIf (wtNot (wtVal (wCall 4 sp_right (wCons (wVar 1) (wCons (wVar 0) (wCons (wVar 5) (wCons (wVar 3) wNil))))))) (sRet (wC (.bl false))) sNext)
    (sSeq (sIf (wtNot (wtVal (wCall 4 sp_right (wCons (wVar 1) (wCons (wVar 0) (wCons (wCall 3 sp_prizes (wCons (wVar 1) (wCons (wVar 0) (wCons (wOp rAdd (wC (.int 1)) (wCall 2 sp_take (wCons (wVar 1) (wCons (wC (.int 6)) wNil)))) wNil)))) (wCons (wC (.int 6)) wNil))))))) (sRet (wC (.bl false))) sNext)
    (sSeq (sAsg (wTup (wCons (wOp rAdd (wC (.int 1)) (wCall 2 sp_take (wCons (wVar 1) (wCons (wC (.int 9)) wNil)))) (wCons (wC (.int 1)) wNil))) (gN 6))
    (sRet (wCall 2 (sp_same 3) (wCons (wCall 2 sp_worth (wCons (wVar 5) (wCons (wVar 6) wNil))) (wCons (wCall 2 (sp_q2 (· + ·)) (wCons (wCall 2 sp_bound (wCons (wVar 5) (wCons (wVar 6) wNil))) (wCons (wVar 6) wNil))) wNil)))))))) { nx := fun x S' => Q D.non S', rt := Q, bk := fun x x_1 => False, ct := fun x x_1 => False } [some (.rol (intD ns)), some (.ref n), some (.int m), some (.int mo), some (.int lg), none, none] T := by
    intro m mo T m0 m1 o0 o1 dT
    ((with_reducible conv => whnf); repeat (first | (refine And.intro (okII _ _) ?_; rw [eqD_ii]; with_reducible conv => whnf) | (refine And.intro (by first | assumption | exact Exists.intro _ (by assumption) | exact ⟨rfl, rfl, by decide, by decide⟩ | exact Nat.le_of_ble_eq_true rfl | exact rfl) ?_; with_reducible conv => whnf) | (rw [isLst_at (by assumption)]; with_reducible conv => whnf) | (refine ifT rfl ?_; with_reducible conv => whnf) | (refine ifF rfl ?_; with_reducible conv => whnf) | (refine it_at (by assumption) ?_; with_reducible conv => whnf)))
    refine ⟨n, ns, m, rfl, hl, m0, m1, dT, fun xs T1 hx hZ d1 _ => ?_⟩
    have hX := hZ.X (by omega) (by omega)
    ((with_reducible conv => whnf); repeat (first | (refine And.intro (okII _ _) ?_; rw [eqD_ii]; with_reducible conv => whnf) | (refine And.intro (by first | assumption | exact Exists.intro _ (by assumption) | exact ⟨rfl, rfl, by decide, by decide⟩ | exact Nat.le_of_ble_eq_true rfl | exact rfl) ?_; with_reducible conv => whnf) | (rw [isLst_at (by assumption)]; with_reducible conv => whnf) | (refine ifT rfl ?_; with_reducible conv => whnf) | (refine ifF rfl ?_; with_reducible conv => whnf) | (refine it_at (by assumption) ?_; with_reducible conv => whnf)))
    refine ⟨n, ns, xs, mo, rfl, hl, by omega, by omega, hZ, o0, o1, d1, fun T2 d2 _ => ?_⟩
    ((with_reducible conv => whnf); repeat (first | (refine And.intro (okII _ _) ?_; rw [eqD_ii]; with_reducible conv => whnf) | (refine And.intro (by first | assumption | exact Exists.intro _ (by assumption) | exact ⟨rfl, rfl, by decide, by decide⟩ | exact Nat.le_of_ble_eq_true rfl | exact rfl) ?_; with_reducible conv => whnf) | (rw [isLst_at (by assumption)]; with_reducible conv => whnf) | (refine ifT rfl ?_; with_reducible conv => whnf) | (refine ifF rfl ?_; with_reducible conv => whnf) | (refine it_at (by assumption) ?_; with_reducible conv => whnf)))
    refine ⟨_, _, rfl, by decide, d2, fun r T3 c0 c1 d3 _ => ?_⟩
    ((with_reducible conv => whnf); repeat (first | (refine And.intro (okII _ _) ?_; rw [eqD_ii]; with_reducible conv => whnf) | (refine And.intro (by first | assumption | exact Exists.intro _ (by assumption) | exact ⟨rfl, rfl, by decide, by decide⟩ | exact Nat.le_of_ble_eq_true rfl | exact rfl) ?_; with_reducible conv => whnf) | (rw [isLst_at (by assumption)]; with_reducible conv => whnf) | (refine ifT rfl ?_; with_reducible conv => whnf) | (refine ifF rfl ?_; with_reducible conv => whnf) | (refine it_at (by assumption) ?_; with_reducible conv => whnf)))
    refine ⟨n, ns, 1 + r, rfl, hl, by omega, by omega, d3, fun ys T4 hy hZ2 d4 _ => ?_⟩
    ((with_reducible conv => whnf); repeat (first | (refine And.intro (okII _ _) ?_; rw [eqD_ii]; with_reducible conv => whnf) | (refine And.intro (by first | assumption | exact Exists.intro _ (by assumption) | exact ⟨rfl, rfl, by decide, by decide⟩ | exact Nat.le_of_ble_eq_true rfl | exact rfl) ?_; with_reducible conv => whnf) | (rw [isLst_at (by assumption)]; with_reducible conv => whnf) | (refine ifT rfl ?_; with_reducible conv => whnf) | (refine ifF rfl ?_; with_reducible conv => whnf) | (refine it_at (by assumption) ?_; with_reducible conv => whnf)))
    refine ⟨n, ns, ys, 6, rfl, hl, by omega, by omega, hZ2, by decide, by decide, d4, fun T5 d5 _ => ?_⟩
    ((with_reducible conv => whnf); repeat (first | (refine And.intro (okII _ _) ?_; rw [eqD_ii]; with_reducible conv => whnf) | (refine And.intro (by first | assumption | exact Exists.intro _ (by assumption) | exact ⟨rfl, rfl, by decide, by decide⟩ | exact Nat.le_of_ble_eq_true rfl | exact rfl) ?_; with_reducible conv => whnf) | (rw [isLst_at (by assumption)]; with_reducible conv => whnf) | (refine ifT rfl ?_; with_reducible conv => whnf) | (refine ifF rfl ?_; with_reducible conv => whnf) | (refine it_at (by assumption) ?_; with_reducible conv => whnf)))
    refine ⟨_, _, rfl, by decide, d5, fun q T6 e0 e1 d6 _ => ?_⟩
    ((with_reducible conv => whnf); repeat (first | (refine And.intro (okII _ _) ?_; rw [eqD_ii]; with_reducible conv => whnf) | (refine And.intro (by first | assumption | exact Exists.intro _ (by assumption) | exact ⟨rfl, rfl, by decide, by decide⟩ | exact Nat.le_of_ble_eq_true rfl | exact rfl) ?_; with_reducible conv => whnf) | (rw [isLst_at (by assumption)]; with_reducible conv => whnf) | (refine ifT rfl ?_; with_reducible conv => whnf) | (refine ifF rfl ?_; with_reducible conv => whnf) | (refine it_at (by assumption) ?_; with_reducible conv => whnf)))
    have hP : OkP ((1 + q : Int) : Rat) := by
      have h1 := okP_div (a := 1 + q) (m := 1) (by omega) (by omega) (by decide) (by decide)
      have e : Rat.divInt (1 + q) 1 = ((1 + q : Int) : Rat) := by
        rw [divInt_eq, show ((1 : Int) : Rat) = 1 from rfl]
        grind
      rwa [e] at h1
    refine ⟨xs, ((1 + q : Int) : Rat), rfl, hX, hP, fun B T7 hB h7 => ?_⟩
    ((with_reducible conv => whnf); repeat (first | (refine And.intro (okII _ _) ?_; rw [eqD_ii]; with_reducible conv => whnf) | (refine And.intro (by first | assumption | exact Exists.intro _ (by assumption) | exact ⟨rfl, rfl, by decide, by decide⟩ | exact Nat.le_of_ble_eq_true rfl | exact rfl) ?_; with_reducible conv => whnf) | (rw [isLst_at (by assumption)]; with_reducible conv => whnf) | (refine ifT rfl ?_; with_reducible conv => whnf) | (refine ifF rfl ?_; with_reducible conv => whnf) | (refine it_at (by assumption) ?_; with_reducible conv => whnf)))
    refine ⟨xs, ((1 + q : Int) : Rat), rfl, hX, hP, fun B' T8 hB' h8 => ?_⟩
    have eB := hB.one hX hP hB'
    subst eB
    ((with_reducible conv => whnf); repeat (first | (refine And.intro (okII _ _) ?_; rw [eqD_ii]; with_reducible conv => whnf) | (refine And.intro (by first | assumption | exact Exists.intro _ (by assumption) | exact ⟨rfl, rfl, by decide, by decide⟩ | exact Nat.le_of_ble_eq_true rfl | exact rfl) ?_; with_reducible conv => whnf) | (rw [isLst_at (by assumption)]; with_reducible conv => whnf) | (refine ifT rfl ?_; with_reducible conv => whnf) | (refine ifF rfl ?_; with_reducible conv => whnf) | (refine it_at (by assumption) ?_; with_reducible conv => whnf)))
    refine ⟨B, ((1 + q : Int) : Rat), rfl, hB.sm, hP.sm, fun T9 h9 => ?_⟩
    ((with_reducible conv => whnf); repeat (first | (refine And.intro (okII _ _) ?_; rw [eqD_ii]; with_reducible conv => whnf) | (refine And.intro (by first | assumption | exact Exists.intro _ (by assumption) | exact ⟨rfl, rfl, by decide, by decide⟩ | exact Nat.le_of_ble_eq_true rfl | exact rfl) ?_; with_reducible conv => whnf) | (rw [isLst_at (by assumption)]; with_reducible conv => whnf) | (refine ifT rfl ?_; with_reducible conv => whnf) | (refine ifF rfl ?_; with_reducible conv => whnf) | (refine it_at (by assumption) ?_; with_reducible conv => whnf)))
    obtain ⟨z1, z2, z3⟩ := q_same (B + ((1 + q : Int) : Rat))
    exact ⟨qD _, rfl, z1, z2, z3, fun T10 _ => kk _⟩
  ((with_reducible conv => whnf); repeat (first | (rw [natD_len]; with_reducible conv => whnf) | (rw [intD_len]; with_reducible conv => whnf) | (refine Exists.intro _ (And.intro (rfl : _ = some _) ?_); with_reducible conv => whnf) | (refine And.intro (okII _ _) ?_; rw [eqD_ii]; with_reducible conv => whnf) | (refine And.intro (by first | assumption | exact Exists.intro _ (by assumption) | exact ⟨rfl, rfl, by decide, by decide⟩ | exact Nat.le_of_ble_eq_true rfl | exact rfl) ?_; with_reducible conv => whnf) | (rw [isLst_at (by assumption)]; with_reducible conv => whnf) | (refine ifT rfl ?_; with_reducible conv => whnf) | (refine ifF rfl ?_; with_reducible conv => whnf) | (refine it_at (by assumption) ?_; with_reducible conv => whnf)))
  refine ite_d (fun hc => ?_) fun hc => ?_
  · subst hc
    ((with_reducible conv => whnf); repeat (first | (rw [natD_len]; with_reducible conv => whnf) | (rw [intD_len]; with_reducible conv => whnf) | (refine Exists.intro _ (And.intro (rfl : _ = some _) ?_); with_reducible conv => whnf) | (refine And.intro (okII _ _) ?_; rw [eqD_ii]; with_reducible conv => whnf) | (refine And.intro (by first | assumption | exact Exists.intro _ (by assumption) | exact ⟨rfl, rfl, by decide, by decide⟩ | exact Nat.le_of_ble_eq_true rfl | exact rfl) ?_; with_reducible conv => whnf) | (rw [isLst_at (by assumption)]; with_reducible conv => whnf) | (refine ifT rfl ?_; with_reducible conv => whnf) | (refine ifF rfl ?_; with_reducible conv => whnf) | (refine it_at (by assumption) ?_; with_reducible conv => whnf)))
    refine ⟨_, _, rfl, by decide, d3, fun r2 S4 c0 c1 d4 _ => ?_⟩
    ((with_reducible conv => whnf); repeat (first | (rw [natD_len]; with_reducible conv => whnf) | (rw [intD_len]; with_reducible conv => whnf) | (refine Exists.intro _ (And.intro (rfl : _ = some _) ?_); with_reducible conv => whnf) | (refine And.intro (okII _ _) ?_; rw [eqD_ii]; with_reducible conv => whnf) | (refine And.intro (by first | assumption | exact Exists.intro _ (by assumption) | exact ⟨rfl, rfl, by decide, by decide⟩ | exact Nat.le_of_ble_eq_true rfl | exact rfl) ?_; with_reducible conv => whnf) | (rw [isLst_at (by assumption)]; with_reducible conv => whnf) | (refine ifT rfl ?_; with_reducible conv => whnf) | (refine ifF rfl ?_; with_reducible conv => whnf) | (refine it_at (by assumption) ?_; with_reducible conv => whnf)))
    exact (tail (1 + r2) 12 S4 (by omega) (by omega) (by decide) (by decide) d4).2
  · ((with_reducible conv => whnf); repeat (first | (rw [natD_len]; with_reducible conv => whnf) | (rw [intD_len]; with_reducible conv => whnf) | (refine Exists.intro _ (And.intro (rfl : _ = some _) ?_); with_reducible conv => whnf) | (refine And.intro (okII _ _) ?_; rw [eqD_ii]; with_reducible conv => whnf) | (refine And.intro (by first | assumption | exact Exists.intro _ (by assumption) | exact ⟨rfl, rfl, by decide, by decide⟩ | exact Nat.le_of_ble_eq_true rfl | exact rfl) ?_; with_reducible conv => whnf) | (rw [isLst_at (by assumption)]; with_reducible conv => whnf) | (refine ifT rfl ?_; with_reducible conv => whnf) | (refine ifF rfl ?_; with_reducible conv => whnf) | (refine it_at (by assumption) ?_; with_reducible conv => whnf)))
    refine ite_d (fun hc1 => ?_) fun hc1 => ?_
    · ((with_reducible conv => whnf); repeat (first | (rw [natD_len]; with_reducible conv => whnf) | (rw [intD_len]; with_reducible conv => whnf) | (refine Exists.intro _ (And.intro (rfl : _ = some _) ?_); with_reducible conv => whnf) | (refine And.intro (okII _ _) ?_; rw [eqD_ii]; with_reducible conv => whnf) | (refine And.intro (by first | assumption | exact Exists.intro _ (by assumption) | exact ⟨rfl, rfl, by decide, by decide⟩ | exact Nat.le_of_ble_eq_true rfl | exact rfl) ?_; with_reducible conv => whnf) | (rw [isLst_at (by assumption)]; with_reducible conv => whnf) | (refine ifT rfl ?_; with_reducible conv => whnf) | (refine ifF rfl ?_; with_reducible conv => whnf) | (refine it_at (by assumption) ?_; with_reducible conv => whnf)))
      refine ⟨_, _, rfl, by decide, d3, fun r2 S4 c0 c1 d4 _ => ?_⟩
      exact tail (1 + r2) 60 S4 (by omega) (by omega) (by decide) (by decide) d4
    · exact tail (1 + r1) 12 S3 (by omega) (by omega) (by decide) (by decide) d3
end K93
set_option Elab.async false
set_option linter.all false
set_option maxRecDepth 100000
set_option maxHeartbeats 8000000
/-! the end: oddsweighed_k93_whole_wheels_turned_agai -/
namespace K93
open PySem PySem.Spec DL
theorem all_mk {l : PySem.W.OpenLaw} {w : World} {K : PySem.W.Frag} {h : Heap} {mg : Str → Option Value} {fa f_divisor f_fraction f_plus f_minus f_times f_divided f_is_less f_bound_of f_worth_of_wheel f_stops_at f_mean_turns f_worth_in f_law_draws f_law_take f_law_same f_law_size f_law_divisor f_law_ratio f_law_plus f_law_minus f_law_times f_law_less f_law_prizes f_law_price f_law_bound f_law_by_bound f_law_worths f_law_right f_law : Addr} (X : K.In h) (G : h.Ns mainGlobals mg) (hfa : mg "law" = some (.ref fa))
    {od_divisor an_divisor : Option Addr} {sl_divisor : Array (Option Value)} {oc_divisor kV_divisor dc_divisor pm_divisor cd_divisor ct_divisor : Value}
    (a_divisor : PySem.W.nsIn K mainGlobals "divisor" = some (some (.ref f_divisor))) (l_divisor : K.lookup f_divisor = some ⟨oc_divisor, od_divisor, .func (PySem.W.fnOf "divisor" "divisor" (L2.defArgs s_divisor) (L2.defBody s_divisor) (L2.defScope s_divisor) .none kV_divisor dc_divisor pm_divisor an_divisor cd_divisor ct_divisor), sl_divisor⟩) (c_divisor : PySem.W.codeIn K cd_divisor "divisor" = true) (k_divisor : PySem.W.keepIn K (.ref f_divisor) = true)
    {od_fraction an_fraction : Option Addr} {sl_fraction : Array (Option Value)} {oc_fraction kV_fraction dc_fraction pm_fraction cd_fraction ct_fraction : Value}
    (a_fraction : PySem.W.nsIn K mainGlobals "fraction" = some (some (.ref f_fraction))) (l_fraction : K.lookup f_fraction = some ⟨oc_fraction, od_fraction, .func (PySem.W.fnOf "fraction" "fraction" (L2.defArgs s_fraction) (L2.defBody s_fraction) (L2.defScope s_fraction) .none kV_fraction dc_fraction pm_fraction an_fraction cd_fraction ct_fraction), sl_fraction⟩) (c_fraction : PySem.W.codeIn K cd_fraction "fraction" = true) (k_fraction : PySem.W.keepIn K (.ref f_fraction) = true)
    {od_plus an_plus : Option Addr} {sl_plus : Array (Option Value)} {oc_plus kV_plus dc_plus pm_plus cd_plus ct_plus : Value}
    (a_plus : PySem.W.nsIn K mainGlobals "plus" = some (some (.ref f_plus))) (l_plus : K.lookup f_plus = some ⟨oc_plus, od_plus, .func (PySem.W.fnOf "plus" "plus" (L2.defArgs s_plus) (L2.defBody s_plus) (L2.defScope s_plus) .none kV_plus dc_plus pm_plus an_plus cd_plus ct_plus), sl_plus⟩) (c_plus : PySem.W.codeIn K cd_plus "plus" = true) (k_plus : PySem.W.keepIn K (.ref f_plus) = true)
    {od_minus an_minus : Option Addr} {sl_minus : Array (Option Value)} {oc_minus kV_minus dc_minus pm_minus cd_minus ct_minus : Value}
    (a_minus : PySem.W.nsIn K mainGlobals "minus" = some (some (.ref f_minus))) (l_minus : K.lookup f_minus = some ⟨oc_minus, od_minus, .func (PySem.W.fnOf "minus" "minus" (L2.defArgs s_minus) (L2.defBody s_minus) (L2.defScope s_minus) .none kV_minus dc_minus pm_minus an_minus cd_minus ct_minus), sl_minus⟩) (c_minus : PySem.W.codeIn K cd_minus "minus" = true) (k_minus : PySem.W.keepIn K (.ref f_minus) = true)
    {od_times an_times : Option Addr} {sl_times : Array (Option Value)} {oc_times kV_times dc_times pm_times cd_times ct_times : Value}
    (a_times : PySem.W.nsIn K mainGlobals "times" = some (some (.ref f_times))) (l_times : K.lookup f_times = some ⟨oc_times, od_times, .func (PySem.W.fnOf "times" "times" (L2.defArgs s_times) (L2.defBody s_times) (L2.defScope s_times) .none kV_times dc_times pm_times an_times cd_times ct_times), sl_times⟩) (c_times : PySem.W.codeIn K cd_times "times" = true) (k_times : PySem.W.keepIn K (.ref f_times) = true)
    {od_divided an_divided : Option Addr} {sl_divided : Array (Option Value)} {oc_divided kV_divided dc_divided pm_divided cd_divided ct_divided : Value}
    (a_divided : PySem.W.nsIn K mainGlobals "divided" = some (some (.ref f_divided))) (l_divided : K.lookup f_divided = some ⟨oc_divided, od_divided, .func (PySem.W.fnOf "divided" "divided" (L2.defArgs s_divided) (L2.defBody s_divided) (L2.defScope s_divided) .none kV_divided dc_divided pm_divided an_divided cd_divided ct_divided), sl_divided⟩) (c_divided : PySem.W.codeIn K cd_divided "divided" = true) (k_divided : PySem.W.keepIn K (.ref f_divided) = true)
    {od_is_less an_is_less : Option Addr} {sl_is_less : Array (Option Value)} {oc_is_less kV_is_less dc_is_less pm_is_less cd_is_less ct_is_less : Value}
    (a_is_less : PySem.W.nsIn K mainGlobals "is_less" = some (some (.ref f_is_less))) (l_is_less : K.lookup f_is_less = some ⟨oc_is_less, od_is_less, .func (PySem.W.fnOf "is_less" "is_less" (L2.defArgs s_is_less) (L2.defBody s_is_less) (L2.defScope s_is_less) .none kV_is_less dc_is_less pm_is_less an_is_less cd_is_less ct_is_less), sl_is_less⟩) (c_is_less : PySem.W.codeIn K cd_is_less "is_less" = true) (k_is_less : PySem.W.keepIn K (.ref f_is_less) = true)
    {od_bound_of an_bound_of : Option Addr} {sl_bound_of : Array (Option Value)} {oc_bound_of kV_bound_of dc_bound_of pm_bound_of cd_bound_of ct_bound_of : Value}
    (a_bound_of : PySem.W.nsIn K mainGlobals "bound_of" = some (some (.ref f_bound_of))) (l_bound_of : K.lookup f_bound_of = some ⟨oc_bound_of, od_bound_of, .func (PySem.W.fnOf "bound_of" "bound_of" (L2.defArgs s_bound_of) (L2.defBody s_bound_of) (L2.defScope s_bound_of) .none kV_bound_of dc_bound_of pm_bound_of an_bound_of cd_bound_of ct_bound_of), sl_bound_of⟩) (c_bound_of : PySem.W.codeIn K cd_bound_of "bound_of" = true) (k_bound_of : PySem.W.keepIn K (.ref f_bound_of) = true)
    {od_worth_of_wheel an_worth_of_wheel : Option Addr} {sl_worth_of_wheel : Array (Option Value)} {oc_worth_of_wheel kV_worth_of_wheel dc_worth_of_wheel pm_worth_of_wheel cd_worth_of_wheel ct_worth_of_wheel : Value}
    (a_worth_of_wheel : PySem.W.nsIn K mainGlobals "worth_of_wheel" = some (some (.ref f_worth_of_wheel))) (l_worth_of_wheel : K.lookup f_worth_of_wheel = some ⟨oc_worth_of_wheel, od_worth_of_wheel, .func (PySem.W.fnOf "worth_of_wheel" "worth_of_wheel" (L2.defArgs s_worth_of_wheel) (L2.defBody s_worth_of_wheel) (L2.defScope s_worth_of_wheel) .none kV_worth_of_wheel dc_worth_of_wheel pm_worth_of_wheel an_worth_of_wheel cd_worth_of_wheel ct_worth_of_wheel), sl_worth_of_wheel⟩) (c_worth_of_wheel : PySem.W.codeIn K cd_worth_of_wheel "worth_of_wheel" = true) (k_worth_of_wheel : PySem.W.keepIn K (.ref f_worth_of_wheel) = true)
    {od_stops_at an_stops_at : Option Addr} {sl_stops_at : Array (Option Value)} {oc_stops_at kV_stops_at dc_stops_at pm_stops_at cd_stops_at ct_stops_at : Value}
    (a_stops_at : PySem.W.nsIn K mainGlobals "stops_at" = some (some (.ref f_stops_at))) (l_stops_at : K.lookup f_stops_at = some ⟨oc_stops_at, od_stops_at, .func (PySem.W.fnOf "stops_at" "stops_at" (L2.defArgs s_stops_at) (L2.defBody s_stops_at) (L2.defScope s_stops_at) .none kV_stops_at dc_stops_at pm_stops_at an_stops_at cd_stops_at ct_stops_at), sl_stops_at⟩) (c_stops_at : PySem.W.codeIn K cd_stops_at "stops_at" = true) (k_stops_at : PySem.W.keepIn K (.ref f_stops_at) = true)
    {od_mean_turns an_mean_turns : Option Addr} {sl_mean_turns : Array (Option Value)} {oc_mean_turns kV_mean_turns dc_mean_turns pm_mean_turns cd_mean_turns ct_mean_turns : Value}
    (a_mean_turns : PySem.W.nsIn K mainGlobals "mean_turns" = some (some (.ref f_mean_turns))) (l_mean_turns : K.lookup f_mean_turns = some ⟨oc_mean_turns, od_mean_turns, .func (PySem.W.fnOf "mean_turns" "mean_turns" (L2.defArgs s_mean_turns) (L2.defBody s_mean_turns) (L2.defScope s_mean_turns) .none kV_mean_turns dc_mean_turns pm_mean_turns an_mean_turns cd_mean_turns ct_mean_turns), sl_mean_turns⟩) (c_mean_turns : PySem.W.codeIn K cd_mean_turns "mean_turns" = true) (k_mean_turns : PySem.W.keepIn K (.ref f_mean_turns) = true)
    {od_worth_in an_worth_in : Option Addr} {sl_worth_in : Array (Option Value)} {oc_worth_in kV_worth_in dc_worth_in pm_worth_in cd_worth_in ct_worth_in : Value}
    (a_worth_in : PySem.W.nsIn K mainGlobals "worth_in" = some (some (.ref f_worth_in))) (l_worth_in : K.lookup f_worth_in = some ⟨oc_worth_in, od_worth_in, .func (PySem.W.fnOf "worth_in" "worth_in" (L2.defArgs s_worth_in) (L2.defBody s_worth_in) (L2.defScope s_worth_in) .none kV_worth_in dc_worth_in pm_worth_in an_worth_in cd_worth_in ct_worth_in), sl_worth_in⟩) (c_worth_in : PySem.W.codeIn K cd_worth_in "worth_in" = true) (k_worth_in : PySem.W.keepIn K (.ref f_worth_in) = true)
    {od_law_draws an_law_draws : Option Addr} {sl_law_draws : Array (Option Value)} {oc_law_draws kV_law_draws dc_law_draws pm_law_draws cd_law_draws ct_law_draws : Value}
    (a_law_draws : PySem.W.nsIn K mainGlobals "_law_draws" = some (some (.ref f_law_draws))) (l_law_draws : K.lookup f_law_draws = some ⟨oc_law_draws, od_law_draws, .func (PySem.W.fnOf "_law_draws" "_law_draws" (L2.defArgs s_law_draws) (L2.defBody s_law_draws) (L2.defScope s_law_draws) .none kV_law_draws dc_law_draws pm_law_draws an_law_draws cd_law_draws ct_law_draws), sl_law_draws⟩) (c_law_draws : PySem.W.codeIn K cd_law_draws "_law_draws" = true) (k_law_draws : PySem.W.keepIn K (.ref f_law_draws) = true)
    {od_law_take an_law_take : Option Addr} {sl_law_take : Array (Option Value)} {oc_law_take kV_law_take dc_law_take pm_law_take cd_law_take ct_law_take : Value}
    (a_law_take : PySem.W.nsIn K mainGlobals "_law_take" = some (some (.ref f_law_take))) (l_law_take : K.lookup f_law_take = some ⟨oc_law_take, od_law_take, .func (PySem.W.fnOf "_law_take" "_law_take" (L2.defArgs s_law_take) (L2.defBody s_law_take) (L2.defScope s_law_take) .none kV_law_take dc_law_take pm_law_take an_law_take cd_law_take ct_law_take), sl_law_take⟩) (c_law_take : PySem.W.codeIn K cd_law_take "_law_take" = true) (k_law_take : PySem.W.keepIn K (.ref f_law_take) = true)
    {od_law_same an_law_same : Option Addr} {sl_law_same : Array (Option Value)} {oc_law_same kV_law_same dc_law_same pm_law_same cd_law_same ct_law_same : Value}
    (a_law_same : PySem.W.nsIn K mainGlobals "_law_same" = some (some (.ref f_law_same))) (l_law_same : K.lookup f_law_same = some ⟨oc_law_same, od_law_same, .func (PySem.W.fnOf "_law_same" "_law_same" (L2.defArgs s_law_same) (L2.defBody s_law_same) (L2.defScope s_law_same) .none kV_law_same dc_law_same pm_law_same an_law_same cd_law_same ct_law_same), sl_law_same⟩) (c_law_same : PySem.W.codeIn K cd_law_same "_law_same" = true) (k_law_same : PySem.W.keepIn K (.ref f_law_same) = true)
    {od_law_size an_law_size : Option Addr} {sl_law_size : Array (Option Value)} {oc_law_size kV_law_size dc_law_size pm_law_size cd_law_size ct_law_size : Value}
    (a_law_size : PySem.W.nsIn K mainGlobals "_law_size" = some (some (.ref f_law_size))) (l_law_size : K.lookup f_law_size = some ⟨oc_law_size, od_law_size, .func (PySem.W.fnOf "_law_size" "_law_size" (L2.defArgs s_law_size) (L2.defBody s_law_size) (L2.defScope s_law_size) .none kV_law_size dc_law_size pm_law_size an_law_size cd_law_size ct_law_size), sl_law_size⟩) (c_law_size : PySem.W.codeIn K cd_law_size "_law_size" = true) (k_law_size : PySem.W.keepIn K (.ref f_law_size) = true)
    {od_law_divisor an_law_divisor : Option Addr} {sl_law_divisor : Array (Option Value)} {oc_law_divisor kV_law_divisor dc_law_divisor pm_law_divisor cd_law_divisor ct_law_divisor : Value}
    (a_law_divisor : PySem.W.nsIn K mainGlobals "_law_divisor" = some (some (.ref f_law_divisor))) (l_law_divisor : K.lookup f_law_divisor = some ⟨oc_law_divisor, od_law_divisor, .func (PySem.W.fnOf "_law_divisor" "_law_divisor" (L2.defArgs s_law_divisor) (L2.defBody s_law_divisor) (L2.defScope s_law_divisor) .none kV_law_divisor dc_law_divisor pm_law_divisor an_law_divisor cd_law_divisor ct_law_divisor), sl_law_divisor⟩) (c_law_divisor : PySem.W.codeIn K cd_law_divisor "_law_divisor" = true) (k_law_divisor : PySem.W.keepIn K (.ref f_law_divisor) = true)
    {od_law_ratio an_law_ratio : Option Addr} {sl_law_ratio : Array (Option Value)} {oc_law_ratio kV_law_ratio dc_law_ratio pm_law_ratio cd_law_ratio ct_law_ratio : Value}
    (a_law_ratio : PySem.W.nsIn K mainGlobals "_law_ratio" = some (some (.ref f_law_ratio))) (l_law_ratio : K.lookup f_law_ratio = some ⟨oc_law_ratio, od_law_ratio, .func (PySem.W.fnOf "_law_ratio" "_law_ratio" (L2.defArgs s_law_ratio) (L2.defBody s_law_ratio) (L2.defScope s_law_ratio) .none kV_law_ratio dc_law_ratio pm_law_ratio an_law_ratio cd_law_ratio ct_law_ratio), sl_law_ratio⟩) (c_law_ratio : PySem.W.codeIn K cd_law_ratio "_law_ratio" = true) (k_law_ratio : PySem.W.keepIn K (.ref f_law_ratio) = true)
    {od_law_plus an_law_plus : Option Addr} {sl_law_plus : Array (Option Value)} {oc_law_plus kV_law_plus dc_law_plus pm_law_plus cd_law_plus ct_law_plus : Value}
    (a_law_plus : PySem.W.nsIn K mainGlobals "_law_plus" = some (some (.ref f_law_plus))) (l_law_plus : K.lookup f_law_plus = some ⟨oc_law_plus, od_law_plus, .func (PySem.W.fnOf "_law_plus" "_law_plus" (L2.defArgs s_law_plus) (L2.defBody s_law_plus) (L2.defScope s_law_plus) .none kV_law_plus dc_law_plus pm_law_plus an_law_plus cd_law_plus ct_law_plus), sl_law_plus⟩) (c_law_plus : PySem.W.codeIn K cd_law_plus "_law_plus" = true) (k_law_plus : PySem.W.keepIn K (.ref f_law_plus) = true)
    {od_law_minus an_law_minus : Option Addr} {sl_law_minus : Array (Option Value)} {oc_law_minus kV_law_minus dc_law_minus pm_law_minus cd_law_minus ct_law_minus : Value}
    (a_law_minus : PySem.W.nsIn K mainGlobals "_law_minus" = some (some (.ref f_law_minus))) (l_law_minus : K.lookup f_law_minus = some ⟨oc_law_minus, od_law_minus, .func (PySem.W.fnOf "_law_minus" "_law_minus" (L2.defArgs s_law_minus) (L2.defBody s_law_minus) (L2.defScope s_law_minus) .none kV_law_minus dc_law_minus pm_law_minus an_law_minus cd_law_minus ct_law_minus), sl_law_minus⟩) (c_law_minus : PySem.W.codeIn K cd_law_minus "_law_minus" = true) (k_law_minus : PySem.W.keepIn K (.ref f_law_minus) = true)
    {od_law_times an_law_times : Option Addr} {sl_law_times : Array (Option Value)} {oc_law_times kV_law_times dc_law_times pm_law_times cd_law_times ct_law_times : Value}
    (a_law_times : PySem.W.nsIn K mainGlobals "_law_times" = some (some (.ref f_law_times))) (l_law_times : K.lookup f_law_times = some ⟨oc_law_times, od_law_times, .func (PySem.W.fnOf "_law_times" "_law_times" (L2.defArgs s_law_times) (L2.defBody s_law_times) (L2.defScope s_law_times) .none kV_law_times dc_law_times pm_law_times an_law_times cd_law_times ct_law_times), sl_law_times⟩) (c_law_times : PySem.W.codeIn K cd_law_times "_law_times" = true) (k_law_times : PySem.W.keepIn K (.ref f_law_times) = true)
    {od_law_less an_law_less : Option Addr} {sl_law_less : Array (Option Value)} {oc_law_less kV_law_less dc_law_less pm_law_less cd_law_less ct_law_less : Value}
    (a_law_less : PySem.W.nsIn K mainGlobals "_law_less" = some (some (.ref f_law_less))) (l_law_less : K.lookup f_law_less = some ⟨oc_law_less, od_law_less, .func (PySem.W.fnOf "_law_less" "_law_less" (L2.defArgs s_law_less) (L2.defBody s_law_less) (L2.defScope s_law_less) .none kV_law_less dc_law_less pm_law_less an_law_less cd_law_less ct_law_less), sl_law_less⟩) (c_law_less : PySem.W.codeIn K cd_law_less "_law_less" = true) (k_law_less : PySem.W.keepIn K (.ref f_law_less) = true)
    {od_law_prizes an_law_prizes : Option Addr} {sl_law_prizes : Array (Option Value)} {oc_law_prizes kV_law_prizes dc_law_prizes pm_law_prizes cd_law_prizes ct_law_prizes : Value}
    (a_law_prizes : PySem.W.nsIn K mainGlobals "_law_prizes" = some (some (.ref f_law_prizes))) (l_law_prizes : K.lookup f_law_prizes = some ⟨oc_law_prizes, od_law_prizes, .func (PySem.W.fnOf "_law_prizes" "_law_prizes" (L2.defArgs s_law_prizes) (L2.defBody s_law_prizes) (L2.defScope s_law_prizes) .none kV_law_prizes dc_law_prizes pm_law_prizes an_law_prizes cd_law_prizes ct_law_prizes), sl_law_prizes⟩) (c_law_prizes : PySem.W.codeIn K cd_law_prizes "_law_prizes" = true) (k_law_prizes : PySem.W.keepIn K (.ref f_law_prizes) = true)
    {od_law_price an_law_price : Option Addr} {sl_law_price : Array (Option Value)} {oc_law_price kV_law_price dc_law_price pm_law_price cd_law_price ct_law_price : Value}
    (a_law_price : PySem.W.nsIn K mainGlobals "_law_price" = some (some (.ref f_law_price))) (l_law_price : K.lookup f_law_price = some ⟨oc_law_price, od_law_price, .func (PySem.W.fnOf "_law_price" "_law_price" (L2.defArgs s_law_price) (L2.defBody s_law_price) (L2.defScope s_law_price) .none kV_law_price dc_law_price pm_law_price an_law_price cd_law_price ct_law_price), sl_law_price⟩) (c_law_price : PySem.W.codeIn K cd_law_price "_law_price" = true) (k_law_price : PySem.W.keepIn K (.ref f_law_price) = true)
    {od_law_bound an_law_bound : Option Addr} {sl_law_bound : Array (Option Value)} {oc_law_bound kV_law_bound dc_law_bound pm_law_bound cd_law_bound ct_law_bound : Value}
    (a_law_bound : PySem.W.nsIn K mainGlobals "_law_bound" = some (some (.ref f_law_bound))) (l_law_bound : K.lookup f_law_bound = some ⟨oc_law_bound, od_law_bound, .func (PySem.W.fnOf "_law_bound" "_law_bound" (L2.defArgs s_law_bound) (L2.defBody s_law_bound) (L2.defScope s_law_bound) .none kV_law_bound dc_law_bound pm_law_bound an_law_bound cd_law_bound ct_law_bound), sl_law_bound⟩) (c_law_bound : PySem.W.codeIn K cd_law_bound "_law_bound" = true) (k_law_bound : PySem.W.keepIn K (.ref f_law_bound) = true)
    {od_law_by_bound an_law_by_bound : Option Addr} {sl_law_by_bound : Array (Option Value)} {oc_law_by_bound kV_law_by_bound dc_law_by_bound pm_law_by_bound cd_law_by_bound ct_law_by_bound : Value}
    (a_law_by_bound : PySem.W.nsIn K mainGlobals "_law_by_bound" = some (some (.ref f_law_by_bound))) (l_law_by_bound : K.lookup f_law_by_bound = some ⟨oc_law_by_bound, od_law_by_bound, .func (PySem.W.fnOf "_law_by_bound" "_law_by_bound" (L2.defArgs s_law_by_bound) (L2.defBody s_law_by_bound) (L2.defScope s_law_by_bound) .none kV_law_by_bound dc_law_by_bound pm_law_by_bound an_law_by_bound cd_law_by_bound ct_law_by_bound), sl_law_by_bound⟩) (c_law_by_bound : PySem.W.codeIn K cd_law_by_bound "_law_by_bound" = true) (k_law_by_bound : PySem.W.keepIn K (.ref f_law_by_bound) = true)
    {od_law_worths an_law_worths : Option Addr} {sl_law_worths : Array (Option Value)} {oc_law_worths kV_law_worths dc_law_worths pm_law_worths cd_law_worths ct_law_worths : Value}
    (a_law_worths : PySem.W.nsIn K mainGlobals "_law_worths" = some (some (.ref f_law_worths))) (l_law_worths : K.lookup f_law_worths = some ⟨oc_law_worths, od_law_worths, .func (PySem.W.fnOf "_law_worths" "_law_worths" (L2.defArgs s_law_worths) (L2.defBody s_law_worths) (L2.defScope s_law_worths) .none kV_law_worths dc_law_worths pm_law_worths an_law_worths cd_law_worths ct_law_worths), sl_law_worths⟩) (c_law_worths : PySem.W.codeIn K cd_law_worths "_law_worths" = true) (k_law_worths : PySem.W.keepIn K (.ref f_law_worths) = true)
    {od_law_right an_law_right : Option Addr} {sl_law_right : Array (Option Value)} {oc_law_right kV_law_right dc_law_right pm_law_right cd_law_right ct_law_right : Value}
    (a_law_right : PySem.W.nsIn K mainGlobals "_law_right" = some (some (.ref f_law_right))) (l_law_right : K.lookup f_law_right = some ⟨oc_law_right, od_law_right, .func (PySem.W.fnOf "_law_right" "_law_right" (L2.defArgs s_law_right) (L2.defBody s_law_right) (L2.defScope s_law_right) .none kV_law_right dc_law_right pm_law_right an_law_right cd_law_right ct_law_right), sl_law_right⟩) (c_law_right : PySem.W.codeIn K cd_law_right "_law_right" = true) (k_law_right : PySem.W.keepIn K (.ref f_law_right) = true)
    {od_law an_law : Option Addr} {sl_law : Array (Option Value)} {oc_law kV_law dc_law pm_law cd_law ct_law : Value}
    (a_law : PySem.W.nsIn K mainGlobals "law" = some (some (.ref f_law))) (l_law : K.lookup f_law = some ⟨oc_law, od_law, .func (PySem.W.fnOf "law" "law" (L2.defArgs s_law) (L2.defBody s_law) (L2.defScope s_law) .none kV_law dc_law pm_law an_law cd_law ct_law), sl_law⟩) (c_law : PySem.W.codeIn K cd_law "law" = true) (k_law : PySem.W.keepIn K (.ref f_law) = true)
    (z_gcd : PySem.W.nsIn K mainGlobals "gcd" = some (some (.builtin "math.gcd")))
    (z_len : PySem.W.nsIn K mainGlobals "len" = some none)
    (z_sorted : PySem.W.nsIn K mainGlobals "sorted" = some none)
    (z_range : PySem.W.nsIn K mainGlobals "range" = some none)
    (z_sum : PySem.W.nsIn K mainGlobals "sum" = some none)
    (z_int : PySem.W.nsIn K mainGlobals "int" = some none)
    (z_list : PySem.W.nsIn K mainGlobals "list" = some none)
    (z_bool : PySem.W.nsIn K mainGlobals "bool" = some none)
    (z_isinstance : PySem.W.nsIn K mainGlobals "isinstance" = some none)
    (z_str : PySem.W.nsIn K mainGlobals "str" = some none)
    (z_tuple : PySem.W.nsIn K mainGlobals "tuple" = some none)
    (z_abs : PySem.W.nsIn K mainGlobals "abs" = some none)
    (z_max : PySem.W.nsIn K mainGlobals "max" = some none)
    {t_NOTHING : Addr} {od_NOTHING : Option Addr} {its_NOTHING : Array Value} {n_NOTHING : Nat} {sl_NOTHING : Array (Option Value)} (a_NOTHING : PySem.W.nsIn K mainGlobals "NOTHING" = some (some (.ref t_NOTHING))) (l_NOTHING : K.lookup t_NOTHING = some ⟨.type "tuple", od_NOTHING, .seq its_NOTHING n_NOTHING, sl_NOTHING⟩) (w_NOTHING : L2.Vals ([0, 1].map L2.V.int) its_NOTHING.toList) (y_NOTHING : its_NOTHING.size ≤ sizeLine)
    : ∃ fd : FuncData, (∀ (s : Shared) (v : Value), BindsTo s fd ⟨[v], []⟩ [("script", v)]) ∧ ∀ base : Heap, K.In base → base.Ns mainGlobals mg → L2.FnOk l.prog w K mg base L2.CX0 8 fa fd ["script"] (spOf K 1 (sp_law)) := by
  have e := hfa.symm.trans (PySem.W.mg_of X G a_law)
  cases e
  have F_divisor := L2.fun_mk (st := s_divisor) l_divisor c_divisor k_divisor
  have m_divisor : mg "divisor" = some (.ref f_divisor) := PySem.W.mg_of X G a_divisor
  have F_fraction := L2.fun_mk (st := s_fraction) l_fraction c_fraction k_fraction
  have m_fraction : mg "fraction" = some (.ref f_fraction) := PySem.W.mg_of X G a_fraction
  have F_plus := L2.fun_mk (st := s_plus) l_plus c_plus k_plus
  have m_plus : mg "plus" = some (.ref f_plus) := PySem.W.mg_of X G a_plus
  have F_minus := L2.fun_mk (st := s_minus) l_minus c_minus k_minus
  have m_minus : mg "minus" = some (.ref f_minus) := PySem.W.mg_of X G a_minus
  have F_times := L2.fun_mk (st := s_times) l_times c_times k_times
  have m_times : mg "times" = some (.ref f_times) := PySem.W.mg_of X G a_times
  have F_divided := L2.fun_mk (st := s_divided) l_divided c_divided k_divided
  have m_divided : mg "divided" = some (.ref f_divided) := PySem.W.mg_of X G a_divided
  have F_is_less := L2.fun_mk (st := s_is_less) l_is_less c_is_less k_is_less
  have m_is_less : mg "is_less" = some (.ref f_is_less) := PySem.W.mg_of X G a_is_less
  have F_bound_of := L2.fun_mk (st := s_bound_of) l_bound_of c_bound_of k_bound_of
  have m_bound_of : mg "bound_of" = some (.ref f_bound_of) := PySem.W.mg_of X G a_bound_of
  have F_worth_of_wheel := L2.fun_mk (st := s_worth_of_wheel) l_worth_of_wheel c_worth_of_wheel k_worth_of_wheel
  have m_worth_of_wheel : mg "worth_of_wheel" = some (.ref f_worth_of_wheel) := PySem.W.mg_of X G a_worth_of_wheel
  have F_stops_at := L2.fun_mk (st := s_stops_at) l_stops_at c_stops_at k_stops_at
  have m_stops_at : mg "stops_at" = some (.ref f_stops_at) := PySem.W.mg_of X G a_stops_at
  have F_mean_turns := L2.fun_mk (st := s_mean_turns) l_mean_turns c_mean_turns k_mean_turns
  have m_mean_turns : mg "mean_turns" = some (.ref f_mean_turns) := PySem.W.mg_of X G a_mean_turns
  have F_worth_in := L2.fun_mk (st := s_worth_in) l_worth_in c_worth_in k_worth_in
  have m_worth_in : mg "worth_in" = some (.ref f_worth_in) := PySem.W.mg_of X G a_worth_in
  have F_law_draws := L2.fun_mk (st := s_law_draws) l_law_draws c_law_draws k_law_draws
  have m_law_draws : mg "_law_draws" = some (.ref f_law_draws) := PySem.W.mg_of X G a_law_draws
  have F_law_take := L2.fun_mk (st := s_law_take) l_law_take c_law_take k_law_take
  have m_law_take : mg "_law_take" = some (.ref f_law_take) := PySem.W.mg_of X G a_law_take
  have F_law_same := L2.fun_mk (st := s_law_same) l_law_same c_law_same k_law_same
  have m_law_same : mg "_law_same" = some (.ref f_law_same) := PySem.W.mg_of X G a_law_same
  have F_law_size := L2.fun_mk (st := s_law_size) l_law_size c_law_size k_law_size
  have m_law_size : mg "_law_size" = some (.ref f_law_size) := PySem.W.mg_of X G a_law_size
  have F_law_divisor := L2.fun_mk (st := s_law_divisor) l_law_divisor c_law_divisor k_law_divisor
  have m_law_divisor : mg "_law_divisor" = some (.ref f_law_divisor) := PySem.W.mg_of X G a_law_divisor
  have F_law_ratio := L2.fun_mk (st := s_law_ratio) l_law_ratio c_law_ratio k_law_ratio
  have m_law_ratio : mg "_law_ratio" = some (.ref f_law_ratio) := PySem.W.mg_of X G a_law_ratio
  have F_law_plus := L2.fun_mk (st := s_law_plus) l_law_plus c_law_plus k_law_plus
  have m_law_plus : mg "_law_plus" = some (.ref f_law_plus) := PySem.W.mg_of X G a_law_plus
  have F_law_minus := L2.fun_mk (st := s_law_minus) l_law_minus c_law_minus k_law_minus
  have m_law_minus : mg "_law_minus" = some (.ref f_law_minus) := PySem.W.mg_of X G a_law_minus
  have F_law_times := L2.fun_mk (st := s_law_times) l_law_times c_law_times k_law_times
  have m_law_times : mg "_law_times" = some (.ref f_law_times) := PySem.W.mg_of X G a_law_times
  have F_law_less := L2.fun_mk (st := s_law_less) l_law_less c_law_less k_law_less
  have m_law_less : mg "_law_less" = some (.ref f_law_less) := PySem.W.mg_of X G a_law_less
  have F_law_prizes := L2.fun_mk (st := s_law_prizes) l_law_prizes c_law_prizes k_law_prizes
  have m_law_prizes : mg "_law_prizes" = some (.ref f_law_prizes) := PySem.W.mg_of X G a_law_prizes
  have F_law_price := L2.fun_mk (st := s_law_price) l_law_price c_law_price k_law_price
  have m_law_price : mg "_law_price" = some (.ref f_law_price) := PySem.W.mg_of X G a_law_price
  have F_law_bound := L2.fun_mk (st := s_law_bound) l_law_bound c_law_bound k_law_bound
  have m_law_bound : mg "_law_bound" = some (.ref f_law_bound) := PySem.W.mg_of X G a_law_bound
  have F_law_by_bound := L2.fun_mk (st := s_law_by_bound) l_law_by_bound c_law_by_bound k_law_by_bound
  have m_law_by_bound : mg "_law_by_bound" = some (.ref f_law_by_bound) := PySem.W.mg_of X G a_law_by_bound
  have F_law_worths := L2.fun_mk (st := s_law_worths) l_law_worths c_law_worths k_law_worths
  have m_law_worths : mg "_law_worths" = some (.ref f_law_worths) := PySem.W.mg_of X G a_law_worths
  have F_law_right := L2.fun_mk (st := s_law_right) l_law_right c_law_right k_law_right
  have m_law_right : mg "_law_right" = some (.ref f_law_right) := PySem.W.mg_of X G a_law_right
  have F_law := L2.fun_mk (st := s_law) l_law c_law k_law
  have m_law : mg "law" = some (.ref _) := PySem.W.mg_of X G a_law
  have g_NOTHING := PySem.W.mg_of X G a_NOTHING
  have h_NOTHING := rep_ints (ns := [0, 1]) l_NOTHING y_NOTHING w_NOTHING
  have z_gcd := PySem.W.mg_of X G z_gcd
  have z_len := PySem.W.mg_none_of X G z_len
  have z_sorted := PySem.W.mg_none_of X G z_sorted
  have z_range := PySem.W.mg_none_of X G z_range
  have z_sum := PySem.W.mg_none_of X G z_sum
  have z_int := PySem.W.mg_none_of X G z_int
  have z_list := PySem.W.mg_none_of X G z_list
  have z_bool := PySem.W.mg_none_of X G z_bool
  have z_isinstance := PySem.W.mg_none_of X G z_isinstance
  have z_str := PySem.W.mg_none_of X G z_str
  have z_tuple := PySem.W.mg_none_of X G z_tuple
  have z_abs := PySem.W.mg_none_of X G z_abs
  have z_max := PySem.W.mg_none_of X G z_max
  refine ⟨PySem.W.fnOf "law" "law" (L2.defArgs s_law) (L2.defBody s_law) (L2.defScope s_law) .none kV_law dc_law pm_law an_law cd_law ct_law, fun s v => .of_eq rfl, fun base _ _ => ?_⟩
  have C_law_draws : Callee l.prog w K mg base "_law_draws" 1 2 (sp_draws) := ok_law_draws (k := 0) F_law_draws m_law_draws z_int z_len z_list z_range  body_law_draws
  have C_law_take : Callee l.prog w K mg base "_law_take" 1 2 (sp_take) := ok_law_take (k := 0) F_law_take m_law_take z_len z_int  body_law_take
  have C_law_size : Callee l.prog w K mg base "_law_size" 2 2 (sp_size) := ok_law_size (k := 1) F_law_size m_law_size z_len z_int z_abs C_law_take (by decide) body_law_size
  have C_law_prizes : Callee l.prog w K mg base "_law_prizes" 3 3 (sp_prizes) := ok_law_prizes (k := 2) F_law_prizes m_law_prizes z_range z_tuple C_law_take (by decide) C_law_size (by decide) body_law_prizes
  have C_law_divisor : Callee l.prog w K mg base "_law_divisor" 1 2 (sp_gcd) := ok_law_divisor (k := 0) F_law_divisor m_law_divisor z_abs z_int  body_law_divisor
  have C_law_ratio : Callee l.prog w K mg base "_law_ratio" 2 2 (sp_ratio) := ok_law_ratio (k := 1) F_law_ratio m_law_ratio  C_law_divisor (by decide) body_law_ratio
  have C_law_price : Callee l.prog w K mg base "_law_price" 3 3 (sp_price) := ok_law_price (k := 2) F_law_price m_law_price z_len z_max z_sum C_law_take (by decide) C_law_ratio (by decide) C_law_size (by decide) body_law_price
  have C_law_less : Callee l.prog w K mg base "_law_less" 1 2 (sp_less) := ok_law_less (k := 0) F_law_less m_law_less   body_law_less
  have C_law_bound : Callee l.prog w K mg base "_law_bound" 3 2 (sp_bound) := ok_law_bound (k := 2) F_law_bound m_law_bound z_sorted z_len C_law_ratio (by decide) C_law_less (by decide) body_law_bound
  have C_law_plus : Callee l.prog w K mg base "_law_plus" 3 2 (sp_q2 (· + ·)) := ok_law_plus (k := 2) F_law_plus m_law_plus  C_law_ratio (by decide) body_law_plus
  have C_divisor : Callee l.prog w K mg base "divisor" 1 2 (sp_gcd) := ok_divisor (k := 0) F_divisor m_divisor z_gcd  body_divisor
  have C_fraction : Callee l.prog w K mg base "fraction" 2 2 (sp_ratio) := ok_fraction (k := 1) F_fraction m_fraction  C_divisor (by decide) body_fraction
  have C_times : Callee l.prog w K mg base "times" 3 2 (sp_q2 (· * ·)) := ok_times (k := 2) F_times m_times  C_fraction (by decide) body_times
  have C_minus : Callee l.prog w K mg base "minus" 3 2 (sp_q2 (· - ·)) := ok_minus (k := 2) F_minus m_minus  C_fraction (by decide) body_minus
  have C_divided : Callee l.prog w K mg base "divided" 3 2 (sp_over) := ok_divided (k := 2) F_divided m_divided  C_fraction (by decide) body_divided
  have C_is_less : Callee l.prog w K mg base "is_less" 1 2 (sp_less) := ok_is_less (k := 0) F_is_less m_is_less   body_is_less
  have C_bound_of : Callee l.prog w K mg base "bound_of" 4 2 (sp_bound) := ok_bound_of (k := 3) F_bound_of m_bound_of z_len z_sorted z_range g_NOTHING (show L2.RelV (.ref t_NOTHING) (.ref t_NOTHING) from rfl) h_NOTHING C_times (by decide) C_minus (by decide) C_divided (by decide) C_is_less (by decide) body_bound_of
  have C_plus : Callee l.prog w K mg base "plus" 3 2 (sp_q2 (· + ·)) := ok_plus (k := 2) F_plus m_plus  C_fraction (by decide) body_plus
  have C_worth_of_wheel : Callee l.prog w K mg base "worth_of_wheel" 5 2 (sp_worth) := ok_worth_of_wheel (k := 4) F_worth_of_wheel m_worth_of_wheel  C_bound_of (by decide) C_plus (by decide) body_worth_of_wheel
  have N_law_same : Callee l.prog w K mg base "_law_same" 0 2 spNo := callee_none F_law_same m_law_same (F_law_same.binds (ps := ["actual", "due"]) fun _ _ _ _ _ _ us hl => match us, hl with | [_, _], _ => rfl) (fun _ _ _ h => h)
  have C_law_same_0 : Callee l.prog w K mg base "_law_same" 1 2 (sp_same 0) := ok_law_same (k := 0) F_law_same m_law_same z_bool z_isinstance z_int z_str z_tuple z_len z_range N_law_same (by decide) (body_law_same _ 0 (by decide) (.inl rfl))
  have C_law_same_1 : Callee l.prog w K mg base "_law_same" 2 2 (sp_same 1) := ok_law_same (k := 1) F_law_same m_law_same z_bool z_isinstance z_int z_str z_tuple z_len z_range C_law_same_0 (by decide) (body_law_same _ 1 (by decide) (.inr ⟨_, rfl, rfl⟩))
  have C_law_same_2 : Callee l.prog w K mg base "_law_same" 3 2 (sp_same 2) := ok_law_same (k := 2) F_law_same m_law_same z_bool z_isinstance z_int z_str z_tuple z_len z_range C_law_same_1 (by decide) (body_law_same _ 2 (by decide) (.inr ⟨_, rfl, rfl⟩))
  have C_law_same : Callee l.prog w K mg base "_law_same" 4 2 (sp_same 3) := ok_law_same (k := 3) F_law_same m_law_same z_bool z_isinstance z_int z_str z_tuple z_len z_range C_law_same_2 (by decide) (body_law_same _ 3 (by decide) (.inr ⟨_, rfl, rfl⟩))
  have C_stops_at : Callee l.prog w K mg base "stops_at" 5 2 (sp_stops) := ok_stops_at (k := 4) F_stops_at m_stops_at  C_bound_of (by decide) body_stops_at
  have C_mean_turns : Callee l.prog w K mg base "mean_turns" 6 2 (sp_turns) := ok_mean_turns (k := 5) F_mean_turns m_mean_turns z_len C_stops_at (by decide) C_fraction (by decide) body_mean_turns
  have C_law_minus : Callee l.prog w K mg base "_law_minus" 3 2 (sp_q2 (· - ·)) := ok_law_minus (k := 2) F_law_minus m_law_minus  C_law_ratio (by decide) body_law_minus
  have C_law_times : Callee l.prog w K mg base "_law_times" 3 2 (sp_q2 (· * ·)) := ok_law_times (k := 2) F_law_times m_law_times  C_law_ratio (by decide) body_law_times
  have C_law_by_bound : Callee l.prog w K mg base "_law_by_bound" 4 3 (sp_byb) := ok_law_by_bound (k := 3) F_law_by_bound m_law_by_bound z_len z_sum C_law_ratio (by decide) C_law_minus (by decide) C_law_times (by decide) body_law_by_bound
  have C_law_worths : Callee l.prog w K mg base "_law_worths" 3 3 (sp_worths) := ok_law_worths (k := 2) F_law_worths m_law_worths z_len z_sum z_range z_max C_law_ratio (by decide) body_law_worths
  have C_worth_in : Callee l.prog w K mg base "worth_in" 4 3 (sp_in) := ok_worth_in (k := 3) F_worth_in m_worth_in z_len z_sum z_range g_NOTHING (show L2.RelV (.ref t_NOTHING) (.ref t_NOTHING) from rfl) h_NOTHING C_fraction (by decide) C_minus (by decide) C_is_less (by decide) C_plus (by decide) C_divided (by decide) body_worth_in
  have C_law_right : Callee l.prog w K mg base "_law_right" 7 4 (sp_right) := ok_law_right (k := 6) F_law_right m_law_right z_len C_law_price (by decide) C_law_bound (by decide) C_law_plus (by decide) C_worth_of_wheel (by decide) C_law_same (by decide) C_stops_at (by decide) C_law_ratio (by decide) C_mean_turns (by decide) C_law_by_bound (by decide) C_law_less (by decide) C_law_take (by decide) C_law_worths (by decide) C_worth_in (by decide) body_law_right
  exact ok_law (k := 7) F_law m_law  C_law_draws (by decide) C_law_take (by decide) C_law_prizes (by decide) C_law_right (by decide) C_law_bound (by decide) C_law_plus (by decide) C_worth_of_wheel (by decide) C_law_same (by decide) body_law
end K93
open PySem PySem.W PyProof.Rows in
set_option maxRecDepth 100000 in
set_option maxHeartbeats 0 in
theorem PySem.Challenge.cw_oddsweighed_k93_whole_wheels_turned_agai_holds : PySem.Challenge.rw_oddsweighed_k93_whole_wheels_turned_agai.Holds := by
  w_on; o_law; k_head; (case hw => w_witness2)
  k_fill
  refine L2.walk_of (l := PySem.Challenge.rw_oddsweighed_k93_whole_wheels_turned_agai) (n := 63) (k := 8) (x := "script") (CX := fun _ => L2.CX0) (sp := fun w => DL.spOf _ 1 (K93.sp_law)) rfl (by decide) rfl ⟨rfl, by decide, by decide⟩ (fun w h Y => PySem.W.kIn_of Y) ?F (fun _ _ a ns hl hO hS => DL.law_sp hO hS ⟨ns, rfl, hl, fun _ => rfl⟩) (fun _ _ _ _ _ h => h)
  case F =>
    intro w mg fa h KX G hmg
    refine' K93.all_mk KX G hmg ?a_divisor ?l_divisor ?c_divisor ?k_divisor ?a_fraction ?l_fraction ?c_fraction ?k_fraction ?a_plus ?l_plus ?c_plus ?k_plus ?a_minus ?l_minus ?c_minus ?k_minus ?a_times ?l_times ?c_times ?k_times ?a_divided ?l_divided ?c_divided ?k_divided ?a_is_less ?l_is_less ?c_is_less ?k_is_less ?a_bound_of ?l_bound_of ?c_bound_of ?k_bound_of ?a_worth_of_wheel ?l_worth_of_wheel ?c_worth_of_wheel ?k_worth_of_wheel ?a_stops_at ?l_stops_at ?c_stops_at ?k_stops_at ?a_mean_turns ?l_mean_turns ?c_mean_turns ?k_mean_turns ?a_worth_in ?l_worth_in ?c_worth_in ?k_worth_in ?a_law_draws ?l_law_draws ?c_law_draws ?k_law_draws ?a_law_take ?l_law_take ?c_law_take ?k_law_take ?a_law_same ?l_law_same ?c_law_same ?k_law_same ?a_law_size ?l_law_size ?c_law_size ?k_law_size ?a_law_divisor ?l_law_divisor ?c_law_divisor ?k_law_divisor ?a_law_ratio ?l_law_ratio ?c_law_ratio ?k_law_ratio ?a_law_plus ?l_law_plus ?c_law_plus ?k_law_plus ?a_law_minus ?l_law_minus ?c_law_minus ?k_law_minus ?a_law_times ?l_law_times ?c_law_times ?k_law_times ?a_law_less ?l_law_less ?c_law_less ?k_law_less ?a_law_prizes ?l_law_prizes ?c_law_prizes ?k_law_prizes ?a_law_price ?l_law_price ?c_law_price ?k_law_price ?a_law_bound ?l_law_bound ?c_law_bound ?k_law_bound ?a_law_by_bound ?l_law_by_bound ?c_law_by_bound ?k_law_by_bound ?a_law_worths ?l_law_worths ?c_law_worths ?k_law_worths ?a_law_right ?l_law_right ?c_law_right ?k_law_right ?a_law ?l_law ?c_law ?k_law ?z_gcd ?z_len ?z_sorted ?z_range ?z_sum ?z_int ?z_list ?z_bool ?z_isinstance ?z_str ?z_tuple ?z_abs ?z_max ?a_NOTHING ?l_NOTHING ?w_NOTHING ?y_NOTHING
    (case a_divisor => k_is)
    (case l_divisor => k_is)
    (case c_divisor => k_is)
    (case k_divisor => k_is)
    (case a_fraction => k_is)
    (case l_fraction => k_is)
    (case c_fraction => k_is)
    (case k_fraction => k_is)
    (case a_plus => k_is)
    (case l_plus => k_is)
    (case c_plus => k_is)
    (case k_plus => k_is)
    (case a_minus => k_is)
    (case l_minus => k_is)
    (case c_minus => k_is)
    (case k_minus => k_is)
    (case a_times => k_is)
    (case l_times => k_is)
    (case c_times => k_is)
    (case k_times => k_is)
    (case a_divided => k_is)
    (case l_divided => k_is)
    (case c_divided => k_is)
    (case k_divided => k_is)
    (case a_is_less => k_is)
    (case l_is_less => k_is)
    (case c_is_less => k_is)
    (case k_is_less => k_is)
    (case a_bound_of => k_is)
    (case l_bound_of => k_is)
    (case c_bound_of => k_is)
    (case k_bound_of => k_is)
    (case a_worth_of_wheel => k_is)
    (case l_worth_of_wheel => k_is)
    (case c_worth_of_wheel => k_is)
    (case k_worth_of_wheel => k_is)
    (case a_stops_at => k_is)
    (case l_stops_at => k_is)
    (case c_stops_at => k_is)
    (case k_stops_at => k_is)
    (case a_mean_turns => k_is)
    (case l_mean_turns => k_is)
    (case c_mean_turns => k_is)
    (case k_mean_turns => k_is)
    (case a_worth_in => k_is)
    (case l_worth_in => k_is)
    (case c_worth_in => k_is)
    (case k_worth_in => k_is)
    (case a_law_draws => k_is)
    (case l_law_draws => k_is)
    (case c_law_draws => k_is)
    (case k_law_draws => k_is)
    (case a_law_take => k_is)
    (case l_law_take => k_is)
    (case c_law_take => k_is)
    (case k_law_take => k_is)
    (case a_law_same => k_is)
    (case l_law_same => k_is)
    (case c_law_same => k_is)
    (case k_law_same => k_is)
    (case a_law_size => k_is)
    (case l_law_size => k_is)
    (case c_law_size => k_is)
    (case k_law_size => k_is)
    (case a_law_divisor => k_is)
    (case l_law_divisor => k_is)
    (case c_law_divisor => k_is)
    (case k_law_divisor => k_is)
    (case a_law_ratio => k_is)
    (case l_law_ratio => k_is)
    (case c_law_ratio => k_is)
    (case k_law_ratio => k_is)
    (case a_law_plus => k_is)
    (case l_law_plus => k_is)
    (case c_law_plus => k_is)
    (case k_law_plus => k_is)
    (case a_law_minus => k_is)
    (case l_law_minus => k_is)
    (case c_law_minus => k_is)
    (case k_law_minus => k_is)
    (case a_law_times => k_is)
    (case l_law_times => k_is)
    (case c_law_times => k_is)
    (case k_law_times => k_is)
    (case a_law_less => k_is)
    (case l_law_less => k_is)
    (case c_law_less => k_is)
    (case k_law_less => k_is)
    (case a_law_prizes => k_is)
    (case l_law_prizes => k_is)
    (case c_law_prizes => k_is)
    (case k_law_prizes => k_is)
    (case a_law_price => k_is)
    (case l_law_price => k_is)
    (case c_law_price => k_is)
    (case k_law_price => k_is)
    (case a_law_bound => k_is)
    (case l_law_bound => k_is)
    (case c_law_bound => k_is)
    (case k_law_bound => k_is)
    (case a_law_by_bound => k_is)
    (case l_law_by_bound => k_is)
    (case c_law_by_bound => k_is)
    (case k_law_by_bound => k_is)
    (case a_law_worths => k_is)
    (case l_law_worths => k_is)
    (case c_law_worths => k_is)
    (case k_law_worths => k_is)
    (case a_law_right => k_is)
    (case l_law_right => k_is)
    (case c_law_right => k_is)
    (case k_law_right => k_is)
    (case a_law => k_is)
    (case l_law => k_is)
    (case c_law => k_is)
    (case k_law => k_is)
    (case z_gcd => k_is)
    (case z_len => k_is)
    (case z_sorted => k_is)
    (case z_range => k_is)
    (case z_sum => k_is)
    (case z_int => k_is)
    (case z_list => k_is)
    (case z_bool => k_is)
    (case z_isinstance => k_is)
    (case z_str => k_is)
    (case z_tuple => k_is)
    (case z_abs => k_is)
    (case z_max => k_is)
    (case a_NOTHING => k_is)
    (case l_NOTHING => k_is)
    (case w_NOTHING => exact (.cons ⟨_, rfl⟩ (.cons ⟨_, rfl⟩ .nil)))
    (case y_NOTHING => decide)
