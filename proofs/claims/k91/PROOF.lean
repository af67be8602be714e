import PyProof.Rows.All
import PySem.Str
import PySem.PyData
import Wide.All
import OpenK.AllK
import Wide.FinOn
import HandS.ForMost
import HandS.Wide
import HandS.Gcd
import HandS.IsInst
import HandS.TupAny
import HandS.TupLe
import HandS.Style
import HandS.Flow
import HandS.Deep
import KE.SortData
import HandS.SortInts
import KE.DataMinMax
import KE.KTupSum
import HandS.Steps
import HandS.More
import HandS.SetFor
import HandS.Strs
import HandS.SetKeys
import HandS.Conv
import PyProof.TupleOfSeq
import PySem.Challenge.RW_oddsweighed_k91_whole_best_of_many
set_option linter.all false
/-! DL0: plain data, a store of lists, and what a piece of a program asks of them (weakest preconditions by parts). No model in sight. -/
namespace DL
open PySem (Str)

/-- a value: tuples by value, a list of one's own by its place in the store, rol: a list that is only read -/
inductive D where
  | non | bl (b : Bool) | int (i : Int) | str (x : Str) | tup (xs : List D) | rol (xs : List D) | ref (n : Nat) | ty (n : String)

inductive O where
  | lst (xs : List D)
  | dic (kvs : List (D × D))

abbrev Sto := List O
abbrev Env := List (Option D)
abbrev VK := D → Sto → Prop
abbrev WE := Env → Sto → VK → Prop
abbrev WT := Env → Sto → (Bool → Sto → Prop) → Prop
abbrev WA := Env → Sto → (List D → Sto → Prop) → Prop
abbrev WG := D → Env → Sto → (Env → Sto → Prop) → Prop
abbrev WI := Env → Sto → (List D → (Sto → Prop) → Sto → Prop) → Prop
abbrev WP := Env → Sto → (Option Int → Sto → Prop) → Prop
structure Ends where
  nx : Env → Sto → Prop
  rt : VK
  bk : Env → Sto → Prop
  ct : Env → Sto → Prop
abbrev WS := Ends → Env → Sto → Prop
abbrev R1 := D → Sto → VK → Prop
abbrev R2 := D → D → Sto → VK → Prop
abbrev RL := List D → Sto → VK → Prop
abbrev RM := D → List D → Sto → VK → Prop
abbrev Spc := List D → Sto → VK → Prop

def szL : Nat := 16777216

/-! ### equality, order of plain data -/
mutual
def eqD : D → D → Bool
  | .non, .non => true
  | .bl a, .bl b => a == b
  | .bl a, .int j => (if a then 1 else 0) == j
  | .int i, .bl b => i == (if b then 1 else 0)
  | .int i, .int j => decide (i = j)
  | .str x, .str y => decide (x = y)
  | .tup xs, .tup ys => eqDs xs ys
  | _, _ => false
def eqDs : List D → List D → Bool
  | [], [] => true
  | x :: xs, y :: ys => eqD x y && eqDs xs ys
  | [], _ :: _ => false
  | _ :: _, [] => false
end
/-! without lists -/
mutual
def flat : D → Bool
  | .non | .bl _ | .int _ => true
  | .str x => x.cps.all (· < 0x110000)
  | .tup xs => flats xs
  | .rol _ | .ref _ | .ty _ => false
def flats : List D → Bool
  | [] => true
  | x :: xs => flat x && flats xs
end
mutual
def deep : D → Nat
  | .tup xs => deeps xs + 1
  | _ => 0
def deeps : List D → Nat
  | [] => 0
  | x :: xs => max (deep x) (deeps xs)
end
mutual
def toPy : D → PySem.PyData
  | .non => .none
  | .bl b => .bool b
  | .int i => .int i
  | .str x => .str x
  | .tup xs => .tuple (toPys xs)
  | .rol _ => .none
  | .ref _ => .none
  | .ty _ => .none
def toPys : List D → List PySem.PyData
  | [] => []
  | x :: xs => toPy x :: toPys xs
end
/-- intD all through, as tuples of one length or single -/
abbrev intD (ns : List Int) : List D := ns.map D.int

/-! ### the environment -/
@[reducible] def lk : Env → Nat → Option D
  | [], _ => none
  | x :: _, 0 => x
  | _ :: r, n + 1 => lk r n
@[reducible] def up : Env → Nat → Option D → Env
  | [], _, _ => []
  | _ :: r, 0, d => d :: r
  | x :: r, n + 1, d => x :: up r n d
@[reducible] def wipe (ρ : Env) : List Nat → Env
  | [] => ρ
  | i :: r => up (wipe ρ r) i none
def start (n : Nat) (ds : List D) : Env := ds.map some ++ List.replicate (n - ds.length) none

/-! ### expressions -/
@[reducible] def wVar (i : Nat) : WE := fun ρ S Q => match lk ρ i with
  | some d => Q d S
  | none => False
@[reducible] def wC (d : D) : WE := fun _ S Q => Q d S
@[reducible] def wOp (r : R2) (a b : WE) : WE := fun ρ S Q => a ρ S fun x S1 => b ρ S1 fun y S2 => r x y S2 Q
@[reducible] def wUn (r : R1) (a : WE) : WE := fun ρ S Q => a ρ S fun x S1 => r x S1 Q
@[reducible] def wNil : WA := fun _ S Q => Q [] S
@[reducible] def wCons (a : WE) (r : WA) : WA := fun ρ S Q => a ρ S fun x S1 => r ρ S1 fun xs S2 => Q (x :: xs) S2
@[reducible] def wTup (a : WA) : WE := fun ρ S Q => a ρ S fun xs S1 => xs.length ≤ szL ∧ Q (.tup xs) S1
@[reducible] def wLst (a : WA) : WE := fun ρ S Q => a ρ S fun xs S1 => xs.length ≤ szL ∧ Q (.ref S1.length) (S1 ++ [.lst xs])
@[reducible] def wCall (n : Nat) (sp : Spc) (a : WA) : WE := fun ρ S Q => a ρ S fun ds S1 => ds.length = n ∧ sp ds S1 Q
@[reducible] def wB (r : RL) (a : WA) : WE := fun ρ S Q => a ρ S fun ds S1 => r ds S1 Q
/-- a list there -/
@[reducible] def isL : D → Sto → Prop
  | .ref n, S => ∃ xs, S[n]? = some (.lst xs)
  | _, _ => False
/-- o.m(..), o a list of one's own -/
@[reducible] def wM (r : RM) (o : WE) (a : WA) : WE := fun ρ S Q => o ρ S fun x S1 => isL x S1 ∧ a ρ S1 fun ds S2 => r x ds S2 Q
@[reducible] def wM0 (r : RM) (o : WE) : WE := fun ρ S Q => o ρ S fun x S1 => isL x S1 ∧ r x [] S1 Q
@[reducible] def wPNo : WP := fun _ S Q => Q none S
@[reducible] def wPAt (a : WE) : WP := fun ρ S Q => a ρ S fun x S1 => match x with
  | .int i => Q (some i) S1
  | _ => False
@[reducible] def wSl (r : D → Option Int → Option Int → Sto → VK → Prop) (o : WE) (l u : WP) : WE := fun ρ S Q => o ρ S fun x S1 => l ρ S1 fun i S2 => u ρ S2 fun j S3 => r x i j S3 Q
/-! tests -/
@[reducible] def wtVal (a : WE) : WT := fun ρ S Q => a ρ S fun x S1 => match x with
  | .bl b => Q b S1
  | _ => False
@[reducible] def wtAnd (a b : WT) : WT := fun ρ S Q => a ρ S fun c S1 => if c = true then b ρ S1 Q else Q false S1
@[reducible] def wtOr (a b : WT) : WT := fun ρ S Q => a ρ S fun c S1 => if c = true then Q true S1 else b ρ S1 Q
@[reducible] def wtNot (a : WT) : WT := fun ρ S Q => a ρ S fun c S1 => Q (!c) S1
@[reducible] def wAnd (a b : WE) : WE := fun ρ S Q => a ρ S fun x S1 => match x with
  | .bl c => if c = true then b ρ S1 Q else Q (.bl false) S1
  | _ => False
@[reducible] def wOr (a b : WE) : WE := fun ρ S Q => a ρ S fun x S1 => match x with
  | .bl c => if c = true then Q (.bl true) S1 else b ρ S1 Q
  | _ => False
@[reducible] def wNot (a : WE) : WE := fun ρ S Q => a ρ S fun x S1 => match x with
  | .bl c => Q (.bl (!c)) S1
  | _ => False
@[reducible] def wIf (c : WT) (a b : WE) : WE := fun ρ S Q => c ρ S fun k S1 => if k = true then a ρ S1 Q else b ρ S1 Q
@[reducible] def wChain (r r' : R2) (a b c : WE) : WE := fun ρ S Q => a ρ S fun x S1 => b ρ S1 fun y S2 => r x y S2 fun z S3 => match z with
  | .bl k => if k = true then c ρ S3 fun u S4 => r' y u S4 Q else Q (.bl false) S3
  | _ => False

/-! ### what is walked -/
@[reducible] def wIt (a : WE) : WI := fun ρ S R => a ρ S fun x S1 => match x with
  | .tup xs => R xs (fun _ => True) S1
  | .rol xs => R xs (fun _ => True) S1
  | .ref n => match S1[n]? with
    | some (.lst xs) => R xs (fun S' => S'[n]? = some (.lst xs)) S1
    | _ => False
  | _ => False
/-- lo, lo + 1, .. below hi -/
def rangeD (lo hi : Int) : List D := (List.range (hi - lo).toNat).map fun (i : Nat) => D.int (lo + i)
def smallI (i : Int) : Prop := -(2 ^ 62) ≤ i ∧ i < 2 ^ 62
@[reducible] def wR1 (a : WE) : WI := fun ρ S R => a ρ S fun x S1 => match x with
  | .int j => smallI j ∧ R (rangeD 0 j) (fun _ => True) S1
  | _ => False
@[reducible] def wR2 (a b : WE) : WI := fun ρ S R => a ρ S fun x S1 => b ρ S1 fun y S2 => match x, y with
  | .int i, .int j => smallI i ∧ smallI j ∧ R (rangeD i j) (fun _ => True) S2
  | _, _ => False

/-! ### targets: a name, a tuple of names -/
@[reducible] def gN (i : Nat) : WG := fun d ρ S Q => Q (up ρ i (some d)) S
@[reducible] def gNs : List Nat → List D → Env → Option Env
  | [], [], ρ => some ρ
  | i :: r, d :: ds, ρ => gNs r ds (up ρ i (some d))
  | _, _, _ => none
@[reducible] def gT (is : List Nat) : WG := fun d ρ S Q => match d with
  | .tup ds => match gNs is ds ρ with
    | some ρ' => Q ρ' S
    | none => False
  | _ => False

/-! ### comprehensions: one clause, at most one test -/
@[reducible] def wtYes : WT := fun _ S Q => Q true S
/-- I: by the turn, what is made so far, the store; a step tells what it adds -/
def Lc (items : List D) (guard : Sto → Prop) (S1 : Sto) (step : D → Sto → (Option D → Sto → Prop) → Prop) (Q : VK) : Prop := items.length ≤ szL ∧ ∃ I : Nat → List D → Sto → Prop,
  I 0 [] S1 ∧ (∀ i acc S', I i acc S' → guard S') ∧
  (∀ i d acc S', items[i]? = some d → I i acc S' → step d S' fun o S2 => I (i + 1) (acc ++ o.toList) S2) ∧
  ∀ acc S', I items.length acc S' → Q (.ref S'.length) (S' ++ [.lst acc])
@[reducible] def wLc (wi : WI) (g : WG) (tt : WT) (te : WE) (vs : List Nat) : WE := fun ρ S Q => wi ρ S fun items guard S1 =>
  Lc items guard S1 (fun d S' R => g d (wipe ρ vs) S' fun ρ2 S2 => tt ρ2 S2 fun b S3 => if b = true then te ρ2 S3 fun y S4 => R (some y) S4 else R none S3) Q

/-! ### statements -/
@[reducible] def sNext : WS := fun E ρ S => E.nx ρ S
@[reducible] def sSeq (a b : WS) : WS := fun E ρ S => a { E with nx := b E } ρ S
@[reducible] def sBreak : WS := fun E ρ S => E.bk ρ S
@[reducible] def sCont : WS := fun E ρ S => E.ct ρ S
@[reducible] def sDrop (a : WE) : WS := fun E ρ S => a ρ S fun _ S1 => E.nx ρ S1
@[reducible] def sRet (a : WE) : WS := fun E ρ S => a ρ S E.rt
@[reducible] def sRetN : WS := fun E _ S => E.rt .non S
@[reducible] def sIf (c : WT) (a b : WS) : WS := fun E ρ S => c ρ S fun k S1 => if k = true then a E ρ S1 else b E ρ S1
@[reducible] def sNever : WS := fun _ _ _ => False
@[reducible] def sAsg (a : WE) (g : WG) : WS := fun E ρ S => a ρ S fun d S1 => g d ρ S1 E.nx
/-- a, b = x, y by names -/
@[reducible] def sPar (i j : Nat) (a b : WE) : WS := fun E ρ S => a ρ S fun x S1 => b ρ S1 fun y S2 => E.nx (up (up ρ i (some x)) j (some y)) S2
@[reducible] def sAug (i : Nat) (a : WE) (r : R2) : WS := fun E ρ S => match lk ρ i with
  | some x => a ρ S fun y S1 => r x y S1 fun z S2 => E.nx (up ρ i (some z)) S2
  | none => False
/-- o[i] = e -/
@[reducible] def sSub (r : D → D → D → Sto → (Sto → Prop) → Prop) (e o i : WE) : WS := fun E ρ S => e ρ S fun d S1 => o ρ S1 fun x S2 => i ρ S2 fun k S3 => r x k d S3 fun S4 => E.nx ρ S4
/-- o[i] op= e -/
@[reducible] def sAugSub (rg : R2) (rop : R2) (rs : D → D → D → Sto → (Sto → Prop) → Prop) (o i e : WE) : WS := fun E ρ S => o ρ S fun x S1 => i ρ S1 fun k S2 => rg x k S2 fun v S3 => e ρ S3 fun y S4 => rop v y S4 fun z S5 => rs x k z S5 fun S6 => E.nx ρ S6
/-- for: I by the turn -/
def Loop (items : List D) (guard : Sto → Prop) (step : D → Env → Sto → (Env → Sto → Prop) → Prop) (done : Env → Sto → Prop) (ρ : Env) (S : Sto) : Prop := ∃ I : Nat → Env → Sto → Prop,
  I 0 ρ S ∧ (∀ i ρ' S', I i ρ' S' → guard S') ∧ (∀ i d ρ' S', items[i]? = some d → I i ρ' S' → step d ρ' S' (I (i + 1))) ∧ ∀ ρ' S', I items.length ρ' S' → done ρ' S'
@[reducible] def sFor (wi : WI) (g : WG) (b : WS) : WS := fun E ρ S => wi ρ S fun items guard S1 =>
  Loop items guard (fun d ρ' S' N => g d ρ' S' fun ρ2 S2 => b { nx := N, rt := E.rt, bk := E.nx, ct := N } ρ2 S2) E.nx ρ S1
/-- while: I by a measure -/
@[reducible] def sWhile (c : WT) (b : WS) : WS := fun E ρ S => ∃ I : Nat → Env → Sto → Prop, (∃ m, I m ρ S) ∧
  ∀ m ρ' S', I m ρ' S' → c ρ' S' fun k S2 => if k = true then b { nx := fun ρ3 S3 => ∃ m', m' < m ∧ I m' ρ3 S3, rt := E.rt, bk := E.nx, ct := fun ρ3 S3 => ∃ m', m' < m ∧ I m' ρ3 S3 } ρ' S2 else E.nx ρ' S2
/-- a def's body keeps what is asked of it -/
def Body (n k : Nat) (w : WS) (sp : Spc) : Prop := ∀ ds S Q, ds.length = k → sp ds S Q → w { nx := fun _ S' => Q .non S', rt := Q, bk := fun _ _ => False, ct := fun _ _ => False } (start n ds) S

/-! ### operations by values -/
def MulOk (i j : Int) : Prop := (i.natAbs < 2 ^ 64 ∨ j.natAbs < 2 ^ 64) ∨ ∃ a b : Nat, i.natAbs < 2 ^ a ∧ j.natAbs < 2 ^ b ∧ a + b ≤ 1000000
def DivOk (j : Int) : Prop := j ≠ 0 ∧ j.natAbs < 2 ^ 9000
def PowOk (i j : Int) : Prop := 0 ≤ j ∧ j ≤ 1000000 ∧ i.natAbs < 2 ^ 64
def isLst (S : Sto) (n : Nat) (P : List D → Prop) : Prop := match S[n]? with
  | some (.lst xs) => P xs
  | _ => False
@[reducible] def rAdd : R2
  | .int i, .int j, S, Q => Q (.int (i + j)) S
  | .tup xs, .tup ys, S, Q => xs.length + ys.length ≤ szL ∧ Q (.tup (xs ++ ys)) S
  | .str x, .str y, S, Q => x.length + y.length ≤ szL ∧ Q (.str (x ++ y)) S
  | .ref m, .ref n, S, Q => isLst S m fun xs => isLst S n fun ys => xs.length + ys.length ≤ szL ∧ Q (.ref S.length) (S ++ [.lst (xs ++ ys)])
  | _, _, _, _ => False
@[reducible] def rSub : R2
  | .int i, .int j, S, Q => Q (.int (i - j)) S
  | _, _, _, _ => False
@[reducible] def rMul : R2
  | .int i, .int j, S, Q => MulOk i j ∧ Q (.int (i * j)) S
  | .ref m, .int k, S, Q => isLst S m fun xs => (-(2 ^ 63) ≤ k ∧ k < 2 ^ 63) ∧ xs.length * k.toNat ≤ szL ∧ Q (.ref S.length) (S ++ [.lst (List.replicate k.toNat xs).flatten])
  | _, _, _, _ => False
@[reducible] def rMul' : R2
  | .int i, .int j, S, Q => MulOk i j ∧ Q (.int (i * j)) S
  | _, _, _, _ => False
@[reducible] def rDiv : R2
  | .int i, .int j, S, Q => DivOk j ∧ Q (.int (i.fdiv j)) S
  | _, _, _, _ => False
@[reducible] def rMod : R2
  | .int i, .int j, S, Q => j ≠ 0 ∧ Q (.int (i.fmod j)) S
  | _, _, _, _ => False
@[reducible] def rPow : R2
  | .int i, .int j, S, Q => PowOk i j ∧ Q (.int (i ^ j.toNat)) S
  | _, _, _, _ => False
@[reducible] def rNeg : R1
  | .int i, S, Q => Q (.int (-i)) S
  | _, _, _ => False
@[reducible] def rCmp (f : Int → Int → Bool) : R2
  | .int i, .int j, S, Q => Q (.bl (f i j)) S
  | _, _, _, _ => False
abbrev rLt : R2 := rCmp fun i j => decide (i < j)
abbrev rLe : R2 := rCmp fun i j => decide (i ≤ j)
abbrev rGt : R2 := rCmp fun i j => decide (j < i)
abbrev rGe : R2 := rCmp fun i j => decide (j ≤ i)
@[reducible] def rEq : R2 := fun x y S Q => (flat x = true ∧ flat y = true ∧ deep x ≤ 64 ∧ deep y ≤ 64) ∧ Q (.bl (eqD x y)) S
@[reducible] def rNe : R2 := fun x y S Q => (flat x = true ∧ flat y = true ∧ deep x ≤ 64 ∧ deep y ≤ 64) ∧ Q (.bl (!eqD x y)) S
def isNon : D → Bool
  | .non => true
  | _ => false
@[reducible] def rIs : R2
  | x, .non, S, Q => Q (.bl (isNon x)) S
  | .bl a, .bl b, S, Q => Q (.bl (decide (a = b))) S
  | _, _, _, _ => False
@[reducible] def rIsNot : R2
  | x, .non, S, Q => Q (.bl (!isNon x)) S
  | .bl a, .bl b, S, Q => Q (.bl (!decide (a = b))) S
  | _, _, _, _ => False
/-- place i, from the end if negative -/
def ixZ (n : Nat) (i : Int) : Option Nat := if 0 ≤ i then (if i < n then some i.toNat else none) else if -(n : Int) ≤ i then some (i + n).toNat else none
def atZ {α : Type} (xs : List α) (i : Int) : Option α := (ixZ xs.length i).bind fun j => xs[j]?
@[reducible] def rIx : R2
  | .tup xs, .int i, S, Q => ∃ d, atZ xs i = some d ∧ Q d S
  | .rol xs, .int i, S, Q => ∃ d, atZ xs i = some d ∧ Q d S
  | .ref n, .int i, S, Q => isLst S n fun xs => ∃ d, atZ xs i = some d ∧ Q d S
  | .str z, .int i, S, Q => z.length ≤ szL ∧ ∃ c, atZ z.cps.toList i = some c ∧ Q (.str ⟨#[c]⟩) S
  | _, _, _, _ => False
def sIx (n d : Nat) : Option Int → Nat
  | none => d
  | some i => if i < 0 then (i + n).toNat else min i.toNat n
def cut {α : Type} (xs : List α) (lo hi : Option Int) : List α := (xs.drop (sIx xs.length 0 lo)).take (sIx xs.length xs.length hi - sIx xs.length 0 lo)
@[reducible] def rSl : D → Option Int → Option Int → Sto → VK → Prop
  | .tup xs, lo, hi, S, Q => Q (.tup (cut xs lo hi)) S
  | .ref n, lo, hi, S, Q => isLst S n fun xs => Q (.ref S.length) (S ++ [.lst (cut xs lo hi)])
  | _, _, _, _, _ => False
@[reducible] def rRev : R1
  | .tup xs, S, Q => Q (.tup xs.reverse) S
  | .ref n, S, Q => isLst S n fun xs => Q (.ref S.length) (S ++ [.lst xs.reverse])
  | _, _, _ => False
/-- plain things, for in -/
def flat0 : D → Bool
  | .non | .bl _ | .int _ | .str _ => true
  | _ => false
@[reducible] def rIn (neg : Bool) : R2
  | x, .tup ys, S, Q => (flat0 x = true ∧ ys.all flat0 = true) ∧ Q (.bl (if neg then !ys.any fun y => eqD y x else ys.any fun y => eqD y x)) S
  | x, .ref n, S, Q => isLst S n fun ys => (flat x = true ∧ flats ys = true ∧ deep x ≤ 63 ∧ deeps ys ≤ 63) ∧ Q (.bl (if neg then !ys.any fun y => eqD y x else ys.any fun y => eqD y x)) S
  | _, _, _, _ => False
/-! built-ins -/
@[reducible] def rLen : RL
  | [.tup xs], S, Q => Q (.int xs.length) S
  | [.rol xs], S, Q => Q (.int xs.length) S
  | [.str z], S, Q => z.length ≤ szL ∧ Q (.int z.length) S
  | [.ref n], S, Q => isLst S n fun xs => Q (.int xs.length) S
  | _, _, _ => False
@[reducible] def rAbs : RL
  | [.int i], S, Q => Q (.int i.natAbs) S
  | _, _, _ => False
@[reducible] def rInt : RL
  | [.int i], S, Q => Q (.int i) S
  | [.bl b], S, Q => Q (.int (if b = true then 1 else 0)) S
  | _, _, _ => False
@[reducible] def rMax2 : RL
  | [.int i, .int j], S, Q => Q (.int (max i j)) S
  | _, _, _ => False
@[reducible] def rMin2 : RL
  | [.int i, .int j], S, Q => Q (.int (min i j)) S
  | _, _, _ => False
@[reducible] def rList : RL
  | [.tup xs], S, Q => Q (.ref S.length) (S ++ [.lst xs])
  | [.rol xs], S, Q => Q (.ref S.length) (S ++ [.lst xs])
  | [.ref n], S, Q => isLst S n fun xs => Q (.ref S.length) (S ++ [.lst xs])
  | _, _, _ => False
@[reducible] def rTuple : RL
  | [.tup xs], S, Q => Q (.tup xs) S
  | [.rol xs], S, Q => Q (.tup xs) S
  | [.ref n], S, Q => isLst S n fun xs => Q (.tup xs) S
  | _, _, _ => False
/-- intD all through -/
def intsOf : List D → Option (List Int)
  | [] => some []
  | .int i :: r => (intsOf r).map (i :: ·)
  | _ => none
def bsOf : List D → Option (List Bool)
  | [] => some []
  | .bl i :: r => (bsOf r).map (i :: ·)
  | _ => none
/-- the list behind a list of one's own or a tuple -/
def itemsAt : D → Sto → Option (List D)
  | .tup xs, _ => some xs
  | .ref n, S => match S[n]? with
    | some (.lst xs) => some xs
    | _ => none
  | _, _ => none
@[reducible] def withInts (d : D) (S : Sto) (P : List Int → Prop) : Prop := ∃ ns, itemsAt d S = some (intD ns) ∧ P ns
@[reducible] def rSum : RL
  | [d], S, Q => withInts d S fun ns => Q (.int ns.sum) S
  | _, _, _ => False
@[reducible] def rMax : RL
  | [d], S, Q => withInts d S fun ns => 0 < ns.length ∧ ∀ m, m ∈ ns → (∀ y, y ∈ ns → y ≤ m) → Q (.int m) S
  | _, _, _ => False
@[reducible] def rMin : RL
  | [d], S, Q => withInts d S fun ns => 0 < ns.length ∧ ∀ m, m ∈ ns → (∀ y, y ∈ ns → m ≤ y) → Q (.int m) S
  | _, _, _ => False
@[reducible] def rAll : RL
  | [.ref n], S, Q => ∃ bs : List Bool, S[n]? = some (.lst (bs.map .bl)) ∧ Q (.bl (bs.all id)) S
  | _, _, _ => False
@[reducible] def rAny : RL
  | [.ref n], S, Q => ∃ bs : List Bool, S[n]? = some (.lst (bs.map .bl)) ∧ Q (.bl (bs.any id)) S
  | _, _, _ => False
@[reducible] def rGcd : RL
  | [.int a, .int b], S, Q => Q (.int (Nat.gcd a.natAbs b.natAbs : Nat)) S
  | _, _, _ => False
/-- isinstance(x, T): T one of bool, int, str, tuple, list -/
def isT : D → String → Option Bool
  | .non, t => if t ∈ ["bool", "int", "str", "tuple", "list"] then some false else none
  | .bl _, t => if t ∈ ["bool", "int"] then some true else if t ∈ ["str", "tuple", "list"] then some false else none
  | .int _, t => if t = "int" then some true else if t ∈ ["bool", "str", "tuple", "list"] then some false else none
  | .str _, t => if t = "str" then some true else if t ∈ ["bool", "int", "tuple", "list"] then some false else none
  | .tup _, t => if t = "tuple" then some true else if t ∈ ["bool", "int", "str", "list"] then some false else none
  | .ref _, t => if t = "list" then some true else if t ∈ ["bool", "int", "str", "tuple"] then some false else none
  | _, _ => none
@[reducible] def rIsi : RL
  | [d, .ty t], S, Q => ∃ b, isT d t = some b ∧ Q (.bl b) S
  | _, _, _ => False
/-! sorting -/
mutual
def ltD : D → D → Bool
  | .int i, .int j => decide (i < j)
  | .str x, .str y => decide (x.cps.toList < y.cps.toList)
  | .tup xs, .tup ys => ltDs xs ys
  | _, _ => false
def ltDs : List D → List D → Bool
  | [], [] => false
  | [], _ :: _ => true
  | _ :: _, [] => false
  | x :: xs, y :: ys => if eqD x y = true then ltDs xs ys else ltD x y
end
mutual
def akin : D → D → Bool
  | .int _, .int _ => true
  | .str _, .str _ => true
  | .tup xs, .tup ys => akins xs ys
  | _, _ => false
def akins : List D → List D → Bool
  | x :: xs, y :: ys => akin x y && akins xs ys
  | _, _ => true
end
/-- all ints, all texts, or all tuples with an item -/
def sortOk (xs : List D) : Prop := flats xs = true ∧ deeps xs ≤ 60 ∧ (∀ a ∈ xs, ∀ b ∈ xs, akin a b = true) ∧ ((∀ a ∈ xs, ∃ x r, a = .tup (x :: r)) ∨ ∀ a ∈ xs, a ≠ .non ∧ ∀ ys, a ≠ .tup ys)
@[reducible] def rSorted : RL
  | [.ref n], S, Q => isLst S n fun xs => sortOk xs ∧ ∀ ys, ys.Perm xs → ys.Pairwise (fun a b => ltD b a = false) → Q (.ref S.length) (S ++ [.lst ys])
  | _, _, _ => False
/-- sorted(set(a)) of ints -/
@[reducible] def wSortedSet (a : WE) : WE := fun ρ S Q => a ρ S fun d S1 => withInts d S1 fun ns => ns.length < 60 ∧ ∀ ms : List Int, ms.Pairwise (· < ·) → (∀ k, k ∈ ms ↔ k ∈ ns) → Q (.ref S1.length) (S1 ++ [.lst (intD ms)])
/-! methods of lists -/
@[reducible] def rAppend : RM
  | .ref n, [d], S, Q => isLst S n fun xs => xs.length < szL ∧ Q .non (S.set n (.lst (xs ++ [d])))
  | _, _, _, _ => False
@[reducible] def rPop : RM
  | .ref n, [], S, Q => isLst S n fun xs => ∃ d, xs[xs.length - 1]? = some d ∧ Q d (S.set n (.lst xs.dropLast))
  | _, _, _, _ => False
@[reducible] def rPopAt : RM
  | .ref n, [.int i], S, Q => isLst S n fun xs => (-(2 ^ 63) ≤ i ∧ i < 2 ^ 63) ∧ ∃ j d, ixZ xs.length i = some j ∧ xs[j]? = some d ∧ Q d (S.set n (.lst (xs.eraseIdx j)))
  | _, _, _, _ => False
@[reducible] def rReverse : RM
  | .ref n, [], S, Q => isLst S n fun xs => Q .non (S.set n (.lst xs.reverse))
  | _, _, _, _ => False
@[reducible] def rInsert : RM
  | .ref n, [.int i, d], S, Q => isLst S n fun xs => xs.length < szL ∧ (0 ≤ i ∧ i < 2 ^ 63) ∧ Q .non (S.set n (.lst (xs.take i.toNat ++ [d] ++ xs.drop i.toNat)))
  | _, _, _, _ => False
/-- o[i] = d -/
@[reducible] def rPut : D → D → D → Sto → (Sto → Prop) → Prop
  | .ref n, .int i, d, S, Q => isLst S n fun xs => ∃ j, ixZ xs.length i = some j ∧ Q (S.set n (.lst (xs.set j d)))
  | _, _, _, _, _ => False
end DL
set_option Elab.async false
set_option linter.all false
set_option maxRecDepth 100000
set_option maxHeartbeats 4000000
/-! DL1: the parts of DL0 hold of the model, rule by rule. -/
namespace DL
open PySem PySem.Spec
open L2 (V Hp HO St TE TT TA TS TG TI TO PE PT PW PA PS PSs PG PI PO Cx Inv RelV Vals SqL SqT Rd upd upd_same upd_ne ne_of ne_of_none OpR UnR CallR MtR IxR SlR It thn)

/-! ### how plain data lies in the heap -/
/-- a list that is only read -/
def RoL (K : PySem.W.Frag) (H : Hp) (a : Addr) (vs : List V) : Prop := (∃ o, H a = some (.frz o (.lst vs))) ∨
    ∃ (o : Obj) (its : Array Value) (n : Nat), K.lookup a = some o ∧ o.cls = .type "list" ∧ o.dict = none ∧ o.data = .seq its n ∧ its.size ≤ sizeLine ∧ Vals vs its.toList
theorem RoL.seq {K : PySem.W.Frag} {H : Hp} {a : Addr} {vs : List V} (h : RoL K H a vs) : SqL K H a vs := by
  rcases h with h | h
  · exact .inl (.inr h)
  · exact .inr h
mutual
def Rep (K : PySem.W.Frag) (H : Hp) (m : List Addr) : D → V → Prop
  | .non, v => v = .non
  | .bl b, v => v = .bl b
  | .int i, v => v = .int i
  | .str x, v => v = .str x
  | .ty n, v => v = .ty n
  | .ref n, v => ∃ a, m[n]? = some a ∧ v = .ref a
  | .tup ds, v => ∃ a vs, v = .ref a ∧ SqT K H a vs ∧ Reps K H m ds vs
  | .rol ds, v => ∃ a vs, v = .ref a ∧ RoL K H a vs ∧ Reps K H m ds vs
def Reps (K : PySem.W.Frag) (H : Hp) (m : List Addr) : List D → List V → Prop
  | [], vs => vs = []
  | d :: ds, vs => ∃ v r, vs = v :: r ∧ Rep K H m d v ∧ Reps K H m ds r
end
/-- from one heap to a later one: what is not ours stands, what is ours may have grown -/
structure Ext (m : List Addr) (H : Hp) (m' : List Addr) (H' : Hp) : Prop where
  pre : ∀ (n : Nat) (a : Addr), m[n]? = some a → m'[n]? = some a
  keep : ∀ (b : Addr) (o : HO), H b = some o → b ∉ m → H' b = some o
  new : ∀ b : Addr, b ∈ m' → b ∈ m ∨ H b = none
  lst : ∀ (b : Addr) (o : HO), H b = some o → (∀ xs, o ≠ .lst xs) → H' b = some o
theorem Ext.refl (m : List Addr) (H : Hp) : Ext m H m H := ⟨fun _ _ h => h, fun _ _ h _ => h, fun _ h => .inl h, fun _ _ h _ => h⟩
theorem Ext.trans {m m1 m2 : List Addr} {H H1 H2 : Hp} (a : Ext m H m1 H1) (b : Ext m1 H1 m2 H2) : Ext m H m2 H2 where
  pre := fun n x h => b.pre n x (a.pre n x h)
  keep := fun c o h hn => b.keep c o (a.keep c o h hn) fun z => by
    rcases a.new c z with z | z
    · exact hn z
    · rw [z] at h; cases h
  new := fun c h => by
    rcases b.new c h with z | z
    · exact a.new c z
    · by_cases hc : c ∈ m
      · exact .inl hc
      · refine .inr ?_
        cases e : H c with
        | none => rfl
        | some o => rw [a.keep c o e hc] at z; cases z
  lst := fun c o h hn => b.lst c o (a.lst c o h hn) hn
theorem Ext.sqT {m m' : List Addr} {H H' : Hp} (e : Ext m H m' H') {K : PySem.W.Frag} {a : Addr} {vs : List V} (h : SqT K H a vs) : SqT K H' a vs := by
  rcases h with (h | ⟨o, h⟩) | h
  · exact .inl (.inl (e.lst _ _ h fun _ z => nomatch z))
  · exact .inl (.inr ⟨o, e.lst _ _ h fun _ z => nomatch z⟩)
  · exact .inr h
theorem Ext.ro {m m' : List Addr} {H H' : Hp} (e : Ext m H m' H') {K : PySem.W.Frag} {a : Addr} {vs : List V} (h : RoL K H a vs) : RoL K H' a vs := by
  rcases h with ⟨o, h⟩ | h
  · exact .inl ⟨o, e.lst _ _ h fun _ z => nomatch z⟩
  · exact .inr h
section
variable {K : PySem.W.Frag} {m m' m1 : List Addr} {H H' H1 : Hp} {S S' : Sto}
mutual
theorem Rep.ext (e : Ext m H m' H') : ∀ (d : D) (v : V), Rep K H m d v → Rep K H' m' d v
  | .non, _, h => h
  | .bl _, _, h => h
  | .int _, _, h => h
  | .str _, _, h => h
  | .ty _, _, h => h
  | .ref _, _, ⟨a, h1, h2⟩ => ⟨a, e.pre _ _ h1, h2⟩
  | .tup ds, _, ⟨a, vs, h1, h2, h3⟩ => ⟨a, vs, h1, e.sqT h2, Reps.ext e ds vs h3⟩
  | .rol ds, _, ⟨a, vs, h1, h2, h3⟩ => ⟨a, vs, h1, e.ro h2, Reps.ext e ds vs h3⟩
theorem Reps.ext (e : Ext m H m' H') : ∀ (ds : List D) (vs : List V), Reps K H m ds vs → Reps K H' m' ds vs
  | [], _, h => h
  | d :: ds, _, ⟨v, r, h1, h2, h3⟩ => ⟨v, r, h1, Rep.ext e d v h2, Reps.ext e ds r h3⟩
end
theorem Reps.len : ∀ {ds : List D} {vs : List V}, Reps K H m ds vs → vs.length = ds.length
  | [], _, h => by rw [show _ = ([] : List V) from h]; rfl
  | d :: ds, _, ⟨v, r, h1, h2, h3⟩ => by rw [h1, List.length_cons, List.length_cons, Reps.len h3]
theorem Reps.get : ∀ {ds : List D} {vs : List V}, Reps K H m ds vs → ∀ (i : Nat) (d : D), ds[i]? = some d → ∃ v, vs[i]? = some v ∧ Rep K H m d v
  | [], _, h, i, d, e => by simp at e
  | d :: ds, _, ⟨v, r, h1, h2, h3⟩, 0, d', e => by
    simp at e
    subst e
    exact ⟨v, by rw [h1]; rfl, h2⟩
  | d :: ds, _, ⟨v, r, h1, h2, h3⟩, i + 1, d', e => by
    obtain ⟨w, e1, e2⟩ := Reps.get h3 i d' (by simpa using e)
    exact ⟨w, by rw [h1]; simpa using e1, e2⟩
theorem Reps.get' : ∀ {ds : List D} {vs : List V}, Reps K H m ds vs → ∀ (i : Nat) (v : V), vs[i]? = some v → ∃ d, ds[i]? = some d ∧ Rep K H m d v
  | [], _, h, i, d, e => by
    rw [show _ = ([] : List V) from h] at e
    simp at e
  | d :: ds, _, ⟨v, r, h1, h2, h3⟩, 0, d', e => by
    rw [h1] at e
    simp at e
    subst e
    exact ⟨d, rfl, h2⟩
  | d :: ds, _, ⟨v, r, h1, h2, h3⟩, i + 1, d', e => by
    rw [h1] at e
    obtain ⟨w, e1, e2⟩ := Reps.get' h3 i d' (by simpa using e)
    exact ⟨w, by simpa using e1, e2⟩
theorem Reps.app : ∀ {ds es : List D} {vs us : List V}, Reps K H m ds vs → Reps K H m es us → Reps K H m (ds ++ es) (vs ++ us)
  | [], _, _, _, h, q => by rw [show _ = ([] : List V) from h]; exact q
  | d :: ds, _, _, _, ⟨v, r, h1, h2, h3⟩, q => ⟨v, r ++ _, by rw [h1]; rfl, h2, Reps.app h3 q⟩
theorem Reps.one {d : D} {v : V} (h : Rep K H m d v) : Reps K H m [d] [v] := ⟨v, [], rfl, h, rfl⟩
theorem Reps.drop : ∀ {ds : List D} {vs : List V} (n : Nat), Reps K H m ds vs → Reps K H m (ds.drop n) (vs.drop n)
  | _, _, 0, h => h
  | [], _, n + 1, h => by rw [show _ = ([] : List V) from h]; rfl
  | d :: ds, _, n + 1, ⟨v, r, h1, h2, h3⟩ => by rw [h1]; exact Reps.drop n h3
theorem Reps.take : ∀ {ds : List D} {vs : List V} (n : Nat), Reps K H m ds vs → Reps K H m (ds.take n) (vs.take n)
  | _, _, 0, h => rfl
  | [], _, n + 1, h => by rw [show _ = ([] : List V) from h]; rfl
  | d :: ds, _, n + 1, ⟨v, r, h1, h2, h3⟩ => by rw [h1]; exact ⟨v, _, rfl, h2, Reps.take n h3⟩
theorem Reps.rev : ∀ {ds : List D} {vs : List V}, Reps K H m ds vs → Reps K H m ds.reverse vs.reverse
  | [], _, h => by rw [show _ = ([] : List V) from h]; rfl
  | d :: ds, _, ⟨v, r, h1, h2, h3⟩ => by
    rw [h1, List.reverse_cons, List.reverse_cons]
    exact Reps.app (Reps.rev h3) (Reps.one h2)
theorem Reps.set : ∀ {ds : List D} {vs : List V} {d : D} {v : V} (i : Nat), Reps K H m ds vs → Rep K H m d v → Reps K H m (ds.set i d) (vs.set i v)
  | [], _, _, _, i, h, q => by rw [show _ = ([] : List V) from h]; rfl
  | d :: ds, _, _, _, 0, ⟨v, r, h1, h2, h3⟩, q => by rw [h1]; exact ⟨_, _, rfl, q, h3⟩
  | d :: ds, _, _, _, i + 1, ⟨v, r, h1, h2, h3⟩, q => by rw [h1]; exact ⟨_, _, rfl, h2, Reps.set i h3 q⟩
theorem Reps.erase : ∀ {ds : List D} {vs : List V} (i : Nat), Reps K H m ds vs → Reps K H m (ds.eraseIdx i) (vs.eraseIdx i)
  | [], _, i, h => by rw [show _ = ([] : List V) from h]; cases i <;> rfl
  | d :: ds, _, 0, ⟨v, r, h1, h2, h3⟩ => by rw [h1]; exact h3
  | d :: ds, _, i + 1, ⟨v, r, h1, h2, h3⟩ => by rw [h1]; exact ⟨_, _, rfl, h2, Reps.erase i h3⟩
theorem Reps.dropLast {ds : List D} {vs : List V} (h : Reps K H m ds vs) : Reps K H m ds.dropLast vs.dropLast := by
  rw [List.dropLast_eq_take, List.dropLast_eq_take, h.len]
  exact h.take _
theorem Reps.rep {ds : List D} {vs : List V} (h : Reps K H m ds vs) : ∀ k : Nat, Reps K H m (List.replicate k ds).flatten (List.replicate k vs).flatten
  | 0 => rfl
  | k + 1 => by
    rw [List.replicate_succ, List.replicate_succ, List.flatten_cons, List.flatten_cons]
    exact Reps.app h (Reps.rep h k)
theorem Reps.ints : ∀ {ns : List Int} {vs : List V}, Reps K H m (intD ns) vs → vs = ns.map V.int
  | [], _, h => h
  | n :: ns, _, ⟨v, r, h1, h2, h3⟩ => by rw [h1, show v = V.int n from h2, Reps.ints h3]; rfl
theorem Reps.bls : ∀ {ns : List Bool} {vs : List V}, Reps K H m (ns.map D.bl) vs → vs = ns.map V.bl
  | [], _, h => h
  | n :: ns, _, ⟨v, r, h1, h2, h3⟩ => by rw [h1, show v = V.bl n from h2, Reps.bls h3]; rfl
theorem Reps.of_ints : ∀ {ns : List Int}, Reps K H m (DL.intD ns) (ns.map V.int)
  | [] => rfl
  | n :: ns => ⟨_, _, rfl, rfl, Reps.of_ints⟩

/-- one object of the store -/
def RepO (K : PySem.W.Frag) (H : Hp) (m : List Addr) : O → Addr → Prop
  | .lst ds, a => ∃ vs, H a = some (.lst vs) ∧ Reps K H m ds vs
  | .dic _, _ => False
structure RepS (K : PySem.W.Frag) (H : Hp) (m : List Addr) (S : Sto) : Prop where
  len : m.length = S.length
  nd : ∀ (i j : Nat) (a : Addr), m[i]? = some a → m[j]? = some a → i = j
  obj : ∀ (n : Nat) (o : O), S[n]? = some o → ∃ a, m[n]? = some a ∧ RepO K H m o a
theorem RepS.lst (h : RepS K H m S) {n : Nat} {ds : List D} (e : S[n]? = some (.lst ds)) : ∃ a vs, m[n]? = some a ∧ H a = some (.lst vs) ∧ Reps K H m ds vs := by
  obtain ⟨a, h1, vs, h2, h3⟩ := h.obj n _ e
  exact ⟨a, vs, h1, h2, h3⟩
theorem RepS.mem (h : RepS K H m S) {b : Addr} (hb : b ∈ m) : ∃ vs, H b = some (.lst vs) := by
  obtain ⟨n, hn, e⟩ := List.getElem_of_mem hb
  have e' : m[n]? = some b := by rw [List.getElem?_eq_getElem hn, e]
  have hs : n < S.length := by rw [← h.len]; exact hn
  obtain ⟨a, h1, h2⟩ := h.obj n S[n] (List.getElem?_eq_getElem hs)
  rw [e'] at h1
  cases h1
  cases hq : S[n] with
  | lst ds => rw [hq] at h2; obtain ⟨vs, h2, _⟩ := h2; exact ⟨vs, h2⟩
  | dic _ => rw [hq] at h2; exact h2.elim
theorem RepS.notin (h : RepS K H m S) {p : Addr} (hp : H p = none) : p ∉ m := fun z => by
  obtain ⟨vs, e⟩ := h.mem z
  rw [hp] at e; cases e
/-- a new thing that is not a list of ours -/
theorem Ext.fresh (hp : H p = none) (o : HO) : Ext m H m (upd H p o) where
  pre := fun _ _ h => h
  keep := fun b u h _ => by rw [upd_ne (ne_of_none h hp)]; exact h
  new := fun _ h => .inl h
  lst := fun b u h _ => by rw [upd_ne (ne_of_none h hp)]; exact h
theorem Ext.pushed (hp : H p = none) (o : HO) : Ext m H (m ++ [p]) (upd H p o) where
  pre := fun n a h => by
    rw [List.getElem?_append_left]
    · exact h
    · exact (List.getElem?_eq_some_iff.mp h).1
  keep := fun b u h _ => by rw [upd_ne (ne_of_none h hp)]; exact h
  new := fun b h => by
    rcases List.mem_append.mp h with z | z
    · exact .inl z
    · refine .inr ?_
      rw [List.mem_singleton.mp z]
      exact hp
  lst := fun b u h _ => by rw [upd_ne (ne_of_none h hp)]; exact h
theorem Ext.wrote {a : Addr} {vs us : List V} (ha : a ∈ m) (h : H a = some (.lst vs)) : Ext m H m (upd H a (.lst us)) where
  pre := fun _ _ h => h
  keep := fun b u q hn => by
    rw [upd_ne (a := a) (b := b) (fun z => hn (by rw [z]; exact ha))]
    exact q
  new := fun _ h => .inl h
  lst := fun b u q hl => by
    have hne : b ≠ a := fun z => by
      rw [z, h] at q
      exact hl vs (Option.some.inj q).symm
    rw [upd_ne hne]
    exact q
theorem RepS.fresh (h : RepS K H m S) (hp : H p = none) (o : HO) : RepS K (upd H p o) m S where
  len := h.len
  nd := h.nd
  obj := fun n u e => by
    obtain ⟨a, h1, h2⟩ := h.obj n u e
    refine ⟨a, h1, ?_⟩
    cases u with
    | lst ds =>
      obtain ⟨vs, h2, h3⟩ := h2
      exact ⟨vs, by rw [upd_ne (ne_of_none h2 hp)]; exact h2, Reps.ext (Ext.fresh hp o) _ _ h3⟩
    | dic _ => exact h2.elim
theorem RepS.push (h : RepS K H m S) (hp : H p = none) {ds : List D} {vs : List V} (r : Reps K H m ds vs) : RepS K (upd H p (.lst vs)) (m ++ [p]) (S ++ [.lst ds]) where
  len := by rw [List.length_append, List.length_append, h.len]; rfl
  nd := fun i j a h1 h2 => by
    have hn := h.notin hp
    have pos : ∀ (i : Nat) (a : Addr), (m ++ [p])[i]? = some a → (m[i]? = some a ∧ a ≠ p) ∨ (i = m.length ∧ a = p) := fun i a e => by
      by_cases hi : i < m.length
      · rw [List.getElem?_append_left hi] at e
        exact .inl ⟨e, fun z => hn (z ▸ List.mem_of_getElem? e)⟩
      · have hi' := (List.getElem?_eq_some_iff.mp e).1
        rw [List.length_append] at hi'
        have : i = m.length := by simp at hi'; omega
        subst this
        simp at e
        exact .inr ⟨rfl, e.symm⟩
    rcases pos i a h1 with ⟨e1, n1⟩ | ⟨e1, n1⟩ <;> rcases pos j a h2 with ⟨e2, n2⟩ | ⟨e2, n2⟩
    · exact h.nd i j a e1 e2
    · exact absurd n2 n1
    · exact absurd n1 n2
    · rw [e1, e2]
  obj := fun n u e => by
    by_cases hn : n < S.length
    · rw [List.getElem?_append_left hn] at e
      obtain ⟨a, h1, h2⟩ := h.obj n u e
      refine ⟨a, (Ext.pushed (m := m) hp (.lst vs)).pre _ _ h1, ?_⟩
      cases u with
      | lst ds =>
        obtain ⟨ws, h2, h3⟩ := h2
        exact ⟨ws, by rw [upd_ne (ne_of_none h2 hp)]; exact h2, Reps.ext (Ext.pushed hp _) _ _ h3⟩
      | dic _ => exact h2.elim
    · have hi' := (List.getElem?_eq_some_iff.mp e).1
      rw [List.length_append] at hi'
      have : n = S.length := by simp at hi'; omega
      subst this
      simp at e
      subst e
      exact ⟨p, by rw [← h.len]; simp, vs, upd_same, Reps.ext (Ext.pushed hp _) _ _ r⟩
theorem RepS.set (h : RepS K H m S) {n : Nat} {a : Addr} {ds ds' : List D} {vs' : List V} (e : S[n]? = some (.lst ds)) (ha : m[n]? = some a) (r : Reps K H m ds' vs') :
    RepS K (upd H a (.lst vs')) m (S.set n (.lst ds')) := by
  obtain ⟨a', vs, h1, h2, h3⟩ := h.lst e
  rw [ha] at h1
  cases h1
  have ext : Ext m H m (upd H a (.lst vs')) := Ext.wrote (List.mem_of_getElem? ha) h2
  have hn : n < S.length := (List.getElem?_eq_some_iff.mp e).1
  refine ⟨by rw [List.length_set]; exact h.len, h.nd, fun i u q => ?_⟩
  by_cases hi : i = n
  · subst hi
    rw [List.getElem?_set_self hn] at q
    cases q
    exact ⟨a, ha, vs', upd_same, Reps.ext ext _ _ r⟩
  · rw [List.getElem?_set_ne (Ne.symm hi)] at q
    obtain ⟨b, g1, g2⟩ := h.obj i u q
    refine ⟨b, g1, ?_⟩
    cases u with
    | lst es =>
      obtain ⟨ws, g2, g3⟩ := g2
      refine ⟨ws, ?_, Reps.ext ext _ _ g3⟩
      have hne : b ≠ a := fun z => hi (h.nd i n a (by rw [← z]; exact g1) ha)
      rw [upd_ne hne]
      exact g2
    | dic _ => exact g2.elim

/-! ### slots -/
structure RepE (K : PySem.W.Frag) (H : Hp) (m : List Addr) (ρ : Env) (σ : St) : Prop where
  len : ρ.length = σ.length
  get : ∀ (i : Nat) (d : D), lk ρ i = some d → ∃ v, σ[i]? = some (some v) ∧ Rep K H m d v
theorem RepE.ext {ρ : Env} {σ : St} (r : RepE K H m ρ σ) (e : Ext m H m' H') : RepE K H' m' ρ σ := ⟨r.len, fun i d h => let ⟨v, h1, h2⟩ := r.get i d h; ⟨v, h1, Rep.ext e _ _ h2⟩⟩
theorem lk_up : ∀ (ρ : Env) (i j : Nat) (d : Option D), lk (up ρ i d) j = if j = i ∧ i < ρ.length then d else lk ρ j
  | [], i, j, d => by simp [up, lk]
  | x :: r, 0, 0, d => by simp [up, lk]
  | x :: r, 0, j + 1, d => by simp [up, lk]
  | x :: r, i + 1, 0, d => by simp [up, lk]
  | x :: r, i + 1, j + 1, d => by simp [up, lk, lk_up r i j d]
theorem up_len : ∀ (ρ : Env) (i : Nat) (d : Option D), (up ρ i d).length = ρ.length
  | [], _, _ => rfl
  | x :: r, 0, _ => rfl
  | x :: r, i + 1, d => by simp [up, up_len r i d]
theorem RepE.set {ρ : Env} {σ : St} (r : RepE K H m ρ σ) {d : D} {v : V} (q : Rep K H m d v) (i : Nat) : RepE K H m (up ρ i (some d)) (σ.set i (some v)) := by
  refine ⟨by rw [up_len, List.length_set]; exact r.len, fun j e h => ?_⟩
  rw [lk_up] at h
  by_cases hj : j = i ∧ i < ρ.length
  · rw [if_pos hj] at h
    cases h
    obtain ⟨rfl, hl⟩ := hj
    exact ⟨v, by rw [List.getElem?_set_self (by rw [← r.len]; exact hl)], q⟩
  · rw [if_neg hj] at h
    obtain ⟨w, h1, h2⟩ := r.get j e h
    refine ⟨w, ?_, h2⟩
    have hlt := (List.getElem?_eq_some_iff.mp h1).1
    by_cases hji : j = i
    · exact absurd ⟨hji, by rw [r.len, ← hji]; exact hlt⟩ hj
    · rw [List.getElem?_set_ne (Ne.symm hji)]
      exact h1
theorem RepE.drop1 {ρ : Env} {σ : St} (r : RepE K H m ρ σ) (i : Nat) : RepE K H m (up ρ i none) (σ.set i none) := by
  refine ⟨by rw [up_len, List.length_set]; exact r.len, fun j e h => ?_⟩
  rw [lk_up] at h
  by_cases hj : j = i ∧ i < ρ.length
  · rw [if_pos hj] at h; cases h
  · rw [if_neg hj] at h
    obtain ⟨w, h1, h2⟩ := r.get j e h
    have hlt := (List.getElem?_eq_some_iff.mp h1).1
    refine ⟨w, ?_, h2⟩
    by_cases hji : j = i
    · exact absurd ⟨hji, by rw [r.len, ← hji]; exact hlt⟩ hj
    · rw [List.getElem?_set_ne (Ne.symm hji)]
      exact h1
end
end DL
set_option Elab.async false
set_option linter.all false
set_option maxRecDepth 100000
set_option maxHeartbeats 4000000
/-! DL2: the parts as rules of the layer: tests, calls, displays, blocks, loops, comprehensions. -/
namespace DL
open PySem PySem.Spec
open L2 (V Hp HO St TE TT TA TS TG TI TO PE PT PW PA PS PSs PG PI PO Cx Inv RelV Vals SqL SqT Rd upd upd_same upd_ne ne_of ne_of_none OpR UnR CallR MtR IxR SlR It thn)

/-! ### from a part to the layer's reading -/
abbrev Kont (K : PySem.W.Frag) (m : List Addr) (H : Hp) (R : D → Sto → Prop) (Q : V → Hp → Prop) : Prop :=
  ∀ v d H' S' m', Ext m H m' H' → RepS K H' m' S' → Rep K H' m' d v → R d S' → Q v H'
def teOf (K : PySem.W.Frag) (w : WE) : TE := fun σ H Q => ∃ ρ S m R, RepE K H m ρ σ ∧ RepS K H m S ∧ w ρ S R ∧ Kont K m H R Q
def ttOf (K : PySem.W.Frag) (w : WT) : TT := fun σ H Q => ∃ ρ S m R, RepE K H m ρ σ ∧ RepS K H m S ∧ w ρ S R ∧ ∀ b H' S' m', Ext m H m' H' → RepS K H' m' S' → R b S' → Q b H'
def taOf (K : PySem.W.Frag) (w : WA) : TA := fun σ H Q => ∃ ρ S m R, RepE K H m ρ σ ∧ RepS K H m S ∧ w ρ S R ∧ ∀ vs ds H' S' m', Ext m H m' H' → RepS K H' m' S' → Reps K H' m' ds vs → R ds S' → Q vs H'
def toOf (K : PySem.W.Frag) (w : WP) : TO := fun σ H Q => ∃ ρ S m R, RepE K H m ρ σ ∧ RepS K H m S ∧ w ρ S R ∧ ∀ b H' S' m', Ext m H m' H' → RepS K H' m' S' → R b S' → Q b H'
/-- slots but those at vs as they were -/
def tgOf (K : PySem.W.Frag) (vs : List Nat) (g : WG) : TG := fun v σ H Q => ∃ d ρ S m R, RepE K H m ρ σ ∧ RepS K H m S ∧ Rep K H m d v ∧ g d ρ S R ∧
  ∀ σ' ρ' S' m' H', L2.wipe σ' vs = L2.wipe σ vs → Ext m H m' H' → RepS K H' m' S' → RepE K H' m' ρ' σ' → R ρ' S' → Q σ' H'
def tsOf (K : PySem.W.Frag) (w : WS) : TS := fun D σ H => ∃ ρ S m E, RepE K H m ρ σ ∧ RepS K H m S ∧ w E ρ S ∧
  (∀ σ' ρ' H' S' m', Ext m H m' H' → RepS K H' m' S' → RepE K H' m' ρ' σ' → E.nx ρ' S' → D.nx σ' H') ∧ Kont K m H E.rt D.rt ∧
  (∀ σ' ρ' H' S' m', Ext m H m' H' → RepS K H' m' S' → RepE K H' m' ρ' σ' → E.bk ρ' S' → D.bk σ' H') ∧
  (∀ σ' ρ' H' S' m', Ext m H m' H' → RepS K H' m' S' → RepE K H' m' ρ' σ' → E.ct ρ' S' → D.ct σ' H')
/-- the items that an iterator yields -/
def Yields (K : PySem.W.Frag) (J : It) (items : List D) (guard : Sto → Prop) (m0 : List Addr) (H0 : Hp) : Prop :=
  ∀ m H S, Ext m0 H0 m H → RepS K H m S → guard S → (∀ (i : Nat) (d : D), items[i]? = some d → J.go i H ∧ ∀ x H', J.yld i H x H' → ∃ m', Ext m H m' H' ∧ RepS K H' m' S ∧ Rep K H' m' d x) ∧ (∀ i : Nat, items.length ≤ i → J.stop i H)
def tiOf (K : PySem.W.Frag) (w : WI) : TI := fun σ H R => ∃ ρ S m Rd, RepE K H m ρ σ ∧ RepS K H m S ∧ w ρ S Rd ∧
  ∀ J items guard S' m' H', Ext m H m' H' → RepS K H' m' S' → Yields K J items guard m' H' → Rd items guard S' → R J H'
def r2Of (K : PySem.W.Frag) (r : R2) : L2.R2 := fun x y H Q => ∃ m S dx dy R, RepS K H m S ∧ Rep K H m dx x ∧ Rep K H m dy y ∧ r dx dy S R ∧ Kont K m H R Q
def r1Of (K : PySem.W.Frag) (r : R1) : V → Hp → L2.VK → Prop := fun x H Q => ∃ m S dx R, RepS K H m S ∧ Rep K H m dx x ∧ r dx S R ∧ Kont K m H R Q
def rlOf (K : PySem.W.Frag) (r : RL) : List V → Hp → L2.VK → Prop := fun xs H Q => ∃ m S ds R, RepS K H m S ∧ Reps K H m ds xs ∧ r ds S R ∧ Kont K m H R Q
def rmOf (K : PySem.W.Frag) (r : RM) : V → List V → Hp → L2.VK → Prop := fun x xs H Q => ∃ m S dx ds R, RepS K H m S ∧ Rep K H m dx x ∧ Reps K H m ds xs ∧ r dx ds S R ∧ Kont K m H R Q
def rsOf (K : PySem.W.Frag) (r : D → Option Int → Option Int → Sto → VK → Prop) : V → Option Int → Option Int → Hp → L2.VK → Prop := fun x lo hi H Q => ∃ m S dx R, RepS K H m S ∧ Rep K H m dx x ∧ r dx lo hi S R ∧ Kont K m H R Q
/-- a def's promise -/
def spOf (K : PySem.W.Frag) (n : Nat) (sp : Spc) : L2.Sp := fun vs H Q _ => ∃ m S ds R, RepS K H m S ∧ Reps K H m ds vs ∧ ds.length = n ∧ sp ds S R ∧ Kont K m H R Q

theorem Kont.ext {K : PySem.W.Frag} {m m1 : List Addr} {H H1 : Hp} {R : D → Sto → Prop} {Q : V → Hp → Prop} (k : Kont K m H R Q) (e : Ext m H m1 H1) : Kont K m1 H1 R Q :=
  fun v d H' S' m' e' s r q => k v d H' S' m' (e.trans e') s r q

section
variable {X : Cx} {e : Expr} {es : List Expr} {a b c : Expr} {pos : Pos}
theorem peI {t t' : TE} (h : PE X e t) (hi : ∀ σ H Q, t' σ H Q → t σ H Q) : PE X e t' := ⟨fun pins s σ H Q I q => h.run pins s σ H Q I (hi _ _ _ q)⟩
theorem ptI {t t' : TT} (h : PT X e t) (hi : ∀ σ H Q, t' σ H Q → t σ H Q) : PT X e t' := ⟨fun pins s σ H Q I q => h.run pins s σ H Q I (hi _ _ _ q)⟩
theorem pwI {t t' : TT} (h : PW X e t) (hi : ∀ σ H Q, t' σ H Q → t σ H Q) : PW X e t' := ⟨fun wh pins s σ H Q I q => h.run wh pins s σ H Q I (hi _ _ _ q)⟩
theorem paI {t t' : TA} (h : PA X es t) (hi : ∀ σ H Q, t' σ H Q → t σ H Q) : PA X es t' := ⟨fun p pins s σ H Q I q => h.run p pins s σ H Q I (hi _ _ _ q)⟩
theorem psI {st : Stmt} {t t' : TS} (h : PS X st t) (hi : ∀ D σ H, t' D σ H → t D σ H) : PS X st t' := ⟨fun pins s σ H D I q => h.run pins s σ H D I (hi _ _ _ q)⟩
theorem pssI {st : List Stmt} {t t' : TS} (h : PSs X st t) (hi : ∀ D σ H, t' D σ H → t D σ H) : PSs X st t' := ⟨fun pins s σ H D I q => h.run pins s σ H D I (hi _ _ _ q)⟩
theorem pgI {tg : Expr} {t t' : TG} (h : PG X tg t) (hi : ∀ v σ H Q, t' v σ H Q → t v σ H Q) : PG X tg t' := ⟨fun pins s σ H v u Q I r q => h.run pins s σ H v u Q I r (hi _ _ _ _ q)⟩
theorem piI {tg it : Expr} {t t' : TI} (h : PI X tg it t) (hi : ∀ σ H Q, t' σ H Q → t σ H Q) : PI X tg it t' := ⟨fun pins s σ H R I q => h.run pins s σ H R I (hi _ _ _ q)⟩

variable {wa wb wc : WE}
/-- the first part's end, the second part begun -/
theorem and2 {K : PySem.W.Frag} {σ : St} {H : Hp} {ρ : Env} {S : Sto} {m : List Addr} {R : D → D → Sto → Prop} {T : V → V → Hp → Prop} (hE : RepE K H m ρ σ) (hS : RepS K H m S)
    (h : wa ρ S fun x S1 => wb ρ S1 fun y S2 => R x y S2)
    (k : ∀ m2 H2 S2 v u x y, Ext m H m2 H2 → RepS K H2 m2 S2 → Rep K H2 m2 x v → Rep K H2 m2 y u → R x y S2 → T v u H2) :
    teOf K wa σ H fun v H1 => teOf K wb σ H1 fun u H2 => T v u H2 :=
  ⟨ρ, S, m, _, hE, hS, h, fun v x H1 S1 m1 e1 s1 r1 q1 => ⟨ρ, S1, m1, _, hE.ext e1, s1, q1, fun u y H2 S2 m2 e2 s2 r2 q2 => k m2 H2 S2 v u x y (e1.trans e2) s2 (Rep.ext e2 _ _ r1) r2 q2⟩⟩

/-! ### names, constants -/
theorem d_var (i : Nat) {x : Str} (hN : X.N[i]? = some x := by rfl) (hv : L2.Vis X.env.scope x := by first | exact Or.inl rfl | exact Or.inr (Or.inl rfl) | exact Or.inr (Or.inr rfl)) (hd : (x == ("__debug__" : Str)) = false := by decide)
    (hcd : (x == ("__classdict__" : Str)) = false := by decide) : PE X (.Name x pos) (teOf X.K (wVar i)) := peI (L2.pe_var (i := i) hN hv hd hcd) fun σ H Q ⟨ρ, S, m, R, hE, hS, h, k⟩ => by
  unfold wVar at h
  cases e : lk ρ i with
  | none => rw [e] at h; exact h.elim
  | some d =>
    rw [e] at h
    obtain ⟨v, h1, h2⟩ := hE.get i d e
    exact ⟨v, h1, k v d H S m (Ext.refl _ _) hS h2 h⟩
theorem d_int {i j} : PE X (.Constant (.int i) j pos) (teOf X.K (wC (.int i))) := peI L2.pe_int fun σ H Q ⟨ρ, S, m, R, hE, hS, h, k⟩ => k _ (.int i) H S m (Ext.refl _ _) hS rfl h
theorem d_bl {b j} : PE X (.Constant (.bool b) j pos) (teOf X.K (wC (.bl b))) := peI L2.pe_bl fun σ H Q ⟨ρ, S, m, R, hE, hS, h, k⟩ => k _ (.bl b) H S m (Ext.refl _ _) hS rfl h
theorem d_non {j} : PE X (.Constant .none j pos) (teOf X.K (wC .non)) := peI L2.pe_non fun σ H Q ⟨ρ, S, m, R, hE, hS, h, k⟩ => k _ .non H S m (Ext.refl _ _) hS rfl h
theorem d_str {x j} : PE X (.Constant (.str x) j pos) (teOf X.K (wC (.str x))) := peI L2.pe_str fun σ H Q ⟨ρ, S, m, R, hE, hS, h, k⟩ => k _ (.str x) H S m (Ext.refl _ _) hS rfl h
/-- a built-in type as a value -/
theorem d_ty {x : Str} {n : String} (hg : L2.Gl X x) (hm : X.mg x = none) (hv : bootBuiltins x = some (.type n)) (hn : x ≠ "__name__" := by decide) (hd : (x == ("__debug__" : Str)) = false := by decide) : PE X (.Name x pos) (teOf X.K (wC (.ty n))) :=
  peI (L2.pe_bltn (v := .ty n) hg hm hv rfl hn hd) fun σ H Q ⟨ρ, S, m, R, hE, hS, h, k⟩ => k _ (.ty n) H S m (Ext.refl _ _) hS rfl h
/-- a constant of the module -/
theorem d_glob {x : Str} {v : V} {u : Value} {d : D} (hg : L2.Gl X x) (hm : X.mg x = some u) (r : RelV v u) (hr : ∀ H m, Rep X.K H m d v) (hd : (x == ("__debug__" : Str)) = false := by decide) : PE X (.Name x pos) (teOf X.K (wC d)) :=
  peI (L2.pe_glob hg hm r hd) fun σ H Q ⟨ρ, S, m, R, hE, hS, h, k⟩ => k _ _ H S m (Ext.refl _ _) hS (hr H m) h

/-! ### operators -/
theorem d_op {op : Operator} {r : R2} (ho : OpR X (binaryOp op) (r2Of X.K r)) (ha : PE X a (teOf X.K wa)) (hb : PE X b (teOf X.K wb)) : PE X (.BinOp a op b pos) (teOf X.K (wOp r wa wb)) :=
  peI (L2.pe_op ho ha hb) fun σ H Q ⟨ρ, S, m, R, hE, hS, h, k⟩ => and2 hE hS h fun m2 H2 S2 v u x y e s rx ry q => ⟨m2, S2, x, y, R, s, rx, ry, q, k.ext e⟩
theorem d_un {op : UnaryOp} {r : R1} (ho : UnR X (unaryOp op) (r1Of X.K r)) (ha : PE X a (teOf X.K wa)) : PE X (.UnaryOp op a pos) (teOf X.K (wUn r wa)) :=
  peI (L2.pe_un ho ha) fun σ H Q ⟨ρ, S, m, R, hE, hS, h, k⟩ => ⟨ρ, S, m, _, hE, hS, h, fun v x H1 S1 m1 e1 s1 r1 q1 => ⟨m1, S1, x, R, s1, r1, q1, k.ext e1⟩⟩
theorem d_cmp {op : CmpOp} {r : R2} (ho : OpR X (compareOp op) (r2Of X.K r)) (ha : PE X a (teOf X.K wa)) (hb : PE X b (teOf X.K wb)) (hm : behindInMarks op b = false := by first | exact L2.nobehind _ (by decide) (by decide) | rfl) : PE X (.Compare a [op] [b] pos) (teOf X.K (wOp r wa wb)) :=
  peI (L2.pe_cmpR ho ha hb hm) fun σ H Q ⟨ρ, S, m, R, hE, hS, h, k⟩ => and2 hE hS h fun m2 H2 S2 v u x y e s rx ry q => ⟨m2, S2, x, y, R, s, rx, ry, q, k.ext e⟩
theorem d_ix {r : R2} (ho : IxR X (r2Of X.K r)) (ha : PE X a (teOf X.K wa)) (hb : PE X b (teOf X.K wb)) (hs : L2.PlainIx b := by intro _ _; rfl) : PE X (.Subscript a b pos) (teOf X.K (wOp r wa wb)) :=
  peI (L2.pe_ix ho ha hb hs) fun σ H Q ⟨ρ, S, m, R, hE, hS, h, k⟩ => and2 hE hS h fun m2 H2 S2 v u x y e s rx ry q => ⟨m2, S2, x, y, R, s, rx, ry, q, k.ext e⟩
theorem d_chain {op op' : CmpOp} {r r' : R2} (ho : OpR X (compareOp op) (r2Of X.K r)) (ho' : OpR X (compareOp op') (r2Of X.K r')) (ha : PE X a (teOf X.K wa)) (hb : PE X b (teOf X.K wb)) (hc : PE X c (teOf X.K wc)) (hm : lastMarks [op, op'] [b, c] = false := by rfl) :
    PE X (.Compare a [op, op'] [b, c] pos) (teOf X.K (wChain r r' wa wb wc)) :=
  peI (L2.pe_chain ho ho' ha hb hc (hm := hm)) fun σ H Q ⟨ρ, S, m, R, hE, hS, h, k⟩ => and2 hE hS h fun m2 H2 S2 v u x y e s rx ry q => ⟨m2, S2, x, y, _, s, rx, ry, q, fun z d H3 S3 m3 e3 s3 r3 q3 => by
    cases d with
    | bl kk =>
      refine ⟨kk, r3, ?_⟩
      have q3 : if kk = true then wc ρ S3 fun u S4 => r' y u S4 R else R (.bl false) S3 := q3
      by_cases hk : kk = true
      · rw [if_pos hk] at q3 ⊢
        exact ⟨ρ, S3, m3, _, hE.ext (e.trans e3), s3, q3, fun w d4 H4 S4 m4 e4 s4 r4 q4 => ⟨m4, S4, y, d4, R, s4, Rep.ext (e3.trans e4) _ _ ry, r4, q4, k.ext (e.trans (e3.trans e4))⟩⟩
      · rw [if_neg hk] at q3 ⊢
        exact k _ (.bl false) H3 S3 m3 (e.trans e3) s3 rfl q3
    | _ => exact (show False from q3).elim⟩

/-! ### tests -/
theorem dt_val (h : PE X e (teOf X.K wa)) (he : ∀ whole, isTrue e X.env whole = (do let v ← whole; standAt e.pos; holding [v] (truthy v)) := by intro _; rfl) : PT X e (ttOf X.K (wtVal wa)) :=
  ptI (L2.pt_val h he) fun σ H Q ⟨ρ, S, m, R, hE, hS, h, k⟩ => ⟨ρ, S, m, _, hE, hS, h, fun v d H' S' m' e s r q => by
    cases d with
    | bl b => exact ⟨b, r, k b H' S' m' e s q⟩
    | _ => exact (show False from q).elim⟩
theorem dt_cmp {op : CmpOp} {r : R2} (ho : OpR X (compareOp op) (r2Of X.K r)) (ha : PE X a (teOf X.K wa)) (hb : PE X b (teOf X.K wb)) (hm : behindInMarks op b = false := by first | exact L2.nobehind _ (by decide) (by decide) | rfl) : PT X (.Compare a [op] [b] pos) (ttOf X.K (wtVal (wOp r wa wb))) :=
  ptI (L2.pt_cmpR ho ha hb hm) fun σ H Q ⟨ρ, S, m, R, hE, hS, h, k⟩ => and2 hE hS h fun m2 H2 S2 v u x y e s rx ry q => ⟨m2, S2, x, y, _, s, rx, ry, q, fun z d H3 S3 m3 e3 s3 r3 q3 => by
    cases d with
    | bl kk => exact ⟨kk, r3, k kk H3 S3 m3 (e.trans e3) s3 q3⟩
    | _ => exact (show False from q3).elim⟩
theorem dt_chain {op op' : CmpOp} {r r' : R2} (ho : OpR X (compareOp op) (r2Of X.K r)) (ho' : OpR X (compareOp op') (r2Of X.K r')) (ha : PE X a (teOf X.K wa)) (hb : PE X b (teOf X.K wb)) (hc : PE X c (teOf X.K wc)) (hm : lastMarks [op, op'] [b, c] = false := by rfl) :
    PT X (.Compare a [op, op'] [b, c] pos) (ttOf X.K (wtVal (wChain r r' wa wb wc))) :=
  ptI (L2.pt_chain ho ho' ha hb hc (hm := hm)) fun σ H Q ⟨ρ, S, m, R, hE, hS, h, k⟩ => and2 hE hS h fun m2 H2 S2 v u x y e s rx ry q => ⟨m2, S2, x, y, _, s, rx, ry, q, fun z d H3 S3 m3 e3 s3 r3 q3 => by
    cases d with
    | bl kk =>
      refine ⟨kk, r3, ?_⟩
      have q3 : if kk = true then wc ρ S3 fun u S4 => r' y u S4 _ else _ := q3
      by_cases hk : kk = true
      · rw [if_pos hk] at q3 ⊢
        exact ⟨ρ, S3, m3, _, hE.ext (e.trans e3), s3, q3, fun w d4 H4 S4 m4 e4 s4 r4 q4 => ⟨m4, S4, y, d4, _, s4, Rep.ext (e3.trans e4) _ _ ry, r4, q4, fun v5 d5 H5 S5 m5 e5 s5 r5 q5 => by
          cases d5 with
          | bl k5 => exact ⟨k5, r5, k k5 H5 S5 m5 (e.trans (e3.trans (e4.trans e5))) s5 q5⟩
          | _ => exact (show False from q5).elim⟩⟩
      · rw [if_neg hk] at q3 ⊢
        exact ⟨false, rfl, k false H3 S3 m3 (e.trans e3) s3 q3⟩
    | _ => exact (show False from q3).elim⟩
variable {ta tb : WT} {rest : List Expr}
theorem dt_not (ha : PT X a (ttOf X.K ta)) : PT X (.UnaryOp .Not a pos) (ttOf X.K (wtNot ta)) :=
  ptI (L2.pt_not ha) fun σ H Q ⟨ρ, S, m, R, hE, hS, h, k⟩ => ⟨ρ, S, m, _, hE, hS, h, fun b H' S' m' e s q => k _ H' S' m' e s q⟩
theorem dw_and1 (ha : PT X a (ttOf X.K ta)) : PW X (.BoolOp .And [a] pos) (ttOf X.K ta) := L2.pw_and1 ha
theorem dw_or1 (ha : PT X a (ttOf X.K ta)) : PW X (.BoolOp .Or [a] pos) (ttOf X.K ta) := L2.pw_or1 ha
theorem dw_and (ha : PT X a (ttOf X.K ta)) (hb : PW X (.BoolOp .And (b :: rest) pos) (ttOf X.K tb)) : PW X (.BoolOp .And (a :: b :: rest) pos) (ttOf X.K (wtAnd ta tb)) :=
  pwI (L2.pw_and ha hb) fun σ H Q ⟨ρ, S, m, R, hE, hS, h, k⟩ => ⟨ρ, S, m, _, hE, hS, h, fun b H' S' m' e s q => by
    have q : if b = true then tb ρ S' R else R false S' := q
    show if b = true then ttOf X.K tb σ H' Q else Q false H'
    by_cases hb : b = true
    · rw [if_pos hb] at q ⊢
      exact ⟨ρ, S', m', R, hE.ext e, s, q, fun b2 H2 S2 m2 e2 s2 q2 => k b2 H2 S2 m2 (e.trans e2) s2 q2⟩
    · rw [if_neg hb] at q ⊢
      exact k _ H' S' m' e s q⟩
theorem dw_or (ha : PT X a (ttOf X.K ta)) (hb : PW X (.BoolOp .Or (b :: rest) pos) (ttOf X.K tb)) : PW X (.BoolOp .Or (a :: b :: rest) pos) (ttOf X.K (wtOr ta tb)) :=
  pwI (L2.pw_or ha hb) fun σ H Q ⟨ρ, S, m, R, hE, hS, h, k⟩ => ⟨ρ, S, m, _, hE, hS, h, fun b H' S' m' e s q => by
    have q : if b = true then R true S' else tb ρ S' R := q
    show if b = true then Q true H' else ttOf X.K tb σ H' Q
    by_cases hb : b = true
    · rw [if_pos hb] at q ⊢
      exact k _ H' S' m' e s q
    · rw [if_neg hb] at q ⊢
      exact ⟨ρ, S', m', R, hE.ext e, s, q, fun b2 H2 S2 m2 e2 s2 q2 => k b2 H2 S2 m2 (e.trans e2) s2 q2⟩⟩
/-! as values -/
theorem d_one {op} (h : PE X a (teOf X.K wa)) : PE X (.BoolOp op [a] pos) (teOf X.K wa) := L2.pe_one h
theorem d_and (ha : PE X a (teOf X.K wa)) (hb : PE X (.BoolOp .And (b :: rest) pos) (teOf X.K wb)) : PE X (.BoolOp .And (a :: b :: rest) pos) (teOf X.K (wAnd wa wb)) :=
  peI (L2.pe_and ha hb) fun σ H Q ⟨ρ, S, m, R, hE, hS, h, k⟩ => ⟨ρ, S, m, _, hE, hS, h, fun v d H' S' m' e s r q => by
    cases d with
    | bl c =>
      refine ⟨c, r, ?_⟩
      have q : if c = true then wb ρ S' R else R (.bl false) S' := q
      by_cases hb : c = true
      · rw [if_pos hb] at q ⊢
        exact ⟨ρ, S', m', R, hE.ext e, s, q, k.ext e⟩
      · rw [if_neg hb] at q ⊢
        exact k _ (.bl false) H' S' m' e s rfl q
    | _ => exact (show False from q).elim⟩
theorem d_or (ha : PE X a (teOf X.K wa)) (hb : PE X (.BoolOp .Or (b :: rest) pos) (teOf X.K wb)) : PE X (.BoolOp .Or (a :: b :: rest) pos) (teOf X.K (wOr wa wb)) :=
  peI (L2.pe_or ha hb) fun σ H Q ⟨ρ, S, m, R, hE, hS, h, k⟩ => ⟨ρ, S, m, _, hE, hS, h, fun v d H' S' m' e s r q => by
    cases d with
    | bl c =>
      refine ⟨c, r, ?_⟩
      have q : if c = true then R (.bl true) S' else wb ρ S' R := q
      by_cases hb : c = true
      · rw [if_pos hb] at q ⊢
        exact k _ (.bl true) H' S' m' e s rfl q
      · rw [if_neg hb] at q ⊢
        exact ⟨ρ, S', m', R, hE.ext e, s, q, k.ext e⟩
    | _ => exact (show False from q).elim⟩
theorem d_not (ha : PE X a (teOf X.K wa)) : PE X (.UnaryOp .Not a pos) (teOf X.K (wNot wa)) :=
  peI (L2.pe_not ha) fun σ H Q ⟨ρ, S, m, R, hE, hS, h, k⟩ => ⟨ρ, S, m, _, hE, hS, h, fun v d H' S' m' e s r q => by
    cases d with
    | bl c => exact ⟨c, r, k _ (.bl (!c)) H' S' m' e s rfl q⟩
    | _ => exact (show False from q).elim⟩
theorem d_if (hc : PT X c (ttOf X.K ta)) (ha : PE X a (teOf X.K wa)) (hb : PE X b (teOf X.K wb)) : PE X (.IfExp c a b pos) (teOf X.K (wIf ta wa wb)) :=
  peI (L2.pe_ifExp hc ha hb) fun σ H Q ⟨ρ, S, m, R, hE, hS, h, k⟩ => ⟨ρ, S, m, _, hE, hS, h, fun c H' S' m' e s q => by
    have q : if c = true then wa ρ S' R else wb ρ S' R := q
    show if c = true then teOf X.K wa σ H' Q else teOf X.K wb σ H' Q
    by_cases hb : c = true
    · rw [if_pos hb] at q ⊢
      exact ⟨ρ, S', m', R, hE.ext e, s, q, k.ext e⟩
    · rw [if_neg hb] at q ⊢
      exact ⟨ρ, S', m', R, hE.ext e, s, q, k.ext e⟩⟩

/-! ### displays, calls -/
variable {va : WA}
theorem da_nil : PA X [] (taOf X.K wNil) := paI L2.pa_nil fun σ H Q ⟨ρ, S, m, R, hE, hS, h, k⟩ => k [] [] H S m (Ext.refl _ _) hS rfl h
theorem da_cons (ha : PE X e (teOf X.K wa)) (hr : PA X es (taOf X.K va)) (hs : starEach (e :: es) X.env = (false, eval e X.env) :: starEach es X.env := by rfl) : PA X (e :: es) (taOf X.K (wCons wa va)) :=
  paI (L2.pa_cons ha hr hs) fun σ H Q ⟨ρ, S, m, R, hE, hS, h, k⟩ => ⟨ρ, S, m, _, hE, hS, h, fun v x H1 S1 m1 e1 s1 r1 q1 => ⟨ρ, S1, m1, _, hE.ext e1, s1, q1, fun vs xs H2 S2 m2 e2 s2 r2 q2 =>
    k (v :: vs) (x :: xs) H2 S2 m2 (e1.trans e2) s2 ⟨_, _, rfl, Rep.ext e2 _ _ r1, r2⟩ q2⟩⟩
theorem d_tup {x1} (h : PA X es (taOf X.K va)) : PE X (.Tuple es x1 pos) (teOf X.K (wTup va)) :=
  peI (L2.pe_tup h) fun σ H Q ⟨ρ, S, m, R, hE, hS, h, k⟩ => ⟨ρ, S, m, _, hE, hS, h, fun vs ds H1 S1 m1 e1 s1 r1 ⟨z, q1⟩ => ⟨by rw [r1.len]; exact z, fun p hp =>
    k _ (.tup ds) _ S1 m1 (e1.trans (Ext.fresh hp _)) (s1.fresh hp _) ⟨p, vs, rfl, L2.SqT.of upd_same, Reps.ext (Ext.fresh hp _) _ _ r1⟩ q1⟩⟩
theorem d_lst (h : PA X es (taOf X.K va)) : PE X (.List es pos) (teOf X.K (wLst va)) :=
  peI (L2.pe_lst h) fun σ H Q ⟨ρ, S, m, R, hE, hS, h, k⟩ => ⟨ρ, S, m, _, hE, hS, h, fun vs ds H1 S1 m1 e1 s1 r1 ⟨z, q1⟩ => ⟨by rw [r1.len]; exact z, fun p hp =>
    k _ (.ref S1.length) _ _ (m1 ++ [p]) (e1.trans (Ext.pushed hp _)) (s1.push hp r1) ⟨p, by rw [← s1.len]; simp, rfl⟩ q1⟩⟩
theorem d_call {n kk : Nat} {f : Addr} {fd : FuncData} {ps : List Str} {sp : Spc} {x : Str} {p : Pos} (F : L2.FnOk X.prog X.w X.K X.mg X.base L2.CX0 kk f fd ps (spOf X.K n sp)) (hr : L2.Room kk X.A) (hg : L2.Gl X x) (hm : X.mg x = some (.ref f))
    (hk : PySem.W.keepIn X.K (.ref f) = true) (hb : L2.Binds X.K fd ps []) (ha : PA X (e :: es) (taOf X.K va)) (hd : (x == ("__debug__" : Str)) = false := by decide)
    (he : starEach (e :: es) X.env = (false, eval e X.env) :: starEach es X.env := by rfl) (hpl : (backTo pos (starEach es X.env)).any (·.1) = false := by rfl) :
    PE X (.Call (.Name x p) (e :: es) [] pos) (teOf X.K (wCall n sp va)) :=
  peI (L2.pe_call (dvs := []) (ds := []) (E := L2.E0) F hr hg hm hk hb .nil L2.pass0 ha hd he hpl) fun σ H Q ⟨ρ, S, m, R, hE, hS, h, k⟩ => ⟨ρ, S, m, _, hE, hS, h, fun vs ds H1 S1 m1 e1 s1 r1 ⟨z, q1⟩ =>
    ⟨m1, S1, ds, R, s1, by rw [List.append_nil]; exact r1, z, q1, k.ext e1⟩⟩
theorem d_callB {id : String} {r : RL} {x : Str} {p : Pos} (hc : CallR X (.builtin id) (rlOf X.K r)) (hg : L2.Gl X x) (hm : X.mg x = none) (hv : bootBuiltins x = some (.builtin id)) (ha : PA X (e :: es) (taOf X.K va)) (hn : x ≠ "__name__" := by decide) (hdb : (x == ("__debug__" : Str)) = false := by decide)
    (he : starEach (e :: es) X.env = (false, eval e X.env) :: starEach es X.env := by rfl) (hpl : (backTo pos (starEach es X.env)).any (·.1) = false := by rfl) : PE X (.Call (.Name x p) (e :: es) [] pos) (teOf X.K (wB r va)) :=
  peI (L2.pe_callB hc hg hm hv ha hn hdb he hpl) fun σ H Q ⟨ρ, S, m, R, hE, hS, h, k⟩ => ⟨ρ, S, m, _, hE, hS, h, fun vs ds H1 S1 m1 e1 s1 r1 q1 => ⟨m1, S1, ds, R, s1, r1, q1, k.ext e1⟩⟩
theorem d_callT {id : String} {r : RL} {x : Str} {p : Pos} (hc : CallR X (.type id) (rlOf X.K r)) (hg : L2.Gl X x) (hm : X.mg x = none) (hv : bootBuiltins x = some (.type id)) (ha : PA X (e :: es) (taOf X.K va)) (hn : x ≠ "__name__" := by decide) (hdb : (x == ("__debug__" : Str)) = false := by decide)
    (he : starEach (e :: es) X.env = (false, eval e X.env) :: starEach es X.env := by rfl) (hpl : (backTo pos (starEach es X.env)).any (·.1) = false := by rfl) : PE X (.Call (.Name x p) (e :: es) [] pos) (teOf X.K (wB r va)) :=
  peI (L2.pe_callTy hc hg hm hv ha hn hdb he hpl) fun σ H Q ⟨ρ, S, m, R, hE, hS, h, k⟩ => ⟨ρ, S, m, _, hE, hS, h, fun vs ds H1 S1 m1 e1 s1 r1 q1 => ⟨m1, S1, ds, R, s1, r1, q1, k.ext e1⟩⟩
/-- a name of the module that holds a built-in function (math.gcd) -/
theorem d_callF {id : String} {r : RL} {x : Str} {p : Pos} (hc : CallR X (.builtin id) (rlOf X.K r)) (hg : L2.Gl X x) (hm : X.mg x = some (.builtin id)) (ha : PA X (e :: es) (taOf X.K va)) (hdb : (x == ("__debug__" : Str)) = false := by decide)
    (he : starEach (e :: es) X.env = (false, eval e X.env) :: starEach es X.env := by rfl) (hpl : (backTo pos (starEach es X.env)).any (·.1) = false := by rfl) : PE X (.Call (.Name x p) (e :: es) [] pos) (teOf X.K (wB r va)) :=
  peI (L2.pe_callBfun hc hg hm ha hdb he hpl) fun σ H Q ⟨ρ, S, m, R, hE, hS, h, k⟩ => ⟨ρ, S, m, _, hE, hS, h, fun vs ds H1 S1 m1 e1 s1 r1 q1 => ⟨m1, S1, ds, R, s1, r1, q1, k.ext e1⟩⟩
theorem isL_ty {K : PySem.W.Frag} {H : Hp} {m : List Addr} {S : Sto} {x : D} {v : V} (s : RepS K H m S) (r : Rep K H m x v) (h : isL x S) : L2.tyV K "list" v H := by
  cases x with
  | ref n =>
    obtain ⟨xs, h⟩ := h
    obtain ⟨a, vs, h1, h2, h3⟩ := s.lst h
    obtain ⟨b, g1, rfl⟩ := r
    rw [h1] at g1
    cases g1
    exact .inl ⟨rfl, vs, L2.SqL.of h2⟩
  | _ => exact (show False from h).elim
variable {o : Expr} {wo : WE}
theorem d_m {name : Str} {id : String} {r : RM} {apos cpos : Pos} (slot : Slot "list" name id) (hty : typeOf (.builtin id) = pure (.type "method_descriptor")) (hm : MtR X id (rmOf X.K r)) (ho : PE X o (teOf X.K wo)) (ha : PA X (e :: es) (taOf X.K va))
    (hbase : attributeBase o name X.env (eval o X.env) = eval o X.env := by rfl)
    (hfew : ((backTo cpos (starEach (e :: es) X.env)).all (fun x => !x.1) && (backToKw cpos (keywordEach [] X.env)).all (fun x => x.1.isSome)
      && decide ((e :: es).length + ([] : List Keyword).length + (if ([] : List Keyword).isEmpty then 0 else 1) < 30)) = true := by rfl)
    (hline : (apos.endLine == cpos.line) = true := by rfl) (hs : starEach (e :: es) X.env = (false, eval e X.env) :: starEach es X.env := by rfl) (hplain : (backTo cpos (starEach es X.env)).any (·.1) = false := by rfl) :
    PE X (.Call (.Attribute o name apos) (e :: es) [] cpos) (teOf X.K (wM r wo va)) :=
  peI (L2.pe_bm PySem.F.plainAttrs_list slot hty hm ho ha hbase hfew hline hs hplain) fun σ H Q ⟨ρ, S, m, R, hE, hS, h, k⟩ => ⟨ρ, S, m, _, hE, hS, h, fun v x H1 S1 m1 e1 s1 r1 ⟨z, q1⟩ =>
    ⟨isL_ty s1 r1 z, ρ, S1, m1, _, hE.ext e1, s1, q1, fun vs ds H2 S2 m2 e2 s2 r2 q2 => ⟨m2, S2, x, ds, R, s2, Rep.ext e2 _ _ r1, r2, q2, k.ext (e1.trans e2)⟩⟩⟩
theorem d_m0 {name : Str} {id : String} {r : RM} {apos cpos : Pos} (slot : Slot "list" name id) (hty : typeOf (.builtin id) = pure (.type "method_descriptor")) (hm : MtR X id (rmOf X.K r)) (ho : PE X o (teOf X.K wo))
    (hbase : attributeBase o name X.env (eval o X.env) = eval o X.env := by rfl) (hline : (apos.endLine == cpos.line) = true := by rfl) :
    PE X (.Call (.Attribute o name apos) [] [] cpos) (teOf X.K (wM0 r wo)) :=
  peI (L2.pe_bm0 PySem.F.plainAttrs_list slot hty hm ho hbase hline) fun σ H Q ⟨ρ, S, m, R, hE, hS, h, k⟩ => ⟨ρ, S, m, _, hE, hS, h, fun v x H1 S1 m1 e1 s1 r1 ⟨z, q1⟩ =>
    ⟨isL_ty s1 r1 z, m1, S1, x, [], R, s1, r1, rfl, q1, k.ext e1⟩⟩
/-! slices -/
theorem dp_no : PO X none (toOf X.K wPNo) := ⟨fun pins s σ H Q I ⟨ρ, S, m, R, hE, hS, h, k⟩ => L2.po_none.run pins s σ H Q I (k none H S m (Ext.refl _ _) hS h)⟩
theorem dp_at (h : PE X e (teOf X.K wa)) : PO X (some e) (toOf X.K (wPAt wa)) := ⟨fun pins s σ H Q I ⟨ρ, S, m, R, hE, hS, hw, k⟩ => (L2.po_some h).run pins s σ H Q I ⟨ρ, S, m, _, hE, hS, hw, fun v d H1 S1 m1 e1 s1 r1 q1 => by
    cases d with
    | int i => exact ⟨i, r1, k _ H1 S1 m1 e1 s1 q1⟩
    | _ => exact (show False from q1).elim⟩⟩
theorem d_sl {r : D → Option Int → Option Int → Sto → VK → Prop} {lo hi : Option Expr} {wl wh : WP} {p2 : Pos} (hr : SlR X (rsOf X.K r)) (ho : PE X o (teOf X.K wo)) (hl : PO X lo (toOf X.K wl)) (hh : PO X hi (toOf X.K wh)) :
    PE X (.Subscript o (.Slice lo hi none p2) pos) (teOf X.K (wSl r wo wl wh)) :=
  peI (L2.pe_slice hr ho hl hh) fun σ H Q ⟨ρ, S, m, R, hE, hS, h, k⟩ => ⟨ρ, S, m, _, hE, hS, h, fun v x H1 S1 m1 e1 s1 r1 q1 => ⟨ρ, S1, m1, _, hE.ext e1, s1, q1, fun i H2 S2 m2 e2 s2 q2 => ⟨ρ, S2, m2, _, hE.ext (e1.trans e2), s2, q2, fun j H3 S3 m3 e3 s3 q3 =>
    ⟨m3, S3, x, R, s3, Rep.ext (e2.trans e3) _ _ r1, q3, k.ext (e1.trans (e2.trans e3))⟩⟩⟩⟩
end
end DL
set_option Elab.async false
set_option linter.all false
set_option maxRecDepth 100000
set_option maxHeartbeats 4000000
/-! DL3: what is walked, targets, statements, loops, comprehensions, defs. -/
namespace DL
open PySem PySem.Spec
open L2 (V Hp HO St TE TT TA TS TG TI TO PE PT PW PA PS PSs PG PI PO Cx Inv RelV Vals SqL SqT Rd upd upd_same upd_ne ne_of ne_of_none OpR UnR CallR MtR IxR SlR It thn)

/-! ### what is walked -/
theorem yields_list {K : PySem.W.Frag} {m : List Addr} {H : Hp} {S : Sto} {n : Nat} {a : Addr} {xs : List D} (ha : m[n]? = some a) : Yields K (L2.Itl K a) xs (fun S' => S'[n]? = some (.lst xs)) m H := by
  intro m1 H1 S1 e s g
  obtain ⟨b, vs, h1, h2, h3⟩ := s.lst g
  have hb := e.pre n a ha
  rw [h1] at hb
  cases hb
  refine ⟨fun i d hd => ?_, fun i hi => ⟨vs, SqL.of h2, by rw [h3.len]; exact hi⟩⟩
  obtain ⟨v, g1, g2⟩ := h3.get i d hd
  exact ⟨⟨vs, v, SqL.of h2, g1⟩, fun x H' ⟨q1, q2⟩ => by
    subst q1
    have ex := q2 vs (SqL.of h2)
    rw [g1] at ex
    cases ex
    exact ⟨m1, Ext.refl _ _, s, g2⟩⟩
theorem yields_tup {K : PySem.W.Frag} {m : List Addr} {H : Hp} {a : Addr} {xs : List D} {vs : List V} (hT : SqT K H a vs) (r : Reps K H m xs vs) : Yields K (L2.Itt K a) xs (fun _ => True) m H := by
  intro m1 H1 S1 e s g
  have h3 := Reps.ext e _ _ r
  refine ⟨fun i d hd => ?_, fun i hi => ⟨vs, e.sqT hT, by rw [h3.len]; exact hi⟩⟩
  obtain ⟨v, g1, g2⟩ := h3.get i d hd
  exact ⟨⟨vs, v, e.sqT hT, g1⟩, fun x H' ⟨q1, q2⟩ => by
    subst q1
    have ex := q2 vs (e.sqT hT)
    rw [g1] at ex
    cases ex
    exact ⟨m1, Ext.refl _ _, s, g2⟩⟩
theorem yields_rol {K : PySem.W.Frag} {m : List Addr} {H : Hp} {a : Addr} {xs : List D} {vs : List V} (hT : RoL K H a vs) (r : Reps K H m xs vs) : Yields K (L2.Itl K a) xs (fun _ => True) m H := by
  intro m1 H1 S1 e s g
  have h3 := Reps.ext e _ _ r
  refine ⟨fun i d hd => ?_, fun i hi => ⟨vs, (e.ro hT).seq, by rw [h3.len]; exact hi⟩⟩
  obtain ⟨v, g1, g2⟩ := h3.get i d hd
  exact ⟨⟨vs, v, (e.ro hT).seq, g1⟩, fun x H' ⟨q1, q2⟩ => by
    subst q1
    have ex := q2 vs (e.ro hT).seq
    rw [g1] at ex
    cases ex
    exact ⟨m1, Ext.refl _ _, s, g2⟩⟩
theorem rangeD_getM {lo hi : Int} {i : Nat} {d : D} (h : (rangeD lo hi)[i]? = some d) : i < (hi - lo).toNat ∧ d = .int (lo + i) := by
  unfold rangeD at h
  rw [List.getElem?_map] at h
  by_cases hi : i < (hi - lo).toNat
  · rw [List.getElem?_range hi] at h
    exact ⟨hi, (Option.some.inj h).symm⟩
  · rw [List.getElem?_eq_none (by simpa using hi)] at h
    cases h
theorem rangeD_lenM (lo hi : Int) : (rangeD lo hi).length = (hi - lo).toNat := by simp [rangeD]
theorem yields_rng {K : PySem.W.Frag} {m : List Addr} {H : Hp} {lo hi : Int} : Yields K (L2.Itr lo (hi - lo).toNat) (rangeD lo hi) (fun _ => True) m H := by
  intro m1 H1 S1 e s g
  refine ⟨fun i d hd => ?_, fun i hi => by rw [rangeD_lenM] at hi; exact hi⟩
  obtain ⟨h1, h2⟩ := rangeD_getM hd
  exact ⟨h1, fun x H' ⟨q1, q2⟩ => ⟨m1, by rw [q1]; exact Ext.refl _ _, by rw [q1]; exact s, by rw [q2, h2]; rfl⟩⟩
section
variable {X : Cx} {tg : Expr} {wa wb : WE} {a b : Expr} {p pos : Pos}
theorem di_it {l : Expr} (hl : PE X l (teOf X.K wa)) : PI X tg l (tiOf X.K (wIt wa)) := by
  refine ⟨fun pins s σ H R I ⟨ρ, S, m, Rd, hE, hS, hw, k⟩ => ?_⟩
  refine thn (hl.run pins s σ H (fun v H1 => ∃ d S1 m1, Ext m H m1 H1 ∧ RepS X.K H1 m1 S1 ∧ Rep X.K H1 m1 d v ∧ (match d with
    | .tup xs => Rd xs (fun _ => True) S1
    | .rol xs => Rd xs (fun _ => True) S1
    | .ref n => match S1[n]? with
      | some (.lst xs) => Rd xs (fun S' => S'[n]? = some (.lst xs)) S1
      | _ => False
    | _ => False)) I ⟨ρ, S, m, _, hE, hS, hw, fun v d H1 S1 m1 e1 s1 r1 q1 => ⟨d, S1, m1, e1, s1, r1, q1⟩⟩) fun u s1 ⟨v, H1, I1, ru, d, S1, m1, e1, hs, rd, q⟩ => ?_
  have new : ∀ b ∈ [s1.heap.objs.size], L2.FpOk X pins H1 b := fun b hb => by
    rw [List.mem_singleton.mp hb]
    exact I1.fpOk (Nat.le_refl _) (I1.hok.fresh (Nat.le_refl _))
  cases d with
  | tup xs =>
    obtain ⟨a, vs, rfl, hT, rs⟩ := rd
    cases ru
    obtain ⟨its, rv, pt, _⟩ := I1.tuple hT
    refine wpAny_pyIter_tuple (show s1.heap.IsTuple a its.toArray from pt) ?_
    exact ⟨_, [s1.heap.objs.size], _, _, H1, rfl, I1.kept (t' := s1.toks) fun _ _ e => Heap.get?_push_of_some _ e, L2.turn_tuple a _, ⟨_, Heap.get?_push_size _ rfl, rfl, rfl⟩, new, k _ _ _ _ _ _ e1 hs (yields_tup hT rs) q⟩
  | rol xs =>
    obtain ⟨a, vs, rfl, hT, rs⟩ := rd
    cases ru
    obtain ⟨its, rv, pl, _⟩ := I1.list hT.seq
    refine wpAny_pyIter_list pl.isList ?_
    exact ⟨_, [s1.heap.objs.size], _, _, H1, rfl, I1.kept (t' := s1.toks) fun _ _ e => Heap.get?_push_of_some _ e, L2.turn_list a _, ⟨_, Heap.get?_push_size _ rfl, rfl, rfl⟩, new, k _ _ _ _ _ _ e1 hs (yields_rol hT rs) q⟩
  | ref n =>
    obtain ⟨a, ha, rfl⟩ := rd
    have q : (match S1[n]? with
      | some (.lst xs) => Rd xs (fun S' => S'[n]? = some (.lst xs)) S1
      | _ => False) := q
    split at q
    · rename_i xs hx
      obtain ⟨b, vs, h1, h2, h3⟩ := hs.lst hx
      rw [ha] at h1
      cases h1
      cases ru
      obtain ⟨its, rv, pl, _⟩ := I1.list (SqL.of h2)
      refine wpAny_pyIter_list pl.isList ?_
      exact ⟨_, [s1.heap.objs.size], _, _, H1, rfl, I1.kept (t' := s1.toks) fun _ _ e => Heap.get?_push_of_some _ e, L2.turn_list a _, ⟨_, Heap.get?_push_size _ rfl, rfl, rfl⟩, new, k _ _ _ _ _ _ e1 hs (yields_list (S := S1) ha) q⟩
    · exact q.elim
  | _ => exact (show False from q).elim
theorem di_r1 (hg : L2.Gl X "range") (hm : X.mg "range" = none) (ha : PE X a (teOf X.K wa)) (h1 : starEach [a] X.env = [(false, eval a X.env)] := by rfl) : PI X tg (.Call (.Name "range" p) [a] [] pos) (tiOf X.K (wR1 wa)) :=
  piI (L2.pi_range1 hg hm (da_cons ha da_nil h1) h1) fun σ H Q ⟨ρ, S, m, R, hE, hS, h, k⟩ => ⟨ρ, S, m, fun ds S1 => match ds with
    | [.int j] => smallI j ∧ R (rangeD 0 j) (fun _ => True) S1
    | _ => False, hE, hS, (by
      show wa ρ S _
      refine cast (congrArg (wa ρ S) ?_) h
      funext x S1
      cases x <;> rfl), fun vs ds H' S' m' e s r q => by
      match ds, q, r with
      | [.int j], ⟨⟨q1, q2⟩, q3⟩, ⟨v, r', hv, rv, rn⟩ =>
        rw [show r' = [] from rn] at hv
        refine ⟨j, by rw [hv, show v = V.int j from rv], q1, q2, ?_⟩
        have y := yields_rng (K := X.K) (m := m') (H := H') (lo := 0) (hi := j)
        rw [show j - 0 = j by omega] at y
        exact k _ _ _ _ _ _ e s y q3⟩
theorem di_r2 (hg : L2.Gl X "range") (hm : X.mg "range" = none) (ha : PE X a (teOf X.K wa)) (hb : PE X b (teOf X.K wb)) (h1 : starEach [a, b] X.env = [(false, eval a X.env), (false, eval b X.env)] := by rfl) (h2 : starEach [b] X.env = [(false, eval b X.env)] := by rfl) : PI X tg (.Call (.Name "range" p) [a, b] [] pos) (tiOf X.K (wR2 wa wb)) :=
  piI (L2.pi_range2 hg hm (da_cons ha (da_cons hb da_nil h2) (by rw [h1, h2])) h1 h2) fun σ H Q ⟨ρ, S, m, R, hE, hS, h, k⟩ => ⟨ρ, S, m, fun ds S1 => match ds with
    | [.int i, .int j] => smallI i ∧ smallI j ∧ R (rangeD i j) (fun _ => True) S1
    | _ => False, hE, hS, (by
      show wa ρ S _
      refine cast (congrArg (wa ρ S) ?_) h
      funext x S1
      show wb ρ S1 _ = wb ρ S1 _
      refine congrArg (wb ρ S1) ?_
      funext y S2
      cases x <;> cases y <;> rfl), fun vs ds H' S' m' e s r q => by
      match ds, q, r with
      | [.int i, .int j], ⟨⟨q1, q2⟩, ⟨q3, q4⟩, q5⟩, ⟨v, r', hv, rv, ⟨v2, r2, hv2, rv2, rn⟩⟩ =>
        rw [show r2 = [] from rn] at hv2
        rw [hv2] at hv
        exact ⟨i, j, by rw [hv, show v = V.int i from rv, show v2 = V.int j from rv2], ⟨q1, q2, q3, q4⟩, k _ _ _ _ _ _ e s yields_rng q5⟩⟩

/-! ### targets -/
theorem wipe_get (σ : St) : ∀ (vs : List Nat) (j : Nat), (L2.wipe σ vs)[j]? = if j ∈ vs then (if j < σ.length then some none else none) else σ[j]?
  | [], j => by simp [L2.wipe]
  | v :: vs, j => by
    unfold L2.wipe
    by_cases h : j = v
    · subst h
      rw [List.getElem?_set]
      simp [L2.wipe_length]
    · rw [List.getElem?_set_ne (Ne.symm h), wipe_get σ vs j]
      simp [h]
theorem wipe_set {σ : St} {i : Nat} {x : Option V} {vs : List Nat} (h : i ∈ vs) : L2.wipe (σ.set i x) vs = L2.wipe σ vs := by
  apply List.ext_getElem?
  intro j
  rw [wipe_get, wipe_get, List.length_set]
  by_cases hj : j ∈ vs
  · rw [if_pos hj, if_pos hj]
  · rw [if_neg hj, if_neg hj, List.getElem?_set_ne]
    intro z
    exact hj (z ▸ h)
theorem RepE.wipe {K : PySem.W.Frag} {H : Hp} {m : List Addr} {ρ : Env} {σ : St} (r : RepE K H m ρ σ) : ∀ vs : List Nat, RepE K H m (wipe ρ vs) (L2.wipe σ vs)
  | [] => r
  | v :: vs => (RepE.wipe r vs).drop1 v
theorem dg_name (i : Nat) {x : Str} (hN : X.N.Nodup) (hi : X.N[i]? = some x := by rfl) (hx : L2.Loc X.env.scope x := by first | exact Or.inl rfl | exact Or.inr rfl) (hf : X.fn x = true ∨ X.env.scope.names.lookup x = some .local := by first | exact .inl rfl | exact .inr rfl | assumption) : PG X (.Name x pos) (tgOf X.K [i] (gN i)) :=
  pgI (L2.pg_name hN hi hx hf) fun v σ H Q ⟨d, ρ, S, m, R, hE, hS, r, h, k⟩ => k _ _ _ _ _ (wipe_set (List.mem_singleton.mpr rfl)) (Ext.refl _ _) hS (hE.set r i) h
/-- several names -/
inductive Gs (X : Cx) : List Expr → List Nat → Prop where
  | nil : Gs X [] []
  | cons {e : Expr} {es : List Expr} {i : Nat} {is : List Nat} : PG X e (L2.gName i) → (assignEach (e :: es) X.env).map (·.2) = assign e X.env :: (assignEach es X.env).map (·.2) → Gs X es is → Gs X (e :: es) (i :: is)
theorem dgs_one (i : Nat) {x : Str} {es : List Expr} {is : List Nat} (hN : X.N.Nodup) (r : Gs X es is) (hi : X.N[i]? = some x := by rfl) (hx : L2.Loc X.env.scope x := by first | exact Or.inl rfl | exact Or.inr rfl) (hf : X.fn x = true ∨ X.env.scope.names.lookup x = some .local := by first | exact .inl rfl | exact .inr rfl | assumption)
    (hs : (assignEach (.Name x pos :: es) X.env).map (·.2) = assign (.Name x pos) X.env :: (assignEach es X.env).map (·.2) := by rfl) : Gs X (.Name x pos :: es) (i :: is) := .cons (L2.pg_name hN hi hx hf) hs r
/-- the layer's reading of several names -/
def tgs : List Nat → L2.TGs
  | [] => L2.gNil
  | i :: is => L2.gCons (L2.gName i) (tgs is)
theorem pgs_of {es : List Expr} {is : List Nat} (g : Gs X es is) : L2.PGs X es (tgs is) := by
  induction g with
  | nil => exact L2.pgs_nil
  | cons h hs _ ih => exact L2.pgs_cons h ih hs
theorem tgs_run {K : PySem.W.Frag} {H : Hp} {m : List Addr} {vs0 : List Nat} : ∀ (is : List Nat) (ds : List D) (vs : List V) (ρ ρ' : Env) (σ : St) (Q : St → Hp → Prop), Reps K H m ds vs → RepE K H m ρ σ → gNs is ds ρ = some ρ' → (∀ i ∈ is, i ∈ vs0) →
    (∀ σ', L2.wipe σ' vs0 = L2.wipe σ vs0 → RepE K H m ρ' σ' → Q σ' H) → tgs is vs σ H Q
  | [], [], vs, ρ, ρ', σ, Q, r, hE, h, _, k => by
    have h : some ρ = some ρ' := h
    cases h
    exact ⟨r, k σ rfl hE⟩
  | i :: is, d :: ds, vs, ρ, ρ', σ, Q, ⟨v, rr, hv, r1, r2⟩, hE, h, hi, k =>
    ⟨v, rr, hv, tgs_run is ds rr (up ρ i (some d)) ρ' (σ.set i (some v)) Q r2 (hE.set r1 i) h (fun j hj => hi j (List.mem_cons_of_mem _ hj)) fun σ' w e => k σ' (by rw [w, wipe_set (hi i List.mem_cons_self)]) e⟩
  | [], d :: ds, _, _, _, _, _, _, _, h, _, _ => by cases (show (none : Option Env) = some _ from h)
  | i :: is, [], _, _, _, _, _, _, _, h, _, _ => by cases (show (none : Option Env) = some _ from h)
theorem gNs_len : ∀ (is : List Nat) (ds : List D) (ρ ρ' : Env), gNs is ds ρ = some ρ' → ds.length = is.length
  | [], [], _, _, _ => rfl
  | _ :: is, _ :: ds, ρ, ρ', h => by rw [List.length_cons, List.length_cons, gNs_len is ds _ ρ' h]
  | [], _ :: _, _, _, h => by cases (show (none : Option Env) = some _ from h)
  | _ :: _, [], _, _, h => by cases (show (none : Option Env) = some _ from h)
theorem dg_tup {es : List Expr} {k : Nat} {is : List Nat} (hc : X.calm = true) (g : Gs X es is) (hn : (assignEach es X.env).length = is.length := by rfl) (hst : (assignEach es X.env).findIdx? (·.1) = none := by rfl) : PG X (.Tuple es k pos) (tgOf X.K is (gT is)) :=
  pgI (L2.pg_tup hc (pgs_of g) hn hst) fun v σ H Q ⟨d, ρ, S, m, R, hE, hS, r, h, kk⟩ => by
    cases d with
    | tup ds =>
      obtain ⟨a, vs, rfl, hT, rs⟩ := r
      have h : (match gNs is ds ρ with
        | some ρ' => R ρ' S
        | none => False) := h
      split at h
      · rename_i ρ' hg
        exact ⟨a, vs, rfl, hT, by rw [rs.len, gNs_len _ _ _ _ hg], tgs_run is ds vs ρ ρ' σ Q rs hE hg (fun _ h => h) fun σ' w e => kk σ' ρ' S m H w (Ext.refl _ _) hS e h⟩
      · exact h.elim
    | _ => exact (show False from h).elim

/-! ### statements -/
variable {e : Expr} {st : Stmt} {rest : List Stmt} {ws wu : WS}
theorem dss_nil : PSs X [] (tsOf X.K sNext) := pssI L2.pss_nil fun D σ H ⟨ρ, S, m, E, hE, hS, h, k, _⟩ => k σ ρ H S m (Ext.refl _ _) hS hE h
theorem dss_cons (h1 : PS X st (tsOf X.K ws)) (h2 : PSs X rest (tsOf X.K wu)) : PSs X (st :: rest) (tsOf X.K (sSeq ws wu)) :=
  pssI (L2.pss_cons h1 h2) fun D σ H ⟨ρ, S, m, E, hE, hS, h, k1, k2, k3, k4⟩ => ⟨ρ, S, m, { E with nx := wu E }, hE, hS, h, fun σ' ρ' H' S' m' e s r q =>
    ⟨ρ', S', m', E, r, s, q, fun σ2 ρ2 H2 S2 m2 e2 s2 r2 q2 => k1 σ2 ρ2 H2 S2 m2 (e.trans e2) s2 r2 q2, k2.ext e, fun σ2 ρ2 H2 S2 m2 e2 s2 r2 q2 => k3 σ2 ρ2 H2 S2 m2 (e.trans e2) s2 r2 q2, fun σ2 ρ2 H2 S2 m2 e2 s2 r2 q2 => k4 σ2 ρ2 H2 S2 m2 (e.trans e2) s2 r2 q2⟩, k2, k3, k4⟩
theorem dss_one (h1 : PS X st (tsOf X.K ws)) : PSs X [st] (tsOf X.K ws) := L2.pss_one h1
theorem ds_pass : PS X (.Pass pos) (tsOf X.K sNext) := psI L2.ps_pass fun D σ H ⟨ρ, S, m, E, hE, hS, h, k, _⟩ => k σ ρ H S m (Ext.refl _ _) hS hE h
theorem ds_break : PS X (.Break pos) (tsOf X.K sBreak) := psI L2.ps_break fun D σ H ⟨ρ, S, m, E, hE, hS, h, _, _, k, _⟩ => k σ ρ H S m (Ext.refl _ _) hS hE h
theorem ds_continue : PS X (.Continue pos) (tsOf X.K sCont) := psI L2.ps_continue fun D σ H ⟨ρ, S, m, E, hE, hS, h, _, _, _, k⟩ => k σ ρ H S m (Ext.refl _ _) hS hE h
theorem ds_expr (he : PE X e (teOf X.K wa)) (hs : swapsWith e none pos.line X.env = pure false := by rfl) : PS X (.Expr e pos) (tsOf X.K (sDrop wa)) :=
  psI (L2.ps_expr he hs) fun D σ H ⟨ρ, S, m, E, hE, hS, h, k, _⟩ => ⟨ρ, S, m, _, hE, hS, h, fun v d H1 S1 m1 e1 s1 r1 q1 => k σ ρ H1 S1 m1 e1 s1 (hE.ext e1) q1⟩
theorem ds_ret (he : PE X e (teOf X.K wa)) : PS X (.Return (some e) pos) (tsOf X.K (sRet wa)) :=
  psI (L2.ps_ret he) fun D σ H ⟨ρ, S, m, E, hE, hS, h, _, k, _⟩ => ⟨ρ, S, m, E.rt, hE, hS, h, k⟩
theorem ds_retN : PS X (.Return none pos) (tsOf X.K sRetN) :=
  psI L2.ps_retN fun D σ H ⟨ρ, S, m, E, hE, hS, h, _, k, _⟩ => k _ .non H S m (Ext.refl _ _) hS rfl h
theorem ds_if {c : Expr} {a b : List Stmt} {tc : WT} (hc : PT X c (ttOf X.K tc)) (ha : PSs X a (tsOf X.K ws)) (hb : PSs X b (tsOf X.K wu)) : PS X (.If c a b pos) (tsOf X.K (sIf tc ws wu)) :=
  psI (L2.ps_if hc ha hb) fun D σ H ⟨ρ, S, m, E, hE, hS, h, k1, k2, k3, k4⟩ => ⟨ρ, S, m, _, hE, hS, h, fun c H1 S1 m1 e1 s1 q => by
    have q : if c = true then ws E ρ S1 else wu E ρ S1 := q
    have go : ∀ w : WS, w E ρ S1 → tsOf X.K w D σ H1 := fun w q => ⟨ρ, S1, m1, E, hE.ext e1, s1, q, fun σ2 ρ2 H2 S2 m2 e2 s2 r2 q2 => k1 σ2 ρ2 H2 S2 m2 (e1.trans e2) s2 r2 q2, k2.ext e1, fun σ2 ρ2 H2 S2 m2 e2 s2 r2 q2 => k3 σ2 ρ2 H2 S2 m2 (e1.trans e2) s2 r2 q2, fun σ2 ρ2 H2 S2 m2 e2 s2 r2 q2 => k4 σ2 ρ2 H2 S2 m2 (e1.trans e2) s2 r2 q2⟩
    show if c = true then tsOf X.K ws D σ H1 else tsOf X.K wu D σ H1
    by_cases hb : c = true
    · rw [if_pos hb] at q ⊢
      exact go _ q
    · rw [if_neg hb] at q ⊢
      exact go _ q⟩
theorem ds_never : PS X st (tsOf X.K sNever) := psI L2.ps_never fun D σ H ⟨ρ, S, m, E, hE, hS, h, _⟩ => h
theorem dss_never {sts : List Stmt} : PSs X sts (tsOf X.K sNever) := pssI L2.pss_never fun D σ H ⟨ρ, S, m, E, hE, hS, h, _⟩ => h
theorem ds_asg {tg : Expr} {vs : List Nat} {g : WG} (he : PE X e (teOf X.K wa)) (hg : PG X tg (tgOf X.K vs g)) (hs : swapsWithSole [tg] e pos.line X.env = pure false := by rfl) (hw : swappedStores [tg] e X.env = pure none := by rfl)
    (h1 : (assignEach [tg] X.env).map (·.2) = [assign tg X.env] := by rfl) : PS X (.Assign [tg] e pos) (tsOf X.K (sAsg wa g)) :=
  psI (L2.ps_asg he hg hs hw h1) fun D σ H ⟨ρ, S, m, E, hE, hS, h, k, _⟩ => ⟨ρ, S, m, _, hE, hS, h, fun v d H1 S1 m1 e1 s1 r1 q1 => ⟨d, ρ, S1, m1, E.nx, hE.ext e1, s1, r1, q1, fun σ' ρ' S' m' H' _ e2 s2 r2 q2 => k σ' ρ' H' S' m' (e1.trans e2) s2 r2 q2⟩⟩
theorem ds_set (i : Nat) {x : Str} {pos' : Pos} (hN : X.N.Nodup) (he : PE X e (teOf X.K wa)) (hi : X.N[i]? = some x := by rfl) (hx : L2.Loc X.env.scope x := by first | exact Or.inl rfl | exact Or.inr rfl) (hs : swapsWith e (some (.Name x pos')) pos.line X.env = pure false := by rfl)
    (hf : X.fn x = true ∨ X.env.scope.names.lookup x = some .local := by first | exact .inl rfl | exact .inr rfl | assumption) : PS X (.Assign [.Name x pos'] e pos) (tsOf X.K (sAsg wa (gN i))) :=
  psI (L2.ps_set hN hi hx he hs hf) fun D σ H ⟨ρ, S, m, E, hE, hS, h, k, _⟩ => ⟨ρ, S, m, _, hE, hS, h, fun v d H1 S1 m1 e1 s1 r1 q1 => k _ _ H1 S1 m1 e1 s1 ((hE.ext e1).set r1 i) q1⟩
theorem ds_par (i j : Nat) {x y : Str} {px py pt : Pos} {kt k2 pt2} (hc : X.calm = true) (hN : X.N.Nodup) (ha : PE X a (teOf X.K wa)) (hb : PE X b (teOf X.K wb)) (hi : X.N[i]? = some x := by rfl) (hj : X.N[j]? = some y := by rfl) (hij : i ≠ j := by decide)
    (hx : X.env.scope.names.lookup x = some .local := by rfl) (hy : X.env.scope.names.lookup y = some .local := by rfl)
    (hw : swappedStores [.Tuple [.Name x px, .Name y py] kt pt] (.Tuple [a, b] k2 pt2) X.env = pure (some [x, y]) := by rfl)
    (hs : swapsWithSole [.Tuple [.Name x px, .Name y py] kt pt] (.Tuple [a, b] k2 pt2) pos.line X.env = pure false := by rfl)
    (e1 : starEach [a, b] X.env = (false, eval a X.env) :: starEach [b] X.env := by rfl) (e2 : starEach [b] X.env = (false, eval b X.env) :: starEach [] X.env := by rfl) :
    PS X (.Assign [.Tuple [.Name x px, .Name y py] kt pt] (.Tuple [a, b] k2 pt2) pos) (tsOf X.K (sPar i j wa wb)) :=
  psI (L2.ps_par hc hN hi hj hij hx hy (da_cons ha (da_cons hb da_nil e2) e1) hw hs) fun D σ H ⟨ρ, S, m, E, hE, hS, h, k, _⟩ =>
    ⟨ρ, S, m, fun ds S2 => match ds with
      | [d, d2] => E.nx (up (up ρ i (some d)) j (some d2)) S2
      | _ => False, hE, hS, h, fun vs ds H2 S2 m2 e s r q => by
      match ds, q, r with
      | [d, d2], q, ⟨v, r', hv, rv, ⟨v2, r2, hv2, rv2, rn⟩⟩ =>
        rw [show r2 = [] from rn] at hv2
        rw [hv2] at hv
        exact ⟨v, v2, hv, k _ _ H2 S2 m2 e s (((hE.ext e).set rv i).set rv2 j) q⟩⟩
theorem ds_aug (i : Nat) {x : Str} {op : Operator} {r : R2} {pos' : Pos} (hN : X.N.Nodup) (ho : OpR X (inplaceOp op) (r2Of X.K r)) (he : PE X e (teOf X.K wa)) (hi : X.N[i]? = some x := by rfl) (hx : L2.Loc X.env.scope x := by first | exact Or.inl rfl | exact Or.inr rfl)
    (hf : X.fn x = true ∨ X.env.scope.names.lookup x = some .local := by first | exact .inl rfl | exact .inr rfl | assumption) : PS X (.AugAssign (.Name x pos') op e pos) (tsOf X.K (sAug i wa r)) :=
  psI (L2.ps_aug hN hi hx he ho hf) fun D σ H ⟨ρ, S, m, E, hE, hS, h, k, _⟩ => by
    unfold sAug at h
    cases el : lk ρ i with
    | none => rw [el] at h; exact h.elim
    | some d =>
      rw [el] at h
      obtain ⟨v, h1, h2⟩ := hE.get i d el
      exact ⟨v, h1, ρ, S, m, _, hE, hS, h, fun u y H1 S1 m1 e1 s1 r1 q1 => ⟨m1, S1, d, y, _, s1, Rep.ext e1 _ _ h2, r1, q1, fun w z H2 S2 m2 e2 s2 r2 q2 => k _ _ H2 S2 m2 (e1.trans e2) s2 ((hE.ext (e1.trans e2)).set r2 i) q2⟩⟩
def rpOf (K : PySem.W.Frag) (r : D → D → D → Sto → (Sto → Prop) → Prop) : V → V → V → Hp → (Hp → Prop) → Prop := fun o i v H Q => ∃ m S x k d R, RepS K H m S ∧ Rep K H m x o ∧ Rep K H m k i ∧ Rep K H m d v ∧ r x k d S R ∧
  ∀ H' S' m', Ext m H m' H' → RepS K H' m' S' → R S' → Q H'
theorem ds_sub {o i : Expr} {wo wi : WE} {r : D → D → D → Sto → (Sto → Prop) → Prop} {spos : Pos} (hp : L2.PSet X (rpOf X.K r)) (he : PE X e (teOf X.K wa)) (ho : PE X o (teOf X.K wo)) (hi : PE X i (teOf X.K wi))
    (ha : ∀ v, assign (.Subscript o i spos) X.env v = (do
      let ov ← holding [v] (eval o X.env)
      let iv ← holding [v, ov] (eval i X.env)
      standAt spos
      holding [v, ov, iv] (setItem ov iv v)
      release [v, ov, iv] []) := by intro _; rfl)
    (hs : swapsWithSole [.Subscript o i spos] e pos.line X.env = pure false := by rfl) (hw : swappedStores [.Subscript o i spos] e X.env = pure none := by rfl)
    (h1 : (assignEach [.Subscript o i spos] X.env).map (·.2) = [assign (.Subscript o i spos) X.env] := by rfl) : PS X (.Assign [.Subscript o i spos] e pos) (tsOf X.K (sSub r wa wo wi)) :=
  psI (L2.ps_asg he (L2.pg_sub ho hi hp ha) hs hw h1) fun D σ H ⟨ρ, S, m, E, hE, hS, h, k, _⟩ => ⟨ρ, S, m, _, hE, hS, h, fun v d H1 S1 m1 e1 s1 r1 q1 => ⟨ρ, S1, m1, _, hE.ext e1, s1, q1, fun v2 x H2 S2 m2 e2 s2 r2 q2 =>
    ⟨ρ, S2, m2, _, hE.ext (e1.trans e2), s2, q2, fun v3 j H3 S3 m3 e3 s3 r3 q3 => ⟨m3, S3, x, j, d, _, s3, Rep.ext e3 _ _ r2, r3, Rep.ext (e2.trans e3) _ _ r1, q3, fun H4 S4 m4 e4 s4 q4 =>
      k σ ρ H4 S4 m4 (e1.trans (e2.trans (e3.trans e4))) s4 (hE.ext (e1.trans (e2.trans (e3.trans e4)))) q4⟩⟩⟩⟩
def rgOf (K : PySem.W.Frag) (r : R2) : V → V → Hp → L2.VK → Prop := r2Of K r
theorem ds_augSub {o i : Expr} {wo wi : WE} {rg ro : R2} {rs : D → D → D → Sto → (Sto → Prop) → Prop} {op : Operator} {spos : Pos} (hg : L2.PGet X (r2Of X.K rg)) (hop : OpR X (inplaceOp op) (r2Of X.K ro)) (hp : L2.PSet X (rpOf X.K rs))
    (ho : PE X o (teOf X.K wo)) (hi : PE X i (teOf X.K wi)) (he : PE X e (teOf X.K wa))
    (ha : ∀ ov iv new, augStore i ov iv new = (do holding [new, ov, iv] (setItem ov iv new); release [new, ov, iv] []; pure .next) := by intros; rfl) :
    PS X (.AugAssign (.Subscript o i spos) op e pos) (tsOf X.K (sAugSub rg ro rs wo wi wa)) :=
  psI (L2.ps_augS ho hi hg he hop hp ha) fun D σ H ⟨ρ, S, m, E, hE, hS, h, k, _⟩ => ⟨ρ, S, m, _, hE, hS, h, fun v x H1 S1 m1 e1 s1 r1 q1 => ⟨ρ, S1, m1, _, hE.ext e1, s1, q1, fun v2 j H2 S2 m2 e2 s2 r2 q2 =>
    ⟨m2, S2, x, j, _, s2, Rep.ext e2 _ _ r1, r2, q2, fun v3 z H3 S3 m3 e3 s3 r3 q3 => ⟨ρ, S3, m3, _, hE.ext (e1.trans (e2.trans e3)), s3, q3, fun v4 y H4 S4 m4 e4 s4 r4 q4 => ⟨m4, S4, z, y, _, s4, Rep.ext e4 _ _ r3, r4, q4, fun v5 u H5 S5 m5 e5 s5 r5 q5 =>
      ⟨m5, S5, x, j, u, _, s5, Rep.ext (e2.trans (e3.trans (e4.trans e5))) _ _ r1, Rep.ext (e3.trans (e4.trans e5)) _ _ r2, r5, q5, fun H6 S6 m6 e6 s6 q6 =>
        k σ ρ H6 S6 m6 (e1.trans (e2.trans (e3.trans (e4.trans (e5.trans e6))))) s6 (hE.ext (e1.trans (e2.trans (e3.trans (e4.trans (e5.trans e6)))))) q6⟩⟩⟩⟩⟩⟩

/-! ### loops -/
theorem ds_for {iter : Expr} {body : List Stmt} {wi : WI} {vs : List Nat} {g : WG} (hc : X.calm = true) (hp : PassesOwn (model X.prog X.w) X.A X.env X.xe) (hi : PI X tg iter (tiOf X.K wi)) (hg : PG X tg (tgOf X.K vs g)) (hb : PSs X body (tsOf X.K ws))
    (hs : ∀ x, foldedSetIterable iter X.env x = pure x := by intro _; rfl) : PS X (.For tg iter body [] pos) (tsOf X.K (sFor wi g ws)) :=
  psI (L2.ps_for hp hc hi hg hb hs) fun D σ H ⟨ρ, S, m, E, hE, hS, h, k1, k2, k3, k4⟩ => ⟨ρ, S, m, _, hE, hS, h, fun J items guard S1 m1 H1 e1 s1 y ⟨I, i0, ig, it, ie⟩ => by
    refine ⟨fun i n σ' H' => n = items.length - i ∧ ∃ ρ' S' m', Ext m1 H1 m' H' ∧ RepS X.K H' m' S' ∧ RepE X.K H' m' ρ' σ' ∧ I i ρ' S' ∧ i ≤ items.length, ⟨_, rfl, ρ, S1, m1, Ext.refl _ _, s1, hE.ext e1, i0, Nat.zero_le _⟩, ?_⟩
    rintro i n σ2 H2 ⟨hn, ρ2, S2, m2, e2, s2, r2, hI, hle⟩
    obtain ⟨yg, ys⟩ := y m2 H2 S2 e2 s2 (ig _ _ _ hI)
    by_cases hlt : i < items.length
    · obtain ⟨go, yd⟩ := yg i items[i] (List.getElem?_eq_getElem hlt)
      refine .inr ⟨go, fun σ' H' => ∃ ρ' S' m', Ext m1 H1 m' H' ∧ RepS X.K H' m' S' ∧ RepE X.K H' m' ρ' σ' ∧ I (i + 1) ρ' S', fun σ' H' ⟨ρ', S', m', e', s', r', hI'⟩ => ⟨_, by omega, rfl, ρ', S', m', e', s', r', hI', hlt⟩, fun x H' hy => ?_⟩
      obtain ⟨m3, e3, s3, rx⟩ := yd x H' hy
      refine ⟨items[i], ρ2, S2, m3, _, r2.ext e3, s3, rx, it i _ ρ2 S2 (List.getElem?_eq_getElem hlt) hI, fun σ4 ρ4 S4 m4 H4 _ e4 s4 r4 q4 => ⟨ρ4, S4, m4, _, r4, s4, q4, fun σ5 ρ5 H5 S5 m5 e5 s5 r5 q5 => ⟨ρ5, S5, m5, e2.trans (e3.trans (e4.trans e5)), s5, r5, q5⟩,
        (k2.ext (e1.trans (e2.trans (e3.trans e4)))), fun σ5 ρ5 H5 S5 m5 e5 s5 r5 q5 => k1 σ5 ρ5 H5 S5 m5 (e1.trans (e2.trans (e3.trans (e4.trans e5)))) s5 r5 q5, fun σ5 ρ5 H5 S5 m5 e5 s5 r5 q5 => ⟨ρ5, S5, m5, e2.trans (e3.trans (e4.trans e5)), s5, r5, q5⟩⟩⟩
    · have ei : i = items.length := by omega
      subst ei
      exact .inl ⟨ys _ (Nat.le_refl _), k1 σ2 ρ2 H2 S2 m2 (e1.trans e2) s2 r2 (ie _ _ hI)⟩⟩
theorem ds_while {c : Expr} {body : List Stmt} {tc : WT} (hp : PassesOwn (model X.prog X.w) X.A X.env X.xe) (hc : PT X c (ttOf X.K tc)) (hb : PSs X body (tsOf X.K ws)) : PS X (.While c body [] pos) (tsOf X.K (sWhile tc ws)) :=
  psI (L2.ps_while hp hc hb) fun D σ H ⟨ρ, S, m, E, hE, hS, ⟨I, ⟨n0, i0⟩, it⟩, k1, k2, k3, k4⟩ => by
    refine ⟨fun n σ' H' => ∃ ρ' S' m', Ext m H m' H' ∧ RepS X.K H' m' S' ∧ RepE X.K H' m' ρ' σ' ∧ I n ρ' S', ⟨n0, ρ, S, m, Ext.refl _ _, hS, hE, i0⟩, ?_⟩
    rintro n σ2 H2 ⟨ρ2, S2, m2, e2, s2, r2, hI⟩
    refine ⟨ρ2, S2, m2, _, r2, s2, it n ρ2 S2 hI, fun b H3 S3 m3 e3 s3 q => ?_⟩
    by_cases hbt : b = true
    · rw [if_pos hbt] at q ⊢
      refine ⟨fun σ' H' => ∃ n', n' < n ∧ ∃ ρ' S' m', Ext m H m' H' ∧ RepS X.K H' m' S' ∧ RepE X.K H' m' ρ' σ' ∧ I n' ρ' S', fun σ' H' h => h, ρ2, S3, m3, _, r2.ext e3, s3, q, fun σ5 ρ5 H5 S5 m5 e5 s5 r5 ⟨n', hn, q5⟩ => ⟨n', hn, ρ5, S5, m5, e2.trans (e3.trans e5), s5, r5, q5⟩,
        k2.ext (e2.trans e3), fun σ5 ρ5 H5 S5 m5 e5 s5 r5 q5 => k1 σ5 ρ5 H5 S5 m5 (e2.trans (e3.trans e5)) s5 r5 q5, fun σ5 ρ5 H5 S5 m5 e5 s5 r5 ⟨n', hn, q5⟩ => ⟨n', hn, ρ5, S5, m5, e2.trans (e3.trans e5), s5, r5, q5⟩⟩
    · rw [if_neg hbt] at q ⊢
      exact k1 σ2 ρ2 H3 S3 m3 (e2.trans e3) s3 (r2.ext e3) q
end
end DL
set_option Elab.async false
set_option linter.all false
set_option maxRecDepth 100000
set_option maxHeartbeats 4000000
/-! DL4: comprehensions, defs, the script. -/
namespace DL
open PySem PySem.Spec
open L2 (V Hp HO St TE TT TA TS TG TI TO PE PT PW PA PS PSs PG PI PO Cx Inv RelV Vals SqL SqT Rd upd upd_same upd_ne ne_of ne_of_none OpR UnR CallR MtR IxR SlR It thn)
section
variable {K : PySem.W.Frag} {m m' m1 : List Addr} {H H' H1 : Hp} {S S' : Sto}
/-- places stay, all but lists stay -/
structure Ex0 (m : List Addr) (H : Hp) (m' : List Addr) (H' : Hp) : Prop where
  pre : ∀ (n : Nat) (a : Addr), m[n]? = some a → m'[n]? = some a
  lst : ∀ (b : Addr) (o : HO), H b = some o → (∀ xs, o ≠ .lst xs) → H' b = some o
theorem Ex0.sqT (e : Ex0 m H m' H') {a : Addr} {vs : List V} (h : SqT K H a vs) : SqT K H' a vs := by
  rcases h with (h | ⟨o, h⟩) | h
  · exact .inl (.inl (e.lst _ _ h fun _ z => nomatch z))
  · exact .inl (.inr ⟨o, e.lst _ _ h fun _ z => nomatch z⟩)
  · exact .inr h
theorem Ex0.ro (e : Ex0 m H m' H') {a : Addr} {vs : List V} (h : RoL K H a vs) : RoL K H' a vs := by
  rcases h with ⟨o, h⟩ | h
  · exact .inl ⟨o, e.lst _ _ h fun _ z => nomatch z⟩
  · exact .inr h
mutual
theorem Rep.ext0 (e : Ex0 m H m' H') : ∀ (d : D) (v : V), Rep K H m d v → Rep K H' m' d v
  | .non, _, h => h
  | .bl _, _, h => h
  | .int _, _, h => h
  | .str _, _, h => h
  | .ty _, _, h => h
  | .ref _, _, ⟨a, h1, h2⟩ => ⟨a, e.pre _ _ h1, h2⟩
  | .tup ds, _, ⟨a, vs, h1, h2, h3⟩ => ⟨a, vs, h1, e.sqT h2, Reps.ext0 e ds vs h3⟩
  | .rol ds, _, ⟨a, vs, h1, h2, h3⟩ => ⟨a, vs, h1, e.ro h2, Reps.ext0 e ds vs h3⟩
theorem Reps.ext0 (e : Ex0 m H m' H') : ∀ (ds : List D) (vs : List V), Reps K H m ds vs → Reps K H' m' ds vs
  | [], _, h => h
  | d :: ds, _, ⟨v, r, h1, h2, h3⟩ => ⟨v, r, h1, Rep.ext0 e d v h2, Reps.ext0 e ds r h3⟩
end
/-- a list beside the store is written -/
theorem Ex0.side {a : Addr} {vs us : List V} (h : H a = some (.lst vs)) : Ex0 m H m (upd H a (.lst us)) where
  pre := fun _ _ h => h
  lst := fun b o q hl => by
    have hne : b ≠ a := fun z => by
      rw [z, h] at q
      exact hl vs (Option.some.inj q).symm
    rw [upd_ne hne]
    exact q
theorem RepS.side {a : Addr} {vs us : List V} (s : RepS K H m S) (h : H a = some (.lst vs)) (hn : a ∉ m) : RepS K (upd H a (.lst us)) m S where
  len := s.len
  nd := s.nd
  obj := fun n o e => by
    obtain ⟨b, h1, h2⟩ := s.obj n o e
    refine ⟨b, h1, ?_⟩
    have hne : b ≠ a := fun z => hn (by rw [← z]; exact List.mem_of_getElem? h1)
    cases o with
    | lst ds =>
      obtain ⟨ws, g1, g2⟩ := h2
      exact ⟨ws, by rw [upd_ne hne]; exact g1, Reps.ext0 (Ex0.side h) _ _ g2⟩
    | dic _ => exact h2.elim
theorem Ext.side {a : Addr} {o : HO} (e : Ext m H m' H') (h : H a = none) (hn : a ∉ m') : Ext m H m' (upd H' a o) where
  pre := e.pre
  keep := fun b u q hb => by rw [upd_ne (ne_of_none q h)]; exact e.keep b u q hb
  new := e.new
  lst := fun b u q hl => by rw [upd_ne (ne_of_none q h)]; exact e.lst b u q hl
/-- a list beside the store stands -/
theorem Ext.own {a : Addr} {o : HO} (e : Ext m H m' H') (h : H a = some o) (hn : a ∉ m) : H' a = some o ∧ a ∉ m' :=
  ⟨e.keep a o h hn, fun z => by
    rcases e.new a z with q | q
    · exact hn q
    · rw [h] at q; cases q⟩
theorem Ext.adopt {a : Addr} (e : Ext m H m' H') (h : H a = none) : Ext m H (m' ++ [a]) H' where
  pre := fun n b q => by
    have z := e.pre n b q
    rw [List.getElem?_append_left (List.getElem?_eq_some_iff.mp z).1]
    exact z
  keep := e.keep
  new := fun b hb => by
    rcases List.mem_append.mp hb with z | z
    · exact e.new b z
    · rw [List.mem_singleton.mp z]; exact .inr h
  lst := e.lst
theorem RepS.adopt {a : Addr} {ds : List D} {vs : List V} (s : RepS K H m S) (h : H a = some (.lst vs)) (hn : a ∉ m) (r : Reps K H m ds vs) : RepS K H (m ++ [a]) (S ++ [.lst ds]) where
  len := by rw [List.length_append, List.length_append, s.len]; rfl
  nd := fun i j b h1 h2 => by
    have pos : ∀ (i : Nat) (b : Addr), (m ++ [a])[i]? = some b → (m[i]? = some b ∧ b ≠ a) ∨ (i = m.length ∧ b = a) := fun i b e => by
      by_cases hi : i < m.length
      · rw [List.getElem?_append_left hi] at e
        exact .inl ⟨e, fun z => hn (by rw [← z]; exact List.mem_of_getElem? e)⟩
      · have hi' := (List.getElem?_eq_some_iff.mp e).1
        rw [List.length_append] at hi'
        have : i = m.length := by simp at hi'; omega
        subst this
        simp at e
        exact .inr ⟨rfl, e.symm⟩
    rcases pos i b h1 with ⟨e1, n1⟩ | ⟨e1, n1⟩ <;> rcases pos j b h2 with ⟨e2, n2⟩ | ⟨e2, n2⟩
    · exact s.nd i j b e1 e2
    · exact absurd n2 n1
    · exact absurd n1 n2
    · rw [e1, e2]
  obj := fun n u e => by
    have ex : Ex0 m H (m ++ [a]) H := ⟨fun n b q => by rw [List.getElem?_append_left (List.getElem?_eq_some_iff.mp q).1]; exact q, fun _ _ q _ => q⟩
    by_cases hl : n < S.length
    · rw [List.getElem?_append_left hl] at e
      obtain ⟨b, h1, h2⟩ := s.obj n u e
      refine ⟨b, ex.pre _ _ h1, ?_⟩
      cases u with
      | lst ds =>
        obtain ⟨ws, h2, h3⟩ := h2
        exact ⟨ws, h2, Reps.ext0 ex _ _ h3⟩
      | dic _ => exact h2.elim
    · have hi' := (List.getElem?_eq_some_iff.mp e).1
      rw [List.length_append] at hi'
      have : n = S.length := by simp at hi'; omega
      subst this
      simp at e
      subst e
      exact ⟨a, by rw [← s.len]; simp, vs, h, Reps.ext0 ex _ _ r⟩
end
theorem wipe_idem (σ : St) (vs : List Nat) : L2.wipe (L2.wipe σ vs) vs = L2.wipe σ vs := by
  apply List.ext_getElem?
  intro j
  rw [wipe_get, wipe_get, L2.wipe_length]
  by_cases hj : j ∈ vs
  · rw [if_pos hj, if_pos hj]
  · rw [if_neg hj, if_neg hj]
theorem szL_eq : szL = sizeLine := by rfl
section
variable {X : Cx}
theorem dts_nil : L2.PTs X [] (ttOf X.K wtYes) := ⟨fun pins s σ H Q I ⟨ρ, S, m, R, hE, hS, h, k⟩ => L2.pts_nil.run pins s σ H Q I (k true H S m (Ext.refl _ _) hS h)⟩
theorem dts_one {c : Expr} {t : WT} (h : PT X c (ttOf X.K t)) : L2.PTs X [c] (ttOf X.K t) := L2.pts_one h
theorem lc_read {wi : WI} {g : WG} {tt : WT} {te : WE} {vs : List Nat} (K : PySem.W.Frag) (σ : St) (H : Hp) (Q : L2.VK) (h : teOf K (wLc wi g tt te vs) σ H Q) : L2.tLc (tiOf K wi) (tgOf K vs g) (ttOf K tt) (teOf K te) vs σ H Q := by
  obtain ⟨ρ, S, m, R, hE, hS, h, k⟩ := h
  refine ⟨ρ, S, m, _, hE, hS, h, fun J items guard S1 m1 H1 e1 s1 y ⟨hz, I, i0, ig, it, ie⟩ D hD => ?_⟩
  have nD := s1.notin hD
  refine ⟨fun i n H' => n = items.length - i ∧ ∃ S' m' acc av, Ext m1 H1 m' H' ∧ RepS K H' m' S' ∧ D ∉ m' ∧ H' D = some (.lst av) ∧ Reps K H' m' acc av ∧ acc.length ≤ i ∧ I i acc S' ∧ i ≤ items.length,
    ⟨_, rfl, S1, m1, [], [], Ext.fresh hD _, s1.fresh hD _, nD, upd_same, rfl, Nat.le_refl _, i0, Nat.zero_le _⟩, ?_⟩
  rintro i n H2 ⟨hn, S2, m2, acc, av, e2, s2, n2, a2, r2, hl, hI, hle⟩
  obtain ⟨yg, ys⟩ := y m2 H2 S2 e2 s2 (ig _ _ _ hI)
  by_cases hlt : i < items.length
  · obtain ⟨go, yd⟩ := yg i items[i] (List.getElem?_eq_getElem hlt)
    refine .inr ⟨go, fun H' => ∃ S' m' acc av, Ext m1 H1 m' H' ∧ RepS K H' m' S' ∧ D ∉ m' ∧ H' D = some (.lst av) ∧ Reps K H' m' acc av ∧ acc.length ≤ i + 1 ∧ I (i + 1) acc S', fun H' ⟨S', m', acc', av', q1, q2, q3, q4, q5, q6, q7⟩ => ⟨_, by omega, rfl, S', m', acc', av', q1, q2, q3, q4, q5, q6, q7, hlt⟩, fun x H' hy => ?_⟩
    obtain ⟨m3, e3, s3, rx⟩ := yd x H' hy
    obtain ⟨a3, n3⟩ := e3.own a2 n2
    refine ⟨items[i], wipe ρ vs, S2, m3, _, (hE.ext (e1.trans (e2.trans e3))).wipe vs, s3, rx, it i _ acc S2 (List.getElem?_eq_getElem hlt) hI, fun σ4 ρ4 S4 m4 H4 w4 e4 s4 r4 q4 => ⟨by rw [w4, wipe_idem], ρ4, S4, m4, _, r4, s4, q4, fun b H5 S5 m5 e5 s5 q5 => ?_⟩⟩
    obtain ⟨a4, n4⟩ := e4.own a3 n3
    obtain ⟨a5, n5⟩ := e5.own a4 n4
    by_cases hb : b = true
    · rw [if_pos hb] at q5 ⊢
      refine ⟨ρ4, S5, m5, _, r4.ext e5, s5, q5, fun v d H6 S6 m6 e6 s6 r6 q6 => ?_⟩
      obtain ⟨a6, n6⟩ := e6.own a5 n5
      have racc := Reps.ext (e3.trans (e4.trans (e5.trans e6))) _ _ r2
      refine ⟨av, a6, by rw [racc.len, ← szL_eq]; omega, S6, m6, acc ++ [d], av ++ [v], (e2.trans (e3.trans (e4.trans (e5.trans e6)))).side hD n6, s6.side a6 n6, n6, upd_same, ?_, by rw [List.length_append]; simp; omega, q6⟩
      exact Reps.app (Reps.ext0 (Ex0.side a6) _ _ racc) (Reps.one (Rep.ext0 (Ex0.side a6) _ _ r6))
    · rw [if_neg hb] at q5 ⊢
      exact ⟨S5, m5, acc, av, e2.trans (e3.trans (e4.trans e5)), s5, n5, a5, Reps.ext (e3.trans (e4.trans e5)) _ _ r2, by omega, by simpa using q5⟩
  · have ei : i = items.length := by omega
    subst ei
    refine .inl ⟨ys _ (Nat.le_refl _), k _ (.ref S2.length) H2 (S2 ++ [.lst acc]) (m2 ++ [D]) (e1.trans (e2.adopt hD)) (s2.adopt a2 n2 r2) ⟨D, by rw [← s2.len]; simp, rfl⟩ (ie _ _ hI)⟩
theorem d_lc {elt tg iter : Expr} {ifs : List Expr} {scope : Scope} {own : List (Str × Nat)} {pos : Pos} {wi : WI} {g : WG} {tt : WT} {te : WE} (hc : X.calm = true) (hN : X.N.Nodup) (hi : PI X tg iter (tiOf X.K wi)) (ok : L2.BlkOk X.N X.env.scope scope own)
    (hg : ∀ (s : Shared) (H : Hp) (C : Addr) (cl : List (Str × Addr)) (fp : List Addr), PG (X.blk s H scope (compEnvC scope cl C X.env) fp) tg (tgOf X.K (own.map (·.2)) g))
    (ht : ∀ (s : Shared) (H : Hp) (C : Addr) (cl : List (Str × Addr)) (fp : List Addr), L2.PTs (X.blk s H scope (compEnvC scope cl C X.env) fp) ifs (ttOf X.K tt))
    (he : ∀ (s : Shared) (H : Hp) (C : Addr) (cl : List (Str × Addr)) (fp : List Addr), PE (X.blk s H scope (compEnvC scope cl C X.env) fp) elt (teOf X.K te)) (hs : ∀ x, foldedSetIterable iter X.env x = pure x := by intro _; rfl) :
    PE X (.ListComp elt [⟨tg, iter, ifs, 0⟩] scope pos) (teOf X.K (wLc wi g tt te (own.map (·.2)))) :=
  peI (L2.pe_lc hc hN hi ok hg ht he hs) fun σ H Q h => lc_read X.K σ H Q h
/-- name = [..] on one line, the name a local -/
theorem ds_setLc (i : Nat) {y : Str} {py : Pos} {elt tg iter : Expr} {ifs : List Expr} {scope : Scope} {own : List (Str × Nat)} {pos spos : Pos} {wi : WI} {g : WG} {tt : WT} {te : WE} (hc : X.calm = true) (hN : X.N.Nodup) (hi : PI X tg iter (tiOf X.K wi)) (ok : L2.BlkOk X.N X.env.scope scope own)
    (hg : ∀ (s : Shared) (H : Hp) (C : Addr) (cl : List (Str × Addr)) (fp : List Addr), PG (X.blk s H scope (compEnvC scope cl C X.env) fp) tg (tgOf X.K (own.map (·.2)) g))
    (ht : ∀ (s : Shared) (H : Hp) (C : Addr) (cl : List (Str × Addr)) (fp : List Addr), L2.PTs (X.blk s H scope (compEnvC scope cl C X.env) fp) ifs (ttOf X.K tt))
    (he : ∀ (s : Shared) (H : Hp) (C : Addr) (cl : List (Str × Addr)) (fp : List Addr), PE (X.blk s H scope (compEnvC scope cl C X.env) fp) elt (teOf X.K te))
    (hsw : swapsWith (.ListComp elt [⟨tg, iter, ifs, 0⟩] scope pos) (some (.Name y py)) spos.line X.env = pure true) (hy : X.N[i]? = some y := by rfl) (hyl : X.env.scope.names.lookup y = some .local := by rfl)
    (hs : ∀ x, foldedSetIterable iter X.env x = pure x := by intro _; rfl) :
    PS X (.Assign [.Name y py] (.ListComp elt [⟨tg, iter, ifs, 0⟩] scope pos) spos) (tsOf X.K (sAsg (wLc wi g tt te (own.map (·.2))) (gN i))) :=
  psI (L2.ps_setLc hc hN hy hyl hsw hi ok hg ht he hs) fun Dd σ H ⟨ρ, S, m, E, hE, hS, h, k, _⟩ => lc_read X.K σ H _ ⟨ρ, S, m, _, hE, hS, h, fun v d H1 S1 m1 e1 s1 r1 q1 => k _ _ H1 S1 m1 e1 s1 ((hE.ext e1).set r1 i) q1⟩
end

/-! ### defs -/
theorem lk_start : ∀ (ds : List D) (n i : Nat) (d : D), lk (ds.map some ++ List.replicate n none) i = some d → ds[i]? = some d
  | [], n, i, d, h => by
    exfalso
    rw [List.map_nil, List.nil_append] at h
    induction n generalizing i with
    | zero => cases (show (none : Option D) = some d from h)
    | succ n ih =>
      rw [List.replicate_succ] at h
      cases i with
      | zero => cases (show (none : Option D) = some d from h)
      | succ i => exact ih i h
  | x :: ds, n, 0, d, h => by
    have h : some x = some d := h
    cases h
    rfl
  | x :: ds, n, i + 1, d, h => by
    have := lk_start ds n i d h
    simpa using this
theorem rep_start {K : PySem.W.Frag} {H : Hp} {m : List Addr} {ds : List D} {vs : List V} {N : List Str} (r : Reps K H m ds vs) : RepE K H m (start N.length ds) (L2.start N vs) := by
  refine ⟨by simp [start, L2.start, r.len], fun i d h => ?_⟩
  obtain ⟨v, h1, h2⟩ := r.get i d (lk_start _ _ _ _ h)
  refine ⟨v, ?_, h2⟩
  unfold L2.start
  rw [List.getElem?_append_left (by rw [List.length_map]; exact (List.getElem?_eq_some_iff.mp h1).1), List.getElem?_map, h1]
  rfl
section
variable {P : Program} {w : World} {K : PySem.W.Frag} {mg : Str → Option Value} {base : Heap}
/-- THE RULE for a def -/
theorem fn_body {x qual : Str} {st : Stmt} {f : Addr} {fd : FuncData} {N ps : List Str} {k n a : Nat} {sp : Spc} {ws : WS} (F : L2.Fun K x qual st f fd) (Sc : L2.FnScope N ps (L2.defScope st)) (hn : N.length = n) (ha : ps.length = a)
    (hw : ∀ (cdv : Value) (A : Around) (outer : List PySem.Env) (s : Shared) (H : Hp) (E : L2.XK), L2.Room k (A.deeper (PyProof.Rows.envOfC qual (L2.defScope st) s.heap.objs.size f cdv)) →
      PSs (L2.cxOf L2.CX0 P w K mg base N qual (L2.defScope st) f cdv A outer s H E).nox (L2.defBody st) (tsOf K ws)) (hb : Body n a ws sp) : L2.FnOk P w K mg base L2.CX0 (k + 1) f fd ps (spOf K a sp) := by
  refine F.ok Sc (fun vs H Q E ⟨m, S, ds, R, s, r, l, _⟩ => by rw [r.len, l, ha]) (fun cdv A outer s H vs Q E hr ⟨m, S, ds, R, hS, r, l, h, kk⟩ => ⟨_, hw cdv A outer s H E hr, ?_⟩)
  refine ⟨start N.length ds, S, m, { nx := fun _ S' => R .non S', rt := R, bk := fun _ _ => False, ct := fun _ _ => False }, rep_start r, hS, ?_, fun σ' ρ' H' S' m' e s r q => kk .non .non H' S' m' e s rfl q, kk, fun σ' ρ' H' S' m' e s r q => q.elim, fun σ' ρ' H' S' m' e s r q => q.elim⟩
  rw [hn]
  exact hb ds S R l h
/-- a law's promise from that of its def -/
theorem law_sp {sp : Spc} {H : Hp} {a : Addr} {ns : List Int} (hO : L2.Only H) (hS : SqL K H a (ns.map V.int)) (h : sp [.rol (intD ns)] [] fun d _ => d = .bl true) : spOf K 1 sp [.ref a] H (fun v _ => v = .bl true) fun _ _ _ => False := by
  refine ⟨[], [], [.rol (intD ns)], _, ⟨rfl, fun i j a h => by simp at h, fun n o h => by simp at h⟩, ⟨_, [], rfl, ⟨a, _, rfl, ?_, Reps.of_ints⟩, rfl⟩, rfl, h, fun v d H' S' m' e s r q => ?_⟩
  · rcases hS with (h | h) | h
    · rcases hO a with z | ⟨o, xs, z⟩
      · rw [h] at z; cases z
      · rw [h] at z; cases z
    · exact .inl h
    · exact .inr h
  · rw [q] at r
    exact r
end
end DL
set_option Elab.async false
set_option linter.all false
set_option maxRecDepth 100000
set_option maxHeartbeats 4000000
/-! DL5: operations by values. -/
namespace DL
open PySem PySem.Spec
open L2 (V Hp HO St TE TT TA TS TG TI TO PE PT PW PA PS PSs PG PI PO Cx Inv RelV Vals SqL SqT Rd upd upd_same upd_ne ne_of ne_of_none OpR UnR CallR MtR IxR SlR It thn)
section
variable {X : Cx}
/-- a rule between values, from one by the layer -/
theorem r2I {f : Value → Value → Sem Value} {r : L2.R2} {q : R2} (h : OpR X f r) (hi : ∀ x y H Q, r2Of X.K q x y H Q → r x y H Q) : OpR X f (r2Of X.K q) := fun pins s σ H x y v u Q I rx ry hq => h pins s σ H x y v u Q I rx ry (hi _ _ _ _ hq)
theorem r1I {f : Value → Sem Value} {r : V → Hp → L2.VK → Prop} {q : R1} (h : UnR X f r) (hi : ∀ x H Q, r1Of X.K q x H Q → r x H Q) : UnR X f (r1Of X.K q) := fun pins s σ H x v Q I rx hq => h pins s σ H x v Q I rx (hi _ _ _ hq)
theorem rlI {f : Value} {r : List V → Hp → L2.VK → Prop} {q : RL} (h : CallR X f r) (hi : ∀ x H Q, rlOf X.K q x H Q → r x H Q) : CallR X f (rlOf X.K q) := fun pins s σ H x v Q I rx hq => h pins s σ H x v Q I rx (hi _ _ _ hq)
theorem rmI {id : String} {r : V → List V → Hp → L2.VK → Prop} {q : RM} (h : MtR X id r) (hi : ∀ x xs H Q, rmOf X.K q x xs H Q → r x xs H Q) : MtR X id (rmOf X.K q) := fun pins s σ H x xs v us Q I rx rxs hq => h pins s σ H x xs v us Q I rx rxs (hi _ _ _ _ hq)
theorem rix {r : L2.R2} {q : R2} (h : IxR X r) (hi : ∀ x y H Q, r2Of X.K q x y H Q → r x y H Q) : IxR X (r2Of X.K q) := fun e1 e2 pins s σ H x y v u Q I rx ry hq hs => h e1 e2 pins s σ H x y v u Q I rx ry (hi _ _ _ _ hq) hs
theorem rsl {r : V → Option Int → Option Int → Hp → L2.VK → Prop} {q : D → Option Int → Option Int → Sto → VK → Prop} (h : SlR X r) (hi : ∀ x l u H Q, rsOf X.K q x l u H Q → r x l u H Q) : SlR X (rsOf X.K q) := fun pins s σ H x v vl vu lo hi' sl Q I rx hs p1 p2 hq => h pins s σ H x v vl vu lo hi' sl Q I rx hs p1 p2 (hi _ _ _ _ _ hq)
theorem isLst_iff {S : Sto} {n : Nat} {P : List D → Prop} : isLst S n P ↔ ∃ xs, S[n]? = some (.lst xs) ∧ P xs := by
  unfold isLst
  constructor
  · intro h
    split at h
    · rename_i xs e
      exact ⟨xs, e, h⟩
    · exact h.elim
  · rintro ⟨xs, e, h⟩
    rw [e]
    exact h
/-- a new tuple, a new list -/
theorem Kont.tup {K : PySem.W.Frag} {m : List Addr} {H : Hp} {S : Sto} {R : D → Sto → Prop} {Q : V → Hp → Prop} (k : Kont K m H R Q) (s : RepS K H m S) {ds : List D} {vs : List V} (r : Reps K H m ds vs) (q : R (.tup ds) S) : ∀ p, H p = none → Q (.ref p) (upd H p (.tup vs)) :=
  fun p hp => k _ (.tup ds) _ S m (Ext.fresh hp _) (s.fresh hp _) ⟨p, vs, rfl, SqT.of upd_same, Reps.ext (Ext.fresh hp _) _ _ r⟩ q
theorem Kont.lst {K : PySem.W.Frag} {m : List Addr} {H : Hp} {S : Sto} {R : D → Sto → Prop} {Q : V → Hp → Prop} (k : Kont K m H R Q) (s : RepS K H m S) {ds : List D} {vs : List V} (r : Reps K H m ds vs) (q : R (.ref S.length) (S ++ [.lst ds])) : ∀ p, H p = none → Q (.ref p) (upd H p (.lst vs)) :=
  fun p hp => k _ (.ref S.length) _ _ (m ++ [p]) (Ext.pushed hp _) (s.push hp r) ⟨p, by rw [← s.len]; simp, rfl⟩ q
/-- a list written -/
theorem Kont.put {K : PySem.W.Frag} {m : List Addr} {H : Hp} {S : Sto} {R : D → Sto → Prop} {Q : V → Hp → Prop} (k : Kont K m H R Q) (s : RepS K H m S) {n : Nat} {a : Addr} {ds ds' : List D} {vs vs' : List V} {d : D} {v : V} (e : S[n]? = some (.lst ds)) (ha : m[n]? = some a) (hv : H a = some (.lst vs)) (r : Reps K H m ds' vs')
    (rd : Rep K H m d v) (q : R d (S.set n (.lst ds'))) : Q v (upd H a (.lst vs')) :=
  k v d _ _ m (Ext.wrote (List.mem_of_getElem? ha) hv) (s.set e ha r) (Rep.ext (Ext.wrote (List.mem_of_getElem? ha) hv) _ _ rd) q

theorem szL' : szL = sizeLine := szL_eq
theorem o_add : OpR X (binaryOp .Add) (r2Of X.K rAdd) :=
  r2I ((((L2.op_add (X := X)).or L2.op_catA).or L2.op_add_str).or L2.op_cat) fun x y H Q ⟨m, S, d, e, R, s, rx, ry, h, k⟩ => by
    cases d with
    | int i => cases e with
      | int j => exact .inl (.inl (.inl ⟨i, j, rx, ry, k _ (.int (i + j)) H S m (Ext.refl _ _) s rfl h⟩))
      | _ => exact (show False from h).elim
    | tup xs => cases e with
      | tup ys =>
        obtain ⟨a, vs, rfl, hT, r1⟩ := rx
        obtain ⟨b, us, rfl, hU, r2⟩ := ry
        obtain ⟨hz, q⟩ := h
        refine .inl (.inl (.inr ⟨a, b, vs, us, rfl, rfl, hT, hU, by rw [r1.len, r2.len, ← szL']; exact hz, fun e => ?_, fun _ e => ?_, fun _ _ => k.tup s (r1.app r2) q⟩))
        · subst e
          have : xs = [] := List.eq_nil_of_length_eq_zero (by rw [← r1.len]; rfl)
          subst this
          exact k _ (.tup ys) H S m (Ext.refl _ _) s ⟨b, us, rfl, hU, r2⟩ q
        · subst e
          have : ys = [] := List.eq_nil_of_length_eq_zero (by rw [← r2.len]; rfl)
          subst this
          rw [List.append_nil] at q
          exact k _ (.tup xs) H S m (Ext.refl _ _) s ⟨a, vs, rfl, hT, r1⟩ q
      | _ => exact (show False from h).elim
    | str z => cases e with
      | str z' =>
        obtain ⟨hz, q⟩ := h
        exact .inl (.inr ⟨z, z', rx, ry, by rw [← szL']; exact hz, k _ (.str (z ++ z')) H S m (Ext.refl _ _) s rfl q⟩)
      | _ => exact (show False from h).elim
    | ref n => cases e with
      | ref n' =>
        obtain ⟨xs, e1, h⟩ := isLst_iff.mp h
        obtain ⟨ys, e2, hz, q⟩ := isLst_iff.mp h
        obtain ⟨a, vs, h1, h2, h3⟩ := s.lst e1
        obtain ⟨b, us, g1, g2, g3⟩ := s.lst e2
        obtain ⟨a', q1, rfl⟩ := rx
        obtain ⟨b', q2, rfl⟩ := ry
        rw [h1] at q1
        rw [g1] at q2
        cases q1
        cases q2
        exact .inr ⟨a, b, vs, us, rfl, rfl, h2, g2, by rw [h3.len, g3.len, ← szL']; exact hz, k.lst s (h3.app g3) q⟩
      | _ => exact (show False from h).elim
    | _ => exact (show False from h).elim
theorem o_sub : OpR X (binaryOp .Sub) (r2Of X.K rSub) := r2I L2.op_sub fun x y H Q ⟨m, S, d, e, R, s, rx, ry, h, k⟩ => by
  cases d with
  | int i => cases e with
    | int j => exact ⟨i, j, rx, ry, k _ (.int (i - j)) H S m (Ext.refl _ _) s rfl h⟩
    | _ => exact (show False from h).elim
  | _ => exact (show False from h).elim
theorem CMul_or {i j : Int} (h : MulOk i j) : IntMulOk i j := by
  rcases h with (h | h) | ⟨a, b, h1, h2, h3⟩
  · exact L2.CMul.ok (.inl (by have : (2 : Nat) ^ 64 = 18446744073709551616 := by decide
                               have : (2 : Int) ^ 64 = 18446744073709551616 := by decide
                               omega))
  · exact L2.CMul.ok (.inr (by have : (2 : Nat) ^ 64 = 18446744073709551616 := by decide
                               have : (2 : Int) ^ 64 = 18446744073709551616 := by decide
                               omega))
  · have w1 : i.natAbs < 2 ^ (a + 1) := Nat.lt_trans h1 (Nat.pow_lt_pow_right (by decide) (by omega))
    have w2 : j.natAbs < 2 ^ (b + 1) := Nat.lt_trans h2 (Nat.pow_lt_pow_right (by decide) (by omega))
    have x := PySem.Flt.log2_lt_of (by omega) w1
    have y := PySem.Flt.log2_lt_of (by omega) w2
    by_cases hc : i.natAbs.log2 + j.natAbs.log2 < 1000000
    · exact L2.CMulW.ok hc
    · have e1 : i.natAbs.log2 ≤ a := by omega
      have e2 : j.natAbs.log2 ≤ b := by omega
      exfalso
      have ha : a = i.natAbs.log2 := by omega
      have hb : b = j.natAbs.log2 := by omega
      by_cases h0 : i.natAbs = 0
      · rw [h0] at ha
        have : Nat.log2 0 = 0 := by decide
        rw [this] at ha
        have hb1 : 0 < b := by omega
        have := PySem.Flt.log2_lt_of hb1 h2
        omega
      · by_cases ha0 : a = 0
        · subst ha0
          have hb1 : 0 < b := by omega
          have := PySem.Flt.log2_lt_of hb1 h2
          omega
        · have := PySem.Flt.log2_lt_of (by omega : 0 < a) h1
          omega
theorem op_mulAny : OpR X (binaryOp .Mult) (L2.rI (fun i j => IntMulOk i j) fun i j => .int (i * j)) := L2.opI fun _ _ _ _ _ _ _ hc q => PyProof.Rows.mul_int q hc
theorem iop_mulAny : OpR X (inplaceOp .Mult) (L2.rI (fun i j => IntMulOk i j) fun i j => .int (i * j)) := L2.opI fun _ _ _ _ _ _ _ hc q => PyProof.Rows.imul_int q hc

/-- ints alone -/
theorem ii {K : PySem.W.Frag} {x y : V} {H : Hp} {Q : L2.VK} {C : Int → Int → Prop} {g : Int → Int → D} {gv : Int → Int → V} {r : R2} (hg : ∀ i j H m, Rep K H m (g i j) (gv i j)) (hr : ∀ d e S R, r d e S R → ∃ i j, d = .int i ∧ e = .int j ∧ C i j ∧ R (g i j) S) (h : r2Of K r x y H Q) : L2.rI C gv x y H Q := by
  obtain ⟨m, S, d, e, R, s, rx, ry, h, k⟩ := h
  obtain ⟨i, j, rfl, rfl, hc, q⟩ := hr d e S R h
  exact ⟨i, j, rx, ry, hc, k _ _ H S m (Ext.refl _ _) s (hg i j H m) q⟩
theorem o_mul : OpR X (binaryOp .Mult) (r2Of X.K rMul) := r2I ((op_mulAny (X := X)).or L2.op_rep) fun x y H Q ⟨m, S, d, e, R, s, rx, ry, h, k⟩ => by
  cases d with
  | int i => cases e with
    | int j => exact .inl ⟨i, j, rx, ry, CMul_or h.1, k _ (.int (i * j)) H S m (Ext.refl _ _) s rfl h.2⟩
    | _ => exact (show False from h).elim
  | ref n => cases e with
    | int j =>
      obtain ⟨xs, e1, ⟨h1, h2⟩, hz, q⟩ := isLst_iff.mp h
      obtain ⟨a, vs, g1, g2, g3⟩ := s.lst e1
      obtain ⟨a', q1, rfl⟩ := rx
      rw [g1] at q1
      cases q1
      exact .inr ⟨a, j, vs, rfl, ry, g2, h1, h2, by rw [g3.len, ← szL']; exact hz, k.lst s (g3.rep _) q⟩
    | _ => exact (show False from h).elim
  | _ => exact (show False from h).elim
theorem int_of {r : R2} {C : Int → Int → Prop} {g : Int → Int → D} {d e : D} {S : Sto} {R : D → Sto → Prop} (h : r d e S R) (h1 : ∀ i j, r (.int i) (.int j) S R → C i j ∧ R (g i j) S) (h2 : ∀ d e, r d e S R → ∃ i j, d = .int i ∧ e = .int j) : ∃ i j, d = .int i ∧ e = .int j ∧ C i j ∧ R (g i j) S := by
  obtain ⟨i, j, rfl, rfl⟩ := h2 d e h
  exact ⟨i, j, rfl, rfl, h1 i j h⟩
theorem only_ii {r : R2} {S : Sto} {R : D → Sto → Prop} (h0 : ∀ d e, (∀ i j, ¬ (d = .int i ∧ e = .int j)) → ¬ r d e S R) : ∀ d e, r d e S R → ∃ i j, d = .int i ∧ e = .int j := fun d e h => by
  cases d with
  | int i => cases e with
    | int j => exact ⟨i, j, rfl, rfl⟩
    | _ => exact absurd h (h0 _ _ fun _ _ z => nomatch z.2)
  | _ => exact absurd h (h0 _ _ fun _ _ z => nomatch z.1)
theorem i_mul : OpR X (inplaceOp .Mult) (r2Of X.K rMul') := r2I (iop_mulAny (X := X)) fun x y H Q h => ii (g := fun i j => .int (i * j)) (fun _ _ _ _ => rfl) (fun d e S R h => by
  cases d with
  | int i => cases e with
    | int j => exact ⟨i, j, rfl, rfl, CMul_or h.1, h.2⟩
    | _ => exact (show False from h).elim
  | _ => exact (show False from h).elim) h
theorem div_ok {j : Int} (h : DivOk j) (i : Int) : Builtin.divisionGoesByPylong i j = false := by
  refine PyProof.noPylong_of_log2 ?_
  exact PySem.Flt.log2_lt_of (by decide) h.2
theorem op_divAny : OpR X (binaryOp .FloorDiv) (L2.rI (fun _ j => DivOk j) fun i j => .int (i.fdiv j)) := L2.opI fun i j _ _ _ _ _ hc q => PyProof.Rows.floordiv_int hc.1 q (.inl (div_ok hc i))
theorem iop_divAny : OpR X (inplaceOp .FloorDiv) (L2.rI (fun _ j => DivOk j) fun i j => .int (i.fdiv j)) := L2.opI fun i j _ _ _ _ _ hc q => PyProof.Rows.ifloordiv_int hc.1 q (.inl (div_ok hc i))
theorem o_div : OpR X (binaryOp .FloorDiv) (r2Of X.K rDiv) := r2I (op_divAny (X := X)) fun x y H Q h => ii (g := fun i j => .int (i.fdiv j)) (fun _ _ _ _ => rfl) (fun d e S R h => by
  cases d with
  | int i => cases e with
    | int j => exact ⟨i, j, rfl, rfl, h.1, h.2⟩
    | _ => exact (show False from h).elim
  | _ => exact (show False from h).elim) h
theorem i_div : OpR X (inplaceOp .FloorDiv) (r2Of X.K rDiv) := r2I (iop_divAny (X := X)) fun x y H Q h => ii (g := fun i j => .int (i.fdiv j)) (fun _ _ _ _ => rfl) (fun d e S R h => by
  cases d with
  | int i => cases e with
    | int j => exact ⟨i, j, rfl, rfl, h.1, h.2⟩
    | _ => exact (show False from h).elim
  | _ => exact (show False from h).elim) h
theorem o_mod : OpR X (binaryOp .Mod) (r2Of X.K rMod) := r2I (L2.op_modN (X := X)) fun x y H Q h => ii (g := fun i j => .int (i.fmod j)) (fun _ _ _ _ => rfl) (fun d e S R h => by
  cases d with
  | int i => cases e with
    | int j => exact ⟨i, j, rfl, rfl, h.1, h.2⟩
    | _ => exact (show False from h).elim
  | _ => exact (show False from h).elim) h
theorem o_pow : OpR X (binaryOp .Pow) (r2Of X.K rPow) := r2I (L2.op_pow (X := X)) fun x y H Q h => ii (g := fun i j => .int (i ^ j.toNat)) (fun _ _ _ _ => rfl) (fun d e S R h => by
  cases d with
  | int i => cases e with
    | int j => exact ⟨i, j, rfl, rfl, h.1, h.2⟩
    | _ => exact (show False from h).elim
  | _ => exact (show False from h).elim) h
theorem u_neg : UnR X (unaryOp .USub) (r1Of X.K rNeg) := r1I L2.un_neg fun x H Q ⟨m, S, d, R, s, rx, h, k⟩ => by
  cases d with
  | int i => exact ⟨i, rx, k _ (.int (-i)) H S m (Ext.refl _ _) s rfl h⟩
  | _ => exact (show False from h).elim
theorem cmp_of {f : Value → Value → Sem Value} {g : Int → Int → Bool} (h : OpR X f (L2.rI0 fun i j => .bl (g i j))) : OpR X f (r2Of X.K (rCmp g)) := r2I h fun x y H Q ⟨m, S, d, e, R, s, rx, ry, h, k⟩ => by
  cases d with
  | int i => cases e with
    | int j => exact ⟨i, j, rx, ry, k _ (.bl (g i j)) H S m (Ext.refl _ _) s rfl h⟩
    | _ => exact (show False from h).elim
  | _ => exact (show False from h).elim
theorem c_lt : OpR X (compareOp .Lt) (r2Of X.K rLt) := cmp_of L2.op_lt
theorem c_le : OpR X (compareOp .LtE) (r2Of X.K rLe) := cmp_of L2.op_le
theorem c_gt : OpR X (compareOp .Gt) (r2Of X.K rGt) := cmp_of L2.op_gt
theorem c_ge : OpR X (compareOp .GtE) (r2Of X.K rGe) := cmp_of L2.op_ge
/-! equality of plain data -/
mutual
theorem toPy_dp {K : PySem.W.Frag} {H : Hp} {m : List Addr} : ∀ (d : D) (v : V), flat d = true → Rep K H m d v → L2.Dp K H v (toPy d)
  | .non, v, _, h => by rw [show v = .non from h]; exact .non
  | .bl b, v, _, h => by rw [show v = .bl b from h]; exact .bl b
  | .int b, v, _, h => by rw [show v = .int b from h]; exact .int b
  | .str b, v, _, h => by rw [show v = .str b from h]; exact .str b
  | .tup ds, v, f, ⟨a, vs, hv, hT, r⟩ => by rw [hv]; exact .tup hT (toPys_dp ds vs f r)
  | .rol _, _, f, _ => by cases (show false = true from f)
  | .ref _, _, f, _ => by cases (show false = true from f)
  | .ty _, _, f, _ => by cases (show false = true from f)
theorem toPys_dp {K : PySem.W.Frag} {H : Hp} {m : List Addr} : ∀ (ds : List D) (vs : List V), flats ds = true → Reps K H m ds vs → L2.DpAll K H vs (toPys ds)
  | [], vs, _, h => by rw [show vs = [] from h]; exact .nil
  | d :: ds, vs, f, ⟨v, r, hv, h1, h2⟩ => by
    rw [hv]
    have f := Bool.and_eq_true_iff.mp (show (flat d && flats ds) = true from f)
    exact .cons (toPy_dp d v f.1 h1) (toPys_dp ds r f.2 h2)
end
theorem strOk_of {K : PySem.W.Frag} : True := trivial
mutual
theorem eqv_eq : ∀ (d e : D), flat d = true → flat e = true → PyData.eqv (toPy d) (toPy e) = eqD d e
  | .non, .non, _, _ => rfl
  | .non, .bl _, _, _ => rfl
  | .non, .int _, _, _ => rfl
  | .non, .str _, _, _ => rfl
  | .non, .tup _, _, _ => rfl
  | .bl _, .non, _, _ => rfl
  | .bl _, .bl _, _, _ => rfl
  | .bl _, .int _, _, _ => rfl
  | .bl _, .str _, _, _ => rfl
  | .bl _, .tup _, _, _ => rfl
  | .int _, .non, _, _ => rfl
  | .int _, .bl _, _, _ => rfl
  | .int i, .int j, _, _ => by
    show (i == j) = decide (i = j)
    rw [Bool.beq_eq_decide_eq]
  | .int _, .str _, _, _ => rfl
  | .int _, .tup _, _, _ => rfl
  | .str _, .non, _, _ => rfl
  | .str _, .bl _, _, _ => rfl
  | .str _, .int _, _, _ => rfl
  | .str i, .str j, _, _ => by
    show (i == j) = decide (i = j)
    rw [Bool.beq_eq_decide_eq]
  | .str _, .tup _, _, _ => rfl
  | .tup _, .non, _, _ => rfl
  | .tup _, .bl _, _, _ => rfl
  | .tup _, .int _, _, _ => rfl
  | .tup _, .str _, _, _ => rfl
  | .tup xs, .tup ys, f, g => eqvs_eq xs ys f g
  | .rol _, _, f, _ => by cases (show false = true from f)
  | .ref _, _, f, _ => by cases (show false = true from f)
  | .ty _, _, f, _ => by cases (show false = true from f)
  | _, .rol _, _, f => by cases (show false = true from f)
  | _, .ref _, _, f => by cases (show false = true from f)
  | _, .ty _, _, f => by cases (show false = true from f)
theorem eqvs_eq : ∀ (ds es : List D), flats ds = true → flats es = true → PyData.eqvAll (toPys ds) (toPys es) = eqDs ds es
  | [], [], _, _ => rfl
  | [], _ :: _, _, _ => rfl
  | _ :: _, [], _, _ => rfl
  | d :: ds, e :: es, f, g => by
    have f := Bool.and_eq_true_iff.mp (show (flat d && flats ds) = true from f)
    have g := Bool.and_eq_true_iff.mp (show (flat e && flats es) = true from g)
    show (PyData.eqv (toPy d) (toPy e) && PyData.eqvAll (toPys ds) (toPys es)) = (eqD d e && eqDs ds es)
    rw [eqv_eq d e f.1 g.1, eqvs_eq ds es f.2 g.2]
end
mutual
theorem deep_eq : ∀ d : D, PyData.depth (toPy d) = deep d
  | .non => rfl
  | .bl _ => rfl
  | .int _ => rfl
  | .str _ => rfl
  | .tup ds => by
    show PyData.depthAll (toPys ds) + 1 = deeps ds + 1
    rw [deeps_eq ds]
  | .rol _ => rfl
  | .ref _ => rfl
  | .ty _ => rfl
theorem deeps_eq : ∀ ds : List D, PyData.depthAll (toPys ds) = deeps ds
  | [] => rfl
  | d :: ds => by
    show max (PyData.depth (toPy d)) (PyData.depthAll (toPys ds)) = max (deep d) (deeps ds)
    rw [deep_eq d, deeps_eq ds]
end

end
end DL
set_option Elab.async false
set_option linter.all false
set_option maxRecDepth 100000
set_option maxHeartbeats 4000000
/-! DL6: comparisons of data, subscripts, slices, built-ins, methods, stores. -/
namespace DL
open PySem PySem.Spec
open L2 (V Hp HO St TE TT TA TS TG TI TO PE PT PW PA PS PSs PG PI PO Cx Inv RelV Vals SqL SqT Rd upd upd_same upd_ne ne_of ne_of_none OpR UnR CallR MtR IxR SlR It thn)
section
variable {X : Cx}
mutual
theorem lay_of : ∀ d : D, flat d = true → PyData.canLay0 (toPy d) = true
  | .non, _ => rfl
  | .bl _, _ => rfl
  | .int _, _ => rfl
  | .str x, h => h
  | .tup ds, h => lays_of ds h
  | .rol _, h => by cases (show false = true from h)
  | .ref _, h => by cases (show false = true from h)
  | .ty _, h => by cases (show false = true from h)
theorem lays_of : ∀ ds : List D, flats ds = true → PyData.canLayAll0 (toPys ds) = true
  | [], _ => rfl
  | d :: ds, h => by
    have h := Bool.and_eq_true_iff.mp (show (flat d && flats ds) = true from h)
    show (PyData.canLay0 (toPy d) && PyData.canLayAll0 (toPys ds)) = true
    rw [lay_of d h.1, lays_of ds h.2]
    rfl
end
theorem shaped_of {d : D} (h : flat d = true) (h2 : deep d ≤ 64) : SeqAt.shaped (toPy d) = true := by
  unfold SeqAt.shaped
  rw [lay_of d h, deep_eq, Bool.true_and]
  exact decide_eq_true h2
theorem shapeds_of {ds : List D} (h : flats ds = true) (h2 : deeps ds ≤ 63) : SeqAt.shaped (.list (toPys ds)) = true := by
  unfold SeqAt.shaped
  have e : PyData.canLay0 (.list (toPys ds)) = true := lays_of ds h
  rw [e, Bool.true_and]
  refine decide_eq_true ?_
  show PyData.depthAll (toPys ds) + 1 ≤ 64
  rw [deeps_eq]
  omega
theorem c_eq {kk : Nat} (hr : L2.Room kk X.A) : OpR X (compareOp .Eq) (r2Of X.K rEq) := r2I (L2.op_eqD hr.units) fun x y H Q ⟨m, S, d, e, R, s, rx, ry, ⟨⟨f1, f2, g1, g2⟩, q⟩, k⟩ =>
  ⟨toPy d, toPy e, toPy_dp d x f1 rx, toPy_dp e y f2 ry, shaped_of f1 g1, shaped_of f2 g2, by rw [eqv_eq d e f1 f2]; exact k _ (.bl (eqD d e)) H S m (Ext.refl _ _) s rfl q⟩
theorem c_ne {kk : Nat} (hr : L2.Room kk X.A) : OpR X (compareOp .NotEq) (r2Of X.K rNe) := r2I (L2.op_neD hr.units) fun x y H Q ⟨m, S, d, e, R, s, rx, ry, ⟨⟨f1, f2, g1, g2⟩, q⟩, k⟩ =>
  ⟨toPy d, toPy e, toPy_dp d x f1 rx, toPy_dp e y f2 ry, shaped_of f1 g1, shaped_of f2 g2, by rw [eqv_eq d e f1 f2]; exact k _ (.bl (!eqD d e)) H S m (Ext.refl _ _) s rfl q⟩
theorem isNon_eq {K : PySem.W.Frag} {H : Hp} {m : List Addr} {d : D} {x : V} (r : Rep K H m d x) : isNon d = decide (x = .non) := by
  cases d with
  | non => rw [show x = .non from r]; rfl
  | bl b => rw [show x = .bl b from r]; rfl
  | int b => rw [show x = .int b from r]; rfl
  | str b => rw [show x = .str b from r]; rfl
  | ty b => rw [show x = .ty b from r]; rfl
  | tup b => obtain ⟨a, vs, rfl, _⟩ := r; rfl
  | rol b => obtain ⟨a, vs, rfl, _⟩ := r; rfl
  | ref b => obtain ⟨a, _, rfl⟩ := r; rfl
theorem c_is : OpR X (compareOp .Is) (r2Of X.K rIs) := r2I ((L2.op_isN (X := X)).or L2.op_is_bl) fun x y H Q ⟨m, S, d, e, R, s, rx, ry, h, k⟩ => by
  cases e with
  | non =>
    have h : R (.bl (isNon d)) S := by cases d <;> exact h
    exact .inl ⟨ry, by rw [← isNon_eq rx]; exact k _ (.bl (isNon d)) H S m (Ext.refl _ _) s rfl h⟩
  | bl b => cases d with
    | bl a => exact .inr ⟨a, b, rx, ry, k _ (.bl (decide (a = b))) H S m (Ext.refl _ _) s rfl h⟩
    | _ => exact (show False from h).elim
  | _ => cases d <;> exact (show False from h).elim
theorem c_isnot : OpR X (compareOp .IsNot) (r2Of X.K rIsNot) := r2I ((L2.op_notN (X := X)).or L2.op_isnot_bl) fun x y H Q ⟨m, S, d, e, R, s, rx, ry, h, k⟩ => by
  cases e with
  | non =>
    have h : R (.bl (!isNon d)) S := by cases d <;> exact h
    exact .inl ⟨ry, by rw [← isNon_eq rx]; exact k _ (.bl (!isNon d)) H S m (Ext.refl _ _) s rfl h⟩
  | bl b => cases d with
    | bl a => exact .inr ⟨a, b, rx, ry, k _ (.bl (!decide (a = b))) H S m (Ext.refl _ _) s rfl h⟩
    | _ => exact (show False from h).elim
  | _ => cases d <;> exact (show False from h).elim
/-! in -/
theorem flat0_V {K : PySem.W.Frag} {H : Hp} {m : List Addr} {d : D} {x : V} (r : Rep K H m d x) (h : flat0 d = true) : L2.flatV x = true := by
  cases d with
  | non => rw [show x = .non from r]; rfl
  | bl b => rw [show x = .bl b from r]; rfl
  | int b => rw [show x = .int b from r]; rfl
  | str b => rw [show x = .str b from r]; rfl
  | _ => cases (show false = true from h)
theorem eqV_eq {K : PySem.W.Frag} {H : Hp} {m : List Addr} {d e : D} {x y : V} (r : Rep K H m d x) (r' : Rep K H m e y) (h : flat0 d = true) (h' : flat0 e = true) : L2.eqV x y = eqD d e := by
  cases d with
  | non => cases e with
    | non => rw [show x = .non from r, show y = .non from r']; rfl
    | bl b => rw [show x = .non from r, show y = .bl b from r']; rfl
    | int b => rw [show x = .non from r, show y = .int b from r']; rfl
    | str b => rw [show x = .non from r, show y = .str b from r']; rfl
    | _ => cases (show false = true from h')
  | bl a => cases e with
    | non => rw [show x = .bl a from r, show y = .non from r']; rfl
    | bl b => rw [show x = .bl a from r, show y = .bl b from r']; rfl
    | int b => rw [show x = .bl a from r, show y = .int b from r']; rfl
    | str b => rw [show x = .bl a from r, show y = .str b from r']; rfl
    | _ => cases (show false = true from h')
  | int a => cases e with
    | non => rw [show x = .int a from r, show y = .non from r']; rfl
    | bl b => rw [show x = .int a from r, show y = .bl b from r']; rfl
    | int b =>
      rw [show x = .int a from r, show y = .int b from r']
      show (a == b) = decide (a = b)
      rw [Bool.beq_eq_decide_eq]
    | str b => rw [show x = .int a from r, show y = .str b from r']; rfl
    | _ => cases (show false = true from h')
  | str a => cases e with
    | non => rw [show x = .str a from r, show y = .non from r']; rfl
    | bl b => rw [show x = .str a from r, show y = .bl b from r']; rfl
    | int b => rw [show x = .str a from r, show y = .int b from r']; rfl
    | str b =>
      rw [show x = .str a from r, show y = .str b from r']
      show (a == b) = decide (a = b)
      rw [Bool.beq_eq_decide_eq]
    | _ => cases (show false = true from h')
  | _ => cases (show false = true from h)
theorem inV_eq {K : PySem.W.Frag} {H : Hp} {m : List Addr} {d : D} {x : V} (r : Rep K H m d x) (h : flat0 d = true) : ∀ (ds : List D) (vs : List V), Reps K H m ds vs → ds.all flat0 = true → L2.inV x vs = (ds.any fun y => eqD y d) ∧ vs.all L2.flatV = true
  | [], vs, rs, _ => by rw [show vs = [] from rs]; exact ⟨rfl, rfl⟩
  | e :: ds, vs, ⟨v, us, hv, r1, r2⟩, f => by
    rw [hv]
    have f := Bool.and_eq_true_iff.mp (show (flat0 e && ds.all flat0) = true from f)
    obtain ⟨h1, h2⟩ := inV_eq r h ds us r2 f.2
    refine ⟨?_, ?_⟩
    · show (L2.eqV v x || us.any fun y => L2.eqV y x) = (eqD e d || ds.any fun y => eqD y d)
      rw [eqV_eq r1 r f.1 h]
      exact congrArg (eqD e d || ·) h1
    · show (L2.flatV v && us.all L2.flatV) = true
      rw [flat0_V r1 f.1, h2]
      rfl
theorem any_py {d : D} (h : flat d = true) : ∀ ds : List D, flats ds = true → ((toPys ds).any fun z => PyData.eqv z (toPy d)) = ds.any fun y => eqD y d
  | [], _ => rfl
  | e :: ds, f => by
    have f := Bool.and_eq_true_iff.mp (show (flat e && flats ds) = true from f)
    show (PyData.eqv (toPy e) (toPy d) || (toPys ds).any fun z => PyData.eqv z (toPy d)) = (eqD e d || ds.any fun y => eqD y d)
    rw [eqv_eq e d f.1 h, any_py h ds f.2]
theorem room65 {kk : Nat} (hr : L2.Room kk X.A) : X.A.units + 65 < cLine := by
  have := hr.un
  omega
theorem c_in {kk : Nat} (hr : L2.Room kk X.A) : OpR X (compareOp .In) (r2Of X.K (rIn false)) := r2I (L2.op_in_seq.or (L2.op_inD (room65 hr))) fun x y H Q ⟨m, S, d, e, R, s, rx, ry, h, k⟩ => by
  cases e with
  | tup ys =>
    have h : (flat0 d = true ∧ ys.all flat0 = true) ∧ R (.bl (ys.any fun y => eqD y d)) S := by cases d <;> exact h
    obtain ⟨⟨f, g⟩, q⟩ := h
    obtain ⟨a, vs, rfl, hT, rs⟩ := ry
    obtain ⟨h1, h2⟩ := inV_eq rx f ys vs rs g
    refine .inl ⟨a, vs, rfl, .inr hT, flat0_V rx f, h2, ?_⟩
    show Q (.bl (L2.inV x vs)) H
    rw [h1]
    exact k _ (.bl (ys.any fun y => eqD y d)) H S m (Ext.refl _ _) s rfl q
  | ref n =>
    have h : isLst S n fun ys => (flat d = true ∧ flats ys = true ∧ deep d ≤ 63 ∧ deeps ys ≤ 63) ∧ R (.bl (ys.any fun y => eqD y d)) S := by cases d <;> exact h
    obtain ⟨ys, e1, ⟨f1, f2, g1, g2⟩, q⟩ := isLst_iff.mp h
    obtain ⟨a, vs, h1, h2, h3⟩ := s.lst e1
    obtain ⟨b, q1, rfl⟩ := ry
    rw [h1] at q1
    cases q1
    exact .inr ⟨toPy d, toPys ys, toPy_dp d x f1 rx, .lst (SqL.of h2) (toPys_dp ys vs f2 h3), shaped_of f1 (by omega), shapeds_of f2 g2, by rw [any_py f1 ys f2]; exact k _ (.bl (ys.any fun y => eqD y d)) H S m (Ext.refl _ _) s rfl q⟩
  | _ => cases d <;> exact (show False from h).elim
theorem c_notin {kk : Nat} (hr : L2.Room kk X.A) : OpR X (compareOp .NotIn) (r2Of X.K (rIn true)) := r2I (L2.op_notIn_seq.or (L2.op_notInD (room65 hr))) fun x y H Q ⟨m, S, d, e, R, s, rx, ry, h, k⟩ => by
  cases e with
  | tup ys =>
    have h : (flat0 d = true ∧ ys.all flat0 = true) ∧ R (.bl (!ys.any fun y => eqD y d)) S := by cases d <;> exact h
    obtain ⟨⟨f, g⟩, q⟩ := h
    obtain ⟨a, vs, rfl, hT, rs⟩ := ry
    obtain ⟨h1, h2⟩ := inV_eq rx f ys vs rs g
    refine .inl ⟨a, vs, rfl, .inr hT, flat0_V rx f, h2, ?_⟩
    show Q (.bl (!L2.inV x vs)) H
    rw [h1]
    exact k _ (.bl (!ys.any fun y => eqD y d)) H S m (Ext.refl _ _) s rfl q
  | ref n =>
    have h : isLst S n fun ys => (flat d = true ∧ flats ys = true ∧ deep d ≤ 63 ∧ deeps ys ≤ 63) ∧ R (.bl (!ys.any fun y => eqD y d)) S := by cases d <;> exact h
    obtain ⟨ys, e1, ⟨f1, f2, g1, g2⟩, q⟩ := isLst_iff.mp h
    obtain ⟨a, vs, h1, h2, h3⟩ := s.lst e1
    obtain ⟨b, q1, rfl⟩ := ry
    rw [h1] at q1
    cases q1
    exact .inr ⟨toPy d, toPys ys, toPy_dp d x f1 rx, .lst (SqL.of h2) (toPys_dp ys vs f2 h3), shaped_of f1 (by omega), shapeds_of f2 g2, by rw [any_py f1 ys f2]; exact k _ (.bl (!ys.any fun y => eqD y d)) H S m (Ext.refl _ _) s rfl q⟩
  | _ => cases d <;> exact (show False from h).elim
/-! subscripts -/
theorem atZ_rep {K : PySem.W.Frag} {H : Hp} {m : List Addr} {ds : List D} {vs : List V} (r : Reps K H m ds vs) {i : Int} {d : D} (h : atZ ds i = some d) : ∃ v, L2.atI vs i = some v ∧ Rep K H m d v := by
  unfold atZ at h
  unfold L2.atI
  rw [r.len]
  cases e : ixZ ds.length i with
  | none => rw [e] at h; cases h
  | some j =>
    rw [e] at h
    obtain ⟨v, h1, h2⟩ := r.get j d h
    have e' : L2.ixN ds.length i = some j := e
    exact ⟨v, by rw [e']; exact h1, h2⟩
theorem i_ix : IxR X (r2Of X.K rIx) := rix L2.ix_seq fun x y H Q ⟨m, S, d, e, R, s, rx, ry, h, k⟩ => by
  cases d with
  | tup xs => cases e with
    | int i =>
      obtain ⟨d, hd, q⟩ := h
      obtain ⟨a, vs, rfl, hT, rs⟩ := rx
      obtain ⟨v, h1, h2⟩ := atZ_rep rs hd
      exact .inr (.inl ⟨a, vs, i, v, rfl, ry, hT, h1, k _ _ H S m (Ext.refl _ _) s h2 q⟩)
    | _ => exact (show False from h).elim
  | rol xs => cases e with
    | int i =>
      obtain ⟨d, hd, q⟩ := h
      obtain ⟨a, vs, rfl, hT, rs⟩ := rx
      obtain ⟨v, h1, h2⟩ := atZ_rep rs hd
      exact .inl ⟨a, vs, i, v, rfl, ry, hT.seq, h1, k _ _ H S m (Ext.refl _ _) s h2 q⟩
    | _ => exact (show False from h).elim
  | ref n => cases e with
    | int i =>
      obtain ⟨xs, e1, d, hd, q⟩ := isLst_iff.mp h
      obtain ⟨a, vs, h1, h2, h3⟩ := s.lst e1
      obtain ⟨b, q1, rfl⟩ := rx
      rw [h1] at q1
      cases q1
      obtain ⟨v, g1, g2⟩ := atZ_rep h3 hd
      exact .inl ⟨a, vs, i, v, rfl, ry, SqL.of h2, g1, k _ _ H S m (Ext.refl _ _) s g2 q⟩
    | _ => exact (show False from h).elim
  | str z => cases e with
    | int i =>
      obtain ⟨hz, c, hc, q⟩ := h
      exact .inr (.inr ⟨z, i, c, rx, ry, by rw [← szL']; exact hz, hc, k _ (.str ⟨#[c]⟩) H S m (Ext.refl _ _) s rfl q⟩)
    | _ => exact (show False from h).elim
  | _ => cases e <;> exact (show False from h).elim
theorem sIx_eq (n d : Nat) (o : Option Int) : sIx n d o = HT.sIx n d o := by
  cases o with
  | none => rfl
  | some v =>
    show (if v < 0 then (v + n).toNat else min v.toNat n) = _
    rfl

theorem cut_rep {K : PySem.W.Frag} {H : Hp} {m : List Addr} {ds : List D} {vs : List V} (r : Reps K H m ds vs) (lo hi : Option Int) : Reps K H m (cut ds lo hi) (L2.cutV vs lo hi) := by
  unfold cut L2.cutV
  rw [r.len, sIx_eq, sIx_eq]
  exact (r.drop _).take _
theorem cut_full {K : PySem.W.Frag} {H : Hp} {m : List Addr} {ds : List D} {vs : List V} (r : Reps K H m ds vs) (lo hi : Option Int) (h : HT.sIx vs.length 0 lo = 0 ∧ HT.sIx vs.length vs.length hi = vs.length) : cut ds lo hi = ds := by
  unfold cut
  rw [sIx_eq, sIx_eq, ← r.len, h.1, h.2, List.drop_zero, Nat.sub_zero, r.len, List.take_length]
theorem s_cut : SlR X (rsOf X.K rSl) := rsl ((L2.sl_tupA (X := X)).or L2.sl_list) fun x l u H Q ⟨m, S, d, R, s, rx, h, k⟩ => by
  cases d with
  | tup xs =>
    obtain ⟨a, vs, rfl, hT, rs⟩ := rx
    refine .inl ⟨a, vs, rfl, hT, fun hf => ?_, fun _ => k.tup s (cut_rep rs l u) h⟩
    have h : R (.tup (cut xs l u)) S := h
    rw [cut_full rs l u hf] at h
    exact k _ (.tup xs) H S m (Ext.refl _ _) s ⟨a, vs, rfl, hT, rs⟩ h
  | ref n =>
    obtain ⟨xs, e1, q⟩ := isLst_iff.mp h
    obtain ⟨a, vs, h1, h2, h3⟩ := s.lst e1
    obtain ⟨b, q1, rfl⟩ := rx
    rw [h1] at q1
    cases q1
    exact .inr ⟨a, vs, rfl, SqL.of h2, k.lst s (cut_rep h3 l u) q⟩
  | _ => exact (show False from h).elim

/-! ### built-ins -/
theorem reps1 {K : PySem.W.Frag} {H : Hp} {m : List Addr} {d : D} {vs : List V} (r : Reps K H m [d] vs) : ∃ v, vs = [v] ∧ Rep K H m d v := by
  obtain ⟨v, us, hv, h1, h2⟩ := r
  exact ⟨v, by rw [hv, show us = [] from h2], h1⟩
theorem reps2 {K : PySem.W.Frag} {H : Hp} {m : List Addr} {d e : D} {vs : List V} (r : Reps K H m [d, e] vs) : ∃ v u, vs = [v, u] ∧ Rep K H m d v ∧ Rep K H m e u := by
  obtain ⟨v, us, hv, h1, h2⟩ := r
  obtain ⟨u, rfl, h3⟩ := reps1 h2
  exact ⟨v, u, hv, h1, h3⟩
theorem b_len : CallR X (.builtin "len") (rlOf X.K rLen) := rlI L2.call_len fun xs H Q ⟨m, S, ds, R, s, rx, h, k⟩ => by
  match ds, h, rx with
  | [.tup ys], h, rx =>
    obtain ⟨v, rfl, a, vs, rfl, hT, rs⟩ := reps1 rx
    exact ⟨_, vs.length, rfl, .inr ⟨vs, hT, rfl⟩, by rw [rs.len]; exact k _ (.int ys.length) H S m (Ext.refl _ _) s rfl h⟩
  | [.rol ys], h, rx =>
    obtain ⟨v, rfl, a, vs, rfl, hT, rs⟩ := reps1 rx
    exact ⟨_, vs.length, rfl, .inl ⟨vs, hT.seq, rfl⟩, by rw [rs.len]; exact k _ (.int ys.length) H S m (Ext.refl _ _) s rfl h⟩
  | [.str z], h, rx =>
    obtain ⟨v, rfl, hv⟩ := reps1 rx
    have hv : v = .str z := hv
    subst hv
    exact ⟨_, z.length, rfl, ⟨by rw [← szL']; exact h.1, rfl⟩, k _ (.int z.length) H S m (Ext.refl _ _) s rfl h.2⟩
  | [.ref n], h, rx =>
    obtain ⟨v, rfl, b, q1, rfl⟩ := reps1 rx
    obtain ⟨ys, e1, q⟩ := isLst_iff.mp h
    obtain ⟨a, vs, h1, h2, h3⟩ := s.lst e1
    rw [h1] at q1
    cases q1
    exact ⟨_, vs.length, rfl, .inl ⟨vs, SqL.of h2, rfl⟩, by rw [h3.len]; exact k _ (.int ys.length) H S m (Ext.refl _ _) s rfl q⟩
theorem b_abs : CallR X (.builtin "abs") (rlOf X.K rAbs) := rlI L2.call_abs fun xs H Q ⟨m, S, ds, R, s, rx, h, k⟩ => by
  match ds, h, rx with
  | [.int i], h, rx =>
    obtain ⟨v, rfl, hv⟩ := reps1 rx
    have hv : v = .int i := hv
    subst hv
    refine ⟨i, rfl, ?_⟩
    have e : (if i < 0 then -i else i) = (i.natAbs : Int) := by split <;> omega
    rw [e]
    exact k _ (.int i.natAbs) H S m (Ext.refl _ _) s rfl h
theorem b_int : CallR X (.type "int") (rlOf X.K rInt) := rlI L2.call_int1 fun xs H Q ⟨m, S, ds, R, s, rx, h, k⟩ => by
  match ds, h, rx with
  | [.int i], h, rx =>
    obtain ⟨v, rfl, hv⟩ := reps1 rx
    have hv : v = .int i := hv
    subst hv
    exact .inl ⟨i, rfl, k _ (.int i) H S m (Ext.refl _ _) s rfl h⟩
  | [.bl i], h, rx =>
    obtain ⟨v, rfl, hv⟩ := reps1 rx
    have hv : v = .bl i := hv
    subst hv
    exact .inr ⟨i, rfl, k _ (.int (if i = true then 1 else 0)) H S m (Ext.refl _ _) s rfl h⟩
theorem b_max2 (hc : X.calm = true) : CallR X (.builtin "max") (rlOf X.K rMax2) := rlI (L2.call_max2 hc) fun xs H Q ⟨m, S, ds, R, s, rx, h, k⟩ => by
  match ds, h, rx with
  | [.int i, .int j], h, rx =>
    obtain ⟨v, u, rfl, hv, hu⟩ := reps2 rx
    have hv : v = .int i := hv
    have hu : u = .int j := hu
    subst hv hu
    refine ⟨i, j, rfl, ?_⟩
    have e : (if j > i then j else i) = max i j := by split <;> omega
    rw [e]
    exact k _ (.int (max i j)) H S m (Ext.refl _ _) s rfl h
theorem b_min2 (hc : X.calm = true) : CallR X (.builtin "min") (rlOf X.K rMin2) := rlI (L2.call_min2 hc) fun xs H Q ⟨m, S, ds, R, s, rx, h, k⟩ => by
  match ds, h, rx with
  | [.int i, .int j], h, rx =>
    obtain ⟨v, u, rfl, hv, hu⟩ := reps2 rx
    have hv : v = .int i := hv
    have hu : u = .int j := hu
    subst hv hu
    refine ⟨i, j, rfl, ?_⟩
    have e : (if j < i then j else i) = min i j := by split <;> omega
    rw [e]
    exact k _ (.int (min i j)) H S m (Ext.refl _ _) s rfl h
theorem b_list : CallR X (.type "list") (rlOf X.K rList) := rlI L2.call_list_of fun xs H Q ⟨m, S, ds, R, s, rx, h, k⟩ => by
  match ds, h, rx with
  | [.tup ys], h, rx =>
    obtain ⟨v, rfl, a, vs, rfl, hT, rs⟩ := reps1 rx
    exact ⟨a, vs, rfl, .inr hT, k.lst s rs h⟩
  | [.rol ys], h, rx =>
    obtain ⟨v, rfl, a, vs, rfl, hT, rs⟩ := reps1 rx
    exact ⟨a, vs, rfl, .inl hT.seq, k.lst s rs h⟩
  | [.ref n], h, rx =>
    obtain ⟨v, rfl, b, q1, rfl⟩ := reps1 rx
    obtain ⟨ys, e1, q⟩ := isLst_iff.mp h
    obtain ⟨a, vs, h1, h2, h3⟩ := s.lst e1
    rw [h1] at q1
    cases q1
    exact ⟨b, vs, rfl, .inl (SqL.of h2), k.lst s h3 q⟩
theorem b_tuple : CallR X (.type "tuple") (rlOf X.K rTuple) := rlI L2.call_tuple_of fun xs H Q ⟨m, S, ds, R, s, rx, h, k⟩ => by
  match ds, h, rx with
  | [.tup ys], h, rx =>
    obtain ⟨v, rfl, a, vs, rfl, hT, rs⟩ := reps1 rx
    exact ⟨a, vs, rfl, .inr ⟨hT, k _ (.tup ys) H S m (Ext.refl _ _) s ⟨a, vs, rfl, hT, rs⟩ h⟩⟩
  | [.rol ys], h, rx =>
    obtain ⟨v, rfl, a, vs, rfl, hT, rs⟩ := reps1 rx
    exact ⟨a, vs, rfl, .inl ⟨hT.seq, k.tup s rs h⟩⟩
  | [.ref n], h, rx =>
    obtain ⟨v, rfl, b, q1, rfl⟩ := reps1 rx
    obtain ⟨ys, e1, q⟩ := isLst_iff.mp h
    obtain ⟨a, vs, h1, h2, h3⟩ := s.lst e1
    rw [h1] at q1
    cases q1
    exact ⟨b, vs, rfl, .inl ⟨SqL.of h2, k.tup s h3 q⟩⟩
theorem b_all (hc : X.calm = true) : CallR X (.builtin "all") (rlOf X.K rAll) := rlI (L2.cr_all hc) fun xs H Q ⟨m, S, ds, R, s, rx, h, k⟩ => by
  match ds, h, rx with
  | [.ref n], h, rx =>
    obtain ⟨v, rfl, b, q1, rfl⟩ := reps1 rx
    obtain ⟨bs, e1, q⟩ := h
    obtain ⟨a, vs, h1, h2, h3⟩ := s.lst e1
    rw [h1] at q1
    cases q1
    exact ⟨b, bs, rfl, by rw [← h3.bls]; exact SqL.of h2, k _ (.bl (bs.all id)) H S m (Ext.refl _ _) s rfl q⟩
theorem b_any (hc : X.calm = true) : CallR X (.builtin "any") (rlOf X.K rAny) := rlI (L2.cr_any hc) fun xs H Q ⟨m, S, ds, R, s, rx, h, k⟩ => by
  match ds, h, rx with
  | [.ref n], h, rx =>
    obtain ⟨v, rfl, b, q1, rfl⟩ := reps1 rx
    obtain ⟨bs, e1, q⟩ := h
    obtain ⟨a, vs, h1, h2, h3⟩ := s.lst e1
    rw [h1] at q1
    cases q1
    exact ⟨b, bs, rfl, by rw [← h3.bls]; exact SqL.of h2, k _ (.bl (bs.any id)) H S m (Ext.refl _ _) s rfl q⟩
theorem b_gcd : CallR X (.builtin "math.gcd") (rlOf X.K rGcd) := rlI L2.cr_gcd fun xs H Q ⟨m, S, ds, R, s, rx, h, k⟩ => by
  match ds, h, rx with
  | [.int i, .int j], h, rx =>
    obtain ⟨v, u, rfl, hv, hu⟩ := reps2 rx
    have hv : v = .int i := hv
    have hu : u = .int j := hu
    subst hv hu
    exact ⟨i, j, rfl, k _ (.int (Nat.gcd i.natAbs j.natAbs : Nat)) H S m (Ext.refl _ _) s rfl h⟩
theorem kit5 {K : PySem.W.Frag} {a t : String} {b : Bool} (h : (["bool", "int", "str", "tuple", "list"].all fun t => decide (L2.kitB a t = some (if t = a then true else if (a, t) = ("bool", "int") then true else false))) = true) (ht : t ∈ ["bool", "int", "str", "tuple", "list"])
    (hb : b = (if t = a then true else if (a, t) = ("bool", "int") then true else false)) : PySem.W.kitOne K (.type a) (.type t) = some b := by
  refine L2.kit_ty ?_
  rw [hb]
  exact of_decide_eq_true (List.all_eq_true.mp h t ht)
theorem b_isi : CallR X (.builtin "isinstance") (rlOf X.K rIsi) := rlI L2.call_isi fun xs H Q ⟨m, S, ds, R, s, rx, h, k⟩ => by
  match ds, h, rx with
  | [d, .ty t], ⟨b, hb, q⟩, rx =>
    obtain ⟨v, u, rfl, hv, hu⟩ := reps2 rx
    have hu : u = .ty t := hu
    subst hu
    have fin : ∀ {T : String}, L2.TyX X.K H v (.type T) → PySem.W.kitOne X.K (.type T) (.type t) = some b → L2.rIsi X.K [v, .ty t] H Q := fun ty e => ⟨v, .ty t, _, _, b, rfl, .ty t, ty, e, k _ (.bl b) H S m (Ext.refl _ _) s rfl q⟩
    cases d with
    | non =>
      have hv : v = .non := hv
      subst hv
      have hb : (if t ∈ ["bool", "int", "str", "tuple", "list"] then some false else none) = some b := hb
      split at hb
      · rename_i ht
        cases hb
        refine fin (.base .non) ?_
        simp at ht
        rcases ht with rfl | rfl | rfl | rfl | rfl
        · exact kit5 (by decide +kernel) (by decide) (by decide)
        · exact kit5 (by decide +kernel) (by decide) (by decide)
        · exact kit5 (by decide +kernel) (by decide) (by decide)
        · exact kit5 (by decide +kernel) (by decide) (by decide)
        · exact kit5 (by decide +kernel) (by decide) (by decide)
      · cases hb
    | bl c =>
      have hv : v = .bl c := hv
      subst hv
      have hb : (if t ∈ ["bool", "int"] then some true else if t ∈ ["str", "tuple", "list"] then some false else none) = some b := hb
      refine fin (.base (.bl c)) ?_
      split at hb
      · rename_i ht
        cases hb
        simp at ht
        rcases ht with rfl | rfl
        · exact kit5 (by decide +kernel) (by decide) (by decide)
        · exact kit5 (by decide +kernel) (by decide) (by decide)
      · split at hb
        · rename_i ht
          cases hb
          simp at ht
          rcases ht with rfl | rfl | rfl
          · exact kit5 (by decide +kernel) (by decide) (by decide)
          · exact kit5 (by decide +kernel) (by decide) (by decide)
          · exact kit5 (by decide +kernel) (by decide) (by decide)
        · cases hb
    | int c =>
      have hv : v = .int c := hv
      subst hv
      have hb : (if t = "int" then some true else if t ∈ ["bool", "str", "tuple", "list"] then some false else none) = some b := hb
      refine fin (.base (.int c)) ?_
      split at hb
      · rename_i ht
        cases hb
        subst ht
        exact kit5 (by decide +kernel) (by decide) (by decide)
      · split at hb
        · rename_i ht
          cases hb
          simp at ht
          rcases ht with rfl | rfl | rfl | rfl
          · exact kit5 (by decide +kernel) (by decide) (by decide)
          · exact kit5 (by decide +kernel) (by decide) (by decide)
          · exact kit5 (by decide +kernel) (by decide) (by decide)
          · exact kit5 (by decide +kernel) (by decide) (by decide)
        · cases hb
    | str c =>
      have hv : v = .str c := hv
      subst hv
      have hb : (if t = "str" then some true else if t ∈ ["bool", "int", "tuple", "list"] then some false else none) = some b := hb
      refine fin (.base (.str c)) ?_
      split at hb
      · rename_i ht
        cases hb
        subst ht
        exact kit5 (by decide +kernel) (by decide) (by decide)
      · split at hb
        · rename_i ht
          cases hb
          simp at ht
          rcases ht with rfl | rfl | rfl | rfl
          · exact kit5 (by decide +kernel) (by decide) (by decide)
          · exact kit5 (by decide +kernel) (by decide) (by decide)
          · exact kit5 (by decide +kernel) (by decide) (by decide)
          · exact kit5 (by decide +kernel) (by decide) (by decide)
        · cases hb
    | tup c =>
      obtain ⟨a, vs, rfl, hT, rs⟩ := hv
      have hb : (if t = "tuple" then some true else if t ∈ ["bool", "int", "str", "list"] then some false else none) = some b := hb
      have ty : L2.TyX X.K H (.ref a) (.type "tuple") := by
        rcases hT with (hT | ⟨o, hT⟩) | ⟨o, its, n, h1, h2, _⟩
        · exact .base (.tup hT)
        · exact .fTuple hT
        · exact .kTuple h1 h2
      refine fin ty ?_
      split at hb
      · rename_i ht
        cases hb
        subst ht
        exact kit5 (by decide +kernel) (by decide) (by decide)
      · split at hb
        · rename_i ht
          cases hb
          simp at ht
          rcases ht with rfl | rfl | rfl | rfl
          · exact kit5 (by decide +kernel) (by decide) (by decide)
          · exact kit5 (by decide +kernel) (by decide) (by decide)
          · exact kit5 (by decide +kernel) (by decide) (by decide)
          · exact kit5 (by decide +kernel) (by decide) (by decide)
        · cases hb
    | ref n =>
      obtain ⟨a, ha, rfl⟩ := hv
      have hb : (if t = "list" then some true else if t ∈ ["bool", "int", "str", "tuple"] then some false else none) = some b := hb
      obtain ⟨vs, hl⟩ := s.mem (List.mem_of_getElem? ha)
      refine fin (.base (.lst hl)) ?_
      split at hb
      · rename_i ht
        cases hb
        subst ht
        exact kit5 (by decide +kernel) (by decide) (by decide)
      · split at hb
        · rename_i ht
          cases hb
          simp at ht
          rcases ht with rfl | rfl | rfl | rfl
          · exact kit5 (by decide +kernel) (by decide) (by decide)
          · exact kit5 (by decide +kernel) (by decide) (by decide)
          · exact kit5 (by decide +kernel) (by decide) (by decide)
          · exact kit5 (by decide +kernel) (by decide) (by decide)
        · cases hb
    | _ => cases (show (none : Option Bool) = some b from hb)
end
end DL
set_option Elab.async false
set_option linter.all false
set_option maxRecDepth 100000
set_option maxHeartbeats 8000000
/-! DL7: sums, greatest and least, sorting, sorted sets of ints, methods of lists, stores. -/
namespace L2
open PySem PySem.Spec PyProof.Rows
section
variable {P : Program} {w : World} {A : Around} {E : Value → Shared → Prop} {s : Shared}
theorem set_ints_list {l : Addr} {items : Array Value} (ns : List Int) {Q : Value → Shared → Prop} (hh : A.handled = none) (hl : s.heap.IsList l items) (hit : IntsAre items.toList ns) (hb : ns.length + 1 < scanBound)
    (h : ∀ (h' : Heap) (tk c : Nat), SetR w h' s.heap.objs.size (fun j => decide (j ∈ ns)) c → c ≤ ns.length → (∀ b o, s.heap.get? b = some o → h'.get? b = some o) → Q (.ref s.heap.objs.size) { s with heap := h', toks := tk }) :
    wpAny (model P w) A (call (.type "set") [.ref l]) Q E s := by
  have hisz : items.size = ns.length := by
    have q := IntsAre.length hit
    rw [Array.length_toList] at q
    exact q
  obtain ⟨c, tl, hmro⟩ := F.called_set.mro
  have hmade := F.called_set.made
  have hsub := F.called_set.sub
  refine wpAny_call (codeAny_of_tree ?_)
  show wpAny _ _ (callAny (.type "set") _) _ _ _
  refine wpAny_pure ⟨Code.quiet_builtin _ (by decide +kernel), codeAny_builtin F.entry_type_call ?_⟩
  rw [Around.under_plain (weight_type_call_type "set" [.ref l] []) rfl]
  have h1 := F.called_set.notType
  have h2 := F.called_set.canCreate
  have hct := F.typeCall_set_1 (.ref l)
  repeat (any_goals (first | assumption | wp_step))

  refine codeAny_mono (code_set_led1 (.ref l) (E := E) (Q₁ := fun obj s₁ => obj = .ref s.heap.objs.size ∧ s₁ = { s with heap := s.heap.push { cls := .type "set", dict := none, data := .set #[] 0 (.fresh 0 0 (!w.params.followText "set-order")) } }) ⟨rfl, rfl⟩) fun r s₁ hr => ?_
  cases r with
  | error e => exact hr
  | ok fl =>
    cases fl with
    | ret obj =>
      obtain ⟨rfl, rfl⟩ := hr
      have hS : (s.heap.push { cls := .type "set", dict := none, data := .set #[] 0 (.fresh 0 0 (!w.params.followText "set-order")) }).get? s.heap.objs.size = some { cls := .type "set", dict := none, data := .set #[] 0 (.fresh 0 0 (!w.params.followText "set-order")) } := Heap.get?_push_size _ rfl
      have hT : Shared.TypeIs { s with heap := s.heap.push { cls := .type "set", dict := none, data := .set #[] 0 (.fresh 0 0 (!w.params.followText "set-order")) } } (.ref s.heap.objs.size) "set" := ⟨_, hS, rfl⟩
      have hli := F.called_set.init.lookup
      have hbi := F.called_set.init.bind (.ref s.heap.objs.size)
      repeat (any_goals (first | assumption | wp_step))

      refine codeAny_mono (codeAny_call_builtin (R := wants (fun r s₂ => r = .none ∧ ∃ h' tk c, s₂ = { s with heap := h', toks := tk } ∧ SetR w h' s.heap.objs.size (fun j => decide (j ∈ ns)) c ∧ c ≤ ns.length ∧
          (∀ b o, s.heap.get? b = some o → h'.get? b = some o)) E) F.called_set.init.plain F.entry_set_init (check_set_init_1 hT ?_)) fun r₂ s₂ hr₂ => ?_
      · obtain ⟨ol, hol, hcl, nl, hdl⟩ := hl
        obtain ⟨ocls, odict, odata, oslots⟩ := ol
        simp only at hcl hdl
        subst hcl; subst hdl
        have hol' : (s.heap.push { cls := .type "set", dict := none, data := .set #[] 0 (.fresh 0 0 (!w.params.followText "set-order")) }).get? l = some { cls := .type "list", dict := odict, data := .seq items nl, slots := oslots } := Heap.get?_push_of_some _ hol
        have hsls := F.sub_list_set
        have hslf := F.sub_list_frozenset
        have hne : (Value.type "list" == Value.type "dict") = false := by decide
        have hl1 : (s.heap.push { cls := .type "set", dict := none, data := .set #[] 0 (.fresh 0 0 (!w.params.followText "set-order")) }).IsList l items := ⟨_, hol', rfl, nl, rfl⟩
        unfold Builtin.«set.__init__» noKeywords Builtin.Frozenset.updateFrom
        generalize hPI : pyIter = PI
        wp_walk
        subst hPI

        refine wpAny_pyIter_list hl1 ?_
        refine wpAny_bind (wpAny_runValue ?_)
        have hlS : l < s.heap.objs.size := Heap.lt_size hol
        have hh3 : A.in1.in1.in1.handled = none := by simp [hh]
        have hz1 : (s.heap.push { cls := .type "set", dict := none, data := .set #[] 0 (.fresh 0 0 (!w.params.followText "set-order")) }).objs.size = s.heap.objs.size + 1 := Heap.size_push ..
        have hneI : l ≠ (s.heap.push { cls := .type "set", dict := none, data := .set #[] 0 (.fresh 0 0 (!w.params.followText "set-order")) }).objs.size := by
          rw [Heap.size_push]; exact Nat.ne_of_lt (Nat.lt_succ_of_lt hlS)
        have hSf : s.heap.objs.size ∉ [(s.heap.push { cls := .type "set", dict := none, data := .set #[] 0 (.fresh 0 0 (!w.params.followText "set-order")) }).objs.size, l] := by
          rw [Heap.size_push]; simp only [List.mem_cons, List.mem_singleton, List.not_mem_nil, or_false, not_or]
          exact ⟨Nat.ne_of_lt (Nat.lt_succ_self _), Nat.ne_of_gt hlS⟩
        have hval : ∀ (i : Nat) (v : Value), items[i]? = some v → ∃ k t, ns[i]? = some k ∧ v = .int k t := fun i v hv => by
          have hi : i < ns.length := by rw [← hisz]; exact (Array.getElem?_eq_some_iff.mp hv).1
          obtain ⟨t, e⟩ := PyProof.Rows.IntsAre.int_at hit i v (by rw [Array.getElem?_toList]; exact hv)
          refine ⟨ns[i], t, List.getElem?_eq_getElem hi, ?_⟩
          rw [e, List.getD_eq_getElem?_getD, List.getElem?_eq_getElem hi] <;> rfl
        refine set_update_ints ((Walks.list hh3 _ l hneI items).toS) s.heap.objs.size
          hSf ns hisz hb hval (items.size - 0) 0 _ (by omega) (Nat.zero_le _)
          ⟨⟨_, Heap.get?_push_size _ rfl, rfl, rfl⟩, (hl1.push _)⟩ ?hS0 ?hR
        case hS0 =>
          have hget : ((s.heap.push { cls := .type "set", dict := none, data := .set #[] 0 (.fresh 0 0 (!w.params.followText "set-order")) }).push { cls := .type "list_iterator", data := .fields #[.ref l, .int 0 0] }).get? s.heap.objs.size
              = some { cls := .type "set", dict := none, data := .set #[] 0 (.fresh 0 0 (!w.params.followText "set-order")) } := Heap.get?_push_of_some _ hS
          exact ⟨0, Nat.le_refl 0, setR_new_at hget⟩
        case hR =>
          intro s' c' hm hc' hS'
          obtain ⟨h', g2, d', tk', os'⟩ := s'
          have eg : g2 = s.gens := hm.gens
          have ed : d' = s.drawn := hm.drawn
          have eo : os' = s.os := hm.os
          subst eg; subst ed; subst eo
          show wpAny _ _ _ _ _ _
          refine wpAny_pure ?_
          show wpAny _ _ (ret Value.none) _ _ _
          rw [hisz] at hc'
          refine wpAny_pure ⟨rfl, h', tk', c', rfl, hS', hc', fun b o e => ?_⟩
          have hb0 : b < s.heap.objs.size := Heap.lt_size e
          have hb1 : b ≠ s.heap.objs.size := Nat.ne_of_lt hb0
          have hb2 : b ≠ (s.heap.push { cls := .type "set", dict := none, data := .set #[] 0 (.fresh 0 0 (!w.params.followText "set-order")) }).objs.size := by
            rw [Heap.size_push]; exact Nat.ne_of_lt (Nat.lt_succ_of_lt hb0)
          exact hm.heap b o (by simp only [List.mem_cons, List.mem_singleton, List.not_mem_nil, or_false, not_or]; exact ⟨hb1, hb2⟩) (Heap.get?_push_of_some _ (Heap.get?_push_of_some _ e))

      · cases r₂ with
        | error e => exact hr₂
        | ok fl₂ =>
          cases fl₂ with
          | ret r =>
            obtain ⟨rfl, h', tk, c', rfl, hS', hc', hk'⟩ := hr₂
            repeat (any_goals (first | assumption | wp_step))
            exact h _ _ _ hS' hc' hk'
          | _ => exact hr₂.elim
    | _ => exact hr.elim

end
end L2
namespace DL
open PySem PySem.Spec
open L2 (V Hp HO St TE TT TA TS TG TI TO PE PT PW PA PS PSs PG PI PO Cx Inv RelV Vals SqL SqT Rd upd upd_same upd_ne ne_of ne_of_none OpR UnR CallR MtR IxR SlR It thn)
section
variable {X : Cx}
theorem sum_tup (hc : X.calm = true) : CallR X (.builtin "sum") (fun xs H Q => ∃ (a : Addr) (ns : List Int), xs = [V.ref a] ∧ SqT X.K H a (ns.map V.int) ∧ Q (.int ns.sum) H) := by
  intro pins s σ H xs us Q I r h
  obtain ⟨a, ns, rfl, hT, q⟩ := h
  rw [L2.Vals.ref1 r]
  obtain ⟨its, rv, pt, _⟩ := I.tuple hT
  have hi := L2.Vals.ints rv
  obtain ⟨zs, e⟩ := hi.allInts.items
  have hn : numsOf (intItems zs).toList = ns := by rw [← e]; exact hi.numsOf
  rw [nums_intItems] at hn
  have pt' : s.heap.IsTuple a (intItems zs) := by rw [← e]; exact pt
  refine PySem.W.ktm_sumG (I.ok.hd hc) pt' fun h' tk t' hk => ?_
  have e2 : preSum (numAt zs) zs.size = ns.sum := by rw [preSum_eq, List.take_of_length_le (by simp), hn]
  rw [e2]
  exact ⟨.int ns.sum, H, I.kept (h' := h') (t' := tk) hk, ⟨t', rfl⟩, q⟩
theorem itemsAt_rep {K : PySem.W.Frag} {H : Hp} {m : List Addr} {S : Sto} {d : D} {v : V} {xs : List D} (s : RepS K H m S) (r : Rep K H m d v) (h : itemsAt d S = some xs) : (∃ a vs, v = .ref a ∧ SqL K H a vs ∧ Reps K H m xs vs) ∨ ∃ a vs, v = .ref a ∧ SqT K H a vs ∧ Reps K H m xs vs := by
  cases d with
  | tup ys =>
    have h : some ys = some xs := h
    cases h
    obtain ⟨a, vs, rfl, hT, rs⟩ := r
    exact .inr ⟨a, vs, rfl, hT, rs⟩
  | ref n =>
    obtain ⟨a, ha, rfl⟩ := r
    have h : (match S[n]? with
      | some (.lst xs) => some xs
      | _ => none) = some xs := h
    split at h
    · rename_i ys hy
      cases h
      obtain ⟨b, vs, h1, h2, h3⟩ := s.lst hy
      rw [ha] at h1
      cases h1
      exact .inl ⟨a, vs, rfl, SqL.of h2, h3⟩
    · cases h
  | _ => cases (show (none : Option (List D)) = some xs from h)
theorem b_sum (hc : X.calm = true) : CallR X (.builtin "sum") (rlOf X.K rSum) := rlI ((L2.cr_sum hc).or (sum_tup hc)) fun xs H Q ⟨m, S, ds, R, s, rx, h, k⟩ => by
  match ds, h, rx with
  | [d], ⟨ns, h1, q⟩, rx =>
    obtain ⟨v, rfl, hv⟩ := reps1 rx
    rcases itemsAt_rep s hv h1 with ⟨a, vs, rfl, hL, rs⟩ | ⟨a, vs, rfl, hL, rs⟩
    · exact .inl ⟨a, ns, rfl, by rw [← rs.ints]; exact hL, k _ (.int ns.sum) H S m (Ext.refl _ _) s rfl q⟩
    · exact .inr ⟨a, ns, rfl, by rw [← rs.ints]; exact hL, k _ (.int ns.sum) H S m (Ext.refl _ _) s rfl q⟩

theorem readsI {h : Heap} : ∀ {us : List Value} {ns : List Int}, PyProof.Rows.IntsAre us ns → ReadsAll h us (ns.map PyData.int) []
  | _, _, .nil => .nil
  | _, _, .cons n t r => by
    have := ReadsAll.cons (h := h) (Reads.int n t) (readsI r)
    simpa using this
theorem alike_all_ints (ns : List Int) : PySem.W.AlikeAll (ns.map PyData.int) := by
  refine ⟨fun x hx y hy => ?_, fun x hx z => ?_⟩
  · obtain ⟨a, _, rfl⟩ := List.mem_map.mp hx
    obtain ⟨b, _, rfl⟩ := List.mem_map.mp hy
    simp [PySem.W.alike]
  · obtain ⟨a, _, rfl⟩ := List.mem_map.mp hx
    cases z
theorem fold_max : ∀ (ns : List Int) (n : Int), (ns.foldl max n = n ∨ ns.foldl max n ∈ ns) ∧ n ≤ ns.foldl max n ∧ ∀ y ∈ ns, y ≤ ns.foldl max n
  | [], n => ⟨.inl rfl, Int.le_refl _, fun y hy => nomatch hy⟩
  | a :: ns, n => by
    obtain ⟨h1, h2, h3⟩ := fold_max ns (max n a)
    rw [List.foldl_cons]
    refine ⟨?_, by omega, fun y hy => ?_⟩
    · rcases h1 with h1 | h1
      · rw [h1]
        by_cases c : n ≤ a
        · exact .inr (by rw [Int.max_eq_right c]; exact List.mem_cons_self)
        · exact .inl (Int.max_eq_left (by omega))
      · exact .inr (List.mem_cons_of_mem _ h1)
    · rcases List.mem_cons.mp hy with rfl | hy
      · omega
      · exact h3 y hy
theorem fold_min : ∀ (ns : List Int) (n : Int), (ns.foldl min n = n ∨ ns.foldl min n ∈ ns) ∧ ns.foldl min n ≤ n ∧ ∀ y ∈ ns, ns.foldl min n ≤ y
  | [], n => ⟨.inl rfl, Int.le_refl _, fun y hy => nomatch hy⟩
  | a :: ns, n => by
    obtain ⟨h1, h2, h3⟩ := fold_min ns (min n a)
    rw [List.foldl_cons]
    refine ⟨?_, by omega, fun y hy => ?_⟩
    · rcases h1 with h1 | h1
      · rw [h1]
        by_cases c : a ≤ n
        · exact .inr (by rw [Int.min_eq_right c]; exact List.mem_cons_self)
        · exact .inl (Int.min_eq_left (by omega))
      · exact .inr (List.mem_cons_of_mem _ h1)
    · rcases List.mem_cons.mp hy with rfl | hy
      · omega
      · exact h3 y hy
theorem depth_ints : ∀ ns : List Int, PyData.depthAll (ns.map PyData.int) = 0
  | [] => rfl
  | n :: ns => by
    show max 0 (PyData.depthAll (ns.map PyData.int)) = 0
    rw [depth_ints ns]
    rfl
theorem max_tup {kk : Nat} (hc : X.calm = true) (hr : L2.Room kk X.A) : CallR X (.builtin "max") (fun xs H Q => ∃ (a : Addr) (ns : List Int), xs = [V.ref a] ∧ SqT X.K H a (ns.map V.int) ∧ 0 < ns.length ∧ ∀ m, m ∈ ns → (∀ y, y ∈ ns → y ≤ m) → Q (.int m) H) := by
  intro pins s σ H xs us Q I r h
  obtain ⟨a, ns, rfl, hT, hn, q⟩ := h
  rw [L2.Vals.ref1 r]
  obtain ⟨its, rv, pt, _⟩ := I.tuple hT
  have hi := L2.Vals.ints rv
  cases ns with
  | nil => exact absurd hn (Nat.lt_irrefl 0)
  | cons n ns =>
    refine PySem.W.max_tuple_data (I.ok.hd hc) (show s.heap.IsTuple a its.toArray from pt) (x := .int n) (xs := ns.map PyData.int) (as := []) (by simpa using readsI hi) (alike_all_ints (n :: ns)) ?_ fun i v h' tk bs _ rd hk => ?_
    · have e := depth_ints (n :: ns)
      rw [List.map_cons] at e
      rw [e]
      have := hr.un
      omega
    · rw [PySem.W.maxD_ints] at rd
      obtain ⟨h1, h2, h3⟩ := fold_max ns n
      cases rd with
      | int _ t =>
        refine ⟨.int (ns.foldl max n), H, I.kept (h' := h') (t' := tk) hk, ⟨t, rfl⟩, q _ ?_ fun y hy => ?_⟩
        · rcases h1 with h1 | h1
          · rw [h1]; exact List.mem_cons_self
          · exact List.mem_cons_of_mem _ h1
        · rcases List.mem_cons.mp hy with rfl | hy
          · exact h2
          · exact h3 y hy
theorem min_tup {kk : Nat} (hc : X.calm = true) (hr : L2.Room kk X.A) : CallR X (.builtin "min") (fun xs H Q => ∃ (a : Addr) (ns : List Int), xs = [V.ref a] ∧ SqT X.K H a (ns.map V.int) ∧ 0 < ns.length ∧ ∀ m, m ∈ ns → (∀ y, y ∈ ns → m ≤ y) → Q (.int m) H) := by
  intro pins s σ H xs us Q I r h
  obtain ⟨a, ns, rfl, hT, hn, q⟩ := h
  rw [L2.Vals.ref1 r]
  obtain ⟨its, rv, pt, _⟩ := I.tuple hT
  have hi := L2.Vals.ints rv
  cases ns with
  | nil => exact absurd hn (Nat.lt_irrefl 0)
  | cons n ns =>
    refine PySem.W.min_tuple_data (I.ok.hd hc) (show s.heap.IsTuple a its.toArray from pt) (x := .int n) (xs := ns.map PyData.int) (as := []) (by simpa using readsI hi) (alike_all_ints (n :: ns)) ?_ fun i v h' tk bs _ rd hk => ?_
    · have e := depth_ints (n :: ns)
      rw [List.map_cons] at e
      rw [e]
      have := hr.un
      omega
    · rw [PySem.W.minD_ints] at rd
      obtain ⟨h1, h2, h3⟩ := fold_min ns n
      cases rd with
      | int _ t =>
        refine ⟨.int (ns.foldl min n), H, I.kept (h' := h') (t' := tk) hk, ⟨t, rfl⟩, q _ ?_ fun y hy => ?_⟩
        · rcases h1 with h1 | h1
          · rw [h1]; exact List.mem_cons_self
          · exact List.mem_cons_of_mem _ h1
        · rcases List.mem_cons.mp hy with rfl | hy
          · exact h2
          · exact h3 y hy
theorem b_max {kk : Nat} (hc : X.calm = true) (hr : L2.Room kk X.A) : CallR X (.builtin "max") (rlOf X.K rMax) := rlI ((L2.cr_max hc).or (max_tup hc hr)) fun xs H Q ⟨m, S, ds, R, s, rx, h, k⟩ => by
  match ds, h, rx with
  | [d], ⟨ns, h1, h2, q⟩, rx =>
    obtain ⟨v, rfl, hv⟩ := reps1 rx
    rcases itemsAt_rep s hv h1 with ⟨a, vs, rfl, hL, rs⟩ | ⟨a, vs, rfl, hL, rs⟩
    · exact .inl ⟨a, ns, rfl, by rw [← rs.ints]; exact hL, h2, fun n hn hy => k _ (.int n) H S m (Ext.refl _ _) s rfl (q n hn hy)⟩
    · exact .inr ⟨a, ns, rfl, by rw [← rs.ints]; exact hL, h2, fun n hn hy => k _ (.int n) H S m (Ext.refl _ _) s rfl (q n hn hy)⟩
theorem b_min {kk : Nat} (hc : X.calm = true) (hr : L2.Room kk X.A) : CallR X (.builtin "min") (rlOf X.K rMin) := rlI ((L2.cr_min hc).or (min_tup hc hr)) fun xs H Q ⟨m, S, ds, R, s, rx, h, k⟩ => by
  match ds, h, rx with
  | [d], ⟨ns, h1, h2, q⟩, rx =>
    obtain ⟨v, rfl, hv⟩ := reps1 rx
    rcases itemsAt_rep s hv h1 with ⟨a, vs, rfl, hL, rs⟩ | ⟨a, vs, rfl, hL, rs⟩
    · exact .inl ⟨a, ns, rfl, by rw [← rs.ints]; exact hL, h2, fun n hn hy => k _ (.int n) H S m (Ext.refl _ _) s rfl (q n hn hy)⟩
    · exact .inr ⟨a, ns, rfl, by rw [← rs.ints]; exact hL, h2, fun n hn hy => k _ (.int n) H S m (Ext.refl _ _) s rfl (q n hn hy)⟩
/-! methods, stores -/
theorem refL {K : PySem.W.Frag} {H : Hp} {m : List Addr} {S : Sto} {n : Nat} {x : V} {P : List D → Prop} (s : RepS K H m S) (r : Rep K H m (.ref n) x) (h : isLst S n P) : ∃ a vs xs, x = .ref a ∧ m[n]? = some a ∧ H a = some (.lst vs) ∧ Reps K H m xs vs ∧ S[n]? = some (.lst xs) ∧ P xs := by
  obtain ⟨xs, e1, q⟩ := isLst_iff.mp h
  obtain ⟨a, vs, h1, h2, h3⟩ := s.lst e1
  obtain ⟨b, q1, rfl⟩ := r
  rw [h1] at q1
  cases q1
  exact ⟨_, vs, xs, rfl, h1, h2, h3, e1, q⟩
theorem m_append : MtR X "list.append" (rmOf X.K rAppend) := rmI L2.mt_append fun x xs H Q ⟨m, S, d, ds, R, s, rx, rs, h, k⟩ => by
  match d, ds, h, rx, rs with
  | .ref n, [d], h, rx, rs =>
    obtain ⟨a, vs, ys, rfl, h1, h2, h3, e1, hz, q⟩ := refL s rx h
    obtain ⟨v, rfl, hv⟩ := reps1 rs
    exact ⟨a, vs, v, rfl, rfl, h2, by rw [h3.len, ← szL']; exact hz, k.put s e1 h1 h2 (h3.app (Reps.one hv)) (d := .non) rfl q⟩
theorem m_pop : MtR X "list.pop" (rmOf X.K rPop) := rmI L2.mt_pop fun x xs H Q ⟨m, S, d, ds, R, s, rx, rs, h, k⟩ => by
  match d, ds, h, rx, rs with
  | .ref n, [], h, rx, rs =>
    obtain ⟨a, vs, ys, rfl, h1, h2, h3, e1, d, hd, q⟩ := refL s rx h
    obtain ⟨v, g1, g2⟩ := h3.get _ _ hd
    exact ⟨a, vs, v, rfl, rs, h2, by rw [h3.len]; exact g1, k.put s e1 h1 h2 h3.dropLast g2 q⟩
theorem ixZ_seq {n : Nat} {i : Int} {j : Nat} (h : ixZ n i = some j) : seqIndex? i n = some j ∧ j < n ∧ -(n : Int) ≤ i ∧ i < n := L2.ixN_seq h
theorem m_popAt : MtR X "list.pop" (rmOf X.K rPopAt) := rmI L2.mt_popAt fun x xs H Q ⟨m, S, d, ds, R, s, rx, rs, h, k⟩ => by
  match d, ds, h, rx, rs with
  | .ref n, [.int i], h, rx, rs =>
    obtain ⟨a, vs, ys, rfl, h1, h2, h3, e1, ⟨i0, i1⟩, j, d, hj, hd, q⟩ := refL s rx h
    obtain ⟨v, rfl, hv⟩ := reps1 rs
    have hv : v = .int i := hv
    subst hv
    obtain ⟨u, g1, g2⟩ := h3.get _ _ hd
    obtain ⟨p1, p2, p3, p4⟩ := ixZ_seq hj
    exact ⟨a, vs, i, j, u, rfl, rfl, h2, i0, i1, by rw [h3.len]; exact p1, g1, k.put s e1 h1 h2 (h3.erase j) g2 q⟩
theorem m_reverse : MtR X "list.reverse" (rmOf X.K rReverse) := rmI L2.mt_reverse fun x xs H Q ⟨m, S, d, ds, R, s, rx, rs, h, k⟩ => by
  match d, ds, h, rx, rs with
  | .ref n, [], h, rx, rs =>
    obtain ⟨a, vs, ys, rfl, h1, h2, h3, e1, q⟩ := refL s rx h
    exact ⟨a, vs, rfl, rs, h2, k.put s e1 h1 h2 h3.rev (d := .non) rfl q⟩
theorem m_insert : MtR X "list.insert" (rmOf X.K rInsert) := rmI L2.mt_insert fun x xs H Q ⟨m, S, d, ds, R, s, rx, rs, h, k⟩ => by
  match d, ds, h, rx, rs with
  | .ref n, [.int i, d], h, rx, rs =>
    obtain ⟨a, vs, ys, rfl, h1, h2, h3, e1, hz, ⟨i0, i1⟩, q⟩ := refL s rx h
    obtain ⟨v, u, rfl, hv, hu⟩ := reps2 rs
    have hv : v = .int i := hv
    subst hv
    exact ⟨a, vs, i, u, rfl, rfl, h2, by rw [h3.len, ← szL']; exact hz, i0, i1, k.put s e1 h1 h2 (((h3.take _).app (Reps.one hu)).app (h3.drop _)) (d := .non) rfl q⟩
theorem p_put : L2.PSet X (rpOf X.K rPut) := fun pins s σ H o i v ov iv u Q I ro ri rv ⟨m, S, x, j, d, R, hs, rx, rk, rd, h, k⟩ => by
  match x, j, h, rx, rk with
  | .ref n, .int z, h, rx, rk =>
    obtain ⟨a, vs, ys, rfl, h1, h2, h3, e1, jj, hj, q⟩ := refL hs rx h
    have rk : i = .int z := rk
    subst rk
    refine L2.set_list pins s σ H (.ref a) (.int z) v ov iv u Q I ro ri rv ⟨a, vs, z, jj, rfl, rfl, h2, by rw [h3.len]; exact hj, ?_⟩
    exact k _ _ m (Ext.wrote (List.mem_of_getElem? h1) h2) (hs.set e1 h1 (h3.set jj rd)) q

/-! sorting -/
mutual
theorem akin_eq : ∀ a b : D, akin a b = true → PySem.W.alike (toPy a) (toPy b) = true
  | .int _, .int _, _ => by simp [toPy, PySem.W.alike]
  | .str _, .str _, _ => by simp [toPy, PySem.W.alike]
  | .tup xs, .tup ys, h => by
    have := akins_eq xs ys h
    simpa [toPy, PySem.W.alike] using this
  | .non, b, h => by cases b <;> cases (show false = true from h)
  | .bl _, b, h => by cases b <;> cases (show false = true from h)
  | .rol _, b, h => by cases b <;> cases (show false = true from h)
  | .ref _, b, h => by cases b <;> cases (show false = true from h)
  | .ty _, b, h => by cases b <;> cases (show false = true from h)
  | .int _, .non, h | .int _, .bl _, h | .int _, .str _, h | .int _, .tup _, h | .int _, .rol _, h | .int _, .ref _, h | .int _, .ty _, h => by cases (show false = true from h)
  | .str _, .non, h | .str _, .bl _, h | .str _, .int _, h | .str _, .tup _, h | .str _, .rol _, h | .str _, .ref _, h | .str _, .ty _, h => by cases (show false = true from h)
  | .tup _, .non, h | .tup _, .bl _, h | .tup _, .int _, h | .tup _, .str _, h | .tup _, .rol _, h | .tup _, .ref _, h | .tup _, .ty _, h => by cases (show false = true from h)
theorem akins_eq : ∀ a b : List D, akins a b = true → PySem.W.alikeAll (toPys a) (toPys b) = true
  | [], _, _ => by simp [toPys, PySem.W.alikeAll]
  | _ :: _, [], _ => by simp [toPys, PySem.W.alikeAll]
  | x :: xs, y :: ys, h => by
    have h := Bool.and_eq_true_iff.mp (show (akin x y && akins xs ys) = true from h)
    simp [toPys, PySem.W.alikeAll, akin_eq x y h.1, akins_eq xs ys h.2]
end
mutual
theorem lt_eq : ∀ a b : D, flat a = true → flat b = true → akin a b = true → PySem.W.dataLt (toPy a) (toPy b) = ltD a b
  | .int i, .int j, _, _, _ => PySem.W.dataLt_int i j
  | .str i, .str j, _, _, _ => PySem.W.dataLt_str i j
  | .tup xs, .tup ys, f, g, h => by
    show PySem.W.dataLt (.tuple (toPys xs)) (.tuple (toPys ys)) = ltDs xs ys
    rw [PySem.W.dataLt_tuple]
    exact lts_eq xs ys f g h
  | .non, b, _, _, h => by cases b <;> cases (show false = true from h)
  | .bl _, b, _, _, h => by cases b <;> cases (show false = true from h)
  | .rol _, b, _, _, h => by cases b <;> cases (show false = true from h)
  | .ref _, b, _, _, h => by cases b <;> cases (show false = true from h)
  | .ty _, b, _, _, h => by cases b <;> cases (show false = true from h)
  | .int _, .non, _, _, h | .int _, .bl _, _, _, h | .int _, .str _, _, _, h | .int _, .tup _, _, _, h | .int _, .rol _, _, _, h | .int _, .ref _, _, _, h | .int _, .ty _, _, _, h => by cases (show false = true from h)
  | .str _, .non, _, _, h | .str _, .bl _, _, _, h | .str _, .int _, _, _, h | .str _, .tup _, _, _, h | .str _, .rol _, _, _, h | .str _, .ref _, _, _, h | .str _, .ty _, _, _, h => by cases (show false = true from h)
  | .tup _, .non, _, _, h | .tup _, .bl _, _, _, h | .tup _, .int _, _, _, h | .tup _, .str _, _, _, h | .tup _, .rol _, _, _, h | .tup _, .ref _, _, _, h | .tup _, .ty _, _, _, h => by cases (show false = true from h)
theorem lts_eq : ∀ a b : List D, flats a = true → flats b = true → akins a b = true → PyProof.Rows.lexLt PyProof.Rows.itemOrd (PySem.W.keyToksAll (toPys a)) (PySem.W.keyToksAll (toPys b)) = ltDs a b
  | [], [], _, _, _ => PyProof.Rows.lex_irrefl _
  | [], y :: ys, _, _, _ => by
    exact PyProof.Rows.lex_true.mpr (.inl rfl)
  | x :: xs, [], _, _, _ => by
    exact PyProof.Rows.lex_false.mpr ⟨rfl, .inl rfl⟩
  | x :: xs, y :: ys, f, g, h => by
    have f := Bool.and_eq_true_iff.mp (show (flat x && flats xs) = true from f)
    have g := Bool.and_eq_true_iff.mp (show (flat y && flats ys) = true from g)
    have h := Bool.and_eq_true_iff.mp (show (akin x y && akins xs ys) = true from h)
    show PyProof.Rows.lexLt PyProof.Rows.itemOrd (PySem.W.keyToksAll (toPy x :: toPys xs)) (PySem.W.keyToksAll (toPy y :: toPys ys)) = if eqD x y = true then ltDs xs ys else ltD x y
    rw [PySem.W.dataLt_cons (akin_eq x y h.1), eqv_eq x y f.1 g.1, lts_eq xs ys f.2 g.2 h.2, lt_eq x y f.1 g.1 h.1]
end

theorem sort_trans (a b c : D) : PySem.W.dataLe false toPy a b = true → PySem.W.dataLe false toPy b c = true → PySem.W.dataLe false toPy a c = true := by
  rw [PySem.W.dataLe_eq]
  show (!PySem.W.dataLt (toPy b) (toPy a)) = true → (!PySem.W.dataLt (toPy c) (toPy b)) = true → (!PySem.W.dataLt (toPy c) (toPy a)) = true
  intro h1 h2
  cases e : PySem.W.dataLt (toPy c) (toPy a) with
  | false => rfl
  | true =>
    rcases PyProof.Rows.lex_negTrans _ (PySem.W.keyToks (toPy b)) _ e with q | q
    · rw [show PySem.W.dataLt (toPy c) (toPy b) = true from q] at h2; cases h2
    · rw [show PySem.W.dataLt (toPy b) (toPy a) = true from q] at h1; cases h1
theorem sort_total (a b : D) : (PySem.W.dataLe false toPy a b || PySem.W.dataLe false toPy b a) = true := by
  rw [PySem.W.dataLe_eq]
  show ((!PySem.W.dataLt (toPy b) (toPy a)) || (!PySem.W.dataLt (toPy a) (toPy b))) = true
  cases e : PySem.W.dataLt (toPy b) (toPy a) with
  | false => rfl
  | true =>
    cases e2 : PySem.W.dataLt (toPy a) (toPy b) with
    | false => rfl
    | true =>
      have := PyProof.Rows.lex_trans _ _ _ (show PyProof.Rows.lexLt PyProof.Rows.itemOrd (PySem.W.keyToks (toPy b)) (PySem.W.keyToks (toPy a)) = true from e) e2
      rw [PyProof.Rows.lex_irrefl] at this
      cases this
theorem flats_mem : ∀ {xs : List D}, flats xs = true → ∀ a ∈ xs, flat a = true
  | [], _, a, h => nomatch h
  | x :: xs, f, a, h => by
    have f := Bool.and_eq_true_iff.mp (show (flat x && flats xs) = true from f)
    rcases List.mem_cons.mp h with rfl | h
    · exact f.1
    · exact flats_mem f.2 a h
theorem deeps_mem : ∀ {xs : List D} (a : D), a ∈ xs → deep a ≤ deeps xs
  | [], a, h => nomatch h
  | x :: xs, a, h => by
    show deep a ≤ max (deep x) (deeps xs)
    rcases List.mem_cons.mp h with rfl | h
    · exact Nat.le_max_left _ _
    · exact Nat.le_trans (deeps_mem a h) (Nat.le_max_right _ _)
/-- a value that stands for plain data -/
def Stands (K : PySem.W.Frag) (H : Hp) (m : List Addr) (u : Value) (d : D) : Prop := ∃ v, RelV v u ∧ Rep K H m d v
theorem stands_all {K : PySem.W.Frag} {H : Hp} {m : List Addr} : ∀ {ds : List D} {vs : List V} {us : List Value}, Reps K H m ds vs → Vals vs us → PySem.W.EachIs (Stands K H m) us ds
  | [], _, _, r, rv => by
    rw [show _ = ([] : List V) from r] at rv
    cases rv
    exact .nil
  | d :: ds, _, _, ⟨v, r, h1, h2, h3⟩, rv => by
    subst h1
    cases rv with
    | cons a b => exact .cons ⟨v, a, h2⟩ (stands_all h3 b)
theorem stands_back {K : PySem.W.Frag} {H : Hp} {m : List Addr} : ∀ {ds : List D} {us : List Value}, PySem.W.EachIs (Stands K H m) us ds → ∃ vs, Reps K H m ds vs ∧ Vals vs us
  | _, _, .nil => ⟨[], rfl, .nil⟩
  | _, _, .cons ⟨v, h1, h2⟩ t => by
    obtain ⟨vs, g1, g2⟩ := stands_back t
    exact ⟨v :: vs, ⟨v, vs, rfl, h2, g1⟩, .cons h1 g2⟩
theorem toPy_tup {d : D} {x : D} {r : List D} (h : d = .tup (x :: r)) : ∃ y s, toPy d = .tuple (y :: s) := ⟨toPy x, toPys r, by rw [h]; rfl⟩
theorem b_sorted {kk : Nat} (hr : L2.Room kk X.A) : CallR X (.builtin "sorted") (rlOf X.K rSorted) := by
  intro pins s σ H vs us Q I rv ⟨m, S, ds, R, hS, rs, h, k⟩
  match ds, h, rs with
  | [.ref n], h, rs =>
    obtain ⟨v, rfl, hv⟩ := reps1 rs
    obtain ⟨a, ws, xs, rfl, h1, h2, h3, e1, ⟨f, dp, ak, so⟩, q⟩ := refL hS hv h
    rw [L2.Vals.ref1 rv]
    obtain ⟨its, rw', pl, hz⟩ := I.list (SqL.of h2)
    have st := stands_all h3 rw'
    have hm : ∀ b ∈ xs, flat b = true := flats_mem f
    have rd : ∀ {ds : List D} {us : List Value}, PySem.W.EachIs (Stands X.K H m) us ds → (∀ d ∈ ds, flat d = true) → PySem.W.EachIs (fun u d => ∃ as, Reads s.heap u (toPy d) as) us ds := by
      intro ds us e
      induction e with
      | nil => intro _; exact .nil
      | cons h t ih =>
        intro hf
        obtain ⟨v, g1, g2⟩ := h
        exact .cons (L2.Dp.reads I _ _ _ (toPy_dp _ _ (hf _ List.mem_cons_self) g2) g1) (ih fun d hd => hf d (List.mem_cons_of_mem _ hd))
    refine PySem.W.sorted_data (enc := toPy) (bs := xs) (R := Stands X.K H m) pl.isList st (rd st hm) ?_ ?_ (by rw [← h3.len]; exact hz) (fun b hb => ?_) fun out ho eo => ?_
    · intro d hd d' hd'
      obtain ⟨b, hb, rfl⟩ := List.mem_map.mp hd
      obtain ⟨b', hb', rfl⟩ := List.mem_map.mp hd'
      exact akin_eq b b' (ak b hb b' hb')
    · rcases so with so | so
      · refine .inl fun d hd => ?_
        obtain ⟨b, hb, rfl⟩ := List.mem_map.mp hd
        obtain ⟨x, r, e⟩ := so b hb
        exact toPy_tup e
      · refine .inr fun d hd => ?_
        obtain ⟨b, hb, rfl⟩ := List.mem_map.mp hd
        obtain ⟨n1, n2⟩ := so b hb
        have fb := hm b hb
        cases b with
        | non => exact absurd rfl n1
        | tup ys => exact absurd rfl (n2 ys)
        | rol _ => cases (show false = true from fb)
        | ref _ => cases (show false = true from fb)
        | ty _ => cases (show false = true from fb)
        | bl _ => exact ⟨(fun z => nomatch z), (fun _ z => nomatch z)⟩
        | int _ => exact ⟨(fun z => nomatch z), (fun _ z => nomatch z)⟩
        | str _ => exact ⟨(fun z => nomatch z), (fun _ z => nomatch z)⟩
    · rw [deep_eq]
      have := deeps_mem b hb
      have := hr.units
      omega
    · obtain ⟨c, hc⟩ := PyProof.Rows.sortedAll_at s.heap its out.toArray
      obtain ⟨ys, g1, g2⟩ := stands_back eo
      have hp : H (s.heap.objs.size + 1) = none := I.hok.fresh (Nat.le_succ _)
      have perm := List.mergeSort_perm xs (PySem.W.dataLe false toPy)
      have pw := List.pairwise_mergeSort sort_trans sort_total xs
      refine ⟨.ref (s.heap.objs.size + 1), upd H (s.heap.objs.size + 1) (.lst ys), I.laid (t' := s.toks) (fun _ _ => PyProof.Rows.sortedAll_old) (Nat.le_succ _) ⟨?_, out, c, g2, hc⟩, rfl, ?_⟩
      · rw [g1.len, List.length_mergeSort, ← h3.len]
        exact hz
      · refine k.lst hS g1 (q _ perm ?_) _ hp
        refine List.Pairwise.imp_of_mem (fun {x y} hx hy hxy => ?_) pw
        have hx' := perm.mem_iff.mp hx
        have hy' := perm.mem_iff.mp hy
        have hxy : (!PySem.W.dataLt (toPy y) (toPy x)) = true := hxy
        rw [lt_eq y x (hm y hy') (hm x hx') (ak y hy' x hx')] at hxy
        simpa using hxy
/-- set(xs) of ints: tracked beside -/
theorem set_ints (hc : X.calm = true) : CallR X (.type "set") (fun xs H Q => ∃ (a : Addr) (ns : List Int), xs = [V.ref a] ∧ (SqL X.K H a (ns.map V.int) ∨ SqT X.K H a (ns.map V.int)) ∧ ns.length < 60 ∧
    ∀ p c, H p = none → c ≤ ns.length → Q (.ref p) (upd H p (L2.SetO X.w p (fun j => decide (j ∈ ns)) c))) := by
  intro pins s σ H xs us Q I r h
  obtain ⟨a, ns, rfl, hT, hn, q⟩ := h
  rw [L2.Vals.ref1 r]
  have hb : ns.length + 1 < scanBound := by unfold scanBound; omega
  have hp : H s.heap.objs.size = none := I.hok.fresh (Nat.le_refl _)
  rcases hT with hT | hT
  · obtain ⟨its, rv, pt, _⟩ := I.list hT
    refine L2.set_ints_list (items := its.toArray) ns (I.ok.hd hc) pt.isList (by simpa using L2.Vals.ints rv) hb fun h' tk c R hc hk => ?_
    exact ⟨.ref s.heap.objs.size, _, I.laid (t' := tk) hk (Nat.le_refl _) (L2.setO_new R), rfl, q _ c hp hc⟩
  · obtain ⟨its, rv, pt, _⟩ := I.tuple hT
    refine L2.call_set_tupI (items := its.toArray) ns (I.ok.hd hc) (show s.heap.IsTuple a its.toArray from pt) (by simpa using L2.Vals.ints rv) hb fun h' tk c R hc hk => ?_
    exact ⟨.ref s.heap.objs.size, _, I.laid (t' := tk) hk (Nat.le_refl _) (L2.setO_new R), rfl, q _ c hp hc⟩
theorem d_sortedSet {e : Expr} {wa : WE} {p p2 pos pos2 : Pos} (hc : X.calm = true) (hg : L2.Gl X "sorted") (hm : X.mg "sorted" = none) (hg2 : L2.Gl X "set") (hm2 : X.mg "set" = none) (he : PE X e (teOf X.K wa))
    (h1 : starEach [e] X.env = [(false, eval e X.env)] := by rfl) : PE X (.Call (.Name "sorted" p) [.Call (.Name "set" p2) [e] [] pos2] [] pos) (teOf X.K (wSortedSet wa)) :=
  peI (L2.pe_callB (L2.cr_sortedSet hc) hg hm (by decide +kernel) (L2.pa_cons (L2.pe_callTy (set_ints hc) hg2 hm2 (by decide +kernel) (L2.pa_cons he L2.pa_nil h1) (he := h1)) L2.pa_nil)) fun σ H Q ⟨ρ, S, m, R, hE, hS, h, k⟩ =>
    ⟨ρ, S, m, _, hE, hS, h, fun v d H1 S1 m1 e1 s1 r1 ⟨ns, g1, g2, q⟩ => by
      have go : ∀ (a : Addr), v = .ref a → (SqL X.K H1 a (ns.map V.int) ∨ SqT X.K H1 a (ns.map V.int)) → ∃ (a : Addr) (ns' : List Int), [v] = [V.ref a] ∧ (SqL X.K H1 a (ns'.map V.int) ∨ SqT X.K H1 a (ns'.map V.int)) ∧ ns'.length < 60 ∧
          ∀ p c, H1 p = none → c ≤ ns'.length → (L2.tNil σ (upd H1 p (L2.SetO X.w p (fun j => decide (j ∈ ns')) c)) fun xs H2 => L2.rSortedSet X.w (V.ref p :: xs) H2 Q) := by
        rintro a rfl hT
        refine ⟨a, ns, rfl, hT, g2, fun p c hp hcl => ⟨p, _, c, rfl, upd_same, by omega, fun ms p2 pw mem hl hp2 => ?_⟩⟩
        have e2 := e1.trans (Ext.fresh (m := m1) hp (L2.SetO X.w p (fun j => decide (j ∈ ns)) c))
        exact (k.ext e2).lst (s1.fresh hp _) (ds := intD ms) Reps.of_ints (q ms pw fun kk => by rw [mem kk]; simp) p2 hp2
      rcases itemsAt_rep s1 r1 g1 with ⟨a, vs, e, hL, rs⟩ | ⟨a, vs, e, hL, rs⟩
      · exact go a e (.inl (by rw [← rs.ints]; exact hL))
      · exact go a e (.inr (by rw [← rs.ints]; exact hL))⟩
end
end DL
set_option Elab.async false
set_option linter.all false
set_option maxRecDepth 100000
set_option maxHeartbeats 4000000
/-! DL8: defs as they are called. -/
namespace DL
open PySem PySem.Spec
open L2 (V Hp HO St TE TT TA TS TG TI TO PE PT PW PA PS PSs PG PI PO Cx Inv RelV Vals SqL SqT Rd upd upd_same upd_ne ne_of ne_of_none OpR UnR CallR MtR IxR SlR It thn)
/-- the def that stands at the name x: it keeps sp, with k calls within one another -/
structure Callee (P : Program) (w : World) (K : PySem.W.Frag) (mg : Str → Option Value) (base : Heap) (x : Str) (k n : Nat) (sp : Spc) : Prop where
  ex : ∃ (f : Addr) (fd : FuncData) (ps : List Str), L2.FnOk P w K mg base L2.CX0 k f fd ps (spOf K n sp) ∧ mg x = some (.ref f) ∧ PySem.W.keepIn K (.ref f) = true ∧ L2.Binds K fd ps []
theorem Callee.imp {P : Program} {w : World} {K : PySem.W.Frag} {mg : Str → Option Value} {base : Heap} {x : Str} {k n : Nat} {sp sp' : Spc} (C : Callee P w K mg base x k n sp) (h : ∀ ds S Q, sp' ds S Q → sp ds S Q) : Callee P w K mg base x k n sp' := by
  obtain ⟨f, fd, ps, h1, h2, h3, h4⟩ := C.ex
  exact ⟨f, fd, ps, h1.imp fun vs H Q E ⟨m, S, ds, R, a, b, c, d, e⟩ => ⟨m, S, ds, R, a, b, c, h _ _ _ d, e⟩, h2, h3, h4⟩
section
variable {X : Cx} {e : Expr} {es : List Expr} {pos p : Pos} {va : WA}
theorem d_calle {kk k0 n : Nat} {sp : Spc} {x : Str} (C : Callee X.prog X.w X.K X.mg X.base x k0 n sp) (hr : L2.Room kk X.A) (hk : k0 ≤ kk) (hg : L2.Gl X x) (ha : PA X (e :: es) (taOf X.K va)) (hd : (x == ("__debug__" : Str)) = false := by decide)
    (he : starEach (e :: es) X.env = (false, eval e X.env) :: starEach es X.env := by rfl) (hpl : (backTo pos (starEach es X.env)).any (·.1) = false := by rfl) :
    PE X (.Call (.Name x p) (e :: es) [] pos) (teOf X.K (wCall n sp va)) := by
  obtain ⟨f, fd, ps, h1, h2, h3, h4⟩ := C.ex
  exact d_call h1 (hr.mono hk) hg h2 h3 h4 ha hd he hpl
end
section
variable {P : Program} {w : World} {K : PySem.W.Frag} {mg : Str → Option Value} {base : Heap}
theorem callee_of {x : Str} {st : Stmt} {f : Addr} {fd : FuncData} {N ps : List Str} {k n a : Nat} {sp : Spc} {ws : WS} (F : L2.Fun K x x st f fd) (hm : mg x = some (.ref f)) (hb : L2.Binds K fd ps []) (Sc : L2.FnScope N ps (L2.defScope st)) (hn : N.length = n) (ha : ps.length = a)
    (hw : ∀ (cdv : Value) (A : Around) (outer : List PySem.Env) (s : Shared) (H : Hp) (E : L2.XK), L2.Room k (A.deeper (PyProof.Rows.envOfC x (L2.defScope st) s.heap.objs.size f cdv)) →
      PSs (L2.cxOf L2.CX0 P w K mg base N x (L2.defScope st) f cdv A outer s H E).nox (L2.defBody st) (tsOf K ws)) (body : Body n a ws sp) : Callee P w K mg base x (k + 1) a sp :=
  ⟨f, fd, ps, fn_body F Sc hn ha hw body, hm, F.kp, hb⟩
/-- nobody calls with no calls left -/
theorem callee_none {x : Str} {st : Stmt} {f : Addr} {fd : FuncData} {ps : List Str} {a : Nat} {sp : Spc} (F : L2.Fun K x x st f fd) (hm : mg x = some (.ref f)) (hb : L2.Binds K fd ps []) (h : ∀ ds S Q, ¬ sp ds S Q) : Callee P w K mg base x 0 a sp :=
  ⟨f, fd, ps, ⟨fun vs H Q E ⟨m, S, ds, R, _, _, _, d, _⟩ => absurd d (h _ _ _), fun A outer s H args us vs Q E _ _ _ _ ⟨m, S, ds, R, _, _, _, d, _⟩ => absurd d (h _ _ _)⟩, hm, F.kp, hb⟩
end
end DL
set_option linter.all false
/-! DLX: more operations by values. -/
namespace DL
/-- a list turned -/
@[reducible] def rRevL : R1
  | .ref n, S, Q => isLst S n fun xs => Q (.ref S.length) (S ++ [.lst xs.reverse])
  | _, _, _ => False
/-- sorted of a list or a tuple -/
@[reducible] def rSortedA : RL
  | [.ref n], S, Q => isLst S n fun xs => sortOk xs ∧ ∀ ys, ys.Perm xs → ys.Pairwise (fun a b => ltD b a = false) → Q (.ref S.length) (S ++ [.lst ys])
  | [.tup xs], S, Q => sortOk xs ∧ ∀ ys, ys.Perm xs → ys.Pairwise (fun a b => ltD b a = false) → Q (.ref S.length) (S ++ [.lst ys])
  | _, _, _ => False
/-- x += y: ints, texts -/
@[reducible] def rIAdd : R2
  | .int i, .int j, S, Q => Q (.int (i + j)) S
  | .str x, .str y, S, Q => x.length + y.length ≤ szL ∧ Q (.str (x ++ y)) S
  | .ref m, .ref n, S, Q => isLst S m fun xs => isLst S n fun ys => xs.length + ys.length ≤ szL ∧ Q (.ref m) (S.set m (.lst (xs ++ ys)))
  | _, _, _, _ => False
/-! ranges with a step, ranges as lists and tuples -/
def rg3N (i j k : Int) : Nat := (if 0 < k then (if i < j then (j - i - 1) / k + 1 else 0) else (if j < i then (i - j - 1) / (-k) + 1 else 0)).toNat
def rangeD3 (i j k : Int) : List D := (List.range (rg3N i j k)).map fun (t : Nat) => D.int (i + t * k)
@[reducible] def wR3 (a b c : WE) : WI := fun ρ S R => a ρ S fun x S1 => b ρ S1 fun y S2 => c ρ S2 fun z S3 => match x, y, z with
  | .int i, .int j, .int k => (k ≠ 0 ∧ (-(2 ^ 29) < k ∧ k < 2 ^ 29) ∧ (-(2 ^ 61) ≤ i ∧ i < 2 ^ 61) ∧ (-(2 ^ 61) ≤ j ∧ j < 2 ^ 61)) ∧ R (rangeD3 i j k) (fun _ => True) S3
  | _, _, _ => False
@[reducible] def wLstR (a : WE) : WE := fun ρ S Q => a ρ S fun x S1 => match x with
  | .int j => (smallI j ∧ j ≤ szL) ∧ Q (.ref S1.length) (S1 ++ [.lst (rangeD 0 j)])
  | _ => False
@[reducible] def wTupR (a : WE) : WE := fun ρ S Q => a ρ S fun x S1 => match x with
  | .int j => (smallI j ∧ j ≤ szL) ∧ Q (.tup (rangeD 0 j)) S1
  | _ => False
end DL
set_option Elab.async false
set_option linter.all false
set_option maxRecDepth 100000
set_option maxHeartbeats 4000000
/-! DL9: more rules. -/
namespace DL
open PySem PySem.Spec
open L2 (V Hp HO St TE TT TA TS TG TI TO PE PT PW PA PS PSs PG PI PO Cx Inv RelV Vals SqL SqT Rd upd upd_same upd_ne ne_of ne_of_none OpR UnR CallR MtR IxR SlR It thn)
section
variable {X : Cx} {o : Expr} {pos p1 p2 p3 : Pos} {wo : WE}
theorem d_revL {k : Nat} (ho : PE X o (teOf X.K wo)) : PE X (.Subscript o (.Slice none none (some (.UnaryOp .USub (.Constant (.int 1) k p1) p2)) p3) pos) (teOf X.K (wUn rRevL wo)) :=
  peI (L2.pe_revL ho) fun σ H Q ⟨ρ, S, m, R, hE, hS, h, k⟩ => ⟨ρ, S, m, _, hE, hS, h, fun v x H1 S1 m1 e1 s1 r1 q1 => by
    cases x with
    | ref n =>
      obtain ⟨ys, e2, q⟩ := isLst_iff.mp q1
      obtain ⟨a, vs, h1, h2, h3⟩ := s1.lst e2
      obtain ⟨b, q2, rfl⟩ := r1
      rw [h1] at q2
      cases q2
      exact ⟨a, vs, rfl, SqL.of h2, (k.ext e1).lst s1 h3.rev q⟩
    | _ => exact (show False from q1).elim⟩
end
theorem i_add {X : Cx} : OpR X (inplaceOp .Add) (r2Of X.K rIAdd) := r2I (((L2.iop_add (X := X)).or L2.iop_add_str).or L2.iop_ext) fun x y H Q ⟨m, S, d, e, R, s, rx, ry, h, k⟩ => by
  cases d with
  | int i => cases e with
    | int j => exact .inl (.inl ⟨i, j, rx, ry, k _ (.int (i + j)) H S m (Ext.refl _ _) s rfl h⟩)
    | _ => exact (show False from h).elim
  | str z => cases e with
    | str z' =>
      obtain ⟨hz, q⟩ := h
      exact .inl (.inr ⟨z, z', rx, ry, by rw [← szL']; exact hz, k _ (.str (z ++ z')) H S m (Ext.refl _ _) s rfl q⟩)
    | _ => exact (show False from h).elim
  | ref i => cases e with
    | ref j =>
      obtain ⟨xs, e1, h⟩ := isLst_iff.mp h
      obtain ⟨ys, e2, hz, q⟩ := isLst_iff.mp h
      obtain ⟨a, vs, h1, h2, h3⟩ := s.lst e1
      obtain ⟨b, us, g1, g2, g3⟩ := s.lst e2
      obtain ⟨a', q1, rfl⟩ := rx
      obtain ⟨b', q2, rfl⟩ := ry
      rw [h1] at q1
      rw [g1] at q2
      cases q1
      cases q2
      exact .inr ⟨a, b, vs, us, rfl, rfl, h2, g2, by rw [h3.len, g3.len, ← szL']; exact hz, k.put s e1 h1 h2 (h3.app g3) (d := .ref i) ⟨a, h1, rfl⟩ q⟩
    | _ => exact (show False from h).elim
  | _ => exact (show False from h).elim
section
variable {X : Cx} {tg : Expr} {wa wb wc : WE} {a b c : Expr} {p p2 pos pos2 : Pos}
theorem rg3_ok {i j k : Int} (h : k ≠ 0 ∧ (-(2 ^ 29) < k ∧ k < 2 ^ 29) ∧ (-(2 ^ 61) ≤ i ∧ i < 2 ^ 61) ∧ (-(2 ^ 61) ≤ j ∧ j < 2 ^ 61)) : L2.RgC i j k (rg3N i j k) := by
  obtain ⟨h0, ⟨k1, k2⟩, ⟨i1, i2⟩, j1, j2⟩ := h
  have e : Builtin.Range.rangeSize i j k = (rg3N i j k : Int) ∧ (rg3N i j k : Int) < 2 ^ 63 := by
    unfold Builtin.Range.rangeSize rg3N
    by_cases hk : 0 < k
    · rw [if_pos hk]
      by_cases hc : i < j
      · rw [if_pos hc]
        have a1 : (j - i - 1) / k ≤ j - i - 1 := Int.ediv_le_self k (by omega)
        have a2 : 0 ≤ (j - i - 1) / k := Int.ediv_nonneg (by omega) (by omega)
        omega
      · rw [if_neg hc]; omega
    · rw [if_neg hk]
      by_cases hc : j < i
      · rw [if_pos hc]
        have a1 : (i - j - 1) / -k ≤ i - j - 1 := Int.ediv_le_self (-k) (by omega)
        have a2 : 0 ≤ (i - j - 1) / -k := Int.ediv_nonneg (by omega) (by omega)
        omega
      · rw [if_neg hc]; omega
  refine ⟨h0, by omega, ?_, e.1⟩
  unfold Builtin.Range.small Builtin.Range.rangeFitsLong
  rw [e.1]
  have := e.2
  have n0 : (0 : Int) ≤ rg3N i j k := by omega
  generalize (rg3N i j k : Int) = n at *
  by_cases hk : 0 < k
  · rw [if_pos hk]
    simp only [Bool.and_eq_true, Bool.or_eq_true, decide_eq_true_eq]
    omega
  · rw [if_neg hk]
    simp only [Bool.and_eq_true, Bool.or_eq_true, decide_eq_true_eq]
    omega
theorem yields_rng3 {K : PySem.W.Frag} {m : List Addr} {H : Hp} {i j k : Int} : Yields K (L2.Itc i k (rg3N i j k)) (rangeD3 i j k) (fun _ => True) m H := by
  intro m1 H1 S1 e s g
  refine ⟨fun t d hd => ?_, fun t ht => by unfold rangeD3 at ht; rw [List.length_map, List.length_range] at ht; exact ht⟩
  unfold rangeD3 at hd
  rw [List.getElem?_map] at hd
  by_cases hi : t < rg3N i j k
  · rw [List.getElem?_range hi] at hd
    have h2 := (Option.some.inj hd).symm
    exact ⟨hi, fun x H' ⟨q1, q2⟩ => ⟨m1, by rw [q1]; exact Ext.refl _ _, by rw [q1]; exact s, by rw [q2, h2]; rfl⟩⟩
  · rw [List.getElem?_eq_none (by simpa using hi)] at hd
    cases hd
theorem di_r3 (hg : L2.Gl X "range") (hm : X.mg "range" = none) (ha : PE X a (teOf X.K wa)) (hb : PE X b (teOf X.K wb)) (hc : PE X c (teOf X.K wc)) (h1 : starEach [a, b, c] X.env = (false, eval a X.env) :: starEach [b, c] X.env := by rfl) (h2 : starEach [b, c] X.env = (false, eval b X.env) :: starEach [c] X.env := by rfl)
    (h3 : starEach [c] X.env = (false, eval c X.env) :: starEach [] X.env := by rfl) (h4 : ((backTo pos (starEach [b, c] X.env)).any fun x => x.fst) = false := by rfl) : PI X tg (.Call (.Name "range" p) [a, b, c] [] pos) (tiOf X.K (wR3 wa wb wc)) :=
  piI (L2.pi_range3 hg hm (da_cons ha (da_cons hb (da_cons hc da_nil h3) h2) h1) h1 h4) fun σ H Q ⟨ρ, S, m, R, hE, hS, h, k⟩ => ⟨ρ, S, m, fun ds S1 => match ds with
    | [.int i, .int j, .int l] => (l ≠ 0 ∧ (-(2 ^ 29) < l ∧ l < 2 ^ 29) ∧ (-(2 ^ 61) ≤ i ∧ i < 2 ^ 61) ∧ (-(2 ^ 61) ≤ j ∧ j < 2 ^ 61)) ∧ R (rangeD3 i j l) (fun _ => True) S1
    | _ => False, hE, hS, (by
      show wa ρ S _
      refine cast (congrArg (wa ρ S) ?_) h
      funext x S1
      show wb ρ S1 _ = wb ρ S1 _
      refine congrArg (wb ρ S1) ?_
      funext y S2
      show wc ρ S2 _ = wc ρ S2 _
      refine congrArg (wc ρ S2) ?_
      funext z S3
      cases x <;> cases y <;> cases z <;> rfl), fun vs ds H' S' m' e s r q => by
      match ds, q, r with
      | [.int i, .int j, .int l], ⟨hok, q5⟩, ⟨v, r', hv, rv, ⟨v2, r2, hv2, rv2, ⟨v3, r3, hv3, rv3, rn⟩⟩⟩ =>
        rw [show r3 = [] from rn] at hv3
        rw [hv3] at hv2
        rw [hv2] at hv
        exact ⟨i, j, l, _, by rw [hv, show v = V.int i from rv, show v2 = V.int j from rv2, show v3 = V.int l from rv3], rg3_ok hok, k _ _ _ _ _ _ e s yields_rng3 q5⟩⟩
theorem rgV_rep {K : PySem.W.Frag} {H : Hp} {m : List Addr} (j : Int) : Reps K H m (rangeD 0 j) (L2.rgV 0 j) := by
  unfold rangeD L2.rgV
  generalize List.range (j - 0).toNat = l
  induction l with
  | nil => rfl
  | cons x l ih => exact ⟨_, _, rfl, rfl, ih⟩
theorem rgOk_of {j : Int} (h : smallI j ∧ j ≤ szL) : L2.RgOk 0 j := by
  obtain ⟨⟨h1, h2⟩, h3⟩ := h
  unfold szL at h3
  exact ⟨by omega, by omega, h1, h2, by omega⟩
theorem d_lstR (hc : X.calm = true) (hg : L2.Gl X "list") (hm : X.mg "list" = none) (hg2 : L2.Gl X "range") (hm2 : X.mg "range" = none) (ha : PE X a (teOf X.K wa)) (h1 : starEach [a] X.env = (false, eval a X.env) :: starEach [] X.env := by rfl)
    (h2 : starEach [Expr.Call (.Name "range" p2) [a] [] pos2] X.env = (false, eval (Expr.Call (.Name "range" p2) [a] [] pos2) X.env) :: starEach [] X.env := by rfl) : PE X (.Call (.Name "list" p) [.Call (.Name "range" p2) [a] [] pos2] [] pos) (teOf X.K (wLstR wa)) :=
  peI (L2.pe_listRg hc hg hm (L2.prg_1 hg2 hm2 ha h1) h2) fun σ H Q ⟨ρ, S, m, R, hE, hS, h, k⟩ => ⟨ρ, S, m, _, hE, hS, h, fun v x H1 S1 m1 e1 s1 r1 q1 => by
    cases x with
    | int j => exact ⟨j, r1, rgOk_of q1.1, (k.ext e1).lst s1 (rgV_rep j) q1.2⟩
    | _ => exact (show False from q1).elim⟩
theorem d_tupR (hc : X.calm = true) (hg : L2.Gl X "tuple") (hm : X.mg "tuple" = none) (hg2 : L2.Gl X "range") (hm2 : X.mg "range" = none) (ha : PE X a (teOf X.K wa)) (h1 : starEach [a] X.env = (false, eval a X.env) :: starEach [] X.env := by rfl)
    (h2 : starEach [Expr.Call (.Name "range" p2) [a] [] pos2] X.env = (false, eval (Expr.Call (.Name "range" p2) [a] [] pos2) X.env) :: starEach [] X.env := by rfl) : PE X (.Call (.Name "tuple" p) [.Call (.Name "range" p2) [a] [] pos2] [] pos) (teOf X.K (wTupR wa)) :=
  peI (L2.pe_tupRg hc hg hm (L2.prg_1 hg2 hm2 ha h1) h2) fun σ H Q ⟨ρ, S, m, R, hE, hS, h, k⟩ => ⟨ρ, S, m, _, hE, hS, h, fun v x H1 S1 m1 e1 s1 r1 q1 => by
    cases x with
    | int j => exact ⟨j, r1, rgOk_of q1.1, (k.ext e1).tup s1 (rgV_rep j) q1.2⟩
    | _ => exact (show False from q1).elim⟩
end
/-- a tuple of ints that the top has made -/
theorem rep_ints {K : PySem.W.Frag} {t : Addr} {od : Option Addr} {its : Array Value} {n : Nat} {sl : Array (Option Value)} {ns : List Int} (hl : K.lookup t = some ⟨.type "tuple", od, .seq its n, sl⟩) (hz : its.size ≤ sizeLine) (hv : Vals (ns.map V.int) its.toList) (H : Hp) (m : List Addr) : Rep K H m (.tup (intD ns)) (.ref t) :=
  ⟨t, ns.map V.int, rfl, .inr ⟨_, its, n, hl, rfl, rfl, hz, hv⟩, Reps.of_ints⟩
end DL
set_option Elab.async false
set_option linter.all false
set_option maxRecDepth 100000
set_option maxHeartbeats 4000000
/-! DLS: sorted(a tuple). -/
namespace DL
open PySem PySem.Spec PyProof PyProof.Rows
section
theorem collect_seqE {prog : Program} {w : World} {A : Around} {E : Value → Shared → Prop} {s : Shared} {Q : List Value → Shared → Prop} (it : Addr) {T : String} {o : Obj} {items : Array Value} {n : Nat} (hT : T = "list" ∨ T = "tuple") (ho : s.heap.get? it = some o) (hc : o.cls = Value.type T) (hd : o.data = Data.seq items n)
    (hQ : ∀ h' : Heap, (∀ (b : Addr) (o' : Obj), s.heap.get? b = some o' → h'.get? b = some o') → s.heap.objs.size ≤ h'.objs.size → Q items.toList { heap := h', gens := s.gens, drawn := s.drawn, toks := s.toks, os := s.os }) (hsz : items.size ≤ sizeLine) : wpAny (model prog w) A (collect (.ref it)) Q E s := by
  unfold collect
  refine wpAny_bind (wpAny_runValue (codeAny_builtin F.entry_proto_collect ?_))
  rw [Around.under_plainId F.plain_proto_collect]
  refine wpAny_bind (wpAny_newObj_type (wpAny_pure ⟨plainId_quiet F.plain_list_iadd _, codeAny_builtin F.entry_list_iadd ?_⟩))
  rw [Around.under_plainId F.plain_list_iadd]
  refine wpAny_extend_seq (R := fun r s' => match r with
      | Except.ok (Flow.ret v) => wpAny (model prog w) A (match v with
          | Value.ref a => do
            let __do_lift ← load a
            match __do_lift.data with
            | Data.seq xs epoch => pure xs.toList
            | x => unsupported "internal:collect"
          | x => unsupported "internal:collect") Q E s'
      | Except.ok a => False
      | Except.error e => E e s') s.heap.objs.size it (.ref s.heap.objs.size) 0 hT ?_ ?_ hc hd ?_ hsz
  · exact Heap.get?_push_size s.heap rfl
  · exact Heap.get?_push_of_some _ ho
  · show wpAny (model prog w) A _ Q E _
    refine wpAny_bind (wpAny_load (Heap.get?_update_self _ (Heap.get?_push_size s.heap rfl) rfl) ?_)
    refine wpAny_pure ?_
    have e : ((fun x => x ++ items) (#[] : Array Value)).toList = items.toList := by simp
    rw [e]
    refine hQ _ (fun b o' hb => ?_) ?_
    · rw [Heap.get?_update_other _ _ (Ne.symm (Nat.ne_of_lt (Heap.lt_size hb)))]
      exact Heap.get?_push_of_some _ hb
    · rw [Heap.size_update]
      show s.heap.objs.size ≤ (s.heap.push _).objs.size
      rw [PyProof.Rows.size_push']
      omega
theorem sorted_tup {prog : Program} {w : World} {A : Around} {E : Value → Shared → Prop} {s : Shared} {β : Type} {vs : List Value} {bs : List β} {enc : β → PyData} {R : Value → β → Prop} {l : Addr} {Q : Value → Shared → Prop}
    (hl : s.heap.IsTuple l vs.toArray) (e : PySem.W.EachIs R vs bs) (er : PySem.W.EachIs (fun v b => ∃ as, Reads s.heap v (enc b) as) vs bs) (hal : PySem.W.AllAlike (bs.map enc)) (hk : PySem.W.Sortable (bs.map enc)) (hL : bs.length ≤ sizeLine) (hu : ∀ b, b ∈ bs → A.units + 2 + (enc b).depth < cLine)
    (h : ∀ (out : List Value) (h1 : Heap) (a : Addr), out.length = bs.length → PySem.W.EachIs R out (bs.mergeSort (PySem.W.dataLe false enc)) → (∀ (b : Addr) (o : Obj), s.heap.get? b = some o → h1.get? b = some o) → s.heap.objs.size ≤ a → (∃ c, h1.get? a = some (PyProof.Rows.seqObj "list" out.toArray c)) →
      Q (.ref a) { heap := h1, gens := s.gens, drawn := s.drawn, toks := s.toks, os := s.os }) : wpAny (model prog w) A (call (.builtin "sorted") [.ref l]) Q E s := by
  obtain ⟨o, ho, hc, n, hd⟩ := hl
  have hLv : vs.length ≤ sizeLine := by rw [e.length]; exact hL
  refine PyProof.Rows.call_function_entry_kw PyProof.Rows.kind_sorted PyProof.Rows.plain_sorted PyProof.Rows.entry_sorted (PyProof.Rows.args_sorted1 (.ref l)) ?_
  refine wpAny_bind (wpAny_pure (wpAny_bind (collect_seqE l (.inr rfl) ho hc hd (fun h' keep hsz => ?_) (by simpa using hLv))))
  have hat : (h'.push (PyProof.Rows.seqObj "list" vs.toArray 0)).get? h'.objs.size = some (PyProof.Rows.seqObj "list" vs.toArray 0) := Heap.get?_push_size h' rfl
  have old1 : ∀ (b : Addr) (o : Obj), s.heap.get? b = some o → (h'.push (PyProof.Rows.seqObj "list" vs.toArray 0)).get? b = some o ∧ b < h'.objs.size := fun b o hb => by
    have hk := keep b o hb
    have hlt := Heap.lt_size hk
    exact ⟨by rw [Heap.get?_push_ne h' b _ (Nat.ne_of_lt hlt)]; exact hk, hlt⟩
  have old2 : ∀ (b : Addr) (o : Obj), s.heap.get? b = some o → (PySem.W.sortingHeap (h'.push (PyProof.Rows.seqObj "list" vs.toArray 0)) h'.objs.size vs).get? b = some o := fun b o hb => by
    obtain ⟨h1, h2⟩ := old1 b o hb
    unfold PySem.W.sortingHeap
    have z1 : ((h'.push (PyProof.Rows.seqObj "list" vs.toArray 0)).update h'.objs.size (Obj.mapSeq fun x => #[])).objs.size = h'.objs.size + 1 := by rw [Heap.size_update, PyProof.Rows.size_push']
    have z2 : (((h'.push (PyProof.Rows.seqObj "list" vs.toArray 0)).update h'.objs.size (Obj.mapSeq fun x => #[])).push (PyProof.Rows.seqObj "tuple" vs.toArray 0)).objs.size = h'.objs.size + 1 + 1 := by rw [PyProof.Rows.size_push', z1]
    rw [Heap.get?_push_ne _ b _ (by rw [z2]; exact Nat.ne_of_lt (Nat.lt_succ_of_lt (Nat.lt_succ_of_lt h2))), Heap.get?_push_ne _ b _ (by rw [z1]; exact Nat.ne_of_lt (Nat.lt_succ_of_lt h2)), Heap.get?_update_ne _ b _ _ (Nat.ne_of_lt h2)]
    exact h1
  have er' := PySem.W.EachIs.mono (fun x y ⟨as, r⟩ => (⟨as, PyProof.Rows.Reads.keeps (h' := PySem.W.sortingHeap (h'.push (PyProof.Rows.seqObj "list" vs.toArray 0)) h'.objs.size vs) (fun b o hb => old2 b o hb) r⟩ : ∃ as, _)) er
  have S := PySem.W.SortsAt.data (prog := prog) (w := w) (A := A.in1.in1) (s := { heap := PySem.W.sortingHeap (h'.push (PyProof.Rows.seqObj "list" vs.toArray 0)) h'.objs.size vs, gens := s.gens, drawn := s.drawn, toks := s.toks, os := s.os }) (PySem.W.each_map enc er') hal hk (PySem.W.bound_map hu)
  refine wpAny_bind (wpAny_newList ?_ (by simpa using hLv))
  refine wpAny_bind (wpAny_holding (PyProof.Rows.wpAny_call_entry_kw PyProof.Rows.slot_list_sort ⟨PyProof.Rows.seqObj "list" vs.toArray 0, hat, rfl⟩ PyProof.Rows.entry_list_sort ?_ (PyProof.Rows.args_list_sort (.ref h'.objs.size))))
  refine PySem.W.list_sort_vals hat S hLv ⟨.none, rfl, wpAny_pure ⟨.ref h'.objs.size, rfl, ?_⟩⟩
  refine h _ _ _ (by rw [PySem.W.sortVals_length false rfl]; exact e.length) (PySem.W.sortVals_data false e er' hal) (fun b o hb => ?_) hsz (PyProof.Rows.sortedHeap_at hat)
  obtain ⟨h1, h2⟩ := old1 b o hb
  rw [PyProof.Rows.sortedHeap_old (Nat.ne_of_lt h2) (by rw [PyProof.Rows.size_push']; exact Nat.lt_succ_of_lt h2)]
  exact h1
end
section
open L2 (V Hp HO St TE TT TA TS TG TI TO PE PT PW PA PS PSs PG PI PO Cx Inv RelV Vals SqL SqT Rd upd upd_same upd_ne ne_of ne_of_none OpR UnR CallR MtR IxR SlR It thn)
variable {X : Cx}
theorem b_sortedA {kk : Nat} (hr : L2.Room kk X.A) : CallR X (.builtin "sorted") (rlOf X.K rSortedA) := by
  intro pins s σ H vs us Q I rv ⟨m, S, ds, R, hS, rs, h, k⟩
  match ds, h, rs with
  | [.ref n], h, rs => exact b_sorted hr pins s σ H vs us Q I rv ⟨m, S, [.ref n], R, hS, rs, h, k⟩
  | [.tup xs], h, rs =>
    obtain ⟨v, rfl, a, ws, rfl, h2, h3⟩ := reps1 rs
    obtain ⟨⟨f, dp, ak, so⟩, q⟩ := h
    rw [L2.Vals.ref1 rv]
    obtain ⟨its, rw', pl, hz⟩ := I.tuple h2
    have st := stands_all h3 rw'
    have hm : ∀ b ∈ xs, flat b = true := flats_mem f
    have rd : ∀ {ds : List D} {us : List Value}, PySem.W.EachIs (Stands X.K H m) us ds → (∀ d ∈ ds, flat d = true) → PySem.W.EachIs (fun u d => ∃ as, Reads s.heap u (toPy d) as) us ds := by
      intro ds us e
      induction e with
      | nil => intro _; exact .nil
      | cons h t ih =>
        intro hf
        obtain ⟨v, g1, g2⟩ := h
        exact .cons (L2.Dp.reads I _ _ _ (toPy_dp _ _ (hf _ List.mem_cons_self) g2) g1) (ih fun d hd => hf d (List.mem_cons_of_mem _ hd))
    refine sorted_tup (enc := toPy) (bs := xs) (R := Stands X.K H m) pl st (rd st hm) ?_ ?_ (by rw [← h3.len]; exact hz) (fun b hb => ?_) fun out hh aa ho eo keep hge hat => ?_
    · intro d hd d' hd'
      obtain ⟨b, hb, rfl⟩ := List.mem_map.mp hd
      obtain ⟨b', hb', rfl⟩ := List.mem_map.mp hd'
      exact akin_eq b b' (ak b hb b' hb')
    · rcases so with so | so
      · refine .inl fun d hd => ?_
        obtain ⟨b, hb, rfl⟩ := List.mem_map.mp hd
        obtain ⟨x, r, e⟩ := so b hb
        exact toPy_tup e
      · refine .inr fun d hd => ?_
        obtain ⟨b, hb, rfl⟩ := List.mem_map.mp hd
        obtain ⟨n1, n2⟩ := so b hb
        have fb := hm b hb
        cases b with
        | non => exact absurd rfl n1
        | tup ys => exact absurd rfl (n2 ys)
        | rol _ => cases (show false = true from fb)
        | ref _ => cases (show false = true from fb)
        | ty _ => cases (show false = true from fb)
        | bl _ => exact ⟨(fun z => nomatch z), (fun _ z => nomatch z)⟩
        | int _ => exact ⟨(fun z => nomatch z), (fun _ z => nomatch z)⟩
        | str _ => exact ⟨(fun z => nomatch z), (fun _ z => nomatch z)⟩
    · rw [deep_eq]
      have := deeps_mem b hb
      have := hr.units
      omega
    · obtain ⟨c, hc⟩ := hat
      obtain ⟨ys, g1, g2⟩ := stands_back eo
      have hp : H aa = none := I.hok.fresh hge
      have perm := List.mergeSort_perm xs (PySem.W.dataLe false toPy)
      have pw := List.pairwise_mergeSort sort_trans sort_total xs
      refine ⟨.ref aa, upd H aa (.lst ys), I.laid (t' := s.toks) keep hge ⟨?_, out, c, g2, hc⟩, rfl, ?_⟩
      · rw [g1.len, List.length_mergeSort, ← h3.len]
        exact hz
      · refine k.lst hS g1 (q _ perm ?_) _ hp
        refine List.Pairwise.imp_of_mem (fun {x y} hx hy hxy => ?_) pw
        have hx' := perm.mem_iff.mp hx
        have hy' := perm.mem_iff.mp hy
        have hxy : (!PySem.W.dataLt (toPy y) (toPy x)) = true := hxy
        rw [lt_eq y x (hm y hy') (hm x hx') (ak y hy' x hx')] at hxy
        simpa using hxy
end
end DL
set_option linter.all false
set_option maxRecDepth 100000
set_option maxHeartbeats 4000000
/-! DLP: helpers over DL0: the store, lists of plain data, loops, comprehensions, what every law's own helpers keep. -/
namespace DL
/-! ### the store -/
/-- all that was there is there -/
def Sub (S S' : Sto) : Prop := ∀ (n : Nat) (o : O), S[n]? = some o → S'[n]? = some o
theorem Sub.refl (S : Sto) : Sub S S := fun _ _ h => h
theorem Sub.trans {S S1 S2 : Sto} (a : Sub S S1) (b : Sub S1 S2) : Sub S S2 := fun n o h => b n o (a n o h)
theorem Sub.push (S : Sto) (l : Sto) : Sub S (S ++ l) := fun n o h => by
  rw [List.getElem?_append_left (List.getElem?_eq_some_iff.mp h).1]
  exact h
theorem at_push (S : Sto) (o : O) : (S ++ [o])[S.length]? = some o := by simp
theorem Sub.lt {S S' : Sto} (h : Sub S S') {n : Nat} {o : O} (e : S[n]? = some o) : n < S'.length := (List.getElem?_eq_some_iff.mp (h n o e)).1
theorem at_lt {S : Sto} {n : Nat} {o : O} (e : S[n]? = some o) : n < S.length := (List.getElem?_eq_some_iff.mp e).1
theorem at_set {S : Sto} {n : Nat} {o o' : O} (e : S[n]? = some o) : (S.set n o')[n]? = some o' := List.getElem?_set_self (at_lt e)
theorem at_set_ne {S : Sto} {n k : Nat} {o' : O} (h : k ≠ n) : (S.set n o')[k]? = S[k]? := List.getElem?_set_ne (Ne.symm h)
theorem isLst_at {S : Sto} {n : Nat} {xs : List D} {P : List D → Prop} (h : S[n]? = some (.lst xs)) : isLst S n P = P xs := by
  unfold isLst
  rw [h]
/-- the draws stand at n -/
def Dr (n : Nat) (S : Sto) : Prop := ∃ ns : List Int, S[n]? = some (.lst (intD ns))
/-- all but what stands at n is there -/
def Ch (n : Nat) (S S' : Sto) : Prop := ∀ (k : Nat) (o : O), k ≠ n → S[k]? = some o → S'[k]? = some o
theorem Ch.refl (n : Nat) (S : Sto) : Ch n S S := fun _ _ _ h => h
theorem Ch.trans {n : Nat} {S S1 S2 : Sto} (a : Ch n S S1) (b : Ch n S1 S2) : Ch n S S2 := fun k o hk h => b k o hk (a k o hk h)
theorem Sub.ch {n : Nat} {S S' : Sto} (h : Sub S S') : Ch n S S' := fun k o _ e => h k o e
theorem Dr.sub {n : Nat} {S S' : Sto} (d : Dr n S) (h : Sub S S') : Dr n S' := let ⟨ns, e⟩ := d; ⟨ns, h n _ e⟩
theorem Ch.set {n : Nat} (S : Sto) (o : O) : Ch n S (S.set n o) := fun k u hk e => by rw [at_set_ne hk]; exact e

theorem ite_i {c A B : Prop} {_ : Decidable c} (h1 : c → A) (h2 : ¬ c → B) : if c then A else B := by
  by_cases h : c
  · rw [if_pos h]; exact h1 h
  · rw [if_neg h]; exact h2 h
theorem Sub.put {S S' : Sto} {n : Nat} {o : O} (h : Sub S S') (hn : S.length ≤ n) : Sub S (S'.set n o) := fun k u e => by
  rw [at_set_ne (by have := at_lt e; omega)]
  exact h k u e
theorem Sub.app {S S' : Sto} (h : Sub S S') (l : Sto) : Sub S (S' ++ l) := h.trans (Sub.push S' l)
theorem push_at {S : Sto} {n : Nat} {o : O} (h : S[n]? = some o) (l : Sto) : (S ++ l)[n]? = some o := Sub.push S l n o h
/-! ### places of lists -/
theorem atZ_nat {α : Type} {xs : List α} {i : Nat} {x : α} (h : xs[i]? = some x) : atZ xs (i : Int) = some x := by
  have hl : i < xs.length := (List.getElem?_eq_some_iff.mp h).1
  unfold atZ ixZ
  rw [if_pos (by omega), if_pos (by omega)]
  simpa using h
theorem atZ_lt {α : Type} {xs : List α} {i : Int} (h0 : 0 ≤ i) (h1 : i < xs.length) : ∃ x, atZ xs i = some x ∧ xs[i.toNat]? = some x := by
  have hl : i.toNat < xs.length := by omega
  refine ⟨xs[i.toNat], ?_, List.getElem?_eq_getElem hl⟩
  have := atZ_nat (List.getElem?_eq_getElem hl)
  rw [show ((i.toNat : Nat) : Int) = i by omega] at this
  exact this
theorem intD_get {ns : List Int} {i : Nat} {d : D} (h : (intD ns)[i]? = some d) : ∃ n, ns[i]? = some n ∧ d = .int n := by
  rw [List.getElem?_map] at h
  cases e : ns[i]? with
  | none => rw [e] at h; cases h
  | some n => rw [e] at h; exact ⟨n, rfl, (Option.some.inj h).symm⟩
theorem intD_at {ns : List Int} {i : Nat} {n : Int} (h : ns[i]? = some n) : (intD ns)[i]? = some (.int n) := by
  rw [List.getElem?_map, h]
  rfl
theorem intD_atZ {ns : List Int} {i : Int} (h0 : 0 ≤ i) (h1 : i < ns.length) : ∃ n, ns[i.toNat]? = some n ∧ atZ (intD ns) i = some (.int n) := by
  have hl : i.toNat < ns.length := by omega
  refine ⟨ns[i.toNat], List.getElem?_eq_getElem hl, ?_⟩
  have := atZ_nat (intD_at (List.getElem?_eq_getElem hl))
  rw [show ((i.toNat : Nat) : Int) = i by omega] at this
  exact this
theorem sIx_nn (n d : Nat) {i : Int} (h : 0 ≤ i) : sIx n d (some i) = min i.toNat n := by
  show (if i < 0 then (i + n).toNat else min i.toNat n) = _
  rw [if_neg (by omega)]
theorem sIx_no (n d : Nat) : sIx n d none = d := rfl
theorem cut_take {α : Type} (xs : List α) {i : Int} (h : 0 ≤ i) : cut xs none (some i) = xs.take i.toNat := by
  unfold cut
  rw [sIx_no, sIx_nn _ _ h, List.drop_zero, Nat.sub_zero]
  by_cases hc : i.toNat ≤ xs.length
  · rw [Nat.min_eq_left hc]
  · rw [Nat.min_eq_right (by omega), List.take_length, List.take_of_length_le (by omega)]
theorem cut_drop {α : Type} (xs : List α) {i : Int} (h : 0 ≤ i) : cut xs (some i) none = xs.drop i.toNat := by
  unfold cut
  rw [sIx_no, sIx_nn _ _ h]
  by_cases hc : i.toNat ≤ xs.length
  · rw [Nat.min_eq_left hc, List.take_of_length_le (by simp)]
  · rw [Nat.min_eq_right (by omega), List.drop_length, List.drop_of_length_le (by omega)]
    simp
theorem rangeD_get {lo hi : Int} {i : Nat} {d : D} (h : (rangeD lo hi)[i]? = some d) : i < (hi - lo).toNat ∧ d = .int (lo + i) := by
  unfold rangeD at h
  rw [List.getElem?_map] at h
  by_cases hi : i < (hi - lo).toNat
  · rw [List.getElem?_range hi] at h
    exact ⟨hi, (Option.some.inj h).symm⟩
  · rw [List.getElem?_eq_none (by simpa using hi)] at h
    cases h
theorem rangeD_len (lo hi : Int) : (rangeD lo hi).length = (hi - lo).toNat := by simp [rangeD]
theorem rangeD_nat (n : Nat) : rangeD 0 (n : Int) = (List.range n).map fun (i : Nat) => D.int (i : Int) := by
  unfold rangeD
  rw [show ((n : Int) - 0).toNat = n by omega]
  apply List.map_congr_left
  intro i _
  rw [Int.zero_add]
theorem mem_rangeD {lo hi : Int} {d : D} (h : d ∈ rangeD lo hi) : ∃ i : Nat, i < (hi - lo).toNat ∧ d = .int (lo + i) := by
  obtain ⟨i, hi, e⟩ := List.mem_map.mp h
  exact ⟨i, List.mem_range.mp hi, e.symm⟩
theorem flats_int : ∀ ns : List Int, flats (intD ns) = true
  | [] => rfl
  | n :: ns => by
    show (true && flats (intD ns)) = true
    rw [flats_int ns]
    rfl
theorem flats0_int (ns : List Int) : (intD ns).all flat0 = true := by
  induction ns with
  | nil => rfl
  | cons n ns ih =>
    show (true && (intD ns).all flat0) = true
    rw [ih]
    rfl
theorem deeps_int : ∀ ns : List Int, deeps (intD ns) = 0
  | [] => rfl
  | n :: ns => by
    show max 0 (deeps (intD ns)) = 0
    rw [deeps_int ns]
    rfl
/-! no tuple is longer than a store can tell -/
mutual
def slim : D → Bool
  | .tup xs => decide (xs.length ≤ szL) && slims xs
  | _ => true
def slims : List D → Bool
  | [] => true
  | x :: xs => slim x && slims xs
end
theorem slims_int : ∀ ns : List Int, slims (intD ns) = true
  | [] => rfl
  | n :: ns => by
    show (true && slims (intD ns)) = true
    rw [slims_int ns]
    rfl
theorem flats_get {xs : List D} {i : Nat} {d : D} : flats xs = true → xs[i]? = some d → flat d = true := by
  induction xs generalizing i with
  | nil => intro _ h; cases h
  | cons x xs ih =>
    intro h e
    have h := Bool.and_eq_true_iff.mp (show (flat x && flats xs) = true from h)
    cases i with
    | zero => rw [← Option.some.inj e]; exact h.1
    | succ i => exact ih h.2 e
theorem slims_get {xs : List D} {i : Nat} {d : D} : slims xs = true → xs[i]? = some d → slim d = true := by
  induction xs generalizing i with
  | nil => intro _ h; cases h
  | cons x xs ih =>
    intro h e
    have h := Bool.and_eq_true_iff.mp (show (slim x && slims xs) = true from h)
    cases i with
    | zero => rw [← Option.some.inj e]; exact h.1
    | succ i => exact ih h.2 e
theorem deeps_get {xs : List D} {i : Nat} {d : D} : xs[i]? = some d → deep d ≤ deeps xs := by
  induction xs generalizing i with
  | nil => intro h; cases h
  | cons x xs ih =>
    intro e
    show deep d ≤ max (deep x) (deeps xs)
    cases i with
    | zero => rw [← Option.some.inj e]; omega
    | succ i => have := ih e; omega
mutual
theorem eqD_self : ∀ d : D, flat d = true → eqD d d = true
  | .non, _ => rfl
  | .bl b, _ => by cases b <;> rfl
  | .int i, _ => by show decide (i = i) = true; simp
  | .str x, _ => by show decide (x = x) = true; simp
  | .tup xs, h => eqDs_self xs h
  | .rol _, h => by cases (show false = true from h)
  | .ref _, h => by cases (show false = true from h)
  | .ty _, h => by cases (show false = true from h)
theorem eqDs_self : ∀ ds : List D, flats ds = true → eqDs ds ds = true
  | [], _ => rfl
  | d :: ds, h => by
    have h := Bool.and_eq_true_iff.mp (show (flat d && flats ds) = true from h)
    show (eqD d d && eqDs ds ds) = true
    rw [eqD_self d h.1, eqDs_self ds h.2]
    rfl
end

/-! ### sorting -/
theorem perm_map {α β : Type} (f : α → β) : ∀ {ys zs : List β}, ys.Perm zs → ∀ l : List α, zs = l.map f → ∃ l' : List α, l'.Perm l ∧ ys = l'.map f := by
  intro ys zs p
  induction p with
  | nil => intro l e; cases l with
    | nil => exact ⟨[], .refl _, rfl⟩
    | cons _ _ => cases e
  | cons x p ih =>
    intro l e
    cases l with
    | nil => cases e
    | cons a l =>
      rw [List.map_cons] at e
      injection e with e1 e2
      obtain ⟨l', h1, h2⟩ := ih l e2
      exact ⟨a :: l', h1.cons a, by rw [List.map_cons, ← h2, e1]⟩
  | swap x y l0 =>
    intro l e
    match l, e with
    | a :: b :: l, e =>
      rw [List.map_cons, List.map_cons] at e
      injection e with e1 e2
      injection e2 with e2 e3
      exact ⟨b :: a :: l, .swap .., by rw [List.map_cons, List.map_cons, e1, e2, e3]⟩
  | trans p1 p2 ih1 ih2 =>
    intro l e
    obtain ⟨l2, h1, h2⟩ := ih2 l e
    obtain ⟨l1, h3, h4⟩ := ih1 l2 h2
    exact ⟨l1, h3.trans h1, h4⟩
/-- two ascending lists of the same members -/
theorem asc_one : ∀ {a b : List Int}, a.Pairwise (· < ·) → b.Pairwise (· < ·) → (∀ x, x ∈ a ↔ x ∈ b) → a = b
  | [], [], _, _, _ => rfl
  | [], y :: b, _, _, h => by have := (h y).mpr List.mem_cons_self; cases this
  | x :: a, [], _, _, h => by have := (h x).mp List.mem_cons_self; cases this
  | x :: a, y :: b, pa, pb, h => by
    rw [List.pairwise_cons] at pa pb
    have e : x = y := by
      rcases List.mem_cons.mp ((h x).mp List.mem_cons_self) with e | m1
      · exact e
      · rcases List.mem_cons.mp ((h y).mpr List.mem_cons_self) with e | m2
        · exact e.symm
        · have := pb.1 x m1
          have := pa.1 y m2
          omega
    subst e
    rw [asc_one pa.2 pb.2 fun z => ⟨fun hz => ?_, fun hz => ?_⟩]
    · rcases List.mem_cons.mp ((h z).mp (List.mem_cons_of_mem _ hz)) with e | m
      · have := pa.1 z hz
        omega
      · exact m
    · rcases List.mem_cons.mp ((h z).mpr (List.mem_cons_of_mem _ hz)) with e | m
      · have := pb.1 z hz
        omega
      · exact m

/-! ### comprehensions that change nothing: f tells what each item gives -/
theorem Lc_fun {items : List D} {guard : Sto → Prop} {S1 : Sto} {step : D → Sto → (Option D → Sto → Prop) → Prop} {Q : VK} (f : D → Option D) (hz : items.length ≤ szL) (hg : ∀ S', Sub S1 S' → guard S')
    (hs : ∀ (i : Nat) (d : D) S' R, items[i]? = some d → Sub S1 S' → (∀ S2, Sub S' S2 → R (f d) S2) → step d S' R) (hd : ∀ S', Sub S1 S' → Q (.ref S'.length) (S' ++ [.lst (items.filterMap f)])) : Lc items guard S1 step Q := by
  refine ⟨hz, fun i acc S' => Sub S1 S' ∧ acc = (items.take i).filterMap f, ⟨.refl _, rfl⟩, fun i acc S' h => hg S' h.1, ?_, ?_⟩
  · rintro i d acc S' hi ⟨h1, rfl⟩
    refine hs i d S' _ hi h1 fun S2 h2 => ⟨h1.trans h2, ?_⟩
    rw [List.take_add_one, hi]
    cases e : f d with
    | none => simp [e]
    | some y => simp [e]
  · rintro acc S' ⟨h1, rfl⟩
    rw [List.take_length]
    exact hd S' h1

theorem ite_d {c A B : Prop} {_ : Decidable c} (h1 : c → A) (h2 : ¬ c → B) : if decide c = true then A else B := by
  by_cases h : c
  · rw [if_pos (decide_eq_true h)]; exact h1 h
  · rw [if_neg (by simpa using h)]; exact h2 h
theorem okII (i j : Int) : flat (.int i) = true ∧ flat (.int j) = true ∧ deep (.int i) ≤ 64 ∧ deep (.int j) ≤ 64 := ⟨rfl, rfl, Nat.zero_le _, Nat.zero_le _⟩
theorem goEq {i j : Int} {S : Sto} {Q : VK} (h : Q (.bl (decide (i = j))) S) : (flat (.int i) = true ∧ flat (.int j) = true ∧ deep (.int i) ≤ 64 ∧ deep (.int j) ≤ 64) ∧ Q (.bl (eqD (.int i) (.int j))) S := ⟨okII i j, h⟩
theorem goNe {i j : Int} {S : Sto} {Q : VK} (h : Q (.bl (!decide (i = j))) S) : (flat (.int i) = true ∧ flat (.int j) = true ∧ deep (.int i) ≤ 64 ∧ deep (.int j) ≤ 64) ∧ Q (.bl (!eqD (.int i) (.int j))) S := ⟨okII i j, h⟩
theorem Loop_mk {items : List D} {guard : Sto → Prop} {step : D → Env → Sto → (Env → Sto → Prop) → Prop} {done : Env → Sto → Prop} {ρ : Env} {S : Sto} (I : Nat → Env → Sto → Prop)
    (h0 : I 0 ρ S) (hg : ∀ i ρ' S', I i ρ' S' → guard S') (hs : ∀ i d ρ' S', items[i]? = some d → I i ρ' S' → step d ρ' S' (I (i + 1))) (hd : ∀ ρ' S', I items.length ρ' S' → done ρ' S') : Loop items guard step done ρ S := ⟨I, h0, hg, hs, hd⟩
theorem fmod_lt {a b : Int} (h : 0 < b) : 0 ≤ a.fmod b ∧ a.fmod b < b := ⟨Int.fmod_nonneg_of_pos a h, Int.fmod_lt_of_pos a h⟩
theorem atZ_intD {ns : List Int} {i : Int} (h0 : 0 ≤ i) (h1 : i < ns.length) : atZ (intD ns) i = some (.int (ns.getD i.toNat 0)) := by
  obtain ⟨n, h, e⟩ := intD_atZ h0 h1
  rw [e, List.getD_eq_getElem?_getD, h]
  rfl
theorem ixZ_ok {n : Nat} {i : Int} (h0 : 0 ≤ i) (h1 : i < n) : ixZ n i = some i.toNat := by
  unfold ixZ
  rw [if_pos h0, if_pos h1]
theorem intD_set (ns : List Int) (i : Nat) (x : Int) : (intD ns).set i (.int x) = intD (ns.set i x) := by show (ns.map D.int).set i (D.int x) = (ns.set i x).map D.int; rw [List.map_set]
theorem smallMul {i j : Int} (h : j.natAbs < 2 ^ 64) : MulOk i j := Or.inl (Or.inr h)
theorem smallMul' {i j : Int} (h : i.natAbs < 2 ^ 64) : MulOk i j := Or.inl (Or.inl h)
abbrev natD (ns : List Nat) : List D := intD (ns.map fun (k : Nat) => (k : Int))
theorem intD_len (ns : List Int) : (intD ns).length = ns.length := List.length_map ..
theorem natD_len (ns : List Nat) : (natD ns).length = ns.length := by rw [intD_len, List.length_map]
theorem natD_get {ns : List Nat} {i : Nat} {d : D} (h : (natD ns)[i]? = some d) : ∃ n : Nat, ns[i]? = some n ∧ d = .int n := by
  obtain ⟨x, h1, rfl⟩ := intD_get h
  rw [List.getElem?_map] at h1
  cases e : ns[i]? with
  | none => rw [e] at h1; cases h1
  | some n => rw [e] at h1; exact ⟨n, rfl, by rw [← Option.some.inj h1]⟩
/-- over a range -/
theorem Lc_rf {n : Nat} {guard : Sto → Prop} {S1 : Sto} {step : D → Sto → (Option D → Sto → Prop) → Prop} {Q : VK} (p : Nat → Bool) (f : Nat → D) (hz : n ≤ szL) (hg : ∀ S', Sub S1 S' → guard S')
    (hs : ∀ (i : Nat) S' R, i < n → Sub S1 S' → (∀ S2, Sub S' S2 → R (if p i = true then some (f i) else none) S2) → step (.int (i : Int)) S' R) (hd : ∀ S', Sub S1 S' → Q (.ref S'.length) (S' ++ [.lst (((List.range n).filter p).map f)])) : Lc (rangeD 0 (n : Int)) guard S1 step Q := by
  refine ⟨by rw [rangeD_len]; omega, fun i acc S' => Sub S1 S' ∧ acc = ((List.range i).filter p).map f, ⟨.refl _, rfl⟩, fun i acc S' h => hg S' h.1, ?_, ?_⟩
  · rintro i d acc S' hi ⟨h1, rfl⟩
    obtain ⟨hi1, rfl⟩ := rangeD_get hi
    rw [Int.zero_add]
    refine hs i S' _ (by omega) h1 fun S2 h2 => ⟨h1.trans h2, ?_⟩
    rw [List.range_succ, List.filter_append, List.map_append]
    cases e : p i <;> simp [e]
  · rintro acc S' ⟨h1, rfl⟩
    rw [rangeD_len, show ((n : Int) - 0).toNat = n by omega]
    exact hd S' h1
theorem Lc_rm {n : Nat} {guard : Sto → Prop} {S1 : Sto} {step : D → Sto → (Option D → Sto → Prop) → Prop} {Q : VK} (f : Nat → D) (hz : n ≤ szL) (hg : ∀ S', Sub S1 S' → guard S')
    (hs : ∀ (i : Nat) S' R, i < n → Sub S1 S' → (∀ S2, Sub S' S2 → R (some (f i)) S2) → step (.int (i : Int)) S' R) (hd : ∀ S', Sub S1 S' → Q (.ref S'.length) (S' ++ [.lst ((List.range n).map f)])) : Lc (rangeD 0 (n : Int)) guard S1 step Q := by
  refine Lc_rf (fun _ => true) f hz hg (fun i S' R h1 h2 h3 => hs i S' R h1 h2 fun S2 h4 => h3 S2 h4) fun S' h => ?_
  rw [List.filter_eq_self.mpr (fun _ _ => rfl)]
  exact hd S' h
/-- over any list that is known by a map -/
theorem Lc_lf {α : Type} {xs : List α} {e : α → D} {guard : Sto → Prop} {S1 : Sto} {step : D → Sto → (Option D → Sto → Prop) → Prop} {Q : VK} (p : α → Bool) (f : α → D) (hz : xs.length ≤ szL) (hg : ∀ S', Sub S1 S' → guard S')
    (hs : ∀ (x : α) S' R, x ∈ xs → Sub S1 S' → (∀ S2, Sub S' S2 → R (if p x = true then some (f x) else none) S2) → step (e x) S' R) (hd : ∀ S', Sub S1 S' → Q (.ref S'.length) (S' ++ [.lst ((xs.filter p).map f)])) : Lc (xs.map e) guard S1 step Q := by
  refine ⟨by rw [List.length_map]; exact hz, fun i acc S' => Sub S1 S' ∧ acc = ((xs.take i).filter p).map f, ⟨.refl _, rfl⟩, fun i acc S' h => hg S' h.1, ?_, ?_⟩
  · rintro i d acc S' hi ⟨h1, rfl⟩
    rw [List.getElem?_map] at hi
    cases ex : xs[i]? with
    | none => rw [ex] at hi; cases hi
    | some x =>
      rw [ex] at hi
      cases Option.some.inj hi
      refine hs x S' _ (List.mem_of_getElem? ex) h1 fun S2 h2 => ⟨h1.trans h2, ?_⟩
      rw [List.take_add_one, ex]
      cases e : p x <;> simp [e]
  · rintro acc S' ⟨h1, rfl⟩
    rw [List.length_map, List.take_length]
    exact hd S' h1
theorem Lc_lm {α : Type} {xs : List α} {e : α → D} {guard : Sto → Prop} {S1 : Sto} {step : D → Sto → (Option D → Sto → Prop) → Prop} {Q : VK} (f : α → D) (hz : xs.length ≤ szL) (hg : ∀ S', Sub S1 S' → guard S')
    (hs : ∀ (x : α) S' R, x ∈ xs → Sub S1 S' → (∀ S2, Sub S' S2 → R (some (f x)) S2) → step (e x) S' R) (hd : ∀ S', Sub S1 S' → Q (.ref S'.length) (S' ++ [.lst (xs.map f)])) : Lc (xs.map e) guard S1 step Q := by
  refine Lc_lf (fun _ => true) f hz hg (fun x S' R h1 h2 h3 => hs x S' R h1 h2 fun S2 h4 => h3 S2 h4) fun S' h => ?_
  rw [List.filter_eq_self.mpr (fun _ _ => rfl)]
  exact hd S' h
theorem atZ_intN {ns : List Int} {i : Nat} (h : i < ns.length) : atZ (intD ns) (i : Int) = some (.int (ns.getD i 0)) := by
  have := atZ_intD (ns := ns) (i := (i : Int)) (by omega) (by omega)
  rwa [Int.toNat_natCast] at this
theorem flats_map {α : Type} {f : α → D} : ∀ {l : List α}, (∀ x ∈ l, flat (f x) = true) → flats (l.map f) = true
  | [], _ => rfl
  | x :: l, h => by
    show (flat (f x) && flats (l.map f)) = true
    rw [h x List.mem_cons_self, flats_map fun y hy => h y (List.mem_cons_of_mem _ hy)]
    rfl
theorem slims_map {α : Type} {f : α → D} : ∀ {l : List α}, (∀ x ∈ l, slim (f x) = true) → slims (l.map f) = true
  | [], _ => rfl
  | x :: l, h => by
    show (slim (f x) && slims (l.map f)) = true
    rw [h x List.mem_cons_self, slims_map fun y hy => h y (List.mem_cons_of_mem _ hy)]
    rfl
theorem deeps_map {α : Type} {f : α → D} {N : Nat} : ∀ {l : List α}, (∀ x ∈ l, deep (f x) ≤ N) → deeps (l.map f) ≤ N
  | [], _ => Nat.zero_le _
  | x :: l, h => by
    show max (deep (f x)) (deeps (l.map f)) ≤ N
    have := h x List.mem_cons_self
    have := deeps_map (l := l) fun y hy => h y (List.mem_cons_of_mem _ hy)
    omega
/-- ints sort -/
theorem sortOk_int (ns : List Int) : sortOk (intD ns) := by
  refine ⟨flats_int ns, by rw [deeps_int]; omega, ?_, Or.inr ?_⟩
  · intro a ha b hb
    obtain ⟨x, _, rfl⟩ := List.mem_map.mp ha
    obtain ⟨y, _, rfl⟩ := List.mem_map.mp hb
    rfl
  · intro a ha
    obtain ⟨x, _, rfl⟩ := List.mem_map.mp ha
    exact ⟨by simp, by simp⟩
theorem sort_int {ns : List Int} {ys : List D} (hp : ys.Perm (intD ns)) (hw : ys.Pairwise (fun a b => ltD b a = false)) : ∃ ms : List Int, ys = intD ms ∧ ms.Perm ns ∧ ms.Pairwise (· ≤ ·) := by
  obtain ⟨ms, h1, rfl⟩ := perm_map _ hp _ rfl
  refine ⟨ms, rfl, h1, ?_⟩
  rw [List.pairwise_map] at hw
  refine hw.imp fun {a b} h => ?_
  have h : decide (b < a) = false := h
  simpa using h
theorem get_at {S : Sto} {n : Nat} {xs : List D} (h : S[n]? = some (.lst xs)) : S[n]? = some (.lst xs) := h
theorem natD_map (l : List Nat) : natD l = l.map fun (k : Nat) => D.int (k : Int) := by simp [natD, intD]
theorem any_int (ns : List Int) (x : Int) : (intD ns).any (fun y => eqD y (.int x)) = decide (x ∈ ns) := by
  induction ns with
  | nil => simp
  | cons n ns ih =>
    show (eqD (.int n) (.int x) || (intD ns).any fun y => eqD y (.int x)) = _
    rw [ih, show eqD (.int n) (.int x) = decide (n = x) from rfl]
    simp only [List.mem_cons, Bool.decide_or]
    congr 1
    simp [eq_comm]
theorem any_nat (ns : List Nat) (x : Nat) : (natD ns).any (fun y => eqD y (.int x)) = decide (x ∈ ns) := by
  rw [any_int]
  have : ((x : Int) ∈ ns.map fun (k : Nat) => (k : Int)) ↔ x ∈ ns := by
    rw [List.mem_map]
    exact ⟨fun ⟨a, h, e⟩ => by rwa [show x = a by omega], fun h => ⟨x, h, rfl⟩⟩
  simp only [this]
theorem Ch.put {S S' : Sto} {n m : Nat} {o : O} (h : Ch n S S') (hm : S.length ≤ m) : Ch n S (S'.set m o) := fun k u hk e => by
  rw [at_set_ne (by have := at_lt e; omega)]
  exact h k u hk e
theorem Ch.app {S S' : Sto} {n : Nat} (h : Ch n S S') (l : Sto) : Ch n S (S' ++ l) := h.trans (Sub.push S' l).ch
theorem Dr.app {n : Nat} {S : Sto} (d : Dr n S) (l : Sto) : Dr n (S ++ l) := d.sub (Sub.push S l)
theorem Dr.put {n m : Nat} {S : Sto} {o : O} (d : Dr n S) (h : n ≠ m) : Dr n (S.set m o) := let ⟨ns, e⟩ := d; ⟨ns, by rw [at_set_ne h]; exact e⟩
theorem Dr.lt {n : Nat} {S : Sto} (d : Dr n S) : n < S.length := let ⟨_, e⟩ := d; at_lt e
theorem Ch.len {n : Nat} {S S' : Sto} (h : Ch n S S') (hn : n < S'.length) : S.length ≤ S'.length := by
  false_or_by_contra
  rename_i hc
  have h1 : S.length - 1 < S.length := by omega
  by_cases e : S.length - 1 = n
  · omega
  · have := at_lt (h (S.length - 1) _ e (List.getElem?_eq_getElem h1))
    omega
theorem Sub.len {S S' : Sto} (h : Sub S S') : S.length ≤ S'.length := by
  false_or_by_contra
  rename_i hc
  have h1 : S.length - 1 < S.length := by omega
  have := at_lt (h (S.length - 1) _ (List.getElem?_eq_getElem h1))
  omega
theorem ifT {c : Bool} {A B : Prop} {_ : Decidable (c = true)} (h : c = true) (a : A) : if c = true then A else B := by rw [if_pos h]; exact a
theorem ifF {c : Bool} {A B : Prop} {_ : Decidable (c = true)} (h : c = false) (b : B) : if c = true then A else B := by rw [if_neg (by rw [h]; decide)]; exact b
theorem it_at {S : Sto} {n : Nat} {xs : List D} {A : List D → Prop} (h : S[n]? = some (.lst xs)) (a : A xs) : match S[n]? with
    | some (.lst ys) => A ys
    | _ => False := by
  rw [h]
  exact a
theorem eqD_ii (i j : Int) : eqD (.int i) (.int j) = decide (i = j) := rfl
end DL
set_option linter.all false
set_option maxRecDepth 100000
set_option maxHeartbeats 4000000
/-! DLQ: fractions in lowest terms as pairs: rationals. -/
namespace DL
@[reducible] def qD (q : Rat) : D := .tup [.int q.num, .int q.den]
/-- n divided by d in lowest terms, with a divisor that is the greatest common one, with d's sign -/
theorem ratio_eq {n d : Int} (hd : d ≠ 0) : n.fdiv (if d < 0 then -((Nat.gcd n.natAbs d.natAbs : Nat) : Int) else (Nat.gcd n.natAbs d.natAbs : Nat)) = (Rat.divInt n d).num ∧ d.fdiv (if d < 0 then -((Nat.gcd n.natAbs d.natAbs : Nat) : Int) else (Nat.gcd n.natAbs d.natAbs : Nat)) = (Rat.divInt n d).den := by
  rw [Rat.num_divInt, Rat.den_divInt, if_neg hd]
  have e : Int.gcd d n = Nat.gcd n.natAbs d.natAbs := Nat.gcd_comm _ _
  have hg : 0 < Nat.gcd n.natAbs d.natAbs := Nat.gcd_pos_of_pos_right _ (by omega)
  have h1 : ((Int.gcd d n : Nat) : Int) ∣ n := Int.gcd_dvd_right ..
  have h2 : ((Int.gcd d n : Nat) : Int) ∣ d := Int.gcd_dvd_left ..
  rw [e] at h1 h2 ⊢
  generalize Nat.gcd n.natAbs d.natAbs = g at *
  obtain ⟨k, rfl⟩ := h1
  obtain ⟨m, rfl⟩ := h2
  have hg0 : (g : Int) ≠ 0 := by omega
  have hm : m ≠ 0 := fun h => hd (by rw [h, Int.mul_zero])
  have hnat : ((g : Int) * m).natAbs / g = m.natAbs := by
    rw [Int.natAbs_mul, Int.natAbs_natCast, Nat.mul_div_cancel_left _ hg]
  rw [hnat]
  rcases Int.lt_or_gt_of_ne hm with h | h
  · have hs : (g : Int) * m < 0 := Int.mul_neg_of_pos_of_neg (by omega) h
    rw [if_pos hs, Int.sign_eq_neg_one_of_neg hs]
    have e1 : ∀ x : Int, ((g : Int) * x).fdiv (-(g : Int)) = -x := fun x => by
      rw [show (g : Int) * x = -(g : Int) * -x by rw [Int.neg_mul_neg]]
      exact Int.mul_fdiv_cancel_left _ (by omega)
    rw [e1, e1]
    refine ⟨?_, by omega⟩
    rw [show (-1 : Int) * ((g : Int) * k) = (g : Int) * -k by rw [Int.mul_neg]; omega, Int.mul_ediv_cancel_left _ hg0]
  · have hs : 0 < (g : Int) * m := Int.mul_pos (by omega) h
    rw [if_neg (by omega), Int.sign_eq_one_of_pos hs, Int.one_mul, Int.mul_fdiv_cancel_left _ hg0, Int.mul_fdiv_cancel_left _ hg0, Int.mul_ediv_cancel_left _ hg0]
    exact ⟨rfl, by omega⟩
theorem divInt_eq (n d : Int) : Rat.divInt n d = (n : Rat) / (d : Rat) := Rat.divInt_eq_div n d
theorem q_plus (a b : Rat) : Rat.divInt (a.num * b.den + b.num * a.den) (a.den * b.den) = a + b := by
  have ha := a.den_nz
  have hb := b.den_nz
  rw [← Rat.divInt_add_divInt _ _ (by omega) (by omega), Rat.num_divInt_den, Rat.num_divInt_den]
theorem q_times (a b : Rat) : Rat.divInt (a.num * b.num) (a.den * b.den) = a * b := by
  rw [← Rat.divInt_mul_divInt, Rat.num_divInt_den, Rat.num_divInt_den]
theorem q_minus (a b : Rat) : Rat.divInt (a.num * b.den - b.num * a.den) (a.den * b.den) = a - b := by
  have h := q_plus a (-b)
  rw [Rat.neg_num, Rat.neg_den, Int.neg_mul] at h
  rw [Rat.sub_eq_add_neg, ← h]
  rfl
theorem q_over (a b : Rat) : Rat.divInt (a.num * b.den) (a.den * b.num) = a / b := by
  rw [Rat.div_def, Rat.inv_def]
  conv => rhs; rw [← Rat.num_divInt_den a]
  rw [Rat.divInt_mul_divInt]
theorem q_lt (a b : Rat) : decide (a.num * (b.den : Int) < b.num * (a.den : Int)) = decide (a < b) := by
  rw [decide_eq_decide, Rat.lt_iff]
theorem qD_int (i : Int) : qD (i : Rat) = .tup [.int i, .int 1] := by
  unfold qD
  rw [Rat.num_intCast, Rat.den_intCast]
  rfl
theorem qD_eq {a b : Rat} : eqD (qD a) (qD b) = decide (a = b) := by
  show (decide (a.num = b.num) && (decide ((a.den : Int) = b.den) && true)) = decide (a = b)
  rw [Bool.and_true, ← Bool.decide_and, decide_eq_decide]
  exact ⟨fun ⟨h1, h2⟩ => Rat.ext h1 (by omega), fun h => by rw [h]; exact ⟨rfl, rfl⟩⟩
theorem qD_ok (a b : Rat) : flat (qD a) = true ∧ flat (qD b) = true ∧ deep (qD a) ≤ 64 ∧ deep (qD b) ≤ 64 := ⟨rfl, rfl, by show max 0 (max 0 0) + 1 ≤ 64; decide, by show max 0 (max 0 0) + 1 ≤ 64; decide⟩
/-! sizes -/
/-- a fraction that the machine reckons with -/
def sm (q : Rat) : Prop := q.den < 2 ^ 2000 ∧ q.num.natAbs < 2 ^ 4000
theorem sm_mul {i j : Int} (hi : i.natAbs < 2 ^ 100000) (hj : j.natAbs < 2 ^ 100000) : MulOk i j := Or.inr ⟨100000, 100000, hi, hj, by decide⟩
theorem pow_le2 {a b : Nat} (h : a ≤ b) : 2 ^ a ≤ 2 ^ b := Nat.pow_le_pow_right (by decide) h
/-- q times P is whole -/
def Ov (P : Nat) (q : Rat) : Prop := q.den ∣ P
theorem Ov.mono {P P' : Nat} {q : Rat} (h : Ov P q) (hd : P ∣ P') : Ov P' q := Nat.dvd_trans h hd
theorem q_den (q : Rat) : q * (q.den : Rat) = (q.num : Rat) := by
  have h := Rat.num_divInt_den q
  rw [Rat.divInt_eq_div] at h
  have hd : ((q.den : Nat) : Rat) ≠ 0 := by
    have := q.den_nz
    intro e
    exact this (by exact_mod_cast e)
  have e : ((q.den : Int) : Rat) = ((q.den : Nat) : Rat) := rfl
  rw [e] at h
  conv => lhs; lhs; rw [← h]
  rw [Rat.div_mul_cancel hd]
theorem Ov_iff {P : Nat} {q : Rat} : Ov P q ↔ ∃ z : Int, q * (P : Rat) = (z : Rat) := by
  constructor
  · rintro ⟨m, rfl⟩
    refine ⟨q.num * m, ?_⟩
    have := q_den q
    rw [Rat.natCast_mul, ← Rat.mul_assoc, this, Rat.intCast_mul]
    rfl
  · rintro ⟨z, h⟩
    have h2 := q_den q
    have h3 : ((q.num * P : Int) : Rat) = ((z * q.den : Int) : Rat) := by
      rw [Rat.intCast_mul, Rat.intCast_mul, ← h2, ← h]
      show q * (q.den : Rat) * (P : Rat) = q * (P : Rat) * (q.den : Rat)
      rw [Rat.mul_assoc, Rat.mul_comm (q.den : Rat), ← Rat.mul_assoc]
    have h4 : q.num * P = z * q.den := Rat.intCast_inj.mp h3
    have h5 : q.den ∣ q.num.natAbs * P := by
      have := congrArg Int.natAbs h4
      rw [Int.natAbs_mul, Int.natAbs_mul, Int.natAbs_natCast, Int.natAbs_natCast] at this
      rw [this]
      exact Nat.dvd_mul_left _ _
    exact (Nat.Coprime.symm q.reduced).dvd_of_dvd_mul_left h5
theorem Ov_self (q : Rat) : Ov q.den q := Nat.dvd_refl _
theorem Ov_int (P : Nat) (i : Int) : Ov P (i : Rat) := by unfold Ov; rw [Rat.den_intCast]; exact Nat.one_dvd _
theorem Ov.add {P : Nat} {a b : Rat} (ha : Ov P a) (hb : Ov P b) : Ov P (a + b) := by
  obtain ⟨x, hx⟩ := Ov_iff.mp ha
  obtain ⟨y, hy⟩ := Ov_iff.mp hb
  exact Ov_iff.mpr ⟨x + y, by rw [Rat.add_mul, hx, hy, Rat.intCast_add]⟩
theorem Ov.neg {P : Nat} {a : Rat} (ha : Ov P a) : Ov P (-a) := by
  unfold Ov
  rw [Rat.neg_den]
  exact ha
theorem Ov.sub {P : Nat} {a b : Rat} (ha : Ov P a) (hb : Ov P b) : Ov P (a - b) := by
  rw [Rat.sub_eq_add_neg]
  exact ha.add hb.neg
theorem Ov.mul {P R : Nat} {a b : Rat} (ha : Ov P a) (hb : Ov R b) : Ov (P * R) (a * b) := by
  obtain ⟨x, hx⟩ := Ov_iff.mp ha
  obtain ⟨y, hy⟩ := Ov_iff.mp hb
  refine Ov_iff.mpr ⟨x * y, ?_⟩
  rw [Rat.intCast_mul, ← hx, ← hy, Rat.natCast_mul]
  grind
theorem Ov.over {P : Nat} {a : Rat} (ha : Ov P a) {k : Nat} (hk : k ≠ 0) : Ov (P * k) (a / (k : Rat)) := by
  obtain ⟨x, hx⟩ := Ov_iff.mp ha
  refine Ov_iff.mpr ⟨x, ?_⟩
  have h0 : (k : Rat) ≠ 0 := fun e => hk (by exact_mod_cast e)
  rw [Rat.natCast_mul, ← hx]
  grind
/-- a bound for the number and for what it is told over -/
theorem sm_of {P M : Nat} {q : Rat} (h : Ov P q) (hP : 0 < P) (h1 : -(M : Rat) ≤ q) (h2 : q ≤ (M : Rat)) (hp : P < 2 ^ 2000) (hm : M * P < 2 ^ 4000) : sm q := by
  have hd : q.den ≤ P := Nat.le_of_dvd hP h
  refine ⟨by omega, ?_⟩
  have e := q_den q
  have hd0 : (0 : Rat) ≤ (q.den : Rat) := by exact_mod_cast Nat.zero_le _
  have u : (q.num : Rat) ≤ ((M * q.den : Nat) : Rat) := by
    rw [← e, Rat.natCast_mul]
    exact Rat.mul_le_mul_of_nonneg_right h2 hd0
  have l : ((-(M * q.den : Nat) : Int) : Rat) ≤ (q.num : Rat) := by
    rw [← e, Rat.intCast_neg]
    have := Rat.mul_le_mul_of_nonneg_right h1 hd0
    rw [Rat.neg_mul] at this
    rw [show ((((M * q.den : Nat) : Int)) : Rat) = ((M * q.den : Nat) : Rat) from rfl, Rat.natCast_mul]
    exact this
  have u2 : q.num ≤ ((M * q.den : Nat) : Int) := Rat.intCast_le_intCast.mp u
  have l2 : -((M * q.den : Nat) : Int) ≤ q.num := Rat.intCast_le_intCast.mp l
  have : M * q.den ≤ M * P := Nat.mul_le_mul_left _ hd
  omega
end DL
set_option linter.all false
/-! DLF: how long a search for the greatest common divisor may go on. -/
namespace DL
def fib : Nat → Nat
  | 0 => 0
  | 1 => 1
  | n + 2 => fib n + fib (n + 1)
theorem fib12 (n : Nat) : 233 * fib (n + 1) ≤ fib (n + 13) := by
  have h : ∀ k, fib (n + k + 2) = fib (n + k) + fib (n + k + 1) := fun _ => rfl
  have := h 0; have := h 1; have := h 2; have := h 3; have := h 4; have := h 5; have := h 6; have := h 7; have := h 8; have := h 9; have := h 10; have := h 11
  simp only [Nat.add_assoc, Nat.reduceAdd, Nat.add_zero] at *
  omega
theorem fibpow : ∀ k, 233 ^ k ≤ fib (12 * k + 1)
  | 0 => Nat.le_refl _
  | k + 1 => by
    have h1 := fibpow k
    have h2 := fib12 (12 * k)
    rw [Nat.pow_succ, show 12 * (k + 1) + 1 = 12 * k + 13 by omega]
    omega
theorem fib_mono1 (n : Nat) : fib n ≤ fib (n + 1) := by
  cases n with
  | zero => decide
  | succ n => show fib (n + 1) ≤ fib n + fib (n + 1); omega
theorem fib_mono {m n : Nat} (h : m ≤ n) : fib m ≤ fib n := by
  induction h with
  | refl => exact Nat.le_refl _
  | step _ ih => exact Nat.le_trans ih (fib_mono1 _)
theorem fib4000 : 2 ^ 2600 ≤ fib 4000 := by
  have h1 := fibpow 333
  have h2 := fib_mono (show 12 * 333 + 1 ≤ 4000 by decide)
  have h3 : 2 ^ 2600 ≤ 233 ^ 333 := by decide +kernel
  exact Nat.le_trans h3 (Nat.le_trans h1 h2)
/-- after i turns: d is at least so much -/
theorem fib_step {d a b i : Nat} (hb : 0 < b) (hab : b ≤ a) (h : fib (i + 1) * a + fib i * b ≤ d) : fib (i + 2) * b + fib (i + 1) * (a % b) ≤ d := by
  have h1 := Nat.div_add_mod a b
  have h2 : 1 ≤ a / b := (Nat.one_le_div_iff hb).mpr hab
  have h3 : b * 1 ≤ b * (a / b) := Nat.mul_le_mul_left b h2
  have h4 : b + a % b ≤ a := by omega
  have h5 := Nat.mul_le_mul_left (fib (i + 1)) h4
  rw [Nat.mul_add] at h5
  show (fib i + fib (i + 1)) * b + _ ≤ _
  rw [Nat.add_mul]
  omega
end DL
set_option linter.all false
set_option maxRecDepth 100000
/-! the parts of the defs of oddsweighed_k91_whole_best_of_many -/
namespace K91
open DL
@[reducible] def dNOTHING : D := .tup [.int 0, .int 1]
/-! divisor(one, other); slots: 0 one, 1 other -/
def w_divisor  : WS :=
  (sRet (wB rGcd (wCons (wVar 0) (wCons (wVar 1) wNil))))
/-! fraction(n, d); slots: 0 n, 1 d, 2 common -/
def w_fraction (sp_divisor : Spc) : WS :=
  (sSeq (sAsg (wCall 2 sp_divisor (wCons (wVar 0) (wCons (wVar 1) wNil))) (gN 2))
    (sSeq (sIf (wtVal (wOp rLt (wVar 1) (wC (.int 0)))) (sAsg (wUn rNeg (wVar 2)) (gN 2)) sNext)
    (sRet (wTup (wCons (wOp rDiv (wVar 0) (wVar 2)) (wCons (wOp rDiv (wVar 1) (wVar 2)) wNil))))))
/-! plus(one, other); slots: 0 one, 1 other -/
def w_plus (sp_fraction : Spc) : WS :=
  (sRet (wCall 2 sp_fraction (wCons (wOp rAdd (wOp rMul (wOp rIx (wVar 0) (wC (.int 0))) (wOp rIx (wVar 1) (wC (.int 1)))) (wOp rMul (wOp rIx (wVar 1) (wC (.int 0))) (wOp rIx (wVar 0) (wC (.int 1))))) (wCons (wOp rMul (wOp rIx (wVar 0) (wC (.int 1))) (wOp rIx (wVar 1) (wC (.int 1)))) wNil))))
/-! is_less(one, other); slots: 0 one, 1 other -/
def w_is_less  : WS :=
  (sRet (wOp rLt (wOp rMul (wOp rIx (wVar 0) (wC (.int 0))) (wOp rIx (wVar 1) (wC (.int 1)))) (wOp rMul (wOp rIx (wVar 1) (wC (.int 0))) (wOp rIx (wVar 0) (wC (.int 1))))))
/-! chance_to_best(n, r); slots: 0 n, 1 r, 2 total, 3 common, 4 k -/
def w_chance_to_best (sp_fraction : Spc) : WS :=
  (sSeq (sIf (wtVal (wOp rEq (wVar 1) (wC (.int 0)))) (sRet (wTup (wCons (wC (.int 1)) (wCons (wVar 0) wNil)))) sNext)
    (sSeq (sAsg (wTup (wCons (wC (.int 0)) (wCons (wC (.int 1)) wNil))) (gT [2, 3]))
    (sSeq (sFor (wR2 (wVar 1) (wVar 0)) (gN 4) (sPar 2 3 (wOp rAdd (wOp rMul (wVar 2) (wVar 4)) (wVar 3)) (wOp rMul (wVar 3) (wVar 4))))
    (sRet (wCall 2 sp_fraction (wCons (wOp rMul (wVar 1) (wVar 2)) (wCons (wOp rMul (wVar 0) (wVar 3)) wNil)))))))
/-! best_pass(n); slots: 0 n, 1 total, 2 r -/
def w_best_pass (sp_plus : Spc) (sp_is_less : Spc) : WS :=
  (sSeq (sAsg (wC dNOTHING) (gN 1))
    (sSeq (sFor (wR3 (wOp rSub (wVar 0) (wC (.int 1))) (wC (.int 0)) (wUn rNeg (wC (.int 1)))) (gN 2) (sSeq (sAsg (wCall 2 sp_plus (wCons (wVar 1) (wCons (wTup (wCons (wC (.int 1)) (wCons (wVar 2) wNil))) wNil))) (gN 1))
    (sIf (wtVal (wCall 2 sp_is_less (wCons (wTup (wCons (wC (.int 1)) (wCons (wC (.int 1)) wNil))) (wCons (wVar 1) wNil)))) (sRet (wIf (wtVal (wOp rGt (wVar 0) (wC (.int 2)))) (wVar 2) (wC (.int 0)))) sNext)))
    (sRet (wC (.int 0)))))
/-! taken(order, r); slots: 0 order, 1 r, 2 at, 3 other -/
def w_taken  : WS :=
  (sSeq (sFor (wR2 (wVar 1) (wB rLen (wCons (wVar 0) wNil))) (gN 2) (sIf (wtVal (wB rAll (wCons (wLc (wIt (wSl rSl (wVar 0) wPNo (wPAt (wVar 2)))) (gN 3) wtYes (wOp rLt (wOp rIx (wVar 0) (wVar 2)) (wVar 3)) [3]) wNil))) (sRet (wVar 2)) sNext))
    (sRet (wC .non)))
/-! records(order); slots: 0 order, 1 at, 2 other -/
def w_records  : WS :=
  (sRet (wB rTuple (wCons (wLc (wR1 (wB rLen (wCons (wVar 0) wNil))) (gN 1) (wtVal (wB rAll (wCons (wLc (wIt (wSl rSl (wVar 0) wPNo (wPAt (wVar 1)))) (gN 2) wtYes (wOp rLt (wOp rIx (wVar 0) (wVar 1)) (wVar 2)) [2]) wNil))) (wVar 1) [1]) wNil)))
/-! rows_by_records(n); slots: 0 n, 1 row, 2 many, 3 longer, 4 k -/
def w_rows_by_records  : WS :=
  (sSeq (sAsg (wLst (wCons (wC (.int 1)) wNil)) (gN 1))
    (sSeq (sFor (wR2 (wC (.int 1)) (wOp rAdd (wVar 0) (wC (.int 1)))) (gN 2) (sSeq (sAsg (wOp rAdd (wVar 1) (wLst (wCons (wC (.int 0)) wNil))) (gN 3))
    (sAsg (wLc (wR1 (wOp rAdd (wVar 2) (wC (.int 1)))) (gN 4) wtYes (wOp rAdd (wOp rMul (wOp rSub (wVar 2) (wC (.int 1))) (wOp rIx (wVar 3) (wVar 4))) (wIf (wtVal (wOp rGt (wVar 4) (wC (.int 0)))) (wOp rIx (wVar 3) (wOp rSub (wVar 4) (wC (.int 1)))) (wC (.int 0)))) [4]) (gN 1))))
    (sRet (wVar 1))))
/-! chance_of_records(n, k); slots: 0 n, 1 k, 2 row -/
def w_chance_of_records (sp_rows_by_records : Spc) (sp_fraction : Spc) : WS :=
  (sSeq (sAsg (wCall 1 sp_rows_by_records (wCons (wVar 0) wNil)) (gN 2))
    (sRet (wIf (wtVal (wChain rLe rLe (wC (.int 0)) (wVar 1) (wVar 0))) (wCall 2 sp_fraction (wCons (wOp rIx (wVar 2) (wVar 1)) (wCons (wB rSum (wCons (wVar 2) wNil)) wNil))) (wC dNOTHING))))
/-! mean_records(n); slots: 0 n, 1 found, 2 k -/
def w_mean_records (sp_plus : Spc) : WS :=
  (sSeq (sAsg (wC dNOTHING) (gN 1))
    (sSeq (sFor (wR2 (wC (.int 1)) (wOp rAdd (wVar 0) (wC (.int 1)))) (gN 2) (sAsg (wCall 2 sp_plus (wCons (wVar 1) (wCons (wTup (wCons (wC (.int 1)) (wCons (wVar 2) wNil))) wNil))) (gN 1)))
    (sRet (wVar 1))))
/-! _law_draws(script, many); slots: 0 script, 1 many, 2 cells, 3 cell, 4 rest, 5 draws, 6 k, 7 at, 8 mingled -/
def w_law_draws  : WS :=
  (sSeq (sAsg (wLc (wIt (wVar 0)) (gN 3) wtYes (wB rInt (wCons (wVar 3) wNil)) [3]) (gN 2))
    (sSeq (sIf (wtVal (wOp rEq (wB rLen (wCons (wVar 2) wNil)) (wC (.int 0)))) (sDrop (wM rAppend (wVar 2) (wCons (wC (.int 0)) wNil))) sNext)
    (sSeq (sAsg (wB rList (wCons (wVar 2) wNil)) (gN 4))
    (sSeq (sAsg (wLst wNil) (gN 5))
    (sSeq (sFor (wR1 (wVar 1)) (gN 6) (sSeq (sAsg (wOp rMod (wVar 6) (wB rLen (wCons (wVar 2) wNil))) (gN 7))
    (sIf (wtAnd (wtVal (wOp rGe (wOp rIx (wVar 2) (wVar 7)) (wOp rPow (wC (.int 10)) (wC (.int 18))))) (wtVal (wOp rGt (wOp rIx (wVar 4) (wVar 7)) (wC (.int 0))))) (sSeq (sDrop (wM rAppend (wVar 5) (wCons (wOp rMod (wB rInt (wCons (wOp rIx (wVar 4) (wVar 7)) wNil)) (wC (.int 1000))) wNil)))
    (sSub rPut (wOp rDiv (wOp rIx (wVar 4) (wVar 7)) (wC (.int 1000))) (wVar 4) (wVar 7))) (sSeq (sAsg (wOp rMod (wB rInt (wCons (wOp rAdd (wOp rAdd (wOp rMul (wOp rIx (wVar 2) (wVar 7)) (wC (.int 48271))) (wOp rMul (wVar 6) (wC (.int 69621)))) (wC (.int 11))) wNil)) (wC (.int 2147483647))) (gN 8))
    (sDrop (wM rAppend (wVar 5) (wCons (wOp rMod (wB rInt (wCons (wOp rAdd (wOp rAdd (wOp rMul (wVar 8) (wVar 8)) (wOp rMul (wC (.int 3)) (wVar 8))) (wVar 6)) wNil)) (wC (.int 1000003))) wNil)))))))
    (sSeq (sDrop (wM0 rReverse (wVar 5)))
    (sRet (wVar 5))))))))
/-! _law_take(draws, many); slots: 0 draws, 1 many -/
def w_law_take  : WS :=
  (sSeq (sIf (wtVal (wOp rEq (wB rLen (wCons (wVar 0) wNil)) (wC (.int 0)))) (sRet (wC (.int 0))) sNext)
    (sRet (wOp rMod (wB rInt (wCons (wM0 rPop (wVar 0)) wNil)) (wVar 1))))
/-! _law_same(actual, due); slots: 0 actual, 1 due, 2 k -/
def w_law_same (sp_law_same : Spc) : WS :=
  (sSeq (sIf (wtVal (wB rIsi (wCons (wVar 1) (wCons (wC (.ty "bool")) wNil)))) (sRet (wAnd (wB rIsi (wCons (wVar 0) (wCons (wC (.ty "bool")) wNil))) (wOp rEq (wVar 0) (wVar 1)))) sNext)
    (sSeq (sIf (wtVal (wB rIsi (wCons (wVar 1) (wCons (wC (.ty "int")) wNil)))) (sRet (wAnd (wB rIsi (wCons (wVar 0) (wCons (wC (.ty "int")) wNil))) (wAnd (wNot (wB rIsi (wCons (wVar 0) (wCons (wC (.ty "bool")) wNil)))) (wOp rEq (wVar 0) (wVar 1))))) sNext)
    (sSeq (sIf (wtVal (wB rIsi (wCons (wVar 1) (wCons (wC (.ty "str")) wNil)))) (sRet (wAnd (wB rIsi (wCons (wVar 0) (wCons (wC (.ty "str")) wNil))) (wOp rEq (wVar 0) (wVar 1)))) sNext)
    (sSeq (sIf (wtVal (wOp rIs (wVar 1) (wC .non))) (sRet (wOp rIs (wVar 0) (wC .non))) sNext)
    (sSeq (sIf (wtOr (wtNot (wtVal (wB rIsi (wCons (wVar 0) (wCons (wC (.ty "tuple")) wNil))))) (wtVal (wOp rNe (wB rLen (wCons (wVar 0) wNil)) (wB rLen (wCons (wVar 1) wNil))))) (sRet (wC (.bl false))) sNext)
    (sSeq (sFor (wR1 (wB rLen (wCons (wVar 1) wNil))) (gN 2) (sIf (wtNot (wtVal (wCall 2 sp_law_same (wCons (wOp rIx (wVar 0) (wVar 2)) (wCons (wOp rIx (wVar 1) (wVar 2)) wNil))))) (sRet (wC (.bl false))) sNext))
    (sRet (wC (.bl true)))))))))
/-! _law_shared(one, other); slots: 0 one, 1 other, 2 first, 3 rest, 4 k, 5 later -/
def w_law_shared  : WS :=
  (sSeq (sAsg (wB rAbs (wCons (wVar 0) wNil)) (gN 2))
    (sSeq (sAsg (wB rAbs (wCons (wVar 1) wNil)) (gN 3))
    (sSeq (sFor (wR1 (wC (.int 4000))) (gN 4) (sSeq (sIf (wtVal (wOp rEq (wVar 3) (wC (.int 0)))) sBreak sNext)
    (sSeq (sAsg (wOp rMod (wB rInt (wCons (wVar 2) wNil)) (wVar 3)) (gN 5))
    (sSeq (sAsg (wVar 3) (gN 2))
    (sAsg (wVar 5) (gN 3))))))
    (sRet (wVar 2)))))
/-! _law_frac(n, d); slots: 0 n, 1 d, 2 size -/
def w_law_frac (sp_law_shared : Spc) : WS :=
  (sSeq (sAsg (wCall 2 sp_law_shared (wCons (wVar 0) (wCons (wVar 1) wNil))) (gN 2))
    (sSeq (sIf (wtVal (wOp rLt (wVar 1) (wC (.int 0)))) (sAsg (wUn rNeg (wVar 2)) (gN 2)) sNext)
    (sRet (wTup (wCons (wOp rDiv (wVar 0) (wVar 2)) (wCons (wOp rDiv (wVar 1) (wVar 2)) wNil))))))
/-! _law_plus(one, other); slots: 0 one, 1 other -/
def w_law_plus (sp_law_frac : Spc) : WS :=
  (sRet (wCall 2 sp_law_frac (wCons (wOp rAdd (wOp rMul (wOp rIx (wVar 0) (wC (.int 0))) (wOp rIx (wVar 1) (wC (.int 1)))) (wOp rMul (wOp rIx (wVar 1) (wC (.int 0))) (wOp rIx (wVar 0) (wC (.int 1))))) (wCons (wOp rMul (wOp rIx (wVar 0) (wC (.int 1))) (wOp rIx (wVar 1) (wC (.int 1)))) wNil))))
/-! _law_mul(one, other); slots: 0 one, 1 other -/
def w_law_mul (sp_law_frac : Spc) : WS :=
  (sRet (wCall 2 sp_law_frac (wCons (wOp rMul (wOp rIx (wVar 0) (wC (.int 0))) (wOp rIx (wVar 1) (wC (.int 0)))) (wCons (wOp rMul (wOp rIx (wVar 0) (wC (.int 1))) (wOp rIx (wVar 1) (wC (.int 1)))) wNil))))
/-! _law_is_less(one, other); slots: 0 one, 1 other -/
def w_law_is_less  : WS :=
  (sRet (wOp rLt (wOp rMul (wOp rIx (wVar 0) (wC (.int 0))) (wOp rIx (wVar 1) (wC (.int 1)))) (wOp rMul (wOp rIx (wVar 1) (wC (.int 0))) (wOp rIx (wVar 0) (wC (.int 1))))))
/-! _law_all_orders(n); slots: 0 n, 1 found, 2 k, 3 more_of, 4 order, 5 at -/
def w_law_all_orders  : WS :=
  (sSeq (sAsg (wLst (wCons (wTup wNil) wNil)) (gN 1))
    (sSeq (sFor (wR1 (wVar 0)) (gN 2) (sSeq (sAsg (wLst wNil) (gN 3))
    (sSeq (sFor (wIt (wVar 1)) (gN 4) (sAsg (wOp rAdd (wVar 3) (wLc (wR1 (wOp rAdd (wVar 2) (wC (.int 1)))) (gN 5) wtYes (wOp rAdd (wOp rAdd (wSl rSl (wVar 4) wPNo (wPAt (wVar 5))) (wTup (wCons (wVar 2) wNil))) (wSl rSl (wVar 4) (wPAt (wVar 5)) wPNo)) [5])) (gN 3)))
    (sAsg (wVar 3) (gN 1)))))
    (sRet (wVar 1))))
/-! _law_records(order); slots: 0 order, 1 found, 2 best, 3 k -/
def w_law_records  : WS :=
  (sSeq (sAsg (wLst wNil) (gN 1))
    (sSeq (sAsg (wB rLen (wCons (wVar 0) wNil)) (gN 2))
    (sSeq (sFor (wR1 (wB rLen (wCons (wVar 0) wNil))) (gN 3) (sIf (wtVal (wOp rLt (wOp rIx (wVar 0) (wVar 3)) (wVar 2))) (sSeq (sDrop (wM rAppend (wVar 1) (wCons (wVar 3) wNil)))
    (sAsg (wOp rIx (wVar 0) (wVar 3)) (gN 2))) sNext))
    (sRet (wB rTuple (wCons (wVar 1) wNil))))))
/-! _law_taken(order, r); slots: 0 order, 1 r, 2 k -/
def w_law_taken (sp_law_records : Spc) : WS :=
  (sSeq (sFor (wIt (wCall 1 sp_law_records (wCons (wVar 0) wNil))) (gN 2) (sIf (wtVal (wOp rGe (wVar 2) (wVar 1))) (sRet (wVar 2)) sNext))
    (sRet (wC .non)))
/-! _law_chance(n, r); slots: 0 n, 1 r, 2 found, 3 k -/
def w_law_chance (sp_law_plus : Spc) (sp_law_frac : Spc) (sp_law_mul : Spc) : WS :=
  (sSeq (sIf (wtVal (wOp rEq (wVar 1) (wC (.int 0)))) (sRet (wTup (wCons (wC (.int 1)) (wCons (wVar 0) wNil)))) sNext)
    (sSeq (sAsg (wTup (wCons (wC (.int 0)) (wCons (wC (.int 1)) wNil))) (gN 2))
    (sSeq (sFor (wR2 (wVar 1) (wVar 0)) (gN 3) (sAsg (wCall 2 sp_law_plus (wCons (wVar 2) (wCons (wTup (wCons (wC (.int 1)) (wCons (wVar 3) wNil))) wNil))) (gN 2)))
    (sRet (wCall 2 sp_law_mul (wCons (wVar 2) (wCons (wCall 2 sp_law_frac (wCons (wVar 1) (wCons (wVar 0) wNil))) wNil)))))))
/-! _law_sum(first, n); slots: 0 first, 1 n, 2 top, 3 low, 4 k -/
def w_law_sum  : WS :=
  (sSeq (sAsg (wC (.int 0)) (gN 2))
    (sSeq (sAsg (wC (.int 1)) (gN 3))
    (sSeq (sFor (wR2 (wVar 0) (wVar 1)) (gN 4) (sSeq (sAsg (wOp rAdd (wOp rMul (wVar 2) (wVar 4)) (wVar 3)) (gN 2))
    (sAsg (wOp rMul (wVar 3) (wVar 4)) (gN 3))))
    (sRet (wTup (wCons (wVar 2) (wCons (wVar 3) wNil)))))))
/-! _law_order(draws, n); slots: 0 draws, 1 n, 2 style, 3 left, 4 found, 5 k, 6 draw -/
def w_law_order (sp_law_take : Spc) : WS :=
  (sSeq (sAsg (wCall 2 sp_law_take (wCons (wVar 0) (wCons (wC (.int 4)) wNil))) (gN 2))
    (sSeq (sAsg (wLstR (wVar 1)) (gN 3))
    (sSeq (sAsg (wLst wNil) (gN 4))
    (sSeq (sFor (wR1 (wVar 1)) (gN 5) (sSeq (sAsg (wB rInt (wCons (wCall 2 sp_law_take (wCons (wVar 0) (wCons (wC (.int 1000)) wNil))) wNil)) (gN 6))
    (sDrop (wM rAppend (wVar 4) (wCons (wM rPopAt (wVar 3) (wCons (wOp rIx (wLst (wCons (wOp rMod (wVar 6) (wB rLen (wCons (wVar 3) wNil))) (wCons (wC (.int 0)) (wCons (wOp rSub (wB rLen (wCons (wVar 3) wNil)) (wC (.int 1))) (wCons (wOp rMod (wVar 6) (wB rMin2 (wCons (wB rLen (wCons (wVar 3) wNil)) (wCons (wC (.int 3)) wNil)))) wNil))))) (wVar 2)) wNil)) wNil)))))
    (sSeq (sIf (wtVal (wOp rEq (wVar 2) (wC (.int 3)))) (sDrop (wM0 rReverse (wVar 4))) sNext)
    (sRet (wB rTuple (wCons (wVar 4) wNil))))))))
/-! _law_by_last(n); slots: 0 n, 1 row, 2 k, 3 later, 4 j -/
def w_law_by_last  : WS :=
  (sSeq (sAsg (wLst (wCons (wC (.int 1)) wNil)) (gN 1))
    (sSeq (sFor (wR1 (wVar 0)) (gN 2) (sSeq (sAsg (wOp rMul (wLst (wCons (wC (.int 0)) wNil)) (wOp rAdd (wB rLen (wCons (wVar 1) wNil)) (wC (.int 1)))) (gN 3))
    (sSeq (sFor (wR1 (wB rLen (wCons (wVar 1) wNil))) (gN 4) (sSeq (sSub rPut (wOp rAdd (wOp rIx (wVar 3) (wVar 4)) (wOp rMul (wVar 2) (wOp rIx (wVar 1) (wVar 4)))) (wVar 3) (wVar 4))
    (sSub rPut (wOp rAdd (wOp rIx (wVar 3) (wOp rAdd (wVar 4) (wC (.int 1)))) (wOp rIx (wVar 1) (wVar 4))) (wVar 3) (wOp rAdd (wVar 4) (wC (.int 1))))))
    (sAsg (wVar 3) (gN 1)))))
    (sRet (wVar 1))))
/-! _law_few(n); slots: 0 n, 1 orders, 2 best, 3 r, 4 good, 5 order, 6 k, 7 due -/
def w_law_few (sp_law_all_orders : Spc) (sp_law_taken : Spc) (sp_law_frac : Spc) (sp_chance_to_best : Spc) (sp_law_same : Spc) (sp_best_pass : Spc) (sp_law_records : Spc) (sp_chance_of_records : Spc) : WS :=
  (sSeq (sAsg (wCall 1 sp_law_all_orders (wCons (wVar 0) wNil)) (gN 1))
    (sSeq (sAsg (wTup (wCons (wC (.int 0)) (wCons (wC (.int 0)) wNil))) (gN 2))
    (sSeq (sFor (wR1 (wVar 0)) (gN 3) (sSeq (sAsg (wB rLen (wCons (wLc (wIt (wVar 1)) (gN 5) (wtAnd (wtVal (wOp rIsNot (wCall 2 sp_law_taken (wCons (wVar 5) (wCons (wVar 3) wNil))) (wC .non))) (wtVal (wOp rEq (wOp rIx (wVar 5) (wCall 2 sp_law_taken (wCons (wVar 5) (wCons (wVar 3) wNil)))) (wC (.int 0))))) (wVar 5) [5]) wNil)) (gN 4))
    (sSeq (sIf (wtNot (wtVal (wCall 2 sp_law_same (wCons (wCall 2 sp_chance_to_best (wCons (wVar 0) (wCons (wVar 3) wNil))) (wCons (wCall 2 sp_law_frac (wCons (wVar 4) (wCons (wB rLen (wCons (wVar 1) wNil)) wNil))) wNil))))) (sRet (wC (.bl false))) sNext)
    (sIf (wtVal (wOp rGt (wVar 4) (wOp rIx (wVar 2) (wC (.int 0))))) (sAsg (wTup (wCons (wVar 4) (wCons (wVar 3) wNil))) (gN 2)) sNext))))
    (sSeq (sIf (wtNot (wtVal (wCall 2 sp_law_same (wCons (wCall 1 sp_best_pass (wCons (wVar 0) wNil)) (wCons (wOp rIx (wVar 2) (wC (.int 1))) wNil))))) (sRet (wC (.bl false))) sNext)
    (sSeq (sFor (wR1 (wOp rAdd (wVar 0) (wC (.int 2)))) (gN 6) (sSeq (sAsg (wB rLen (wCons (wLc (wIt (wVar 1)) (gN 5) (wtVal (wOp rEq (wB rLen (wCons (wCall 1 sp_law_records (wCons (wVar 5) wNil)) wNil)) (wVar 6))) (wVar 5) [5]) wNil)) (gN 7))
    (sIf (wtNot (wtVal (wCall 2 sp_law_same (wCons (wCall 2 sp_chance_of_records (wCons (wVar 0) (wCons (wVar 6) wNil))) (wCons (wCall 2 sp_law_frac (wCons (wVar 7) (wCons (wB rLen (wCons (wVar 1) wNil)) wNil))) wNil))))) (sRet (wC (.bl false))) sNext)))
    (sRet (wC (.bl true))))))))
@[reducible] def w_law_t27 (sp_law_draws : Spc) (sp_law_take : Spc) (sp_law_few : Spc) (sp_law_order : Spc) (sp_law_records : Spc) (sp_records : Spc) (sp_law_same : Spc) (sp_law_taken : Spc) (sp_taken : Spc) (sp_law_chance : Spc) (sp_law_is_less : Spc) (sp_best_pass : Spc) (sp_chance_to_best : Spc) (sp_law_sum : Spc) (sp_law_frac : Spc) (sp_law_by_last : Spc) (sp_chance_of_records : Spc) (sp_law_plus : Spc) (sp_mean_records : Spc) : WS :=
  (sRet (wAnd (wOp rIs (wCall 2 sp_taken (wCons (wTup (wCons (wC (.int 0)) (wCons (wC (.int 2)) (wCons (wC (.int 1)) wNil)))) (wCons (wC (.int 1)) wNil))) (wC .non)) (wAnd (wCall 2 sp_law_same (wCons (wCall 1 sp_records (wCons (wTup (wCons (wC (.int 2)) (wCons (wC (.int 0)) (wCons (wC (.int 1)) wNil)))) wNil)) (wCons (wTup (wCons (wC (.int 0)) (wCons (wC (.int 1)) wNil))) wNil))) (wCall 2 sp_law_same (wCons (wCall 2 sp_taken (wCons (wVar 3) (wCons (wC (.int 0)) wNil))) (wCons (wC (.int 0)) wNil))))))
@[reducible] def w_law_t26 (sp_law_draws : Spc) (sp_law_take : Spc) (sp_law_few : Spc) (sp_law_order : Spc) (sp_law_records : Spc) (sp_records : Spc) (sp_law_same : Spc) (sp_law_taken : Spc) (sp_taken : Spc) (sp_law_chance : Spc) (sp_law_is_less : Spc) (sp_best_pass : Spc) (sp_chance_to_best : Spc) (sp_law_sum : Spc) (sp_law_frac : Spc) (sp_law_by_last : Spc) (sp_chance_of_records : Spc) (sp_law_plus : Spc) (sp_mean_records : Spc) : WS :=
  (sSeq (sIf (wtOr (wtNot (wtVal (wCall 2 sp_law_same (wCons (wCall 2 sp_chance_to_best (wCons (wC (.int 3)) (wCons (wC (.int 1)) wNil))) (wCons (wTup (wCons (wC (.int 1)) (wCons (wC (.int 2)) wNil))) wNil))))) (wtOr (wtNot (wtVal (wCall 2 sp_law_same (wCons (wCall 1 sp_best_pass (wCons (wC (.int 1)) wNil)) (wCons (wC (.int 0)) wNil))))) (wtNot (wtVal (wCall 2 sp_law_same (wCons (wCall 1 sp_best_pass (wCons (wC (.int 2)) wNil)) (wCons (wC (.int 0)) wNil))))))) (sRet (wC (.bl false))) sNext)
    (w_law_t27 sp_law_draws sp_law_take sp_law_few sp_law_order sp_law_records sp_records sp_law_same sp_law_taken sp_taken sp_law_chance sp_law_is_less sp_best_pass sp_chance_to_best sp_law_sum sp_law_frac sp_law_by_last sp_chance_of_records sp_law_plus sp_mean_records))
@[reducible] def w_law_t25 (sp_law_draws : Spc) (sp_law_take : Spc) (sp_law_few : Spc) (sp_law_order : Spc) (sp_law_records : Spc) (sp_records : Spc) (sp_law_same : Spc) (sp_law_taken : Spc) (sp_taken : Spc) (sp_law_chance : Spc) (sp_law_is_less : Spc) (sp_best_pass : Spc) (sp_chance_to_best : Spc) (sp_law_sum : Spc) (sp_law_frac : Spc) (sp_law_by_last : Spc) (sp_chance_of_records : Spc) (sp_law_plus : Spc) (sp_mean_records : Spc) : WS :=
  (sSeq (sIf (wtOr (wtNot (wtVal (wCall 2 sp_law_same (wCons (wCall 1 sp_mean_records (wCons (wVar 5) wNil)) (wCons (wVar 14) wNil))))) (wtVal (wOp rNe (wCall 2 sp_law_frac (wCons (wVar 15) (wCons (wB rSum (wCons (wVar 13) wNil)) wNil))) (wVar 14)))) (sRet (wC (.bl false))) sNext)
    (w_law_t26 sp_law_draws sp_law_take sp_law_few sp_law_order sp_law_records sp_records sp_law_same sp_law_taken sp_taken sp_law_chance sp_law_is_less sp_best_pass sp_chance_to_best sp_law_sum sp_law_frac sp_law_by_last sp_chance_of_records sp_law_plus sp_mean_records))
@[reducible] def w_law_t24 (sp_law_draws : Spc) (sp_law_take : Spc) (sp_law_few : Spc) (sp_law_order : Spc) (sp_law_records : Spc) (sp_records : Spc) (sp_law_same : Spc) (sp_law_taken : Spc) (sp_taken : Spc) (sp_law_chance : Spc) (sp_law_is_less : Spc) (sp_best_pass : Spc) (sp_chance_to_best : Spc) (sp_law_sum : Spc) (sp_law_frac : Spc) (sp_law_by_last : Spc) (sp_chance_of_records : Spc) (sp_law_plus : Spc) (sp_mean_records : Spc) : WS :=
  (sSeq (sAsg (wB rSum (wCons (wLc (wR1 (wOp rAdd (wVar 5) (wC (.int 1)))) (gN 2) wtYes (wOp rMul (wVar 2) (wOp rIx (wVar 13) (wVar 2))) [2]) wNil)) (gN 15))
    (w_law_t25 sp_law_draws sp_law_take sp_law_few sp_law_order sp_law_records sp_records sp_law_same sp_law_taken sp_taken sp_law_chance sp_law_is_less sp_best_pass sp_chance_to_best sp_law_sum sp_law_frac sp_law_by_last sp_chance_of_records sp_law_plus sp_mean_records))
@[reducible] def w_law_t23 (sp_law_draws : Spc) (sp_law_take : Spc) (sp_law_few : Spc) (sp_law_order : Spc) (sp_law_records : Spc) (sp_records : Spc) (sp_law_same : Spc) (sp_law_taken : Spc) (sp_taken : Spc) (sp_law_chance : Spc) (sp_law_is_less : Spc) (sp_best_pass : Spc) (sp_chance_to_best : Spc) (sp_law_sum : Spc) (sp_law_frac : Spc) (sp_law_by_last : Spc) (sp_chance_of_records : Spc) (sp_law_plus : Spc) (sp_mean_records : Spc) : WS :=
  (sSeq (sFor (wR2 (wC (.int 1)) (wOp rAdd (wVar 5) (wC (.int 1)))) (gN 2) (sAsg (wCall 2 sp_law_plus (wCons (wVar 14) (wCons (wTup (wCons (wC (.int 1)) (wCons (wVar 2) wNil))) wNil))) (gN 14)))
    (w_law_t24 sp_law_draws sp_law_take sp_law_few sp_law_order sp_law_records sp_records sp_law_same sp_law_taken sp_taken sp_law_chance sp_law_is_less sp_best_pass sp_chance_to_best sp_law_sum sp_law_frac sp_law_by_last sp_chance_of_records sp_law_plus sp_mean_records))
@[reducible] def w_law_t22 (sp_law_draws : Spc) (sp_law_take : Spc) (sp_law_few : Spc) (sp_law_order : Spc) (sp_law_records : Spc) (sp_records : Spc) (sp_law_same : Spc) (sp_law_taken : Spc) (sp_taken : Spc) (sp_law_chance : Spc) (sp_law_is_less : Spc) (sp_best_pass : Spc) (sp_chance_to_best : Spc) (sp_law_sum : Spc) (sp_law_frac : Spc) (sp_law_by_last : Spc) (sp_chance_of_records : Spc) (sp_law_plus : Spc) (sp_mean_records : Spc) : WS :=
  (sSeq (sFor (wIt (wLst (wCons (wC (.int 0)) (wCons (wC (.int 1)) (wCons (wVar 5) (wCons (wOp rAdd (wVar 5) (wC (.int 1))) (wCons (wCall 2 sp_law_take (wCons (wVar 1) (wCons (wOp rAdd (wVar 5) (wC (.int 1))) wNil))) (wCons (wOp rAdd (wC (.int 1)) (wCall 2 sp_law_take (wCons (wVar 1) (wCons (wB rMin2 (wCons (wVar 5) (wCons (wC (.int 9)) wNil))) wNil)))) wNil)))))))) (gN 2) (sIf (wtNot (wtVal (wCall 2 sp_law_same (wCons (wCall 2 sp_chance_of_records (wCons (wVar 5) (wCons (wVar 2) wNil))) (wCons (wCall 2 sp_law_frac (wCons (wOp rIx (wOp rAdd (wVar 13) (wLst (wCons (wC (.int 0)) (wCons (wC (.int 0)) wNil)))) (wVar 2)) (wCons (wB rSum (wCons (wVar 13) wNil)) wNil))) wNil))))) (sRet (wC (.bl false))) sNext))
    (w_law_t23 sp_law_draws sp_law_take sp_law_few sp_law_order sp_law_records sp_records sp_law_same sp_law_taken sp_taken sp_law_chance sp_law_is_less sp_best_pass sp_chance_to_best sp_law_sum sp_law_frac sp_law_by_last sp_chance_of_records sp_law_plus sp_mean_records))
@[reducible] def w_law_t21 (sp_law_draws : Spc) (sp_law_take : Spc) (sp_law_few : Spc) (sp_law_order : Spc) (sp_law_records : Spc) (sp_records : Spc) (sp_law_same : Spc) (sp_law_taken : Spc) (sp_taken : Spc) (sp_law_chance : Spc) (sp_law_is_less : Spc) (sp_best_pass : Spc) (sp_chance_to_best : Spc) (sp_law_sum : Spc) (sp_law_frac : Spc) (sp_law_by_last : Spc) (sp_chance_of_records : Spc) (sp_law_plus : Spc) (sp_mean_records : Spc) : WS :=
  (sSeq (sAsg (wTup (wCons (wC (.int 0)) (wCons (wC (.int 1)) wNil))) (gN 14))
    (w_law_t22 sp_law_draws sp_law_take sp_law_few sp_law_order sp_law_records sp_records sp_law_same sp_law_taken sp_taken sp_law_chance sp_law_is_less sp_best_pass sp_chance_to_best sp_law_sum sp_law_frac sp_law_by_last sp_chance_of_records sp_law_plus sp_mean_records))
@[reducible] def w_law_t20 (sp_law_draws : Spc) (sp_law_take : Spc) (sp_law_few : Spc) (sp_law_order : Spc) (sp_law_records : Spc) (sp_records : Spc) (sp_law_same : Spc) (sp_law_taken : Spc) (sp_taken : Spc) (sp_law_chance : Spc) (sp_law_is_less : Spc) (sp_best_pass : Spc) (sp_chance_to_best : Spc) (sp_law_sum : Spc) (sp_law_frac : Spc) (sp_law_by_last : Spc) (sp_chance_of_records : Spc) (sp_law_plus : Spc) (sp_mean_records : Spc) : WS :=
  (sSeq (sAsg (wCall 1 sp_law_by_last (wCons (wVar 5) wNil)) (gN 13))
    (w_law_t21 sp_law_draws sp_law_take sp_law_few sp_law_order sp_law_records sp_records sp_law_same sp_law_taken sp_taken sp_law_chance sp_law_is_less sp_best_pass sp_chance_to_best sp_law_sum sp_law_frac sp_law_by_last sp_chance_of_records sp_law_plus sp_mean_records))
@[reducible] def w_law_t19 (sp_law_draws : Spc) (sp_law_take : Spc) (sp_law_few : Spc) (sp_law_order : Spc) (sp_law_records : Spc) (sp_records : Spc) (sp_law_same : Spc) (sp_law_taken : Spc) (sp_taken : Spc) (sp_law_chance : Spc) (sp_law_is_less : Spc) (sp_best_pass : Spc) (sp_chance_to_best : Spc) (sp_law_sum : Spc) (sp_law_frac : Spc) (sp_law_by_last : Spc) (sp_chance_of_records : Spc) (sp_law_plus : Spc) (sp_mean_records : Spc) : WS :=
  (sSeq (sAsg (wB rMin2 (wCons (wVar 5) (wCons (wC (.int 200)) wNil))) (gN 5))
    (w_law_t20 sp_law_draws sp_law_take sp_law_few sp_law_order sp_law_records sp_records sp_law_same sp_law_taken sp_taken sp_law_chance sp_law_is_less sp_best_pass sp_chance_to_best sp_law_sum sp_law_frac sp_law_by_last sp_chance_of_records sp_law_plus sp_mean_records))
@[reducible] def w_law_t18 (sp_law_draws : Spc) (sp_law_take : Spc) (sp_law_few : Spc) (sp_law_order : Spc) (sp_law_records : Spc) (sp_records : Spc) (sp_law_same : Spc) (sp_law_taken : Spc) (sp_taken : Spc) (sp_law_chance : Spc) (sp_law_is_less : Spc) (sp_best_pass : Spc) (sp_chance_to_best : Spc) (sp_law_sum : Spc) (sp_law_frac : Spc) (sp_law_by_last : Spc) (sp_chance_of_records : Spc) (sp_law_plus : Spc) (sp_mean_records : Spc) : WS :=
  (sSeq (sAsg (wOp rAdd (wCall 2 sp_law_take (wCons (wVar 1) (wCons (wOp rIx (wLst (wCons (wC (.int 30)) (wCons (wC (.int 201)) wNil))) (wB rInt (wCons (wOp rEq (wCall 2 sp_law_take (wCons (wVar 1) (wCons (wC (.int 8)) wNil))) (wC (.int 0))) wNil))) wNil))) (wC (.int 1))) (gN 5))
    (w_law_t19 sp_law_draws sp_law_take sp_law_few sp_law_order sp_law_records sp_records sp_law_same sp_law_taken sp_taken sp_law_chance sp_law_is_less sp_best_pass sp_chance_to_best sp_law_sum sp_law_frac sp_law_by_last sp_chance_of_records sp_law_plus sp_mean_records))
@[reducible] def w_law_t17 (sp_law_draws : Spc) (sp_law_take : Spc) (sp_law_few : Spc) (sp_law_order : Spc) (sp_law_records : Spc) (sp_records : Spc) (sp_law_same : Spc) (sp_law_taken : Spc) (sp_taken : Spc) (sp_law_chance : Spc) (sp_law_is_less : Spc) (sp_best_pass : Spc) (sp_chance_to_best : Spc) (sp_law_sum : Spc) (sp_law_frac : Spc) (sp_law_by_last : Spc) (sp_chance_of_records : Spc) (sp_law_plus : Spc) (sp_mean_records : Spc) : WS :=
  (sSeq (sIf (wtNot (wtVal (wCall 2 sp_law_same (wCons (wCall 2 sp_chance_to_best (wCons (wVar 5) (wCons (wVar 8) wNil))) (wCons (wCall 2 sp_law_frac (wCons (wOp rMul (wVar 8) (wVar 11)) (wCons (wOp rMul (wVar 5) (wVar 12)) wNil))) wNil))))) (sRet (wC (.bl false))) sNext)
    (w_law_t18 sp_law_draws sp_law_take sp_law_few sp_law_order sp_law_records sp_records sp_law_same sp_law_taken sp_taken sp_law_chance sp_law_is_less sp_best_pass sp_chance_to_best sp_law_sum sp_law_frac sp_law_by_last sp_chance_of_records sp_law_plus sp_mean_records))
@[reducible] def w_law_t16 (sp_law_draws : Spc) (sp_law_take : Spc) (sp_law_few : Spc) (sp_law_order : Spc) (sp_law_records : Spc) (sp_records : Spc) (sp_law_same : Spc) (sp_law_taken : Spc) (sp_taken : Spc) (sp_law_chance : Spc) (sp_law_is_less : Spc) (sp_best_pass : Spc) (sp_chance_to_best : Spc) (sp_law_sum : Spc) (sp_law_frac : Spc) (sp_law_by_last : Spc) (sp_chance_of_records : Spc) (sp_law_plus : Spc) (sp_mean_records : Spc) : WS :=
  (sSeq (sAsg (wCall 2 sp_law_sum (wCons (wVar 8) (wCons (wVar 5) wNil))) (gT [11, 12]))
    (w_law_t17 sp_law_draws sp_law_take sp_law_few sp_law_order sp_law_records sp_records sp_law_same sp_law_taken sp_taken sp_law_chance sp_law_is_less sp_best_pass sp_chance_to_best sp_law_sum sp_law_frac sp_law_by_last sp_chance_of_records sp_law_plus sp_mean_records))
@[reducible] def w_law_t15 (sp_law_draws : Spc) (sp_law_take : Spc) (sp_law_few : Spc) (sp_law_order : Spc) (sp_law_records : Spc) (sp_records : Spc) (sp_law_same : Spc) (sp_law_taken : Spc) (sp_taken : Spc) (sp_law_chance : Spc) (sp_law_is_less : Spc) (sp_best_pass : Spc) (sp_chance_to_best : Spc) (sp_law_sum : Spc) (sp_law_frac : Spc) (sp_law_by_last : Spc) (sp_chance_of_records : Spc) (sp_law_plus : Spc) (sp_mean_records : Spc) : WS :=
  (sSeq (sIf (wtOr (wtVal (wOp rGt (wOp rIx (wVar 9) (wC (.int 0))) (wOp rIx (wVar 9) (wC (.int 1))))) (wtVal (wOp rLe (wOp rIx (wVar 10) (wC (.int 0))) (wOp rIx (wVar 10) (wC (.int 1)))))) (sRet (wC (.bl false))) sNext)
    (w_law_t16 sp_law_draws sp_law_take sp_law_few sp_law_order sp_law_records sp_records sp_law_same sp_law_taken sp_taken sp_law_chance sp_law_is_less sp_best_pass sp_chance_to_best sp_law_sum sp_law_frac sp_law_by_last sp_chance_of_records sp_law_plus sp_mean_records))
@[reducible] def w_law_t14 (sp_law_draws : Spc) (sp_law_take : Spc) (sp_law_few : Spc) (sp_law_order : Spc) (sp_law_records : Spc) (sp_records : Spc) (sp_law_same : Spc) (sp_law_taken : Spc) (sp_taken : Spc) (sp_law_chance : Spc) (sp_law_is_less : Spc) (sp_best_pass : Spc) (sp_chance_to_best : Spc) (sp_law_sum : Spc) (sp_law_frac : Spc) (sp_law_by_last : Spc) (sp_chance_of_records : Spc) (sp_law_plus : Spc) (sp_mean_records : Spc) : WS :=
  (sSeq (sAsg (wCall 2 sp_law_sum (wCons (wVar 8) (wCons (wVar 5) wNil))) (gN 10))
    (w_law_t15 sp_law_draws sp_law_take sp_law_few sp_law_order sp_law_records sp_records sp_law_same sp_law_taken sp_taken sp_law_chance sp_law_is_less sp_best_pass sp_chance_to_best sp_law_sum sp_law_frac sp_law_by_last sp_chance_of_records sp_law_plus sp_mean_records))
@[reducible] def w_law_t13 (sp_law_draws : Spc) (sp_law_take : Spc) (sp_law_few : Spc) (sp_law_order : Spc) (sp_law_records : Spc) (sp_records : Spc) (sp_law_same : Spc) (sp_law_taken : Spc) (sp_taken : Spc) (sp_law_chance : Spc) (sp_law_is_less : Spc) (sp_best_pass : Spc) (sp_chance_to_best : Spc) (sp_law_sum : Spc) (sp_law_frac : Spc) (sp_law_by_last : Spc) (sp_chance_of_records : Spc) (sp_law_plus : Spc) (sp_mean_records : Spc) : WS :=
  (sSeq (sAsg (wCall 2 sp_law_sum (wCons (wOp rAdd (wVar 8) (wC (.int 1))) (wCons (wVar 5) wNil))) (gN 9))
    (w_law_t14 sp_law_draws sp_law_take sp_law_few sp_law_order sp_law_records sp_records sp_law_same sp_law_taken sp_taken sp_law_chance sp_law_is_less sp_best_pass sp_chance_to_best sp_law_sum sp_law_frac sp_law_by_last sp_chance_of_records sp_law_plus sp_mean_records))
@[reducible] def w_law_t12 (sp_law_draws : Spc) (sp_law_take : Spc) (sp_law_few : Spc) (sp_law_order : Spc) (sp_law_records : Spc) (sp_records : Spc) (sp_law_same : Spc) (sp_law_taken : Spc) (sp_taken : Spc) (sp_law_chance : Spc) (sp_law_is_less : Spc) (sp_best_pass : Spc) (sp_chance_to_best : Spc) (sp_law_sum : Spc) (sp_law_frac : Spc) (sp_law_by_last : Spc) (sp_chance_of_records : Spc) (sp_law_plus : Spc) (sp_mean_records : Spc) : WS :=
  (sSeq (sIf (wtOr (wtNot (wtVal (wB rIsi (wCons (wVar 8) (wCons (wC (.ty "int")) wNil))))) (wtOr (wtVal (wB rIsi (wCons (wVar 8) (wCons (wC (.ty "bool")) wNil)))) (wtOr (wtVal (wOp rLt (wVar 8) (wC (.int 1)))) (wtVal (wOp rGe (wVar 8) (wVar 5)))))) (sRet (wC (.bl false))) sNext)
    (w_law_t13 sp_law_draws sp_law_take sp_law_few sp_law_order sp_law_records sp_records sp_law_same sp_law_taken sp_taken sp_law_chance sp_law_is_less sp_best_pass sp_chance_to_best sp_law_sum sp_law_frac sp_law_by_last sp_chance_of_records sp_law_plus sp_mean_records))
@[reducible] def w_law_t11 (sp_law_draws : Spc) (sp_law_take : Spc) (sp_law_few : Spc) (sp_law_order : Spc) (sp_law_records : Spc) (sp_records : Spc) (sp_law_same : Spc) (sp_law_taken : Spc) (sp_taken : Spc) (sp_law_chance : Spc) (sp_law_is_less : Spc) (sp_best_pass : Spc) (sp_chance_to_best : Spc) (sp_law_sum : Spc) (sp_law_frac : Spc) (sp_law_by_last : Spc) (sp_chance_of_records : Spc) (sp_law_plus : Spc) (sp_mean_records : Spc) : WS :=
  (sSeq (sAsg (wCall 1 sp_best_pass (wCons (wVar 5) wNil)) (gN 8))
    (w_law_t12 sp_law_draws sp_law_take sp_law_few sp_law_order sp_law_records sp_records sp_law_same sp_law_taken sp_taken sp_law_chance sp_law_is_less sp_best_pass sp_chance_to_best sp_law_sum sp_law_frac sp_law_by_last sp_chance_of_records sp_law_plus sp_mean_records))
@[reducible] def w_law_t10 (sp_law_draws : Spc) (sp_law_take : Spc) (sp_law_few : Spc) (sp_law_order : Spc) (sp_law_records : Spc) (sp_records : Spc) (sp_law_same : Spc) (sp_law_taken : Spc) (sp_taken : Spc) (sp_law_chance : Spc) (sp_law_is_less : Spc) (sp_best_pass : Spc) (sp_chance_to_best : Spc) (sp_law_sum : Spc) (sp_law_frac : Spc) (sp_law_by_last : Spc) (sp_chance_of_records : Spc) (sp_law_plus : Spc) (sp_mean_records : Spc) : WS :=
  (sSeq (sAsg (wOp rAdd (wC (.int 41)) (wCall 2 sp_law_take (wCons (wVar 1) (wCons (wC (.int 260)) wNil)))) (gN 5))
    (w_law_t11 sp_law_draws sp_law_take sp_law_few sp_law_order sp_law_records sp_records sp_law_same sp_law_taken sp_taken sp_law_chance sp_law_is_less sp_best_pass sp_chance_to_best sp_law_sum sp_law_frac sp_law_by_last sp_chance_of_records sp_law_plus sp_mean_records))
@[reducible] def w_law_t9 (sp_law_draws : Spc) (sp_law_take : Spc) (sp_law_few : Spc) (sp_law_order : Spc) (sp_law_records : Spc) (sp_records : Spc) (sp_law_same : Spc) (sp_law_taken : Spc) (sp_taken : Spc) (sp_law_chance : Spc) (sp_law_is_less : Spc) (sp_best_pass : Spc) (sp_chance_to_best : Spc) (sp_law_sum : Spc) (sp_law_frac : Spc) (sp_law_by_last : Spc) (sp_chance_of_records : Spc) (sp_law_plus : Spc) (sp_mean_records : Spc) : WS :=
  (sSeq (sIf (wtNot (wtVal (wCall 2 sp_law_same (wCons (wCall 2 sp_chance_to_best (wCons (wVar 5) (wCons (wVar 4) wNil))) (wCons (wOp rIx (wVar 6) (wVar 4)) wNil))))) (sRet (wC (.bl false))) sNext)
    (w_law_t10 sp_law_draws sp_law_take sp_law_few sp_law_order sp_law_records sp_records sp_law_same sp_law_taken sp_taken sp_law_chance sp_law_is_less sp_best_pass sp_chance_to_best sp_law_sum sp_law_frac sp_law_by_last sp_chance_of_records sp_law_plus sp_mean_records))
@[reducible] def w_law_t8 (sp_law_draws : Spc) (sp_law_take : Spc) (sp_law_few : Spc) (sp_law_order : Spc) (sp_law_records : Spc) (sp_records : Spc) (sp_law_same : Spc) (sp_law_taken : Spc) (sp_taken : Spc) (sp_law_chance : Spc) (sp_law_is_less : Spc) (sp_best_pass : Spc) (sp_chance_to_best : Spc) (sp_law_sum : Spc) (sp_law_frac : Spc) (sp_law_by_last : Spc) (sp_chance_of_records : Spc) (sp_law_plus : Spc) (sp_mean_records : Spc) : WS :=
  (sSeq (sAsg (wCall 2 sp_law_take (wCons (wVar 1) (wCons (wVar 5) wNil))) (gN 4))
    (w_law_t9 sp_law_draws sp_law_take sp_law_few sp_law_order sp_law_records sp_records sp_law_same sp_law_taken sp_taken sp_law_chance sp_law_is_less sp_best_pass sp_chance_to_best sp_law_sum sp_law_frac sp_law_by_last sp_chance_of_records sp_law_plus sp_mean_records))
@[reducible] def w_law_t7 (sp_law_draws : Spc) (sp_law_take : Spc) (sp_law_few : Spc) (sp_law_order : Spc) (sp_law_records : Spc) (sp_records : Spc) (sp_law_same : Spc) (sp_law_taken : Spc) (sp_taken : Spc) (sp_law_chance : Spc) (sp_law_is_less : Spc) (sp_best_pass : Spc) (sp_chance_to_best : Spc) (sp_law_sum : Spc) (sp_law_frac : Spc) (sp_law_by_last : Spc) (sp_chance_of_records : Spc) (sp_law_plus : Spc) (sp_mean_records : Spc) : WS :=
  (sSeq (sIf (wtOr (wtNot (wtVal (wCall 2 sp_law_same (wCons (wCall 1 sp_best_pass (wCons (wVar 5) wNil)) (wCons (wVar 7) wNil))))) (wtNot (wtVal (wCall 2 sp_law_same (wCons (wCall 2 sp_chance_to_best (wCons (wVar 5) (wCons (wVar 7) wNil))) (wCons (wOp rIx (wVar 6) (wVar 7)) wNil)))))) (sRet (wC (.bl false))) sNext)
    (w_law_t8 sp_law_draws sp_law_take sp_law_few sp_law_order sp_law_records sp_records sp_law_same sp_law_taken sp_taken sp_law_chance sp_law_is_less sp_best_pass sp_chance_to_best sp_law_sum sp_law_frac sp_law_by_last sp_chance_of_records sp_law_plus sp_mean_records))
@[reducible] def w_law_t6 (sp_law_draws : Spc) (sp_law_take : Spc) (sp_law_few : Spc) (sp_law_order : Spc) (sp_law_records : Spc) (sp_records : Spc) (sp_law_same : Spc) (sp_law_taken : Spc) (sp_taken : Spc) (sp_law_chance : Spc) (sp_law_is_less : Spc) (sp_best_pass : Spc) (sp_chance_to_best : Spc) (sp_law_sum : Spc) (sp_law_frac : Spc) (sp_law_by_last : Spc) (sp_chance_of_records : Spc) (sp_law_plus : Spc) (sp_mean_records : Spc) : WS :=
  (sSeq (sFor (wR1 (wVar 5)) (gN 4) (sIf (wtVal (wCall 2 sp_law_is_less (wCons (wOp rIx (wVar 6) (wVar 7)) (wCons (wOp rIx (wVar 6) (wVar 4)) wNil)))) (sAsg (wVar 4) (gN 7)) sNext))
    (w_law_t7 sp_law_draws sp_law_take sp_law_few sp_law_order sp_law_records sp_records sp_law_same sp_law_taken sp_taken sp_law_chance sp_law_is_less sp_best_pass sp_chance_to_best sp_law_sum sp_law_frac sp_law_by_last sp_chance_of_records sp_law_plus sp_mean_records))
@[reducible] def w_law_t5 (sp_law_draws : Spc) (sp_law_take : Spc) (sp_law_few : Spc) (sp_law_order : Spc) (sp_law_records : Spc) (sp_records : Spc) (sp_law_same : Spc) (sp_law_taken : Spc) (sp_taken : Spc) (sp_law_chance : Spc) (sp_law_is_less : Spc) (sp_best_pass : Spc) (sp_chance_to_best : Spc) (sp_law_sum : Spc) (sp_law_frac : Spc) (sp_law_by_last : Spc) (sp_chance_of_records : Spc) (sp_law_plus : Spc) (sp_mean_records : Spc) : WS :=
  (sSeq (sAsg (wC (.int 0)) (gN 7))
    (w_law_t6 sp_law_draws sp_law_take sp_law_few sp_law_order sp_law_records sp_records sp_law_same sp_law_taken sp_taken sp_law_chance sp_law_is_less sp_best_pass sp_chance_to_best sp_law_sum sp_law_frac sp_law_by_last sp_chance_of_records sp_law_plus sp_mean_records))
@[reducible] def w_law_t4 (sp_law_draws : Spc) (sp_law_take : Spc) (sp_law_few : Spc) (sp_law_order : Spc) (sp_law_records : Spc) (sp_records : Spc) (sp_law_same : Spc) (sp_law_taken : Spc) (sp_taken : Spc) (sp_law_chance : Spc) (sp_law_is_less : Spc) (sp_best_pass : Spc) (sp_chance_to_best : Spc) (sp_law_sum : Spc) (sp_law_frac : Spc) (sp_law_by_last : Spc) (sp_chance_of_records : Spc) (sp_law_plus : Spc) (sp_mean_records : Spc) : WS :=
  (sSeq (sAsg (wLc (wR1 (wVar 5)) (gN 4) wtYes (wCall 2 sp_law_chance (wCons (wVar 5) (wCons (wVar 4) wNil))) [4]) (gN 6))
    (w_law_t5 sp_law_draws sp_law_take sp_law_few sp_law_order sp_law_records sp_records sp_law_same sp_law_taken sp_taken sp_law_chance sp_law_is_less sp_best_pass sp_chance_to_best sp_law_sum sp_law_frac sp_law_by_last sp_chance_of_records sp_law_plus sp_mean_records))
@[reducible] def w_law_t3 (sp_law_draws : Spc) (sp_law_take : Spc) (sp_law_few : Spc) (sp_law_order : Spc) (sp_law_records : Spc) (sp_records : Spc) (sp_law_same : Spc) (sp_law_taken : Spc) (sp_taken : Spc) (sp_law_chance : Spc) (sp_law_is_less : Spc) (sp_best_pass : Spc) (sp_chance_to_best : Spc) (sp_law_sum : Spc) (sp_law_frac : Spc) (sp_law_by_last : Spc) (sp_chance_of_records : Spc) (sp_law_plus : Spc) (sp_mean_records : Spc) : WS :=
  (sSeq (sAsg (wOp rAdd (wC (.int 1)) (wCall 2 sp_law_take (wCons (wVar 1) (wCons (wC (.int 40)) wNil)))) (gN 5))
    (w_law_t4 sp_law_draws sp_law_take sp_law_few sp_law_order sp_law_records sp_records sp_law_same sp_law_taken sp_taken sp_law_chance sp_law_is_less sp_best_pass sp_chance_to_best sp_law_sum sp_law_frac sp_law_by_last sp_chance_of_records sp_law_plus sp_mean_records))
@[reducible] def w_law_t2 (sp_law_draws : Spc) (sp_law_take : Spc) (sp_law_few : Spc) (sp_law_order : Spc) (sp_law_records : Spc) (sp_records : Spc) (sp_law_same : Spc) (sp_law_taken : Spc) (sp_taken : Spc) (sp_law_chance : Spc) (sp_law_is_less : Spc) (sp_best_pass : Spc) (sp_chance_to_best : Spc) (sp_law_sum : Spc) (sp_law_frac : Spc) (sp_law_by_last : Spc) (sp_chance_of_records : Spc) (sp_law_plus : Spc) (sp_mean_records : Spc) : WS :=
  (sSeq (sFor (wR1 (wC (.int 3))) (gN 2) (sSeq (sAsg (wCall 2 sp_law_order (wCons (wVar 1) (wCons (wOp rAdd (wC (.int 1)) (wCall 2 sp_law_take (wCons (wVar 1) (wCons (wOp rIx (wLst (wCons (wC (.int 8)) (wCons (wC (.int 40)) wNil))) (wCall 2 sp_law_take (wCons (wVar 1) (wCons (wC (.int 2)) wNil)))) wNil)))) wNil))) (gN 3))
    (sSeq (sIf (wtNot (wtVal (wCall 2 sp_law_same (wCons (wCall 1 sp_records (wCons (wVar 3) wNil)) (wCons (wCall 1 sp_law_records (wCons (wVar 3) wNil)) wNil))))) (sRet (wC (.bl false))) sNext)
    (sFor (wIt (wLst (wCons (wC (.int 0)) (wCons (wC (.int 1)) (wCons (wCall 2 sp_law_take (wCons (wVar 1) (wCons (wB rLen (wCons (wVar 3) wNil)) wNil))) (wCons (wOp rSub (wB rLen (wCons (wVar 3) wNil)) (wC (.int 1))) wNil)))))) (gN 4) (sIf (wtAnd (wtVal (wOp rLt (wVar 4) (wB rLen (wCons (wVar 3) wNil)))) (wtNot (wtVal (wCall 2 sp_law_same (wCons (wCall 2 sp_taken (wCons (wVar 3) (wCons (wVar 4) wNil))) (wCons (wCall 2 sp_law_taken (wCons (wVar 3) (wCons (wVar 4) wNil))) wNil)))))) (sRet (wC (.bl false))) sNext)))))
    (w_law_t3 sp_law_draws sp_law_take sp_law_few sp_law_order sp_law_records sp_records sp_law_same sp_law_taken sp_taken sp_law_chance sp_law_is_less sp_best_pass sp_chance_to_best sp_law_sum sp_law_frac sp_law_by_last sp_chance_of_records sp_law_plus sp_mean_records))
@[reducible] def w_law_t1 (sp_law_draws : Spc) (sp_law_take : Spc) (sp_law_few : Spc) (sp_law_order : Spc) (sp_law_records : Spc) (sp_records : Spc) (sp_law_same : Spc) (sp_law_taken : Spc) (sp_taken : Spc) (sp_law_chance : Spc) (sp_law_is_less : Spc) (sp_best_pass : Spc) (sp_chance_to_best : Spc) (sp_law_sum : Spc) (sp_law_frac : Spc) (sp_law_by_last : Spc) (sp_chance_of_records : Spc) (sp_law_plus : Spc) (sp_mean_records : Spc) : WS :=
  (sSeq (sIf (wtNot (wtVal (wCall 1 sp_law_few (wCons (wOp rAdd (wC (.int 1)) (wCall 2 sp_law_take (wCons (wVar 1) (wCons (wOp rAdd (wC (.int 5)) (wB rInt (wCons (wOp rEq (wCall 2 sp_law_take (wCons (wVar 1) (wCons (wC (.int 4)) wNil))) (wC (.int 0))) wNil))) wNil)))) wNil)))) (sRet (wC (.bl false))) sNext)
    (w_law_t2 sp_law_draws sp_law_take sp_law_few sp_law_order sp_law_records sp_records sp_law_same sp_law_taken sp_taken sp_law_chance sp_law_is_less sp_best_pass sp_chance_to_best sp_law_sum sp_law_frac sp_law_by_last sp_chance_of_records sp_law_plus sp_mean_records))
/-! law(script); slots: 0 script, 1 draws, 2 k, 3 order, 4 r, 5 n, 6 chances, 7 best, 8 told, 9 more, 10 fewer, 11 top, 12 low, 13 row, 14 mean, 15 weighed -/
def w_law (sp_law_draws : Spc) (sp_law_take : Spc) (sp_law_few : Spc) (sp_law_order : Spc) (sp_law_records : Spc) (sp_records : Spc) (sp_law_same : Spc) (sp_law_taken : Spc) (sp_taken : Spc) (sp_law_chance : Spc) (sp_law_is_less : Spc) (sp_best_pass : Spc) (sp_chance_to_best : Spc) (sp_law_sum : Spc) (sp_law_frac : Spc) (sp_law_by_last : Spc) (sp_chance_of_records : Spc) (sp_law_plus : Spc) (sp_mean_records : Spc) : WS :=
  (sSeq (sAsg (wCall 2 sp_law_draws (wCons (wVar 0) (wCons (wC (.int 120)) wNil))) (gN 1))
    (w_law_t1 sp_law_draws sp_law_take sp_law_few sp_law_order sp_law_records sp_records sp_law_same sp_law_taken sp_taken sp_law_chance sp_law_is_less sp_best_pass sp_chance_to_best sp_law_sum sp_law_frac sp_law_by_last sp_chance_of_records sp_law_plus sp_mean_records))
end K91
set_option Elab.async false
set_option linter.all false
set_option maxRecDepth 100000
set_option maxHeartbeats 8000000
/-! the defs of oddsweighed_k91_whole_best_of_many keep their parts -/
namespace K91
open PySem PySem.Spec DL
open L2 (V Hp HO St PE PT PW PA PS PSs PG PI PO Cx Inv RelV Vals)
def topS (i : Nat) : Stmt := PySem.Challenge.pw_oddsweighed_k91_whole_best_of_many.main.body.getD i (.Pass ⟨0, 0, 0, 0⟩)
section
variable {P : Program} {w : World} {K : PySem.W.Frag} {mg : Str → Option Value} {base : Heap}
abbrev s_divisor : Stmt := topS 3
theorem sc_divisor : L2.FnScope ["one", "other"] ["one", "other"] (L2.defScope s_divisor) := ⟨rfl, rfl, rfl, by decide +kernel, rfl, by decide +kernel, by decide +kernel⟩
theorem ok_divisor {f : Addr} {fd : FuncData} {k : Nat} {sp : Spc} (F : L2.Fun K "divisor" "divisor" s_divisor f fd) (hm : mg "divisor" = some (.ref f)) (m_gcd : mg "gcd" = some (.builtin "math.gcd")) (body : Body 2 2 (w_divisor ) sp) : Callee P w K mg base "divisor" (k + 1) 2 sp :=
  callee_of F hm (F.binds (ps := ["one", "other"]) fun _ _ _ _ _ _ us hl => match us, hl with | [_, _], _ => rfl) sc_divisor rfl rfl (fun cdv A outer s H E hr => by
    unfold w_divisor
    exact (dss_one (ds_ret (d_callF b_gcd (by rfl) m_gcd (da_cons (d_var 0) (da_cons (d_var 1) da_nil)))))) body
abbrev s_fraction : Stmt := topS 4
theorem sc_fraction : L2.FnScope ["n", "d", "common"] ["n", "d"] (L2.defScope s_fraction) := ⟨rfl, rfl, rfl, by decide +kernel, rfl, by decide +kernel, by decide +kernel⟩
theorem ok_fraction {f : Addr} {fd : FuncData} {k : Nat} {sp : Spc} (F : L2.Fun K "fraction" "fraction" s_fraction f fd) (hm : mg "fraction" = some (.ref f)) {sp_divisor : Spc} {k_divisor : Nat} (C_divisor : Callee P w K mg base "divisor" k_divisor 2 sp_divisor) (h_divisor : k_divisor ≤ k) (body : Body 3 2 (w_fraction sp_divisor) sp) : Callee P w K mg base "fraction" (k + 1) 2 sp :=
  callee_of F hm (F.binds (ps := ["n", "d"]) fun _ _ _ _ _ _ us hl => match us, hl with | [_, _], _ => rfl) sc_fraction rfl rfl (fun cdv A outer s H E hr => by
    unfold w_fraction
    exact (dss_cons (ds_set 2 sc_fraction.nd (d_calle C_divisor hr h_divisor (by rfl) (da_cons (d_var 0) (da_cons (d_var 1) da_nil))))
      (dss_cons (ds_if (dt_cmp c_lt (d_var 1) d_int) (dss_one (ds_set 2 sc_fraction.nd (d_un u_neg (d_var 2)))) dss_nil)
      (dss_one (ds_ret (d_tup (da_cons (d_op o_div (d_var 0) (d_var 2)) (da_cons (d_op o_div (d_var 1) (d_var 2)) da_nil)))))))) body
abbrev s_plus : Stmt := topS 5
theorem sc_plus : L2.FnScope ["one", "other"] ["one", "other"] (L2.defScope s_plus) := ⟨rfl, rfl, rfl, by decide +kernel, rfl, by decide +kernel, by decide +kernel⟩
theorem ok_plus {f : Addr} {fd : FuncData} {k : Nat} {sp : Spc} (F : L2.Fun K "plus" "plus" s_plus f fd) (hm : mg "plus" = some (.ref f)) {sp_fraction : Spc} {k_fraction : Nat} (C_fraction : Callee P w K mg base "fraction" k_fraction 2 sp_fraction) (h_fraction : k_fraction ≤ k) (body : Body 2 2 (w_plus sp_fraction) sp) : Callee P w K mg base "plus" (k + 1) 2 sp :=
  callee_of F hm (F.binds (ps := ["one", "other"]) fun _ _ _ _ _ _ us hl => match us, hl with | [_, _], _ => rfl) sc_plus rfl rfl (fun cdv A outer s H E hr => by
    unfold w_plus
    exact (dss_one (ds_ret (d_calle C_fraction hr h_fraction (by rfl) (da_cons (d_op o_add (d_op o_mul (d_ix i_ix (d_var 0) d_int) (d_ix i_ix (d_var 1) d_int)) (d_op o_mul (d_ix i_ix (d_var 1) d_int) (d_ix i_ix (d_var 0) d_int))) (da_cons (d_op o_mul (d_ix i_ix (d_var 0) d_int) (d_ix i_ix (d_var 1) d_int)) da_nil)))))) body
abbrev s_is_less : Stmt := topS 6
theorem sc_is_less : L2.FnScope ["one", "other"] ["one", "other"] (L2.defScope s_is_less) := ⟨rfl, rfl, rfl, by decide +kernel, rfl, by decide +kernel, by decide +kernel⟩
theorem ok_is_less {f : Addr} {fd : FuncData} {k : Nat} {sp : Spc} (F : L2.Fun K "is_less" "is_less" s_is_less f fd) (hm : mg "is_less" = some (.ref f)) (body : Body 2 2 (w_is_less ) sp) : Callee P w K mg base "is_less" (k + 1) 2 sp :=
  callee_of F hm (F.binds (ps := ["one", "other"]) fun _ _ _ _ _ _ us hl => match us, hl with | [_, _], _ => rfl) sc_is_less rfl rfl (fun cdv A outer s H E hr => by
    unfold w_is_less
    exact (dss_one (ds_ret (d_cmp c_lt (d_op o_mul (d_ix i_ix (d_var 0) d_int) (d_ix i_ix (d_var 1) d_int)) (d_op o_mul (d_ix i_ix (d_var 1) d_int) (d_ix i_ix (d_var 0) d_int)))))) body
abbrev s_chance_to_best : Stmt := topS 8
theorem sc_chance_to_best : L2.FnScope ["n", "r", "total", "common", "k"] ["n", "r"] (L2.defScope s_chance_to_best) := ⟨rfl, rfl, rfl, by decide +kernel, rfl, by decide +kernel, by decide +kernel⟩
theorem ok_chance_to_best {f : Addr} {fd : FuncData} {k : Nat} {sp : Spc} (F : L2.Fun K "chance_to_best" "chance_to_best" s_chance_to_best f fd) (hm : mg "chance_to_best" = some (.ref f)) (m_range : mg "range" = none) {sp_fraction : Spc} {k_fraction : Nat} (C_fraction : Callee P w K mg base "fraction" k_fraction 2 sp_fraction) (h_fraction : k_fraction ≤ k) (body : Body 5 2 (w_chance_to_best sp_fraction) sp) : Callee P w K mg base "chance_to_best" (k + 1) 2 sp :=
  callee_of F hm (F.binds (ps := ["n", "r"]) fun _ _ _ _ _ _ us hl => match us, hl with | [_, _], _ => rfl) sc_chance_to_best rfl rfl (fun cdv A outer s H E hr => by
    unfold w_chance_to_best
    exact (dss_cons (ds_if (dt_cmp (c_eq hr) (d_var 1) d_int) (dss_one (ds_ret (d_tup (da_cons d_int (da_cons (d_var 0) da_nil))))) dss_nil)
      (dss_cons (ds_asg (d_tup (da_cons d_int (da_cons d_int da_nil))) (dg_tup rfl (dgs_one 2 sc_chance_to_best.nd (dgs_one 3 sc_chance_to_best.nd .nil))))
      (dss_cons (ds_for rfl PassesOwn.never (di_r2 (by rfl) m_range (d_var 1) (d_var 0)) (dg_name 4 sc_chance_to_best.nd) (dss_one (ds_par 2 3 rfl sc_chance_to_best.nd (d_op o_add (d_op o_mul (d_var 2) (d_var 4)) (d_var 3)) (d_op o_mul (d_var 3) (d_var 4)))))
      (dss_one (ds_ret (d_calle C_fraction hr h_fraction (by rfl) (da_cons (d_op o_mul (d_var 1) (d_var 2)) (da_cons (d_op o_mul (d_var 0) (d_var 3)) da_nil))))))))) body
abbrev s_best_pass : Stmt := topS 9
theorem sc_best_pass : L2.FnScope ["n", "total", "r"] ["n"] (L2.defScope s_best_pass) := ⟨rfl, rfl, rfl, by decide +kernel, rfl, by decide +kernel, by decide +kernel⟩
theorem ok_best_pass {f : Addr} {fd : FuncData} {k : Nat} {sp : Spc} (F : L2.Fun K "best_pass" "best_pass" s_best_pass f fd) (hm : mg "best_pass" = some (.ref f)) (m_range : mg "range" = none) {v_NOTHING : V} {u_NOTHING : Value} (g_NOTHING : mg "NOTHING" = some u_NOTHING) (r_NOTHING : RelV v_NOTHING u_NOTHING) (h_NOTHING : ∀ H m, Rep K H m dNOTHING v_NOTHING) {sp_plus : Spc} {k_plus : Nat} (C_plus : Callee P w K mg base "plus" k_plus 2 sp_plus) (h_plus : k_plus ≤ k) {sp_is_less : Spc} {k_is_less : Nat} (C_is_less : Callee P w K mg base "is_less" k_is_less 2 sp_is_less) (h_is_less : k_is_less ≤ k) (body : Body 3 1 (w_best_pass sp_plus sp_is_less) sp) : Callee P w K mg base "best_pass" (k + 1) 1 sp :=
  callee_of F hm (F.binds (ps := ["n"]) fun _ _ _ _ _ _ us hl => match us, hl with | [_], _ => rfl) sc_best_pass rfl rfl (fun cdv A outer s H E hr => by
    unfold w_best_pass
    exact (dss_cons (ds_set 1 sc_best_pass.nd (d_glob (by rfl) g_NOTHING r_NOTHING h_NOTHING))
      (dss_cons (ds_for rfl PassesOwn.never (di_r3 (by rfl) m_range (d_op o_sub (d_var 0) d_int) d_int (d_un u_neg d_int)) (dg_name 2 sc_best_pass.nd) (dss_cons (ds_set 1 sc_best_pass.nd (d_calle C_plus hr h_plus (by rfl) (da_cons (d_var 1) (da_cons (d_tup (da_cons d_int (da_cons (d_var 2) da_nil))) da_nil))))
      (dss_one (ds_if (dt_val (d_calle C_is_less hr h_is_less (by rfl) (da_cons (d_tup (da_cons d_int (da_cons d_int da_nil))) (da_cons (d_var 1) da_nil)))) (dss_one (ds_ret (d_if (dt_cmp c_gt (d_var 0) d_int) (d_var 2) d_int))) dss_nil))))
      (dss_one (ds_ret d_int))))) body
abbrev s_taken : Stmt := topS 10
theorem sc_taken : L2.FnScope ["order", "r", "at", "other"] ["order", "r"] (L2.defScope s_taken) := ⟨rfl, rfl, rfl, by decide +kernel, rfl, by decide +kernel, by decide +kernel⟩
theorem ok_taken {f : Addr} {fd : FuncData} {k : Nat} {sp : Spc} (F : L2.Fun K "taken" "taken" s_taken f fd) (hm : mg "taken" = some (.ref f)) (m_len : mg "len" = none) (m_range : mg "range" = none) (m_all : mg "all" = none) (body : Body 4 2 (w_taken ) sp) : Callee P w K mg base "taken" (k + 1) 2 sp :=
  callee_of F hm (F.binds (ps := ["order", "r"]) fun _ _ _ _ _ _ us hl => match us, hl with | [_, _], _ => rfl) sc_taken rfl rfl (fun cdv A outer s H E hr => by
    unfold w_taken
    exact (dss_cons (ds_for rfl PassesOwn.never (di_r2 (by rfl) m_range (d_var 1) (d_callB b_len (by rfl) m_len (by decide +kernel) (da_cons (d_var 0) da_nil))) (dg_name 2 sc_taken.nd) (dss_one (ds_if (dt_val (d_callB (b_all rfl) (by rfl) m_all (by decide +kernel) (da_cons (d_lc (own := [("other", 3)]) rfl sc_taken.nd (di_it (d_sl s_cut (d_var 0) dp_no (dp_at (d_var 2)))) (L2.blkOk_by (by rfl)) (fun _ _ _ _ _ => (dg_name 3 sc_taken.nd)) (fun _ _ _ _ _ => dts_nil) (fun _ _ _ _ _ => (d_cmp c_lt (d_ix i_ix (d_var 0) (d_var 2)) (d_var 3)))) da_nil))) (dss_one (ds_ret (d_var 2))) dss_nil)))
      (dss_one (ds_ret d_non)))) body
abbrev s_records : Stmt := topS 11
theorem sc_records : L2.FnScope ["order", "at", "other"] ["order"] (L2.defScope s_records) := ⟨rfl, rfl, rfl, by decide +kernel, rfl, by decide +kernel, by decide +kernel⟩
theorem ok_records {f : Addr} {fd : FuncData} {k : Nat} {sp : Spc} (F : L2.Fun K "records" "records" s_records f fd) (hm : mg "records" = some (.ref f)) (m_len : mg "len" = none) (m_range : mg "range" = none) (m_all : mg "all" = none) (m_tuple : mg "tuple" = none) (body : Body 3 1 (w_records ) sp) : Callee P w K mg base "records" (k + 1) 1 sp :=
  callee_of F hm (F.binds (ps := ["order"]) fun _ _ _ _ _ _ us hl => match us, hl with | [_], _ => rfl) sc_records rfl rfl (fun cdv A outer s H E hr => by
    unfold w_records
    exact (dss_one (ds_ret (d_callT b_tuple (by rfl) m_tuple (by decide +kernel) (da_cons (d_lc (own := [("at", 1)]) rfl sc_records.nd (di_r1 (by rfl) m_range (d_callB b_len (by rfl) m_len (by decide +kernel) (da_cons (d_var 0) da_nil))) (L2.blkOk_by (by rfl)) (fun _ _ _ _ _ => (dg_name 1 sc_records.nd)) (fun _ _ _ _ _ => (dts_one (dt_val (d_callB (b_all rfl) (by rfl) m_all (by decide +kernel) (da_cons (d_lc (own := [("other", 2)]) rfl sc_records.nd (di_it (d_sl s_cut (d_var 0) dp_no (dp_at (d_var 1)))) (L2.blkOk_by (by rfl)) (fun _ _ _ _ _ => (dg_name 2 sc_records.nd)) (fun _ _ _ _ _ => dts_nil) (fun _ _ _ _ _ => (d_cmp c_lt (d_ix i_ix (d_var 0) (d_var 1)) (d_var 2)))) da_nil))))) (fun _ _ _ _ _ => (d_var 1))) da_nil))))) body
abbrev s_rows_by_records : Stmt := topS 12
theorem sc_rows_by_records : L2.FnScope ["n", "row", "many", "longer", "k"] ["n"] (L2.defScope s_rows_by_records) := ⟨rfl, rfl, rfl, by decide +kernel, rfl, by decide +kernel, by decide +kernel⟩
theorem ok_rows_by_records {f : Addr} {fd : FuncData} {k : Nat} {sp : Spc} (F : L2.Fun K "rows_by_records" "rows_by_records" s_rows_by_records f fd) (hm : mg "rows_by_records" = some (.ref f)) (m_range : mg "range" = none) (body : Body 5 1 (w_rows_by_records ) sp) : Callee P w K mg base "rows_by_records" (k + 1) 1 sp :=
  callee_of F hm (F.binds (ps := ["n"]) fun _ _ _ _ _ _ us hl => match us, hl with | [_], _ => rfl) sc_rows_by_records rfl rfl (fun cdv A outer s H E hr => by
    unfold w_rows_by_records
    exact (dss_cons (ds_set 1 sc_rows_by_records.nd (d_lst (da_cons d_int da_nil)))
      (dss_cons (ds_for rfl PassesOwn.never (di_r2 (by rfl) m_range d_int (d_op o_add (d_var 0) d_int)) (dg_name 2 sc_rows_by_records.nd) (dss_cons (ds_set 3 sc_rows_by_records.nd (d_op o_add (d_var 1) (d_lst (da_cons d_int da_nil))))
      (dss_one (by first | exact (ds_set 1 sc_rows_by_records.nd (d_lc (own := [("k", 4)]) rfl sc_rows_by_records.nd (di_r1 (by rfl) m_range (d_op o_add (d_var 2) d_int)) (L2.blkOk_by (by rfl)) (fun _ _ _ _ _ => (dg_name 4 sc_rows_by_records.nd)) (fun _ _ _ _ _ => dts_nil) (fun _ _ _ _ _ => (d_op o_add (d_op o_mul (d_op o_sub (d_var 2) d_int) (d_ix i_ix (d_var 3) (d_var 4))) (d_if (dt_cmp c_gt (d_var 4) d_int) (d_ix i_ix (d_var 3) (d_op o_sub (d_var 4) d_int)) d_int))))) | exact (ds_setLc 1 (own := [("k", 4)]) rfl sc_rows_by_records.nd (di_r1 (by rfl) m_range (d_op o_add (d_var 2) d_int)) (L2.blkOk_by (by rfl)) (fun _ _ _ _ _ => (dg_name 4 sc_rows_by_records.nd)) (fun _ _ _ _ _ => dts_nil) (fun _ _ _ _ _ => (d_op o_add (d_op o_mul (d_op o_sub (d_var 2) d_int) (d_ix i_ix (d_var 3) (d_var 4))) (d_if (dt_cmp c_gt (d_var 4) d_int) (d_ix i_ix (d_var 3) (d_op o_sub (d_var 4) d_int)) d_int))) (L2.sw_true rfl rfl rfl (by decide +kernel)))))))
      (dss_one (ds_ret (d_var 1)))))) body
abbrev s_chance_of_records : Stmt := topS 13
theorem sc_chance_of_records : L2.FnScope ["n", "k", "row"] ["n", "k"] (L2.defScope s_chance_of_records) := ⟨rfl, rfl, rfl, by decide +kernel, rfl, by decide +kernel, by decide +kernel⟩
theorem ok_chance_of_records {f : Addr} {fd : FuncData} {k : Nat} {sp : Spc} (F : L2.Fun K "chance_of_records" "chance_of_records" s_chance_of_records f fd) (hm : mg "chance_of_records" = some (.ref f)) (m_sum : mg "sum" = none) {v_NOTHING : V} {u_NOTHING : Value} (g_NOTHING : mg "NOTHING" = some u_NOTHING) (r_NOTHING : RelV v_NOTHING u_NOTHING) (h_NOTHING : ∀ H m, Rep K H m dNOTHING v_NOTHING) {sp_rows_by_records : Spc} {k_rows_by_records : Nat} (C_rows_by_records : Callee P w K mg base "rows_by_records" k_rows_by_records 1 sp_rows_by_records) (h_rows_by_records : k_rows_by_records ≤ k) {sp_fraction : Spc} {k_fraction : Nat} (C_fraction : Callee P w K mg base "fraction" k_fraction 2 sp_fraction) (h_fraction : k_fraction ≤ k) (body : Body 3 2 (w_chance_of_records sp_rows_by_records sp_fraction) sp) : Callee P w K mg base "chance_of_records" (k + 1) 2 sp :=
  callee_of F hm (F.binds (ps := ["n", "k"]) fun _ _ _ _ _ _ us hl => match us, hl with | [_, _], _ => rfl) sc_chance_of_records rfl rfl (fun cdv A outer s H E hr => by
    unfold w_chance_of_records
    exact (dss_cons (ds_set 2 sc_chance_of_records.nd (d_calle C_rows_by_records hr h_rows_by_records (by rfl) (da_cons (d_var 0) da_nil)))
      (dss_one (ds_ret (d_if (dt_chain c_le c_le d_int (d_var 1) (d_var 0)) (d_calle C_fraction hr h_fraction (by rfl) (da_cons (d_ix i_ix (d_var 2) (d_var 1)) (da_cons (d_callB (b_sum rfl) (by rfl) m_sum (by decide +kernel) (da_cons (d_var 2) da_nil)) da_nil))) (d_glob (by rfl) g_NOTHING r_NOTHING h_NOTHING)))))) body
abbrev s_mean_records : Stmt := topS 14
theorem sc_mean_records : L2.FnScope ["n", "found", "k"] ["n"] (L2.defScope s_mean_records) := ⟨rfl, rfl, rfl, by decide +kernel, rfl, by decide +kernel, by decide +kernel⟩
theorem ok_mean_records {f : Addr} {fd : FuncData} {k : Nat} {sp : Spc} (F : L2.Fun K "mean_records" "mean_records" s_mean_records f fd) (hm : mg "mean_records" = some (.ref f)) (m_range : mg "range" = none) {v_NOTHING : V} {u_NOTHING : Value} (g_NOTHING : mg "NOTHING" = some u_NOTHING) (r_NOTHING : RelV v_NOTHING u_NOTHING) (h_NOTHING : ∀ H m, Rep K H m dNOTHING v_NOTHING) {sp_plus : Spc} {k_plus : Nat} (C_plus : Callee P w K mg base "plus" k_plus 2 sp_plus) (h_plus : k_plus ≤ k) (body : Body 3 1 (w_mean_records sp_plus) sp) : Callee P w K mg base "mean_records" (k + 1) 1 sp :=
  callee_of F hm (F.binds (ps := ["n"]) fun _ _ _ _ _ _ us hl => match us, hl with | [_], _ => rfl) sc_mean_records rfl rfl (fun cdv A outer s H E hr => by
    unfold w_mean_records
    exact (dss_cons (ds_set 1 sc_mean_records.nd (d_glob (by rfl) g_NOTHING r_NOTHING h_NOTHING))
      (dss_cons (ds_for rfl PassesOwn.never (di_r2 (by rfl) m_range d_int (d_op o_add (d_var 0) d_int)) (dg_name 2 sc_mean_records.nd) (dss_one (ds_set 1 sc_mean_records.nd (d_calle C_plus hr h_plus (by rfl) (da_cons (d_var 1) (da_cons (d_tup (da_cons d_int (da_cons (d_var 2) da_nil))) da_nil))))))
      (dss_one (ds_ret (d_var 1)))))) body
abbrev s_law_draws : Stmt := topS 16
theorem sc_law_draws : L2.FnScope ["script", "many", "cells", "cell", "rest", "draws", "k", "at", "mingled"] ["script", "many"] (L2.defScope s_law_draws) := ⟨rfl, rfl, rfl, by decide +kernel, rfl, by decide +kernel, by decide +kernel⟩
theorem ok_law_draws {f : Addr} {fd : FuncData} {k : Nat} {sp : Spc} (F : L2.Fun K "_law_draws" "_law_draws" s_law_draws f fd) (hm : mg "_law_draws" = some (.ref f)) (m_int : mg "int" = none) (m_len : mg "len" = none) (m_list : mg "list" = none) (m_range : mg "range" = none) (body : Body 9 2 (w_law_draws ) sp) : Callee P w K mg base "_law_draws" (k + 1) 2 sp :=
  callee_of F hm (F.binds (ps := ["script", "many"]) fun _ _ _ _ _ _ us hl => match us, hl with | [_, _], _ => rfl) sc_law_draws rfl rfl (fun cdv A outer s H E hr => by
    unfold w_law_draws
    exact (dss_cons (by first | exact (ds_set 2 sc_law_draws.nd (d_lc (own := [("cell", 3)]) rfl sc_law_draws.nd (di_it (d_var 0)) (L2.blkOk_by (by rfl)) (fun _ _ _ _ _ => (dg_name 3 sc_law_draws.nd)) (fun _ _ _ _ _ => dts_nil) (fun _ _ _ _ _ => (d_callT b_int (by rfl) m_int (by decide +kernel) (da_cons (d_var 3) da_nil))))) | exact (ds_setLc 2 (own := [("cell", 3)]) rfl sc_law_draws.nd (di_it (d_var 0)) (L2.blkOk_by (by rfl)) (fun _ _ _ _ _ => (dg_name 3 sc_law_draws.nd)) (fun _ _ _ _ _ => dts_nil) (fun _ _ _ _ _ => (d_callT b_int (by rfl) m_int (by decide +kernel) (da_cons (d_var 3) da_nil))) (L2.sw_true rfl rfl rfl (by decide +kernel))))
      (dss_cons (ds_if (dt_cmp (c_eq hr) (d_callB b_len (by rfl) m_len (by decide +kernel) (da_cons (d_var 2) da_nil)) d_int) (dss_one (ds_expr (d_m PySem.F.slot_list_append PySem.F.type_list_append m_append (d_var 2) (da_cons d_int da_nil)))) dss_nil)
      (dss_cons (ds_set 4 sc_law_draws.nd (d_callT b_list (by rfl) m_list (by decide +kernel) (da_cons (d_var 2) da_nil)))
      (dss_cons (ds_set 5 sc_law_draws.nd (d_lst da_nil))
      (dss_cons (ds_for rfl PassesOwn.never (di_r1 (by rfl) m_range (d_var 1)) (dg_name 6 sc_law_draws.nd) (dss_cons (ds_set 7 sc_law_draws.nd (d_op o_mod (d_var 6) (d_callB b_len (by rfl) m_len (by decide +kernel) (da_cons (d_var 2) da_nil))))
      (dss_one (ds_if (PW.pt (dw_and (dt_cmp c_ge (d_ix i_ix (d_var 2) (d_var 7)) (d_op o_pow d_int d_int)) (dw_and1 (dt_cmp c_gt (d_ix i_ix (d_var 4) (d_var 7)) d_int)))) (dss_cons (ds_expr (d_m PySem.F.slot_list_append PySem.F.type_list_append m_append (d_var 5) (da_cons (d_op o_mod (d_callT b_int (by rfl) m_int (by decide +kernel) (da_cons (d_ix i_ix (d_var 4) (d_var 7)) da_nil)) d_int) da_nil)))
      (dss_one (ds_sub p_put (d_op o_div (d_ix i_ix (d_var 4) (d_var 7)) d_int) (d_var 4) (d_var 7)))) (dss_cons (ds_set 8 sc_law_draws.nd (d_op o_mod (d_callT b_int (by rfl) m_int (by decide +kernel) (da_cons (d_op o_add (d_op o_add (d_op o_mul (d_ix i_ix (d_var 2) (d_var 7)) d_int) (d_op o_mul (d_var 6) d_int)) d_int) da_nil)) d_int))
      (dss_one (ds_expr (d_m PySem.F.slot_list_append PySem.F.type_list_append m_append (d_var 5) (da_cons (d_op o_mod (d_callT b_int (by rfl) m_int (by decide +kernel) (da_cons (d_op o_add (d_op o_add (d_op o_mul (d_var 8) (d_var 8)) (d_op o_mul d_int (d_var 8))) (d_var 6)) da_nil)) d_int) da_nil)))))))))
      (dss_cons (ds_expr (d_m0 PySem.F.slot_list_reverse PySem.F.type_list_reverse m_reverse (d_var 5)))
      (dss_one (ds_ret (d_var 5)))))))))) body
abbrev s_law_take : Stmt := topS 17
theorem sc_law_take : L2.FnScope ["draws", "many"] ["draws", "many"] (L2.defScope s_law_take) := ⟨rfl, rfl, rfl, by decide +kernel, rfl, by decide +kernel, by decide +kernel⟩
theorem ok_law_take {f : Addr} {fd : FuncData} {k : Nat} {sp : Spc} (F : L2.Fun K "_law_take" "_law_take" s_law_take f fd) (hm : mg "_law_take" = some (.ref f)) (m_len : mg "len" = none) (m_int : mg "int" = none) (body : Body 2 2 (w_law_take ) sp) : Callee P w K mg base "_law_take" (k + 1) 2 sp :=
  callee_of F hm (F.binds (ps := ["draws", "many"]) fun _ _ _ _ _ _ us hl => match us, hl with | [_, _], _ => rfl) sc_law_take rfl rfl (fun cdv A outer s H E hr => by
    unfold w_law_take
    exact (dss_cons (ds_if (dt_cmp (c_eq hr) (d_callB b_len (by rfl) m_len (by decide +kernel) (da_cons (d_var 0) da_nil)) d_int) (dss_one (ds_ret d_int)) dss_nil)
      (dss_one (ds_ret (d_op o_mod (d_callT b_int (by rfl) m_int (by decide +kernel) (da_cons (d_m0 PySem.F.slot_list_pop PySem.F.type_list_pop m_pop (d_var 0)) da_nil)) (d_var 1)))))) body
abbrev s_law_same : Stmt := topS 18
theorem sc_law_same : L2.FnScope ["actual", "due", "k"] ["actual", "due"] (L2.defScope s_law_same) := ⟨rfl, rfl, rfl, by decide +kernel, rfl, by decide +kernel, by decide +kernel⟩
theorem ok_law_same {f : Addr} {fd : FuncData} {k : Nat} {sp : Spc} (F : L2.Fun K "_law_same" "_law_same" s_law_same f fd) (hm : mg "_law_same" = some (.ref f)) (m_bool : mg "bool" = none) (m_isinstance : mg "isinstance" = none) (m_int : mg "int" = none) (m_str : mg "str" = none) (m_tuple : mg "tuple" = none) (m_len : mg "len" = none) (m_range : mg "range" = none) {sp_law_same : Spc} {k_law_same : Nat} (C_law_same : Callee P w K mg base "_law_same" k_law_same 2 sp_law_same) (h_law_same : k_law_same ≤ k) (body : Body 3 2 (w_law_same sp_law_same) sp) : Callee P w K mg base "_law_same" (k + 1) 2 sp :=
  callee_of F hm (F.binds (ps := ["actual", "due"]) fun _ _ _ _ _ _ us hl => match us, hl with | [_, _], _ => rfl) sc_law_same rfl rfl (fun cdv A outer s H E hr => by
    unfold w_law_same
    exact (dss_cons (ds_if (dt_val (d_callB b_isi (by rfl) m_isinstance (by decide +kernel) (da_cons (d_var 1) (da_cons (d_ty (by rfl) m_bool (by decide +kernel)) da_nil)))) (dss_one (ds_ret (d_and (d_callB b_isi (by rfl) m_isinstance (by decide +kernel) (da_cons (d_var 0) (da_cons (d_ty (by rfl) m_bool (by decide +kernel)) da_nil))) (d_one (d_cmp (c_eq hr) (d_var 0) (d_var 1)))))) dss_nil)
      (dss_cons (ds_if (dt_val (d_callB b_isi (by rfl) m_isinstance (by decide +kernel) (da_cons (d_var 1) (da_cons (d_ty (by rfl) m_int (by decide +kernel)) da_nil)))) (dss_one (ds_ret (d_and (d_callB b_isi (by rfl) m_isinstance (by decide +kernel) (da_cons (d_var 0) (da_cons (d_ty (by rfl) m_int (by decide +kernel)) da_nil))) (d_and (d_not (d_callB b_isi (by rfl) m_isinstance (by decide +kernel) (da_cons (d_var 0) (da_cons (d_ty (by rfl) m_bool (by decide +kernel)) da_nil)))) (d_one (d_cmp (c_eq hr) (d_var 0) (d_var 1))))))) dss_nil)
      (dss_cons (ds_if (dt_val (d_callB b_isi (by rfl) m_isinstance (by decide +kernel) (da_cons (d_var 1) (da_cons (d_ty (by rfl) m_str (by decide +kernel)) da_nil)))) (dss_one (ds_ret (d_and (d_callB b_isi (by rfl) m_isinstance (by decide +kernel) (da_cons (d_var 0) (da_cons (d_ty (by rfl) m_str (by decide +kernel)) da_nil))) (d_one (d_cmp (c_eq hr) (d_var 0) (d_var 1)))))) dss_nil)
      (dss_cons (ds_if (dt_cmp c_is (d_var 1) d_non) (dss_one (ds_ret (d_cmp c_is (d_var 0) d_non))) dss_nil)
      (dss_cons (ds_if (PW.pt (dw_or (dt_not (dt_val (d_callB b_isi (by rfl) m_isinstance (by decide +kernel) (da_cons (d_var 0) (da_cons (d_ty (by rfl) m_tuple (by decide +kernel)) da_nil))))) (dw_or1 (dt_cmp (c_ne hr) (d_callB b_len (by rfl) m_len (by decide +kernel) (da_cons (d_var 0) da_nil)) (d_callB b_len (by rfl) m_len (by decide +kernel) (da_cons (d_var 1) da_nil)))))) (dss_one (ds_ret d_bl)) dss_nil)
      (dss_cons (ds_for rfl PassesOwn.never (di_r1 (by rfl) m_range (d_callB b_len (by rfl) m_len (by decide +kernel) (da_cons (d_var 1) da_nil))) (dg_name 2 sc_law_same.nd) (dss_one (ds_if (dt_not (dt_val (d_calle C_law_same hr h_law_same (by rfl) (da_cons (d_ix i_ix (d_var 0) (d_var 2)) (da_cons (d_ix i_ix (d_var 1) (d_var 2)) da_nil))))) (dss_one (ds_ret d_bl)) dss_nil)))
      (dss_one (ds_ret d_bl))))))))) body
abbrev s_law_shared : Stmt := topS 19
theorem sc_law_shared : L2.FnScope ["one", "other", "first", "rest", "k", "later"] ["one", "other"] (L2.defScope s_law_shared) := ⟨rfl, rfl, rfl, by decide +kernel, rfl, by decide +kernel, by decide +kernel⟩
theorem ok_law_shared {f : Addr} {fd : FuncData} {k : Nat} {sp : Spc} (F : L2.Fun K "_law_shared" "_law_shared" s_law_shared f fd) (hm : mg "_law_shared" = some (.ref f)) (m_abs : mg "abs" = none) (m_range : mg "range" = none) (m_int : mg "int" = none) (body : Body 6 2 (w_law_shared ) sp) : Callee P w K mg base "_law_shared" (k + 1) 2 sp :=
  callee_of F hm (F.binds (ps := ["one", "other"]) fun _ _ _ _ _ _ us hl => match us, hl with | [_, _], _ => rfl) sc_law_shared rfl rfl (fun cdv A outer s H E hr => by
    unfold w_law_shared
    exact (dss_cons (ds_set 2 sc_law_shared.nd (d_callB b_abs (by rfl) m_abs (by decide +kernel) (da_cons (d_var 0) da_nil)))
      (dss_cons (ds_set 3 sc_law_shared.nd (d_callB b_abs (by rfl) m_abs (by decide +kernel) (da_cons (d_var 1) da_nil)))
      (dss_cons (ds_for rfl PassesOwn.never (di_r1 (by rfl) m_range d_int) (dg_name 4 sc_law_shared.nd) (dss_cons (ds_if (dt_cmp (c_eq hr) (d_var 3) d_int) (dss_one ds_break) dss_nil)
      (dss_cons (ds_set 5 sc_law_shared.nd (d_op o_mod (d_callT b_int (by rfl) m_int (by decide +kernel) (da_cons (d_var 2) da_nil)) (d_var 3)))
      (dss_cons (ds_set 2 sc_law_shared.nd (d_var 3))
      (dss_one (ds_set 3 sc_law_shared.nd (d_var 5)))))))
      (dss_one (ds_ret (d_var 2))))))) body
abbrev s_law_frac : Stmt := topS 20
theorem sc_law_frac : L2.FnScope ["n", "d", "size"] ["n", "d"] (L2.defScope s_law_frac) := ⟨rfl, rfl, rfl, by decide +kernel, rfl, by decide +kernel, by decide +kernel⟩
theorem ok_law_frac {f : Addr} {fd : FuncData} {k : Nat} {sp : Spc} (F : L2.Fun K "_law_frac" "_law_frac" s_law_frac f fd) (hm : mg "_law_frac" = some (.ref f)) {sp_law_shared : Spc} {k_law_shared : Nat} (C_law_shared : Callee P w K mg base "_law_shared" k_law_shared 2 sp_law_shared) (h_law_shared : k_law_shared ≤ k) (body : Body 3 2 (w_law_frac sp_law_shared) sp) : Callee P w K mg base "_law_frac" (k + 1) 2 sp :=
  callee_of F hm (F.binds (ps := ["n", "d"]) fun _ _ _ _ _ _ us hl => match us, hl with | [_, _], _ => rfl) sc_law_frac rfl rfl (fun cdv A outer s H E hr => by
    unfold w_law_frac
    exact (dss_cons (ds_set 2 sc_law_frac.nd (d_calle C_law_shared hr h_law_shared (by rfl) (da_cons (d_var 0) (da_cons (d_var 1) da_nil))))
      (dss_cons (ds_if (dt_cmp c_lt (d_var 1) d_int) (dss_one (ds_set 2 sc_law_frac.nd (d_un u_neg (d_var 2)))) dss_nil)
      (dss_one (ds_ret (d_tup (da_cons (d_op o_div (d_var 0) (d_var 2)) (da_cons (d_op o_div (d_var 1) (d_var 2)) da_nil)))))))) body
abbrev s_law_plus : Stmt := topS 21
theorem sc_law_plus : L2.FnScope ["one", "other"] ["one", "other"] (L2.defScope s_law_plus) := ⟨rfl, rfl, rfl, by decide +kernel, rfl, by decide +kernel, by decide +kernel⟩
theorem ok_law_plus {f : Addr} {fd : FuncData} {k : Nat} {sp : Spc} (F : L2.Fun K "_law_plus" "_law_plus" s_law_plus f fd) (hm : mg "_law_plus" = some (.ref f)) {sp_law_frac : Spc} {k_law_frac : Nat} (C_law_frac : Callee P w K mg base "_law_frac" k_law_frac 2 sp_law_frac) (h_law_frac : k_law_frac ≤ k) (body : Body 2 2 (w_law_plus sp_law_frac) sp) : Callee P w K mg base "_law_plus" (k + 1) 2 sp :=
  callee_of F hm (F.binds (ps := ["one", "other"]) fun _ _ _ _ _ _ us hl => match us, hl with | [_, _], _ => rfl) sc_law_plus rfl rfl (fun cdv A outer s H E hr => by
    unfold w_law_plus
    exact (dss_one (ds_ret (d_calle C_law_frac hr h_law_frac (by rfl) (da_cons (d_op o_add (d_op o_mul (d_ix i_ix (d_var 0) d_int) (d_ix i_ix (d_var 1) d_int)) (d_op o_mul (d_ix i_ix (d_var 1) d_int) (d_ix i_ix (d_var 0) d_int))) (da_cons (d_op o_mul (d_ix i_ix (d_var 0) d_int) (d_ix i_ix (d_var 1) d_int)) da_nil)))))) body
abbrev s_law_mul : Stmt := topS 22
theorem sc_law_mul : L2.FnScope ["one", "other"] ["one", "other"] (L2.defScope s_law_mul) := ⟨rfl, rfl, rfl, by decide +kernel, rfl, by decide +kernel, by decide +kernel⟩
theorem ok_law_mul {f : Addr} {fd : FuncData} {k : Nat} {sp : Spc} (F : L2.Fun K "_law_mul" "_law_mul" s_law_mul f fd) (hm : mg "_law_mul" = some (.ref f)) {sp_law_frac : Spc} {k_law_frac : Nat} (C_law_frac : Callee P w K mg base "_law_frac" k_law_frac 2 sp_law_frac) (h_law_frac : k_law_frac ≤ k) (body : Body 2 2 (w_law_mul sp_law_frac) sp) : Callee P w K mg base "_law_mul" (k + 1) 2 sp :=
  callee_of F hm (F.binds (ps := ["one", "other"]) fun _ _ _ _ _ _ us hl => match us, hl with | [_, _], _ => rfl) sc_law_mul rfl rfl (fun cdv A outer s H E hr => by
    unfold w_law_mul
    exact (dss_one (ds_ret (d_calle C_law_frac hr h_law_frac (by rfl) (da_cons (d_op o_mul (d_ix i_ix (d_var 0) d_int) (d_ix i_ix (d_var 1) d_int)) (da_cons (d_op o_mul (d_ix i_ix (d_var 0) d_int) (d_ix i_ix (d_var 1) d_int)) da_nil)))))) body
abbrev s_law_is_less : Stmt := topS 23
theorem sc_law_is_less : L2.FnScope ["one", "other"] ["one", "other"] (L2.defScope s_law_is_less) := ⟨rfl, rfl, rfl, by decide +kernel, rfl, by decide +kernel, by decide +kernel⟩
theorem ok_law_is_less {f : Addr} {fd : FuncData} {k : Nat} {sp : Spc} (F : L2.Fun K "_law_is_less" "_law_is_less" s_law_is_less f fd) (hm : mg "_law_is_less" = some (.ref f)) (body : Body 2 2 (w_law_is_less ) sp) : Callee P w K mg base "_law_is_less" (k + 1) 2 sp :=
  callee_of F hm (F.binds (ps := ["one", "other"]) fun _ _ _ _ _ _ us hl => match us, hl with | [_, _], _ => rfl) sc_law_is_less rfl rfl (fun cdv A outer s H E hr => by
    unfold w_law_is_less
    exact (dss_one (ds_ret (d_cmp c_lt (d_op o_mul (d_ix i_ix (d_var 0) d_int) (d_ix i_ix (d_var 1) d_int)) (d_op o_mul (d_ix i_ix (d_var 1) d_int) (d_ix i_ix (d_var 0) d_int)))))) body
abbrev s_law_all_orders : Stmt := topS 24
theorem sc_law_all_orders : L2.FnScope ["n", "found", "k", "more_of", "order", "at"] ["n"] (L2.defScope s_law_all_orders) := ⟨rfl, rfl, rfl, by decide +kernel, rfl, by decide +kernel, by decide +kernel⟩
theorem ok_law_all_orders {f : Addr} {fd : FuncData} {k : Nat} {sp : Spc} (F : L2.Fun K "_law_all_orders" "_law_all_orders" s_law_all_orders f fd) (hm : mg "_law_all_orders" = some (.ref f)) (m_range : mg "range" = none) (body : Body 6 1 (w_law_all_orders ) sp) : Callee P w K mg base "_law_all_orders" (k + 1) 1 sp :=
  callee_of F hm (F.binds (ps := ["n"]) fun _ _ _ _ _ _ us hl => match us, hl with | [_], _ => rfl) sc_law_all_orders rfl rfl (fun cdv A outer s H E hr => by
    unfold w_law_all_orders
    exact (dss_cons (ds_set 1 sc_law_all_orders.nd (d_lst (da_cons (d_tup da_nil) da_nil)))
      (dss_cons (ds_for rfl PassesOwn.never (di_r1 (by rfl) m_range (d_var 0)) (dg_name 2 sc_law_all_orders.nd) (dss_cons (ds_set 3 sc_law_all_orders.nd (d_lst da_nil))
      (dss_cons (ds_for rfl PassesOwn.never (di_it (d_var 1)) (dg_name 4 sc_law_all_orders.nd) (dss_one (ds_set 3 sc_law_all_orders.nd (d_op o_add (d_var 3) (d_lc (own := [("at", 5)]) rfl sc_law_all_orders.nd (di_r1 (by rfl) m_range (d_op o_add (d_var 2) d_int)) (L2.blkOk_by (by rfl)) (fun _ _ _ _ _ => (dg_name 5 sc_law_all_orders.nd)) (fun _ _ _ _ _ => dts_nil) (fun _ _ _ _ _ => (d_op o_add (d_op o_add (d_sl s_cut (d_var 4) dp_no (dp_at (d_var 5))) (d_tup (da_cons (d_var 2) da_nil))) (d_sl s_cut (d_var 4) (dp_at (d_var 5)) dp_no))))))))
      (dss_one (ds_set 1 sc_law_all_orders.nd (d_var 3))))))
      (dss_one (ds_ret (d_var 1)))))) body
abbrev s_law_records : Stmt := topS 25
theorem sc_law_records : L2.FnScope ["order", "found", "best", "k"] ["order"] (L2.defScope s_law_records) := ⟨rfl, rfl, rfl, by decide +kernel, rfl, by decide +kernel, by decide +kernel⟩
theorem ok_law_records {f : Addr} {fd : FuncData} {k : Nat} {sp : Spc} (F : L2.Fun K "_law_records" "_law_records" s_law_records f fd) (hm : mg "_law_records" = some (.ref f)) (m_len : mg "len" = none) (m_range : mg "range" = none) (m_tuple : mg "tuple" = none) (body : Body 4 1 (w_law_records ) sp) : Callee P w K mg base "_law_records" (k + 1) 1 sp :=
  callee_of F hm (F.binds (ps := ["order"]) fun _ _ _ _ _ _ us hl => match us, hl with | [_], _ => rfl) sc_law_records rfl rfl (fun cdv A outer s H E hr => by
    unfold w_law_records
    exact (dss_cons (ds_set 1 sc_law_records.nd (d_lst da_nil))
      (dss_cons (ds_set 2 sc_law_records.nd (d_callB b_len (by rfl) m_len (by decide +kernel) (da_cons (d_var 0) da_nil)))
      (dss_cons (ds_for rfl PassesOwn.never (di_r1 (by rfl) m_range (d_callB b_len (by rfl) m_len (by decide +kernel) (da_cons (d_var 0) da_nil))) (dg_name 3 sc_law_records.nd) (dss_one (ds_if (dt_cmp c_lt (d_ix i_ix (d_var 0) (d_var 3)) (d_var 2)) (dss_cons (ds_expr (d_m PySem.F.slot_list_append PySem.F.type_list_append m_append (d_var 1) (da_cons (d_var 3) da_nil)))
      (dss_one (ds_set 2 sc_law_records.nd (d_ix i_ix (d_var 0) (d_var 3))))) dss_nil)))
      (dss_one (ds_ret (d_callT b_tuple (by rfl) m_tuple (by decide +kernel) (da_cons (d_var 1) da_nil)))))))) body
abbrev s_law_taken : Stmt := topS 26
theorem sc_law_taken : L2.FnScope ["order", "r", "k"] ["order", "r"] (L2.defScope s_law_taken) := ⟨rfl, rfl, rfl, by decide +kernel, rfl, by decide +kernel, by decide +kernel⟩
theorem ok_law_taken {f : Addr} {fd : FuncData} {k : Nat} {sp : Spc} (F : L2.Fun K "_law_taken" "_law_taken" s_law_taken f fd) (hm : mg "_law_taken" = some (.ref f)) {sp_law_records : Spc} {k_law_records : Nat} (C_law_records : Callee P w K mg base "_law_records" k_law_records 1 sp_law_records) (h_law_records : k_law_records ≤ k) (body : Body 3 2 (w_law_taken sp_law_records) sp) : Callee P w K mg base "_law_taken" (k + 1) 2 sp :=
  callee_of F hm (F.binds (ps := ["order", "r"]) fun _ _ _ _ _ _ us hl => match us, hl with | [_, _], _ => rfl) sc_law_taken rfl rfl (fun cdv A outer s H E hr => by
    unfold w_law_taken
    exact (dss_cons (ds_for rfl PassesOwn.never (di_it (d_calle C_law_records hr h_law_records (by rfl) (da_cons (d_var 0) da_nil))) (dg_name 2 sc_law_taken.nd) (dss_one (ds_if (dt_cmp c_ge (d_var 2) (d_var 1)) (dss_one (ds_ret (d_var 2))) dss_nil)))
      (dss_one (ds_ret d_non)))) body
abbrev s_law_chance : Stmt := topS 27
theorem sc_law_chance : L2.FnScope ["n", "r", "found", "k"] ["n", "r"] (L2.defScope s_law_chance) := ⟨rfl, rfl, rfl, by decide +kernel, rfl, by decide +kernel, by decide +kernel⟩
theorem ok_law_chance {f : Addr} {fd : FuncData} {k : Nat} {sp : Spc} (F : L2.Fun K "_law_chance" "_law_chance" s_law_chance f fd) (hm : mg "_law_chance" = some (.ref f)) (m_range : mg "range" = none) {sp_law_plus : Spc} {k_law_plus : Nat} (C_law_plus : Callee P w K mg base "_law_plus" k_law_plus 2 sp_law_plus) (h_law_plus : k_law_plus ≤ k) {sp_law_frac : Spc} {k_law_frac : Nat} (C_law_frac : Callee P w K mg base "_law_frac" k_law_frac 2 sp_law_frac) (h_law_frac : k_law_frac ≤ k) {sp_law_mul : Spc} {k_law_mul : Nat} (C_law_mul : Callee P w K mg base "_law_mul" k_law_mul 2 sp_law_mul) (h_law_mul : k_law_mul ≤ k) (body : Body 4 2 (w_law_chance sp_law_plus sp_law_frac sp_law_mul) sp) : Callee P w K mg base "_law_chance" (k + 1) 2 sp :=
  callee_of F hm (F.binds (ps := ["n", "r"]) fun _ _ _ _ _ _ us hl => match us, hl with | [_, _], _ => rfl) sc_law_chance rfl rfl (fun cdv A outer s H E hr => by
    unfold w_law_chance
    exact (dss_cons (ds_if (dt_cmp (c_eq hr) (d_var 1) d_int) (dss_one (ds_ret (d_tup (da_cons d_int (da_cons (d_var 0) da_nil))))) dss_nil)
      (dss_cons (ds_set 2 sc_law_chance.nd (d_tup (da_cons d_int (da_cons d_int da_nil))))
      (dss_cons (ds_for rfl PassesOwn.never (di_r2 (by rfl) m_range (d_var 1) (d_var 0)) (dg_name 3 sc_law_chance.nd) (dss_one (ds_set 2 sc_law_chance.nd (d_calle C_law_plus hr h_law_plus (by rfl) (da_cons (d_var 2) (da_cons (d_tup (da_cons d_int (da_cons (d_var 3) da_nil))) da_nil))))))
      (dss_one (ds_ret (d_calle C_law_mul hr h_law_mul (by rfl) (da_cons (d_var 2) (da_cons (d_calle C_law_frac hr h_law_frac (by rfl) (da_cons (d_var 1) (da_cons (d_var 0) da_nil))) da_nil))))))))) body
abbrev s_law_sum : Stmt := topS 28
theorem sc_law_sum : L2.FnScope ["first", "n", "top", "low", "k"] ["first", "n"] (L2.defScope s_law_sum) := ⟨rfl, rfl, rfl, by decide +kernel, rfl, by decide +kernel, by decide +kernel⟩
theorem ok_law_sum {f : Addr} {fd : FuncData} {k : Nat} {sp : Spc} (F : L2.Fun K "_law_sum" "_law_sum" s_law_sum f fd) (hm : mg "_law_sum" = some (.ref f)) (m_range : mg "range" = none) (body : Body 5 2 (w_law_sum ) sp) : Callee P w K mg base "_law_sum" (k + 1) 2 sp :=
  callee_of F hm (F.binds (ps := ["first", "n"]) fun _ _ _ _ _ _ us hl => match us, hl with | [_, _], _ => rfl) sc_law_sum rfl rfl (fun cdv A outer s H E hr => by
    unfold w_law_sum
    exact (dss_cons (ds_set 2 sc_law_sum.nd d_int)
      (dss_cons (ds_set 3 sc_law_sum.nd d_int)
      (dss_cons (ds_for rfl PassesOwn.never (di_r2 (by rfl) m_range (d_var 0) (d_var 1)) (dg_name 4 sc_law_sum.nd) (dss_cons (ds_set 2 sc_law_sum.nd (d_op o_add (d_op o_mul (d_var 2) (d_var 4)) (d_var 3)))
      (dss_one (ds_set 3 sc_law_sum.nd (d_op o_mul (d_var 3) (d_var 4))))))
      (dss_one (ds_ret (d_tup (da_cons (d_var 2) (da_cons (d_var 3) da_nil))))))))) body
abbrev s_law_order : Stmt := topS 29
theorem sc_law_order : L2.FnScope ["draws", "n", "style", "left", "found", "k", "draw"] ["draws", "n"] (L2.defScope s_law_order) := ⟨rfl, rfl, rfl, by decide +kernel, rfl, by decide +kernel, by decide +kernel⟩
theorem ok_law_order {f : Addr} {fd : FuncData} {k : Nat} {sp : Spc} (F : L2.Fun K "_law_order" "_law_order" s_law_order f fd) (hm : mg "_law_order" = some (.ref f)) (m_list : mg "list" = none) (m_range : mg "range" = none) (m_int : mg "int" = none) (m_len : mg "len" = none) (m_min : mg "min" = none) (m_tuple : mg "tuple" = none) {sp_law_take : Spc} {k_law_take : Nat} (C_law_take : Callee P w K mg base "_law_take" k_law_take 2 sp_law_take) (h_law_take : k_law_take ≤ k) (body : Body 7 2 (w_law_order sp_law_take) sp) : Callee P w K mg base "_law_order" (k + 1) 2 sp :=
  callee_of F hm (F.binds (ps := ["draws", "n"]) fun _ _ _ _ _ _ us hl => match us, hl with | [_, _], _ => rfl) sc_law_order rfl rfl (fun cdv A outer s H E hr => by
    unfold w_law_order
    exact (dss_cons (ds_set 2 sc_law_order.nd (d_calle C_law_take hr h_law_take (by rfl) (da_cons (d_var 0) (da_cons d_int da_nil))))
      (dss_cons (ds_set 3 sc_law_order.nd (d_lstR rfl (by rfl) m_list (by rfl) m_range (d_var 1)))
      (dss_cons (ds_set 4 sc_law_order.nd (d_lst da_nil))
      (dss_cons (ds_for rfl PassesOwn.never (di_r1 (by rfl) m_range (d_var 1)) (dg_name 5 sc_law_order.nd) (dss_cons (ds_set 6 sc_law_order.nd (d_callT b_int (by rfl) m_int (by decide +kernel) (da_cons (d_calle C_law_take hr h_law_take (by rfl) (da_cons (d_var 0) (da_cons d_int da_nil))) da_nil)))
      (dss_one (ds_expr (d_m PySem.F.slot_list_append PySem.F.type_list_append m_append (d_var 4) (da_cons (d_m PySem.F.slot_list_pop PySem.F.type_list_pop m_popAt (d_var 3) (da_cons (d_ix i_ix (d_lst (da_cons (d_op o_mod (d_var 6) (d_callB b_len (by rfl) m_len (by decide +kernel) (da_cons (d_var 3) da_nil))) (da_cons d_int (da_cons (d_op o_sub (d_callB b_len (by rfl) m_len (by decide +kernel) (da_cons (d_var 3) da_nil)) d_int) (da_cons (d_op o_mod (d_var 6) (d_callB (b_min2 rfl) (by rfl) m_min (by decide +kernel) (da_cons (d_callB b_len (by rfl) m_len (by decide +kernel) (da_cons (d_var 3) da_nil)) (da_cons d_int da_nil)))) da_nil))))) (d_var 2)) da_nil)) da_nil))))))
      (dss_cons (ds_if (dt_cmp (c_eq hr) (d_var 2) d_int) (dss_one (ds_expr (d_m0 PySem.F.slot_list_reverse PySem.F.type_list_reverse m_reverse (d_var 4)))) dss_nil)
      (dss_one (ds_ret (d_callT b_tuple (by rfl) m_tuple (by decide +kernel) (da_cons (d_var 4) da_nil)))))))))) body
abbrev s_law_by_last : Stmt := topS 30
theorem sc_law_by_last : L2.FnScope ["n", "row", "k", "later", "j"] ["n"] (L2.defScope s_law_by_last) := ⟨rfl, rfl, rfl, by decide +kernel, rfl, by decide +kernel, by decide +kernel⟩
theorem ok_law_by_last {f : Addr} {fd : FuncData} {k : Nat} {sp : Spc} (F : L2.Fun K "_law_by_last" "_law_by_last" s_law_by_last f fd) (hm : mg "_law_by_last" = some (.ref f)) (m_range : mg "range" = none) (m_len : mg "len" = none) (body : Body 5 1 (w_law_by_last ) sp) : Callee P w K mg base "_law_by_last" (k + 1) 1 sp :=
  callee_of F hm (F.binds (ps := ["n"]) fun _ _ _ _ _ _ us hl => match us, hl with | [_], _ => rfl) sc_law_by_last rfl rfl (fun cdv A outer s H E hr => by
    unfold w_law_by_last
    exact (dss_cons (ds_set 1 sc_law_by_last.nd (d_lst (da_cons d_int da_nil)))
      (dss_cons (ds_for rfl PassesOwn.never (di_r1 (by rfl) m_range (d_var 0)) (dg_name 2 sc_law_by_last.nd) (dss_cons (ds_set 3 sc_law_by_last.nd (d_op o_mul (d_lst (da_cons d_int da_nil)) (d_op o_add (d_callB b_len (by rfl) m_len (by decide +kernel) (da_cons (d_var 1) da_nil)) d_int)))
      (dss_cons (ds_for rfl PassesOwn.never (di_r1 (by rfl) m_range (d_callB b_len (by rfl) m_len (by decide +kernel) (da_cons (d_var 1) da_nil))) (dg_name 4 sc_law_by_last.nd) (dss_cons (ds_sub p_put (d_op o_add (d_ix i_ix (d_var 3) (d_var 4)) (d_op o_mul (d_var 2) (d_ix i_ix (d_var 1) (d_var 4)))) (d_var 3) (d_var 4))
      (dss_one (ds_sub p_put (d_op o_add (d_ix i_ix (d_var 3) (d_op o_add (d_var 4) d_int)) (d_ix i_ix (d_var 1) (d_var 4))) (d_var 3) (d_op o_add (d_var 4) d_int)))))
      (dss_one (ds_set 1 sc_law_by_last.nd (d_var 3))))))
      (dss_one (ds_ret (d_var 1)))))) body
abbrev s_law_few : Stmt := topS 31
theorem sc_law_few : L2.FnScope ["n", "orders", "best", "r", "good", "order", "k", "due"] ["n"] (L2.defScope s_law_few) := ⟨rfl, rfl, rfl, by decide +kernel, rfl, by decide +kernel, by decide +kernel⟩
theorem ok_law_few {f : Addr} {fd : FuncData} {k : Nat} {sp : Spc} (F : L2.Fun K "_law_few" "_law_few" s_law_few f fd) (hm : mg "_law_few" = some (.ref f)) (m_range : mg "range" = none) (m_len : mg "len" = none) {sp_law_all_orders : Spc} {k_law_all_orders : Nat} (C_law_all_orders : Callee P w K mg base "_law_all_orders" k_law_all_orders 1 sp_law_all_orders) (h_law_all_orders : k_law_all_orders ≤ k) {sp_law_taken : Spc} {k_law_taken : Nat} (C_law_taken : Callee P w K mg base "_law_taken" k_law_taken 2 sp_law_taken) (h_law_taken : k_law_taken ≤ k) {sp_law_frac : Spc} {k_law_frac : Nat} (C_law_frac : Callee P w K mg base "_law_frac" k_law_frac 2 sp_law_frac) (h_law_frac : k_law_frac ≤ k) {sp_chance_to_best : Spc} {k_chance_to_best : Nat} (C_chance_to_best : Callee P w K mg base "chance_to_best" k_chance_to_best 2 sp_chance_to_best) (h_chance_to_best : k_chance_to_best ≤ k) {sp_law_same : Spc} {k_law_same : Nat} (C_law_same : Callee P w K mg base "_law_same" k_law_same 2 sp_law_same) (h_law_same : k_law_same ≤ k) {sp_best_pass : Spc} {k_best_pass : Nat} (C_best_pass : Callee P w K mg base "best_pass" k_best_pass 1 sp_best_pass) (h_best_pass : k_best_pass ≤ k) {sp_law_records : Spc} {k_law_records : Nat} (C_law_records : Callee P w K mg base "_law_records" k_law_records 1 sp_law_records) (h_law_records : k_law_records ≤ k) {sp_chance_of_records : Spc} {k_chance_of_records : Nat} (C_chance_of_records : Callee P w K mg base "chance_of_records" k_chance_of_records 2 sp_chance_of_records) (h_chance_of_records : k_chance_of_records ≤ k) (body : Body 8 1 (w_law_few sp_law_all_orders sp_law_taken sp_law_frac sp_chance_to_best sp_law_same sp_best_pass sp_law_records sp_chance_of_records) sp) : Callee P w K mg base "_law_few" (k + 1) 1 sp :=
  callee_of F hm (F.binds (ps := ["n"]) fun _ _ _ _ _ _ us hl => match us, hl with | [_], _ => rfl) sc_law_few rfl rfl (fun cdv A outer s H E hr => by
    unfold w_law_few
    exact (dss_cons (ds_set 1 sc_law_few.nd (d_calle C_law_all_orders hr h_law_all_orders (by rfl) (da_cons (d_var 0) da_nil)))
      (dss_cons (ds_set 2 sc_law_few.nd (d_tup (da_cons d_int (da_cons d_int da_nil))))
      (dss_cons (ds_for rfl PassesOwn.never (di_r1 (by rfl) m_range (d_var 0)) (dg_name 3 sc_law_few.nd) (dss_cons (ds_set 4 sc_law_few.nd (d_callB b_len (by rfl) m_len (by decide +kernel) (da_cons (d_lc (own := [("order", 5)]) rfl sc_law_few.nd (di_it (d_var 1)) (L2.blkOk_by (by rfl)) (fun _ _ _ _ _ => (dg_name 5 sc_law_few.nd)) (fun _ _ _ _ _ => (dts_one (PW.pt (dw_and (dt_cmp c_isnot (d_calle C_law_taken hr h_law_taken (by rfl) (da_cons (d_var 5) (da_cons (d_var 3) da_nil))) d_non) (dw_and1 (dt_cmp (c_eq hr) (d_ix i_ix (d_var 5) (d_calle C_law_taken hr h_law_taken (by rfl) (da_cons (d_var 5) (da_cons (d_var 3) da_nil)))) d_int)))))) (fun _ _ _ _ _ => (d_var 5))) da_nil)))
      (dss_cons (ds_if (dt_not (dt_val (d_calle C_law_same hr h_law_same (by rfl) (da_cons (d_calle C_chance_to_best hr h_chance_to_best (by rfl) (da_cons (d_var 0) (da_cons (d_var 3) da_nil))) (da_cons (d_calle C_law_frac hr h_law_frac (by rfl) (da_cons (d_var 4) (da_cons (d_callB b_len (by rfl) m_len (by decide +kernel) (da_cons (d_var 1) da_nil)) da_nil))) da_nil))))) (dss_one (ds_ret d_bl)) dss_nil)
      (dss_one (ds_if (dt_cmp c_gt (d_var 4) (d_ix i_ix (d_var 2) d_int)) (dss_one (ds_set 2 sc_law_few.nd (d_tup (da_cons (d_var 4) (da_cons (d_var 3) da_nil))))) dss_nil)))))
      (dss_cons (ds_if (dt_not (dt_val (d_calle C_law_same hr h_law_same (by rfl) (da_cons (d_calle C_best_pass hr h_best_pass (by rfl) (da_cons (d_var 0) da_nil)) (da_cons (d_ix i_ix (d_var 2) d_int) da_nil))))) (dss_one (ds_ret d_bl)) dss_nil)
      (dss_cons (ds_for rfl PassesOwn.never (di_r1 (by rfl) m_range (d_op o_add (d_var 0) d_int)) (dg_name 6 sc_law_few.nd) (dss_cons (ds_set 7 sc_law_few.nd (d_callB b_len (by rfl) m_len (by decide +kernel) (da_cons (d_lc (own := [("order", 5)]) rfl sc_law_few.nd (di_it (d_var 1)) (L2.blkOk_by (by rfl)) (fun _ _ _ _ _ => (dg_name 5 sc_law_few.nd)) (fun _ _ _ _ _ => (dts_one (dt_cmp (c_eq hr) (d_callB b_len (by rfl) m_len (by decide +kernel) (da_cons (d_calle C_law_records hr h_law_records (by rfl) (da_cons (d_var 5) da_nil)) da_nil)) (d_var 6)))) (fun _ _ _ _ _ => (d_var 5))) da_nil)))
      (dss_one (ds_if (dt_not (dt_val (d_calle C_law_same hr h_law_same (by rfl) (da_cons (d_calle C_chance_of_records hr h_chance_of_records (by rfl) (da_cons (d_var 0) (da_cons (d_var 6) da_nil))) (da_cons (d_calle C_law_frac hr h_law_frac (by rfl) (da_cons (d_var 7) (da_cons (d_callB b_len (by rfl) m_len (by decide +kernel) (da_cons (d_var 1) da_nil)) da_nil))) da_nil))))) (dss_one (ds_ret d_bl)) dss_nil))))
      (dss_one (ds_ret d_bl)))))))) body
abbrev s_law : Stmt := topS 32
theorem sc_law : L2.FnScope ["script", "draws", "k", "order", "r", "n", "chances", "best", "told", "more", "fewer", "top", "low", "row", "mean", "weighed"] ["script"] (L2.defScope s_law) := ⟨rfl, rfl, rfl, by decide +kernel, rfl, by decide +kernel, by decide +kernel⟩
theorem ok_law {f : Addr} {fd : FuncData} {k : Nat} {sp : Spc} (F : L2.Fun K "law" "law" s_law f fd) (hm : mg "law" = some (.ref f)) (m_int : mg "int" = none) (m_range : mg "range" = none) (m_len : mg "len" = none) (m_isinstance : mg "isinstance" = none) (m_bool : mg "bool" = none) (m_min : mg "min" = none) (m_sum : mg "sum" = none) {sp_law_draws : Spc} {k_law_draws : Nat} (C_law_draws : Callee P w K mg base "_law_draws" k_law_draws 2 sp_law_draws) (h_law_draws : k_law_draws ≤ k) {sp_law_take : Spc} {k_law_take : Nat} (C_law_take : Callee P w K mg base "_law_take" k_law_take 2 sp_law_take) (h_law_take : k_law_take ≤ k) {sp_law_few : Spc} {k_law_few : Nat} (C_law_few : Callee P w K mg base "_law_few" k_law_few 1 sp_law_few) (h_law_few : k_law_few ≤ k) {sp_law_order : Spc} {k_law_order : Nat} (C_law_order : Callee P w K mg base "_law_order" k_law_order 2 sp_law_order) (h_law_order : k_law_order ≤ k) {sp_law_records : Spc} {k_law_records : Nat} (C_law_records : Callee P w K mg base "_law_records" k_law_records 1 sp_law_records) (h_law_records : k_law_records ≤ k) {sp_records : Spc} {k_records : Nat} (C_records : Callee P w K mg base "records" k_records 1 sp_records) (h_records : k_records ≤ k) {sp_law_same : Spc} {k_law_same : Nat} (C_law_same : Callee P w K mg base "_law_same" k_law_same 2 sp_law_same) (h_law_same : k_law_same ≤ k) {sp_law_taken : Spc} {k_law_taken : Nat} (C_law_taken : Callee P w K mg base "_law_taken" k_law_taken 2 sp_law_taken) (h_law_taken : k_law_taken ≤ k) {sp_taken : Spc} {k_taken : Nat} (C_taken : Callee P w K mg base "taken" k_taken 2 sp_taken) (h_taken : k_taken ≤ k) {sp_law_chance : Spc} {k_law_chance : Nat} (C_law_chance : Callee P w K mg base "_law_chance" k_law_chance 2 sp_law_chance) (h_law_chance : k_law_chance ≤ k) {sp_law_is_less : Spc} {k_law_is_less : Nat} (C_law_is_less : Callee P w K mg base "_law_is_less" k_law_is_less 2 sp_law_is_less) (h_law_is_less : k_law_is_less ≤ k) {sp_best_pass : Spc} {k_best_pass : Nat} (C_best_pass : Callee P w K mg base "best_pass" k_best_pass 1 sp_best_pass) (h_best_pass : k_best_pass ≤ k) {sp_chance_to_best : Spc} {k_chance_to_best : Nat} (C_chance_to_best : Callee P w K mg base "chance_to_best" k_chance_to_best 2 sp_chance_to_best) (h_chance_to_best : k_chance_to_best ≤ k) {sp_law_sum : Spc} {k_law_sum : Nat} (C_law_sum : Callee P w K mg base "_law_sum" k_law_sum 2 sp_law_sum) (h_law_sum : k_law_sum ≤ k) {sp_law_frac : Spc} {k_law_frac : Nat} (C_law_frac : Callee P w K mg base "_law_frac" k_law_frac 2 sp_law_frac) (h_law_frac : k_law_frac ≤ k) {sp_law_by_last : Spc} {k_law_by_last : Nat} (C_law_by_last : Callee P w K mg base "_law_by_last" k_law_by_last 1 sp_law_by_last) (h_law_by_last : k_law_by_last ≤ k) {sp_chance_of_records : Spc} {k_chance_of_records : Nat} (C_chance_of_records : Callee P w K mg base "chance_of_records" k_chance_of_records 2 sp_chance_of_records) (h_chance_of_records : k_chance_of_records ≤ k) {sp_law_plus : Spc} {k_law_plus : Nat} (C_law_plus : Callee P w K mg base "_law_plus" k_law_plus 2 sp_law_plus) (h_law_plus : k_law_plus ≤ k) {sp_mean_records : Spc} {k_mean_records : Nat} (C_mean_records : Callee P w K mg base "mean_records" k_mean_records 1 sp_mean_records) (h_mean_records : k_mean_records ≤ k) (body : Body 16 1 (w_law sp_law_draws sp_law_take sp_law_few sp_law_order sp_law_records sp_records sp_law_same sp_law_taken sp_taken sp_law_chance sp_law_is_less sp_best_pass sp_chance_to_best sp_law_sum sp_law_frac sp_law_by_last sp_chance_of_records sp_law_plus sp_mean_records) sp) : L2.FnOk P w K mg base L2.CX0 (k + 1) f fd ["script"] (spOf K 1 sp) :=
  fn_body F sc_law rfl rfl (fun cdv A outer s H E hr => by
    unfold w_law
    exact (dss_cons (ds_set 1 sc_law.nd (d_calle C_law_draws hr h_law_draws (by rfl) (da_cons (d_var 0) (da_cons d_int da_nil))))
      (dss_cons (ds_if (dt_not (dt_val (d_calle C_law_few hr h_law_few (by rfl) (da_cons (d_op o_add d_int (d_calle C_law_take hr h_law_take (by rfl) (da_cons (d_var 1) (da_cons (d_op o_add d_int (d_callT b_int (by rfl) m_int (by decide +kernel) (da_cons (d_cmp (c_eq hr) (d_calle C_law_take hr h_law_take (by rfl) (da_cons (d_var 1) (da_cons d_int da_nil))) d_int) da_nil))) da_nil)))) da_nil)))) (dss_one (ds_ret d_bl)) dss_nil)
      (dss_cons (ds_for rfl PassesOwn.never (di_r1 (by rfl) m_range d_int) (dg_name 2 sc_law.nd) (dss_cons (ds_set 3 sc_law.nd (d_calle C_law_order hr h_law_order (by rfl) (da_cons (d_var 1) (da_cons (d_op o_add d_int (d_calle C_law_take hr h_law_take (by rfl) (da_cons (d_var 1) (da_cons (d_ix i_ix (d_lst (da_cons d_int (da_cons d_int da_nil))) (d_calle C_law_take hr h_law_take (by rfl) (da_cons (d_var 1) (da_cons d_int da_nil)))) da_nil)))) da_nil))))
      (dss_cons (ds_if (dt_not (dt_val (d_calle C_law_same hr h_law_same (by rfl) (da_cons (d_calle C_records hr h_records (by rfl) (da_cons (d_var 3) da_nil)) (da_cons (d_calle C_law_records hr h_law_records (by rfl) (da_cons (d_var 3) da_nil)) da_nil))))) (dss_one (ds_ret d_bl)) dss_nil)
      (dss_one (ds_for rfl PassesOwn.never (di_it (d_lst (da_cons d_int (da_cons d_int (da_cons (d_calle C_law_take hr h_law_take (by rfl) (da_cons (d_var 1) (da_cons (d_callB b_len (by rfl) m_len (by decide +kernel) (da_cons (d_var 3) da_nil)) da_nil))) (da_cons (d_op o_sub (d_callB b_len (by rfl) m_len (by decide +kernel) (da_cons (d_var 3) da_nil)) d_int) da_nil)))))) (dg_name 4 sc_law.nd) (dss_one (ds_if (PW.pt (dw_and (dt_cmp c_lt (d_var 4) (d_callB b_len (by rfl) m_len (by decide +kernel) (da_cons (d_var 3) da_nil))) (dw_and1 (dt_not (dt_val (d_calle C_law_same hr h_law_same (by rfl) (da_cons (d_calle C_taken hr h_taken (by rfl) (da_cons (d_var 3) (da_cons (d_var 4) da_nil))) (da_cons (d_calle C_law_taken hr h_law_taken (by rfl) (da_cons (d_var 3) (da_cons (d_var 4) da_nil))) da_nil)))))))) (dss_one (ds_ret d_bl)) dss_nil)))))))
      (dss_cons (ds_set 5 sc_law.nd (d_op o_add d_int (d_calle C_law_take hr h_law_take (by rfl) (da_cons (d_var 1) (da_cons d_int da_nil)))))
      (dss_cons (by first | exact (ds_set 6 sc_law.nd (d_lc (own := [("r", 4)]) rfl sc_law.nd (di_r1 (by rfl) m_range (d_var 5)) (L2.blkOk_by (by rfl)) (fun _ _ _ _ _ => (dg_name 4 sc_law.nd)) (fun _ _ _ _ _ => dts_nil) (fun _ _ _ _ _ => (d_calle C_law_chance hr h_law_chance (by rfl) (da_cons (d_var 5) (da_cons (d_var 4) da_nil)))))) | exact (ds_setLc 6 (own := [("r", 4)]) rfl sc_law.nd (di_r1 (by rfl) m_range (d_var 5)) (L2.blkOk_by (by rfl)) (fun _ _ _ _ _ => (dg_name 4 sc_law.nd)) (fun _ _ _ _ _ => dts_nil) (fun _ _ _ _ _ => (d_calle C_law_chance hr h_law_chance (by rfl) (da_cons (d_var 5) (da_cons (d_var 4) da_nil)))) (L2.sw_true rfl rfl rfl (by decide +kernel))))
      (dss_cons (ds_set 7 sc_law.nd d_int)
      (dss_cons (ds_for rfl PassesOwn.never (di_r1 (by rfl) m_range (d_var 5)) (dg_name 4 sc_law.nd) (dss_one (ds_if (dt_val (d_calle C_law_is_less hr h_law_is_less (by rfl) (da_cons (d_ix i_ix (d_var 6) (d_var 7)) (da_cons (d_ix i_ix (d_var 6) (d_var 4)) da_nil)))) (dss_one (ds_set 7 sc_law.nd (d_var 4))) dss_nil)))
      (dss_cons (ds_if (PW.pt (dw_or (dt_not (dt_val (d_calle C_law_same hr h_law_same (by rfl) (da_cons (d_calle C_best_pass hr h_best_pass (by rfl) (da_cons (d_var 5) da_nil)) (da_cons (d_var 7) da_nil))))) (dw_or1 (dt_not (dt_val (d_calle C_law_same hr h_law_same (by rfl) (da_cons (d_calle C_chance_to_best hr h_chance_to_best (by rfl) (da_cons (d_var 5) (da_cons (d_var 7) da_nil))) (da_cons (d_ix i_ix (d_var 6) (d_var 7)) da_nil)))))))) (dss_one (ds_ret d_bl)) dss_nil)
      (dss_cons (ds_set 4 sc_law.nd (d_calle C_law_take hr h_law_take (by rfl) (da_cons (d_var 1) (da_cons (d_var 5) da_nil))))
      (dss_cons (ds_if (dt_not (dt_val (d_calle C_law_same hr h_law_same (by rfl) (da_cons (d_calle C_chance_to_best hr h_chance_to_best (by rfl) (da_cons (d_var 5) (da_cons (d_var 4) da_nil))) (da_cons (d_ix i_ix (d_var 6) (d_var 4)) da_nil))))) (dss_one (ds_ret d_bl)) dss_nil)
      (dss_cons (ds_set 5 sc_law.nd (d_op o_add d_int (d_calle C_law_take hr h_law_take (by rfl) (da_cons (d_var 1) (da_cons d_int da_nil)))))
      (dss_cons (ds_set 8 sc_law.nd (d_calle C_best_pass hr h_best_pass (by rfl) (da_cons (d_var 5) da_nil)))
      (dss_cons (ds_if (PW.pt (dw_or (dt_not (dt_val (d_callB b_isi (by rfl) m_isinstance (by decide +kernel) (da_cons (d_var 8) (da_cons (d_ty (by rfl) m_int (by decide +kernel)) da_nil))))) (dw_or (dt_val (d_callB b_isi (by rfl) m_isinstance (by decide +kernel) (da_cons (d_var 8) (da_cons (d_ty (by rfl) m_bool (by decide +kernel)) da_nil)))) (dw_or (dt_cmp c_lt (d_var 8) d_int) (dw_or1 (dt_cmp c_ge (d_var 8) (d_var 5))))))) (dss_one (ds_ret d_bl)) dss_nil)
      (dss_cons (ds_set 9 sc_law.nd (d_calle C_law_sum hr h_law_sum (by rfl) (da_cons (d_op o_add (d_var 8) d_int) (da_cons (d_var 5) da_nil))))
      (dss_cons (ds_set 10 sc_law.nd (d_calle C_law_sum hr h_law_sum (by rfl) (da_cons (d_var 8) (da_cons (d_var 5) da_nil))))
      (dss_cons (ds_if (PW.pt (dw_or (dt_cmp c_gt (d_ix i_ix (d_var 9) d_int) (d_ix i_ix (d_var 9) d_int)) (dw_or1 (dt_cmp c_le (d_ix i_ix (d_var 10) d_int) (d_ix i_ix (d_var 10) d_int))))) (dss_one (ds_ret d_bl)) dss_nil)
      (dss_cons (ds_asg (d_calle C_law_sum hr h_law_sum (by rfl) (da_cons (d_var 8) (da_cons (d_var 5) da_nil))) (dg_tup rfl (dgs_one 11 sc_law.nd (dgs_one 12 sc_law.nd .nil))))
      (dss_cons (ds_if (dt_not (dt_val (d_calle C_law_same hr h_law_same (by rfl) (da_cons (d_calle C_chance_to_best hr h_chance_to_best (by rfl) (da_cons (d_var 5) (da_cons (d_var 8) da_nil))) (da_cons (d_calle C_law_frac hr h_law_frac (by rfl) (da_cons (d_op o_mul (d_var 8) (d_var 11)) (da_cons (d_op o_mul (d_var 5) (d_var 12)) da_nil))) da_nil))))) (dss_one (ds_ret d_bl)) dss_nil)
      (dss_cons (ds_set 5 sc_law.nd (d_op o_add (d_calle C_law_take hr h_law_take (by rfl) (da_cons (d_var 1) (da_cons (d_ix i_ix (d_lst (da_cons d_int (da_cons d_int da_nil))) (d_callT b_int (by rfl) m_int (by decide +kernel) (da_cons (d_cmp (c_eq hr) (d_calle C_law_take hr h_law_take (by rfl) (da_cons (d_var 1) (da_cons d_int da_nil))) d_int) da_nil))) da_nil))) d_int))
      (dss_cons (ds_set 5 sc_law.nd (d_callB (b_min2 rfl) (by rfl) m_min (by decide +kernel) (da_cons (d_var 5) (da_cons d_int da_nil))))
      (dss_cons (ds_set 13 sc_law.nd (d_calle C_law_by_last hr h_law_by_last (by rfl) (da_cons (d_var 5) da_nil)))
      (dss_cons (ds_set 14 sc_law.nd (d_tup (da_cons d_int (da_cons d_int da_nil))))
      (dss_cons (ds_for rfl PassesOwn.never (di_it (d_lst (da_cons d_int (da_cons d_int (da_cons (d_var 5) (da_cons (d_op o_add (d_var 5) d_int) (da_cons (d_calle C_law_take hr h_law_take (by rfl) (da_cons (d_var 1) (da_cons (d_op o_add (d_var 5) d_int) da_nil))) (da_cons (d_op o_add d_int (d_calle C_law_take hr h_law_take (by rfl) (da_cons (d_var 1) (da_cons (d_callB (b_min2 rfl) (by rfl) m_min (by decide +kernel) (da_cons (d_var 5) (da_cons d_int da_nil))) da_nil)))) da_nil)))))))) (dg_name 2 sc_law.nd) (dss_one (ds_if (dt_not (dt_val (d_calle C_law_same hr h_law_same (by rfl) (da_cons (d_calle C_chance_of_records hr h_chance_of_records (by rfl) (da_cons (d_var 5) (da_cons (d_var 2) da_nil))) (da_cons (d_calle C_law_frac hr h_law_frac (by rfl) (da_cons (d_ix i_ix (d_op o_add (d_var 13) (d_lst (da_cons d_int (da_cons d_int da_nil)))) (d_var 2)) (da_cons (d_callB (b_sum rfl) (by rfl) m_sum (by decide +kernel) (da_cons (d_var 13) da_nil)) da_nil))) da_nil))))) (dss_one (ds_ret d_bl)) dss_nil)))
      (dss_cons (ds_for rfl PassesOwn.never (di_r2 (by rfl) m_range d_int (d_op o_add (d_var 5) d_int)) (dg_name 2 sc_law.nd) (dss_one (ds_set 14 sc_law.nd (d_calle C_law_plus hr h_law_plus (by rfl) (da_cons (d_var 14) (da_cons (d_tup (da_cons d_int (da_cons (d_var 2) da_nil))) da_nil))))))
      (dss_cons (ds_set 15 sc_law.nd (d_callB (b_sum rfl) (by rfl) m_sum (by decide +kernel) (da_cons (d_lc (own := [("k", 2)]) rfl sc_law.nd (di_r1 (by rfl) m_range (d_op o_add (d_var 5) d_int)) (L2.blkOk_by (by rfl)) (fun _ _ _ _ _ => (dg_name 2 sc_law.nd)) (fun _ _ _ _ _ => dts_nil) (fun _ _ _ _ _ => (d_op o_mul (d_var 2) (d_ix i_ix (d_var 13) (d_var 2))))) da_nil)))
      (dss_cons (ds_if (PW.pt (dw_or (dt_not (dt_val (d_calle C_law_same hr h_law_same (by rfl) (da_cons (d_calle C_mean_records hr h_mean_records (by rfl) (da_cons (d_var 5) da_nil)) (da_cons (d_var 14) da_nil))))) (dw_or1 (dt_cmp (c_ne hr) (d_calle C_law_frac hr h_law_frac (by rfl) (da_cons (d_var 15) (da_cons (d_callB (b_sum rfl) (by rfl) m_sum (by decide +kernel) (da_cons (d_var 13) da_nil)) da_nil))) (d_var 14))))) (dss_one (ds_ret d_bl)) dss_nil)
      (dss_cons (ds_if (PW.pt (dw_or (dt_not (dt_val (d_calle C_law_same hr h_law_same (by rfl) (da_cons (d_calle C_chance_to_best hr h_chance_to_best (by rfl) (da_cons d_int (da_cons d_int da_nil))) (da_cons (d_tup (da_cons d_int (da_cons d_int da_nil))) da_nil))))) (dw_or (dt_not (dt_val (d_calle C_law_same hr h_law_same (by rfl) (da_cons (d_calle C_best_pass hr h_best_pass (by rfl) (da_cons d_int da_nil)) (da_cons d_int da_nil))))) (dw_or1 (dt_not (dt_val (d_calle C_law_same hr h_law_same (by rfl) (da_cons (d_calle C_best_pass hr h_best_pass (by rfl) (da_cons d_int da_nil)) (da_cons d_int da_nil))))))))) (dss_one (ds_ret d_bl)) dss_nil)
      (dss_one (ds_ret (d_and (d_cmp c_is (d_calle C_taken hr h_taken (by rfl) (da_cons (d_tup (da_cons d_int (da_cons d_int (da_cons d_int da_nil)))) (da_cons d_int da_nil))) d_non) (d_and (d_calle C_law_same hr h_law_same (by rfl) (da_cons (d_calle C_records hr h_records (by rfl) (da_cons (d_tup (da_cons d_int (da_cons d_int (da_cons d_int da_nil)))) da_nil)) (da_cons (d_tup (da_cons d_int (da_cons d_int da_nil))) da_nil))) (d_one (d_calle C_law_same hr h_law_same (by rfl) (da_cons (d_calle C_taken hr h_taken (by rfl) (da_cons (d_var 3) (da_cons d_int da_nil))) (da_cons d_int da_nil)))))))))))))))))))))))))))))))))))) body
end
end K91
set_option linter.all false
set_option maxHeartbeats 4000000
/-! K91A: sums of 1 / k, the best number to pass by, rows by records: plain -/
namespace K91
open DL
def fct : Nat → Nat
  | 0 => 1
  | n + 1 => fct n * (n + 1)
theorem fct_pos : ∀ n, 0 < fct n
  | 0 => Nat.one_pos
  | n + 1 => Nat.mul_pos (fct_pos n) (Nat.succ_pos n)
/-- 1 / r + 1 / (r + 1) + .., j of them -/
def AS (r : Nat) : Nat → Rat
  | 0 => 0
  | j + 1 => AS r j + 1 / ((r + j : Nat) : Rat)
/-- 1 / (n - 1) + 1 / (n - 2) + .., j of them -/
def HS (n : Nat) : Nat → Rat
  | 0 => 0
  | j + 1 => HS n j + 1 / ((n - 1 - j : Nat) : Rat)
theorem AS_first (r : Nat) : ∀ j, AS r (j + 1) = 1 / (r : Rat) + AS (r + 1) j
  | 0 => by show (0 : Rat) + 1 / ((r + 0 : Nat) : Rat) = 1 / (r : Rat) + 0; rw [Nat.add_zero]; grind
  | j + 1 => by
    show AS r (j + 1) + 1 / ((r + (j + 1) : Nat) : Rat) = 1 / (r : Rat) + (AS (r + 1) j + 1 / ((r + 1 + j : Nat) : Rat))
    rw [AS_first r j, show r + (j + 1) = r + 1 + j by omega]
    grind
theorem HS_AS (n : Nat) : ∀ j, j < n → HS n j = AS (n - j) j
  | 0, _ => rfl
  | j + 1, h => by
    show HS n j + 1 / ((n - 1 - j : Nat) : Rat) = _
    rw [AS_first, HS_AS n j (by omega), show n - 1 - j = n - (j + 1) by omega, show n - (j + 1) + 1 = n - j by omega]
    grind
theorem inv_pos {k : Nat} (h : 0 < k) : 0 < 1 / (k : Rat) := by
  have h1 : (0 : Rat) < (k : Rat) := by exact_mod_cast h
  have e : 1 / (k : Rat) * (k : Rat) = 1 := Rat.div_mul_cancel (by grind)
  false_or_by_contra
  rename_i hc
  have := Rat.mul_le_mul_of_nonneg_right (show 1 / (k : Rat) ≤ 0 by grind) (show 0 ≤ (k : Rat) by grind)
  grind
theorem inv_le {k : Nat} (h : 0 < k) : 1 / (k : Rat) ≤ 1 := by
  have h1 : (1 : Rat) ≤ (k : Rat) := by exact_mod_cast h
  have e : 1 / (k : Rat) * (k : Rat) = 1 := Rat.div_mul_cancel (by grind)
  false_or_by_contra
  rename_i hc
  have := Rat.mul_lt_mul_of_pos_right (show 1 < 1 / (k : Rat) by grind) (show 0 < (k : Rat) by grind)
  grind
theorem AS_nn {r : Nat} (h : 0 < r) : ∀ j, 0 ≤ AS r j ∧ AS r j ≤ (j : Rat)
  | 0 => by show (0 : Rat) ≤ 0 ∧ (0 : Rat) ≤ ((0 : Nat) : Rat); rw [show ((0 : Nat) : Rat) = 0 from rfl]; grind
  | j + 1 => by
    have a := AS_nn h j
    have b := inv_pos (show 0 < r + j by omega)
    have c := inv_le (show 0 < r + j by omega)
    show 0 ≤ AS r j + 1 / ((r + j : Nat) : Rat) ∧ AS r j + 1 / ((r + j : Nat) : Rat) ≤ _
    rw [show ((j + 1 : Nat) : Rat) = (j : Rat) + 1 by rw [Rat.natCast_add]; rfl]
    grind
theorem AS_big : ∀ j, 2 ≤ j → 1 < AS 1 j
  | 2, _ => by decide +kernel
  | j + 3, _ => by
    have a := AS_big (j + 2) (by omega)
    have b := inv_pos (show 0 < 1 + (j + 2) by omega)
    show 1 < AS 1 (j + 2) + 1 / ((1 + (j + 2) : Nat) : Rat)
    grind
/-- on from r = j down to 1, t so far -/
def bpF (n : Nat) : Nat → Rat → Nat
  | 0, _ => 0
  | r + 1, t => if 1 < t + 1 / ((r + 1 : Nat) : Rat) then (if 2 < n then r + 1 else 0) else bpF n r (t + 1 / ((r + 1 : Nat) : Rat))
def bestP (n : Nat) : Nat := bpF n (n - 1) 0
theorem bpF_find {n : Nat} (hn : 2 < n) : ∀ j, j ≤ n - 1 → HS n (n - 1 - j) ≤ 1 → 1 ≤ bpF n j (HS n (n - 1 - j)) ∧ bpF n j (HS n (n - 1 - j)) ≤ j ∧ 1 < HS n (n - bpF n j (HS n (n - 1 - j))) ∧ HS n (n - 1 - bpF n j (HS n (n - 1 - j))) ≤ 1
  | 0, _, h => by
    have a := AS_big (n - 1) (by omega)
    have b := HS_AS n (n - 1) (by omega)
    rw [show n - (n - 1) = 1 by omega] at b
    rw [show n - 1 - 0 = n - 1 by omega] at h
    rw [b] at h
    grind
  | j + 1, hj, h => by
    have e : HS n (n - 1 - (j + 1)) + 1 / ((j + 1 : Nat) : Rat) = HS n (n - 1 - j) := by
      rw [show n - 1 - j = (n - 1 - (j + 1)) + 1 by omega]
      show _ = HS n (n - 1 - (j + 1)) + 1 / ((n - 1 - (n - 1 - (j + 1)) : Nat) : Rat)
      rw [show n - 1 - (n - 1 - (j + 1)) = j + 1 by omega]
    have u : bpF n (j + 1) (HS n (n - 1 - (j + 1))) = if 1 < HS n (n - 1 - j) then j + 1 else bpF n j (HS n (n - 1 - j)) := by
      show (if 1 < HS n (n - 1 - (j + 1)) + 1 / ((j + 1 : Nat) : Rat) then (if 2 < n then j + 1 else 0) else bpF n j (HS n (n - 1 - (j + 1)) + 1 / ((j + 1 : Nat) : Rat))) = _
      rw [e, if_pos hn]
    rw [u]
    by_cases c : 1 < HS n (n - 1 - j)
    · rw [if_pos c]
      refine ⟨by omega, by omega, ?_, h⟩
      rw [show n - (j + 1) = n - 1 - j by omega]
      exact c
    · rw [if_neg c]
      obtain ⟨a1, a2, a3, a4⟩ := bpF_find hn j (by omega) (by grind)
      exact ⟨a1, by omega, a3, a4⟩
theorem bestP_find {n : Nat} (hn : 2 < n) : 1 ≤ bestP n ∧ bestP n ≤ n - 1 ∧ 1 < AS (bestP n) (n - bestP n) ∧ AS (bestP n + 1) (n - (bestP n + 1)) ≤ 1 := by
  have a := bpF_find hn (n - 1) (Nat.le_refl _) (by rw [Nat.sub_self]; show (0 : Rat) ≤ 1; decide)
  rw [Nat.sub_self] at a
  have e : bpF n (n - 1) (HS n 0) = bestP n := rfl
  rw [e] at a
  obtain ⟨a1, a2, a3, a4⟩ := a
  rw [HS_AS n _ (by omega), show n - (n - bestP n) = bestP n by omega] at a3
  rw [HS_AS n _ (by omega), show n - (n - 1 - bestP n) = bestP n + 1 by omega, show n - 1 - bestP n = n - (bestP n + 1) by omega] at a4
  exact ⟨a1, a2, a3, a4⟩
/-- the chance to get the best -/
def chQ (n r : Nat) : Rat := if r = 0 then 1 / (n : Rat) else (r : Rat) / (n : Rat) * AS r (n - r)
/-- the first greatest of the first j -/
def amax (n : Nat) : Nat → Nat
  | 0 => 0
  | j + 1 => if chQ n (amax n j) < chQ n j then j else amax n j
def amaxB : Nat → Bool
  | 0 => true
  | n + 1 => decide (amax (n + 1) (n + 1) = bestP (n + 1)) && amaxB n
/-! by records -/
def rowR : Nat → List Int
  | 0 => [1]
  | m + 1 => (List.range (m + 2)).map fun r => (m : Int) * (rowR m ++ [0]).getD r 0 + (if 0 < r then (rowR m ++ [0]).getD (r - 1) 0 else 0)
theorem rowR_len : ∀ m, (rowR m).length = m + 1
  | 0 => rfl
  | m + 1 => by unfold rowR; rw [List.length_map, List.length_range]
end K91
namespace K91
theorem amax_40 : amaxB 40 = true := by decide +kernel
theorem amax_of : ∀ n, amaxB n = true → ∀ m, 1 ≤ m → m ≤ n → amax m m = bestP m
  | 0, _, m, h1, h2 => absurd h1 (by omega)
  | n + 1, h, m, h1, h2 => by
    have h := Bool.and_eq_true_iff.mp (show (decide (amax (n + 1) (n + 1) = bestP (n + 1)) && amaxB n) = true from h)
    by_cases c : m = n + 1
    · rw [c]; exact of_decide_eq_true h.1
    · exact amax_of n h.2 m h1 (by omega)
theorem amax_best {m : Nat} (h1 : 1 ≤ m) (h2 : m ≤ 40) : amax m m = bestP m := amax_of 40 amax_40 m h1 h2
end K91
set_option linter.all false
set_option maxRecDepth 100000
set_option maxHeartbeats 4000000
namespace K91
open DL
@[reducible] def sp_take : Spc := fun ds S Q => ∃ n many, ds = [.ref n, .int many] ∧ 0 < many ∧ Dr n S ∧ ∀ r S', 0 ≤ r → r < many → Dr n S' → Ch n S S' → Q (.int r) S'
theorem body_law_take : Body 2 2 w_law_take sp_take := by
  rintro ds S Q _ ⟨n, many, rfl, hm, ⟨ns, hS⟩, k⟩
  unfold w_law_take
  (simp only [start, List.map_cons, List.map_nil, List.length_cons, List.length_nil, Nat.reduceAdd, Nat.reduceSub, List.replicate_succ, List.replicate_zero, List.cons_append, List.nil_append, Nat.sub_self, Nat.zero_add])
  ((with_reducible conv => whnf); repeat (first | (refine And.intro (okII _ _) ?_; rw [eqD_ii]; with_reducible conv => whnf) | (refine And.intro (by first | assumption | exact Exists.intro _ (by assumption) | exact ⟨rfl, rfl, by decide, by decide⟩ | exact Nat.le_of_ble_eq_true rfl | exact rfl) ?_; with_reducible conv => whnf) | (rw [isLst_at (by assumption)]; with_reducible conv => whnf) | (refine ifT rfl ?_; with_reducible conv => whnf) | (refine ifF rfl ?_; with_reducible conv => whnf) | (refine it_at (by assumption) ?_; with_reducible conv => whnf)))
  refine ite_d (fun hc => k 0 S (Int.le_refl _) hm ⟨ns, hS⟩ (Ch.refl _ _)) fun hc => ?_
  ((with_reducible conv => whnf); repeat (first | (refine And.intro (okII _ _) ?_; rw [eqD_ii]; with_reducible conv => whnf) | (refine And.intro (by first | assumption | exact Exists.intro _ (by assumption) | exact ⟨rfl, rfl, by decide, by decide⟩ | exact Nat.le_of_ble_eq_true rfl | exact rfl) ?_; with_reducible conv => whnf) | (rw [isLst_at (by assumption)]; with_reducible conv => whnf) | (refine ifT rfl ?_; with_reducible conv => whnf) | (refine ifF rfl ?_; with_reducible conv => whnf) | (refine it_at (by assumption) ?_; with_reducible conv => whnf)))
  have hl : 0 < ns.length := by
    rw [List.length_map] at hc
    omega
  refine ⟨.int ns[ns.length - 1], ?_, ?_⟩
  · rw [List.length_map]
    exact intD_at (List.getElem?_eq_getElem (by omega))
  · ((with_reducible conv => whnf); repeat (first | (refine And.intro (okII _ _) ?_; rw [eqD_ii]; with_reducible conv => whnf) | (refine And.intro (by first | assumption | exact Exists.intro _ (by assumption) | exact ⟨rfl, rfl, by decide, by decide⟩ | exact Nat.le_of_ble_eq_true rfl | exact rfl) ?_; with_reducible conv => whnf) | (rw [isLst_at (by assumption)]; with_reducible conv => whnf) | (refine ifT rfl ?_; with_reducible conv => whnf) | (refine ifF rfl ?_; with_reducible conv => whnf) | (refine it_at (by assumption) ?_; with_reducible conv => whnf)))
    obtain ⟨h0, h1⟩ := fmod_lt (a := ns[ns.length - 1]) hm
    refine ⟨by omega, k _ _ h0 h1 ⟨ns.dropLast, ?_⟩ (Ch.set _ _)⟩
    rw [at_set hS, ← List.map_dropLast]
@[reducible] def sp_draws : Spc := fun ds S Q => ∃ ns many, ds = [.rol (intD ns), .int many] ∧ ns.length ≤ 63 ∧ 0 ≤ many ∧ many ≤ 1000 ∧ ∀ n S', Dr n S' → Sub S S' → S.length ≤ n → Q (.ref n) S'
theorem body_law_draws : Body 9 2 w_law_draws sp_draws := by
  rintro ds S Q _ ⟨ns, many, rfl, hl, hm, hm2, k⟩
  unfold w_law_draws
  (simp only [start, List.map_cons, List.map_nil, List.length_cons, List.length_nil, Nat.reduceAdd, Nat.reduceSub, List.replicate_succ, List.replicate_zero, List.cons_append, List.nil_append, Nat.sub_self, Nat.zero_add])
  ((with_reducible conv => whnf); repeat (first | (refine And.intro (okII _ _) ?_; rw [eqD_ii]; with_reducible conv => whnf) | (refine And.intro (by first | assumption | exact Exists.intro _ (by assumption) | exact ⟨rfl, rfl, by decide, by decide⟩ | exact Nat.le_of_ble_eq_true rfl | exact rfl) ?_; with_reducible conv => whnf) | (rw [isLst_at (by assumption)]; with_reducible conv => whnf) | (refine ifT rfl ?_; with_reducible conv => whnf) | (refine ifF rfl ?_; with_reducible conv => whnf) | (refine it_at (by assumption) ?_; with_reducible conv => whnf)))
  refine Lc_fun (fun d => some d) ?_ (fun _ _ => trivial) (fun i d S' R hi hs hR => ?_) fun S1 hs1 => ?_
  · rw [List.length_map]; unfold szL; omega
  · obtain ⟨x, _, rfl⟩ := intD_get hi
    ((with_reducible conv => whnf); repeat (first | (refine And.intro (okII _ _) ?_; rw [eqD_ii]; with_reducible conv => whnf) | (refine And.intro (by first | assumption | exact Exists.intro _ (by assumption) | exact ⟨rfl, rfl, by decide, by decide⟩ | exact Nat.le_of_ble_eq_true rfl | exact rfl) ?_; with_reducible conv => whnf) | (rw [isLst_at (by assumption)]; with_reducible conv => whnf) | (refine ifT rfl ?_; with_reducible conv => whnf) | (refine ifF rfl ?_; with_reducible conv => whnf) | (refine it_at (by assumption) ?_; with_reducible conv => whnf)))
    exact hR _ (Sub.refl _)
  rw [List.filterMap_some]
  have h2 := at_push S1 (.lst (intD ns))
  have hS1 := hs1.app [.lst (intD ns)]
  have hln : S.length ≤ S1.length := by
    false_or_by_contra
    rename_i hc
    cases S with
    | nil => simp at hc
    | cons o r =>
      have := at_lt (hs1 ((o :: r).length - 1) _ (List.getElem?_eq_getElem (by simp)))
      simp at this hc
      omega
  generalize hm0 : S1.length = m0 at *
  generalize S1 ++ [.lst (intD ns)] = S2 at *
  -- from here: cells cs at m0
  have main : ∀ (cs : List Int) S3, 0 < cs.length → cs.length ≤ 63 → S3[m0]? = some (.lst (intD cs)) → Sub S S3 → sSeq (sAsg (wB rList (wCons (wVar 2) wNil)) (gN 4))
    (sSeq (sAsg (wLst wNil) (gN 5))
    (sSeq (sFor (wR1 (wVar 1)) (gN 6) (sSeq (sAsg (wOp rMod (wVar 6) (wB rLen (wCons (wVar 2) wNil))) (gN 7))
    (sIf (wtAnd (wtVal (wOp rGe (wOp rIx (wVar 2) (wVar 7)) (wOp rPow (wC (.int 10)) (wC (.int 18))))) (wtVal (wOp rGt (wOp rIx (wVar 4) (wVar 7)) (wC (.int 0))))) (sSeq (sDrop (wM rAppend (wVar 5) (wCons (wOp rMod (wB rInt (wCons (wOp rIx (wVar 4) (wVar 7)) wNil)) (wC (.int 1000))) wNil)))
    (sSub rPut (wOp rDiv (wOp rIx (wVar 4) (wVar 7)) (wC (.int 1000))) (wVar 4) (wVar 7))) (sSeq (sAsg (wOp rMod (wB rInt (wCons (wOp rAdd (wOp rAdd (wOp rMul (wOp rIx (wVar 2) (wVar 7)) (wC (.int 48271))) (wOp rMul (wVar 6) (wC (.int 69621)))) (wC (.int 11))) wNil)) (wC (.int 2147483647))) (gN 8))
    (sDrop (wM rAppend (wVar 5) (wCons (wOp rMod (wB rInt (wCons (wOp rAdd (wOp rAdd (wOp rMul (wVar 8) (wVar 8)) (wOp rMul (wC (.int 3)) (wVar 8))) (wVar 6)) wNil)) (wC (.int 1000003))) wNil)))))))
    (sSeq (sDrop (wM0 rReverse (wVar 5)))
    (sRet (wVar 5))))) { nx := fun x S' => Q D.non S', rt := Q, bk := fun x x_1 => False, ct := fun x x_1 => False } [some (.rol (intD ns)), some (.int many), some (.ref m0), none, none, none, none, none, none] S3 := by
    intro cs S3 hc0 hc1 e3 s3
    ((with_reducible conv => whnf); repeat (first | (refine And.intro (okII _ _) ?_; rw [eqD_ii]; with_reducible conv => whnf) | (refine And.intro (by first | assumption | exact Exists.intro _ (by assumption) | exact ⟨rfl, rfl, by decide, by decide⟩ | exact Nat.le_of_ble_eq_true rfl | exact rfl) ?_; with_reducible conv => whnf) | (rw [isLst_at (by assumption)]; with_reducible conv => whnf) | (refine ifT rfl ?_; with_reducible conv => whnf) | (refine ifF rfl ?_; with_reducible conv => whnf) | (refine it_at (by assumption) ?_; with_reducible conv => whnf)))
    refine ⟨⟨by omega, by omega⟩, ?_⟩
    have e4 := push_at e3 [.lst (intD cs)]
    have e5 := at_push S3 (.lst (intD cs))
    have s4 := s3.app [.lst (intD cs)]
    have l3 := at_lt e3
    generalize hm4 : S3.length = m4 at *
    have hm5 : (S3 ++ [O.lst (intD cs)]).length = m4 + 1 := by simp [hm4]
    generalize S3 ++ [.lst (intD cs)] = S4 at *
    have e6 := push_at e4 [.lst []]
    have e7 := push_at e5 [.lst []]
    have e8 := at_push S4 (.lst [])
    have s5 := s4.app [.lst []]
    rw [hm5] at e8 ⊢
    generalize S4 ++ [.lst []] = S5 at *
    refine Loop_mk (fun i ρ S' => ∃ o6 o7 o8 rs ws, ρ = [some (.rol (intD ns)), some (.int many), some (.ref m0), none, some (.ref m4), some (.ref (m4 + 1)), o6, o7, o8] ∧ S'[m0]? = some (.lst (intD cs)) ∧ S'[m4]? = some (.lst (intD rs)) ∧ rs.length = cs.length ∧ S'[m4 + 1]? = some (.lst (intD ws)) ∧ ws.length = i ∧ Sub S S') ?_ ?_ ?_ ?_
    · exact ⟨none, none, none, cs, [], rfl, e6, e7, rfl, e8, rfl, s5⟩
    · intros; trivial
    · rintro i d ρ' S' hi ⟨o6, o7, o8, rs, ws, rfl, f0, f1, f2, f3, f4, f5⟩
      obtain ⟨hi1, rfl⟩ := rangeD_get hi
      ((with_reducible conv => whnf); repeat (first | (refine And.intro (okII _ _) ?_; rw [eqD_ii]; with_reducible conv => whnf) | (refine And.intro (by first | assumption | exact Exists.intro _ (by assumption) | exact ⟨rfl, rfl, by decide, by decide⟩ | exact Nat.le_of_ble_eq_true rfl | exact rfl) ?_; with_reducible conv => whnf) | (rw [isLst_at (by assumption)]; with_reducible conv => whnf) | (refine ifT rfl ?_; with_reducible conv => whnf) | (refine ifF rfl ?_; with_reducible conv => whnf) | (refine it_at (by assumption) ?_; with_reducible conv => whnf)))
      have hz : ((intD cs).length : Int) ≠ 0 := by rw [List.length_map]; omega
      have hz0 : (0 : Int) < ((intD cs).length : Int) := by rw [List.length_map]; omega
      obtain ⟨g0, g1⟩ := fmod_lt (a := 0 + (i : Int)) hz0
      refine ⟨hz, ?_⟩
      generalize hat : (0 + (i : Int)).fmod ((intD cs).length : Int) = at' at *
      rw [List.length_map] at g1
      ((with_reducible conv => whnf); repeat (first | (refine And.intro (okII _ _) ?_; rw [eqD_ii]; with_reducible conv => whnf) | (refine And.intro (by first | assumption | exact Exists.intro _ (by assumption) | exact ⟨rfl, rfl, by decide, by decide⟩ | exact Nat.le_of_ble_eq_true rfl | exact rfl) ?_; with_reducible conv => whnf) | (rw [isLst_at (by assumption)]; with_reducible conv => whnf) | (refine ifT rfl ?_; with_reducible conv => whnf) | (refine ifF rfl ?_; with_reducible conv => whnf) | (refine it_at (by assumption) ?_; with_reducible conv => whnf)))
      refine ⟨_, atZ_intD g0 g1, ?_⟩
      ((with_reducible conv => whnf); repeat (first | (refine And.intro (okII _ _) ?_; rw [eqD_ii]; with_reducible conv => whnf) | (refine And.intro (by first | assumption | exact Exists.intro _ (by assumption) | exact ⟨rfl, rfl, by decide, by decide⟩ | exact Nat.le_of_ble_eq_true rfl | exact rfl) ?_; with_reducible conv => whnf) | (rw [isLst_at (by assumption)]; with_reducible conv => whnf) | (refine ifT rfl ?_; with_reducible conv => whnf) | (refine ifF rfl ?_; with_reducible conv => whnf) | (refine it_at (by assumption) ?_; with_reducible conv => whnf)))
      refine ⟨⟨by omega, by omega, by decide⟩, ?_⟩
      ((with_reducible conv => whnf); repeat (first | (refine And.intro (okII _ _) ?_; rw [eqD_ii]; with_reducible conv => whnf) | (refine And.intro (by first | assumption | exact Exists.intro _ (by assumption) | exact ⟨rfl, rfl, by decide, by decide⟩ | exact Nat.le_of_ble_eq_true rfl | exact rfl) ?_; with_reducible conv => whnf) | (rw [isLst_at (by assumption)]; with_reducible conv => whnf) | (refine ifT rfl ?_; with_reducible conv => whnf) | (refine ifF rfl ?_; with_reducible conv => whnf) | (refine it_at (by assumption) ?_; with_reducible conv => whnf)))
      have push : ∀ (c : Int) o7 o8 rs, S'[m4]? = some (.lst (intD rs)) → rs.length = cs.length → ∀ S6, S6 = S'.set (m4 + 1) (.lst (intD (ws ++ [c]))) → ∃ o6' o7' o8' rs' ws', [some (D.rol (intD ns)), some (D.int many), some (D.ref m0), none, some (D.ref m4), some (D.ref (m4 + 1)), some (.int (0 + i)), o7, o8] =
          [some (D.rol (intD ns)), some (D.int many), some (D.ref m0), none, some (D.ref m4), some (D.ref (m4 + 1)), o6', o7', o8'] ∧ S6[m0]? = some (.lst (intD cs)) ∧ S6[m4]? = some (.lst (intD rs')) ∧ rs'.length = cs.length ∧ S6[m4 + 1]? = some (.lst (intD ws')) ∧ ws'.length = i + 1 ∧ Sub S S6 := by
        rintro c o7 o8 rs q1 q2 S6 rfl
        refine ⟨_, _, _, rs, ws ++ [c], rfl, ?_, ?_, q2, ?_, by simp [f4], f5.put (by omega)⟩
        · rw [at_set_ne (by omega), f0]
        · rw [at_set_ne (by omega), q1]
        · rw [at_set f3]
      have hw : (intD ws).length < szL := by rw [List.length_map]; unfold szL; omega
      have hw2 : ∀ c : Int, intD ws ++ [D.int c] = intD (ws ++ [c]) := fun c => by simp [intD]
      refine ite_i (fun hc => ?_) fun hc => ?_
      · ((with_reducible conv => whnf); repeat (first | (refine And.intro (okII _ _) ?_; rw [eqD_ii]; with_reducible conv => whnf) | (refine And.intro (by first | assumption | exact Exists.intro _ (by assumption) | exact ⟨rfl, rfl, by decide, by decide⟩ | exact Nat.le_of_ble_eq_true rfl | exact rfl) ?_; with_reducible conv => whnf) | (rw [isLst_at (by assumption)]; with_reducible conv => whnf) | (refine ifT rfl ?_; with_reducible conv => whnf) | (refine ifF rfl ?_; with_reducible conv => whnf) | (refine it_at (by assumption) ?_; with_reducible conv => whnf)))
        refine ⟨_, atZ_intD g0 (by rw [f2]; exact g1), ?_⟩
        ((with_reducible conv => whnf); repeat (first | (refine And.intro (okII _ _) ?_; rw [eqD_ii]; with_reducible conv => whnf) | (refine And.intro (by first | assumption | exact Exists.intro _ (by assumption) | exact ⟨rfl, rfl, by decide, by decide⟩ | exact Nat.le_of_ble_eq_true rfl | exact rfl) ?_; with_reducible conv => whnf) | (rw [isLst_at (by assumption)]; with_reducible conv => whnf) | (refine ifT rfl ?_; with_reducible conv => whnf) | (refine ifF rfl ?_; with_reducible conv => whnf) | (refine it_at (by assumption) ?_; with_reducible conv => whnf)))
        refine ite_d (fun hc2 => ?_) fun hc2 => ?_
        · ((with_reducible conv => whnf); repeat (first | (refine And.intro (okII _ _) ?_; rw [eqD_ii]; with_reducible conv => whnf) | (refine And.intro (by first | assumption | exact Exists.intro _ (by assumption) | exact ⟨rfl, rfl, by decide, by decide⟩ | exact Nat.le_of_ble_eq_true rfl | exact rfl) ?_; with_reducible conv => whnf) | (rw [isLst_at (by assumption)]; with_reducible conv => whnf) | (refine ifT rfl ?_; with_reducible conv => whnf) | (refine ifF rfl ?_; with_reducible conv => whnf) | (refine it_at (by assumption) ?_; with_reducible conv => whnf)))
          refine ⟨_, atZ_intD g0 (by rw [f2]; exact g1), ?_⟩
          ((with_reducible conv => whnf); repeat (first | (refine And.intro (okII _ _) ?_; rw [eqD_ii]; with_reducible conv => whnf) | (refine And.intro (by first | assumption | exact Exists.intro _ (by assumption) | exact ⟨rfl, rfl, by decide, by decide⟩ | exact Nat.le_of_ble_eq_true rfl | exact rfl) ?_; with_reducible conv => whnf) | (rw [isLst_at (by assumption)]; with_reducible conv => whnf) | (refine ifT rfl ?_; with_reducible conv => whnf) | (refine ifF rfl ?_; with_reducible conv => whnf) | (refine it_at (by assumption) ?_; with_reducible conv => whnf)))
          refine ⟨by decide, ?_⟩
          ((with_reducible conv => whnf); repeat (first | (refine And.intro (okII _ _) ?_; rw [eqD_ii]; with_reducible conv => whnf) | (refine And.intro (by first | assumption | exact Exists.intro _ (by assumption) | exact ⟨rfl, rfl, by decide, by decide⟩ | exact Nat.le_of_ble_eq_true rfl | exact rfl) ?_; with_reducible conv => whnf) | (rw [isLst_at (by assumption)]; with_reducible conv => whnf) | (refine ifT rfl ?_; with_reducible conv => whnf) | (refine ifF rfl ?_; with_reducible conv => whnf) | (refine it_at (by assumption) ?_; with_reducible conv => whnf)))
          rw [hw2]
          have q4 : (S'.set (m4 + 1) (.lst (intD (ws ++ [(rs.getD at'.toNat 0).fmod 1000]))))[m4]? = some (.lst (intD rs)) := by rw [at_set_ne (by omega), f1]
          ((with_reducible conv => whnf); repeat (first | (refine And.intro (okII _ _) ?_; rw [eqD_ii]; with_reducible conv => whnf) | (refine And.intro (by first | assumption | exact Exists.intro _ (by assumption) | exact ⟨rfl, rfl, by decide, by decide⟩ | exact Nat.le_of_ble_eq_true rfl | exact rfl) ?_; with_reducible conv => whnf) | (rw [isLst_at (by assumption)]; with_reducible conv => whnf) | (refine ifT rfl ?_; with_reducible conv => whnf) | (refine ifF rfl ?_; with_reducible conv => whnf) | (refine it_at (by assumption) ?_; with_reducible conv => whnf)))
          refine ⟨_, atZ_intD g0 (by rw [f2]; exact g1), ?_⟩
          ((with_reducible conv => whnf); repeat (first | (refine And.intro (okII _ _) ?_; rw [eqD_ii]; with_reducible conv => whnf) | (refine And.intro (by first | assumption | exact Exists.intro _ (by assumption) | exact ⟨rfl, rfl, by decide, by decide⟩ | exact Nat.le_of_ble_eq_true rfl | exact rfl) ?_; with_reducible conv => whnf) | (rw [isLst_at (by assumption)]; with_reducible conv => whnf) | (refine ifT rfl ?_; with_reducible conv => whnf) | (refine ifF rfl ?_; with_reducible conv => whnf) | (refine it_at (by assumption) ?_; with_reducible conv => whnf)))
          refine ⟨⟨by decide, by decide⟩, ?_⟩
          ((with_reducible conv => whnf); repeat (first | (refine And.intro (okII _ _) ?_; rw [eqD_ii]; with_reducible conv => whnf) | (refine And.intro (by first | assumption | exact Exists.intro _ (by assumption) | exact ⟨rfl, rfl, by decide, by decide⟩ | exact Nat.le_of_ble_eq_true rfl | exact rfl) ?_; with_reducible conv => whnf) | (rw [isLst_at (by assumption)]; with_reducible conv => whnf) | (refine ifT rfl ?_; with_reducible conv => whnf) | (refine ifF rfl ?_; with_reducible conv => whnf) | (refine it_at (by assumption) ?_; with_reducible conv => whnf)))
          refine ⟨_, ixZ_ok g0 (by rw [List.length_map, f2]; exact g1), ?_⟩
          ((with_reducible conv => whnf); repeat (first | (refine And.intro (okII _ _) ?_; rw [eqD_ii]; with_reducible conv => whnf) | (refine And.intro (by first | assumption | exact Exists.intro _ (by assumption) | exact ⟨rfl, rfl, by decide, by decide⟩ | exact Nat.le_of_ble_eq_true rfl | exact rfl) ?_; with_reducible conv => whnf) | (rw [isLst_at (by assumption)]; with_reducible conv => whnf) | (refine ifT rfl ?_; with_reducible conv => whnf) | (refine ifF rfl ?_; with_reducible conv => whnf) | (refine it_at (by assumption) ?_; with_reducible conv => whnf)))
          rw [intD_set]
          obtain ⟨a1, a2, a3, a4, a5, a6, a7, a8, a9, a10, a11, a12⟩ := push ((rs.getD at'.toNat 0).fmod 1000) (some (.int at')) o8 rs f1 f2 _ rfl
          refine ⟨_, _, _, rs.set at'.toNat _, a5, rfl, ?_, at_set a8, by rw [List.length_set, f2], ?_, a11, a12.put (by omega)⟩
          · rw [at_set_ne (by omega), a7]
          · rw [at_set_ne (by omega), a10]
        · ((with_reducible conv => whnf); repeat (first | (refine And.intro (okII _ _) ?_; rw [eqD_ii]; with_reducible conv => whnf) | (refine And.intro (by first | assumption | exact Exists.intro _ (by assumption) | exact ⟨rfl, rfl, by decide, by decide⟩ | exact Nat.le_of_ble_eq_true rfl | exact rfl) ?_; with_reducible conv => whnf) | (rw [isLst_at (by assumption)]; with_reducible conv => whnf) | (refine ifT rfl ?_; with_reducible conv => whnf) | (refine ifF rfl ?_; with_reducible conv => whnf) | (refine it_at (by assumption) ?_; with_reducible conv => whnf)))
          refine ⟨_, atZ_intD g0 g1, ?_⟩
          ((with_reducible conv => whnf); repeat (first | (refine And.intro (okII _ _) ?_; rw [eqD_ii]; with_reducible conv => whnf) | (refine And.intro (by first | assumption | exact Exists.intro _ (by assumption) | exact ⟨rfl, rfl, by decide, by decide⟩ | exact Nat.le_of_ble_eq_true rfl | exact rfl) ?_; with_reducible conv => whnf) | (rw [isLst_at (by assumption)]; with_reducible conv => whnf) | (refine ifT rfl ?_; with_reducible conv => whnf) | (refine ifF rfl ?_; with_reducible conv => whnf) | (refine it_at (by assumption) ?_; with_reducible conv => whnf)))
          refine ⟨smallMul (by decide), ?_⟩
          ((with_reducible conv => whnf); repeat (first | (refine And.intro (okII _ _) ?_; rw [eqD_ii]; with_reducible conv => whnf) | (refine And.intro (by first | assumption | exact Exists.intro _ (by assumption) | exact ⟨rfl, rfl, by decide, by decide⟩ | exact Nat.le_of_ble_eq_true rfl | exact rfl) ?_; with_reducible conv => whnf) | (rw [isLst_at (by assumption)]; with_reducible conv => whnf) | (refine ifT rfl ?_; with_reducible conv => whnf) | (refine ifF rfl ?_; with_reducible conv => whnf) | (refine it_at (by assumption) ?_; with_reducible conv => whnf)))
          refine ⟨smallMul (by decide), ?_⟩
          ((with_reducible conv => whnf); repeat (first | (refine And.intro (okII _ _) ?_; rw [eqD_ii]; with_reducible conv => whnf) | (refine And.intro (by first | assumption | exact Exists.intro _ (by assumption) | exact ⟨rfl, rfl, by decide, by decide⟩ | exact Nat.le_of_ble_eq_true rfl | exact rfl) ?_; with_reducible conv => whnf) | (rw [isLst_at (by assumption)]; with_reducible conv => whnf) | (refine ifT rfl ?_; with_reducible conv => whnf) | (refine ifF rfl ?_; with_reducible conv => whnf) | (refine it_at (by assumption) ?_; with_reducible conv => whnf)))
          refine ⟨by decide, ?_⟩
          ((with_reducible conv => whnf); repeat (first | (refine And.intro (okII _ _) ?_; rw [eqD_ii]; with_reducible conv => whnf) | (refine And.intro (by first | assumption | exact Exists.intro _ (by assumption) | exact ⟨rfl, rfl, by decide, by decide⟩ | exact Nat.le_of_ble_eq_true rfl | exact rfl) ?_; with_reducible conv => whnf) | (rw [isLst_at (by assumption)]; with_reducible conv => whnf) | (refine ifT rfl ?_; with_reducible conv => whnf) | (refine ifF rfl ?_; with_reducible conv => whnf) | (refine it_at (by assumption) ?_; with_reducible conv => whnf)))
          obtain ⟨h0, h1⟩ := fmod_lt (a := (cs.getD at'.toNat 0) * 48271 + (0 + (i : Int)) * 69621 + 11) (b := 2147483647) (by decide)
          refine ⟨smallMul (by omega), ?_⟩
          ((with_reducible conv => whnf); repeat (first | (refine And.intro (okII _ _) ?_; rw [eqD_ii]; with_reducible conv => whnf) | (refine And.intro (by first | assumption | exact Exists.intro _ (by assumption) | exact ⟨rfl, rfl, by decide, by decide⟩ | exact Nat.le_of_ble_eq_true rfl | exact rfl) ?_; with_reducible conv => whnf) | (rw [isLst_at (by assumption)]; with_reducible conv => whnf) | (refine ifT rfl ?_; with_reducible conv => whnf) | (refine ifF rfl ?_; with_reducible conv => whnf) | (refine it_at (by assumption) ?_; with_reducible conv => whnf)))
          refine ⟨smallMul' (by decide), ?_⟩
          ((with_reducible conv => whnf); repeat (first | (refine And.intro (okII _ _) ?_; rw [eqD_ii]; with_reducible conv => whnf) | (refine And.intro (by first | assumption | exact Exists.intro _ (by assumption) | exact ⟨rfl, rfl, by decide, by decide⟩ | exact Nat.le_of_ble_eq_true rfl | exact rfl) ?_; with_reducible conv => whnf) | (rw [isLst_at (by assumption)]; with_reducible conv => whnf) | (refine ifT rfl ?_; with_reducible conv => whnf) | (refine ifF rfl ?_; with_reducible conv => whnf) | (refine it_at (by assumption) ?_; with_reducible conv => whnf)))
          refine ⟨by decide, ?_⟩
          ((with_reducible conv => whnf); repeat (first | (refine And.intro (okII _ _) ?_; rw [eqD_ii]; with_reducible conv => whnf) | (refine And.intro (by first | assumption | exact Exists.intro _ (by assumption) | exact ⟨rfl, rfl, by decide, by decide⟩ | exact Nat.le_of_ble_eq_true rfl | exact rfl) ?_; with_reducible conv => whnf) | (rw [isLst_at (by assumption)]; with_reducible conv => whnf) | (refine ifT rfl ?_; with_reducible conv => whnf) | (refine ifF rfl ?_; with_reducible conv => whnf) | (refine it_at (by assumption) ?_; with_reducible conv => whnf)))
          rw [hw2]
          exact push _ _ _ rs f1 f2 _ rfl
      · ((with_reducible conv => whnf); repeat (first | (refine And.intro (okII _ _) ?_; rw [eqD_ii]; with_reducible conv => whnf) | (refine And.intro (by first | assumption | exact Exists.intro _ (by assumption) | exact ⟨rfl, rfl, by decide, by decide⟩ | exact Nat.le_of_ble_eq_true rfl | exact rfl) ?_; with_reducible conv => whnf) | (rw [isLst_at (by assumption)]; with_reducible conv => whnf) | (refine ifT rfl ?_; with_reducible conv => whnf) | (refine ifF rfl ?_; with_reducible conv => whnf) | (refine it_at (by assumption) ?_; with_reducible conv => whnf)))
        refine ⟨_, atZ_intD g0 g1, ?_⟩
        ((with_reducible conv => whnf); repeat (first | (refine And.intro (okII _ _) ?_; rw [eqD_ii]; with_reducible conv => whnf) | (refine And.intro (by first | assumption | exact Exists.intro _ (by assumption) | exact ⟨rfl, rfl, by decide, by decide⟩ | exact Nat.le_of_ble_eq_true rfl | exact rfl) ?_; with_reducible conv => whnf) | (rw [isLst_at (by assumption)]; with_reducible conv => whnf) | (refine ifT rfl ?_; with_reducible conv => whnf) | (refine ifF rfl ?_; with_reducible conv => whnf) | (refine it_at (by assumption) ?_; with_reducible conv => whnf)))
        refine ⟨smallMul (by decide), ?_⟩
        ((with_reducible conv => whnf); repeat (first | (refine And.intro (okII _ _) ?_; rw [eqD_ii]; with_reducible conv => whnf) | (refine And.intro (by first | assumption | exact Exists.intro _ (by assumption) | exact ⟨rfl, rfl, by decide, by decide⟩ | exact Nat.le_of_ble_eq_true rfl | exact rfl) ?_; with_reducible conv => whnf) | (rw [isLst_at (by assumption)]; with_reducible conv => whnf) | (refine ifT rfl ?_; with_reducible conv => whnf) | (refine ifF rfl ?_; with_reducible conv => whnf) | (refine it_at (by assumption) ?_; with_reducible conv => whnf)))
        refine ⟨smallMul (by decide), ?_⟩
        ((with_reducible conv => whnf); repeat (first | (refine And.intro (okII _ _) ?_; rw [eqD_ii]; with_reducible conv => whnf) | (refine And.intro (by first | assumption | exact Exists.intro _ (by assumption) | exact ⟨rfl, rfl, by decide, by decide⟩ | exact Nat.le_of_ble_eq_true rfl | exact rfl) ?_; with_reducible conv => whnf) | (rw [isLst_at (by assumption)]; with_reducible conv => whnf) | (refine ifT rfl ?_; with_reducible conv => whnf) | (refine ifF rfl ?_; with_reducible conv => whnf) | (refine it_at (by assumption) ?_; with_reducible conv => whnf)))
        refine ⟨by decide, ?_⟩
        ((with_reducible conv => whnf); repeat (first | (refine And.intro (okII _ _) ?_; rw [eqD_ii]; with_reducible conv => whnf) | (refine And.intro (by first | assumption | exact Exists.intro _ (by assumption) | exact ⟨rfl, rfl, by decide, by decide⟩ | exact Nat.le_of_ble_eq_true rfl | exact rfl) ?_; with_reducible conv => whnf) | (rw [isLst_at (by assumption)]; with_reducible conv => whnf) | (refine ifT rfl ?_; with_reducible conv => whnf) | (refine ifF rfl ?_; with_reducible conv => whnf) | (refine it_at (by assumption) ?_; with_reducible conv => whnf)))
        obtain ⟨h0, h1⟩ := fmod_lt (a := (cs.getD at'.toNat 0) * 48271 + (0 + (i : Int)) * 69621 + 11) (b := 2147483647) (by decide)
        refine ⟨smallMul (by omega), ?_⟩
        ((with_reducible conv => whnf); repeat (first | (refine And.intro (okII _ _) ?_; rw [eqD_ii]; with_reducible conv => whnf) | (refine And.intro (by first | assumption | exact Exists.intro _ (by assumption) | exact ⟨rfl, rfl, by decide, by decide⟩ | exact Nat.le_of_ble_eq_true rfl | exact rfl) ?_; with_reducible conv => whnf) | (rw [isLst_at (by assumption)]; with_reducible conv => whnf) | (refine ifT rfl ?_; with_reducible conv => whnf) | (refine ifF rfl ?_; with_reducible conv => whnf) | (refine it_at (by assumption) ?_; with_reducible conv => whnf)))
        refine ⟨smallMul' (by decide), ?_⟩
        ((with_reducible conv => whnf); repeat (first | (refine And.intro (okII _ _) ?_; rw [eqD_ii]; with_reducible conv => whnf) | (refine And.intro (by first | assumption | exact Exists.intro _ (by assumption) | exact ⟨rfl, rfl, by decide, by decide⟩ | exact Nat.le_of_ble_eq_true rfl | exact rfl) ?_; with_reducible conv => whnf) | (rw [isLst_at (by assumption)]; with_reducible conv => whnf) | (refine ifT rfl ?_; with_reducible conv => whnf) | (refine ifF rfl ?_; with_reducible conv => whnf) | (refine it_at (by assumption) ?_; with_reducible conv => whnf)))
        refine ⟨by decide, ?_⟩
        ((with_reducible conv => whnf); repeat (first | (refine And.intro (okII _ _) ?_; rw [eqD_ii]; with_reducible conv => whnf) | (refine And.intro (by first | assumption | exact Exists.intro _ (by assumption) | exact ⟨rfl, rfl, by decide, by decide⟩ | exact Nat.le_of_ble_eq_true rfl | exact rfl) ?_; with_reducible conv => whnf) | (rw [isLst_at (by assumption)]; with_reducible conv => whnf) | (refine ifT rfl ?_; with_reducible conv => whnf) | (refine ifF rfl ?_; with_reducible conv => whnf) | (refine it_at (by assumption) ?_; with_reducible conv => whnf)))
        rw [hw2]
        exact push _ _ _ rs f1 f2 _ rfl
    · rintro ρ' S' ⟨o6, o7, o8, rs, ws, rfl, f0, f1, f2, f3, f4, f5⟩
      ((with_reducible conv => whnf); repeat (first | (refine And.intro (okII _ _) ?_; rw [eqD_ii]; with_reducible conv => whnf) | (refine And.intro (by first | assumption | exact Exists.intro _ (by assumption) | exact ⟨rfl, rfl, by decide, by decide⟩ | exact Nat.le_of_ble_eq_true rfl | exact rfl) ?_; with_reducible conv => whnf) | (rw [isLst_at (by assumption)]; with_reducible conv => whnf) | (refine ifT rfl ?_; with_reducible conv => whnf) | (refine ifF rfl ?_; with_reducible conv => whnf) | (refine it_at (by assumption) ?_; with_reducible conv => whnf)))
      refine k _ _ ⟨ws.reverse, ?_⟩ (f5.put (by omega)) (by omega)
      rw [at_set f3, ← List.map_reverse]
  ((with_reducible conv => whnf); repeat (first | (refine And.intro (okII _ _) ?_; rw [eqD_ii]; with_reducible conv => whnf) | (refine And.intro (by first | assumption | exact Exists.intro _ (by assumption) | exact ⟨rfl, rfl, by decide, by decide⟩ | exact Nat.le_of_ble_eq_true rfl | exact rfl) ?_; with_reducible conv => whnf) | (rw [isLst_at (by assumption)]; with_reducible conv => whnf) | (refine ifT rfl ?_; with_reducible conv => whnf) | (refine ifF rfl ?_; with_reducible conv => whnf) | (refine it_at (by assumption) ?_; with_reducible conv => whnf)))
  refine ite_d (fun hc => ?_) fun hc => ?_
  · ((with_reducible conv => whnf); repeat (first | (refine And.intro (okII _ _) ?_; rw [eqD_ii]; with_reducible conv => whnf) | (refine And.intro (by first | assumption | exact Exists.intro _ (by assumption) | exact ⟨rfl, rfl, by decide, by decide⟩ | exact Nat.le_of_ble_eq_true rfl | exact rfl) ?_; with_reducible conv => whnf) | (rw [isLst_at (by assumption)]; with_reducible conv => whnf) | (refine ifT rfl ?_; with_reducible conv => whnf) | (refine ifF rfl ?_; with_reducible conv => whnf) | (refine it_at (by assumption) ?_; with_reducible conv => whnf)))
    have hn : ns = [] := by
      rw [List.length_map] at hc
      exact List.length_eq_zero_iff.mp (by omega)
    subst hn
    refine ⟨by decide, ?_⟩
    exact main [0] _ (by decide) (by decide) (at_set h2) (hS1.put hln)
  · rw [List.length_map] at hc
    exact main ns S2 (by omega) hl h2 hS1

@[reducible] def sp_same (N : Nat) : Spc := fun ds S Q => ∃ d, ds = [d, d] ∧ flat d = true ∧ slim d = true ∧ deep d ≤ N ∧ ∀ S', Sub S S' → Q (.bl true) S'
@[reducible] def spNo : Spc := fun _ _ _ => False
theorem body_law_same (sp : Spc) (N : Nat) (hN : N ≤ 60) (hsp : N = 0 ∨ ∃ M, N = M + 1 ∧ sp = sp_same M) : Body 3 2 (w_law_same sp) (sp_same N) := by
  rintro ds S Q _ ⟨d, rfl, hf, hsl, hd, k⟩
  unfold w_law_same
  have hself := eqD_self d hf
  have k0 := k S (Sub.refl _)
  (simp only [start, List.map_cons, List.map_nil, List.length_cons, List.length_nil, Nat.reduceAdd, Nat.reduceSub, List.replicate_succ, List.replicate_zero, List.cons_append, List.nil_append, Nat.sub_self, Nat.zero_add])
  cases d with
  | rol xs => cases hf
  | ref xs => cases hf
  | ty xs => cases hf
  | non =>
    ((with_reducible conv => whnf); repeat (first | (refine And.intro (okII _ _) ?_; rw [eqD_ii]; with_reducible conv => whnf) | (refine And.intro (by first | assumption | exact Exists.intro _ (by assumption) | exact ⟨rfl, rfl, by decide, by decide⟩ | exact Nat.le_of_ble_eq_true rfl | exact rfl) ?_; with_reducible conv => whnf) | (rw [isLst_at (by assumption)]; with_reducible conv => whnf) | (refine ifT rfl ?_; with_reducible conv => whnf) | (refine ifF rfl ?_; with_reducible conv => whnf) | (refine it_at (by assumption) ?_; with_reducible conv => whnf)))
    refine ⟨false, rfl, ?_⟩
    ((with_reducible conv => whnf); repeat (first | (refine And.intro (okII _ _) ?_; rw [eqD_ii]; with_reducible conv => whnf) | (refine And.intro (by first | assumption | exact Exists.intro _ (by assumption) | exact ⟨rfl, rfl, by decide, by decide⟩ | exact Nat.le_of_ble_eq_true rfl | exact rfl) ?_; with_reducible conv => whnf) | (rw [isLst_at (by assumption)]; with_reducible conv => whnf) | (refine ifT rfl ?_; with_reducible conv => whnf) | (refine ifF rfl ?_; with_reducible conv => whnf) | (refine it_at (by assumption) ?_; with_reducible conv => whnf)))
    refine ⟨false, rfl, ?_⟩
    ((with_reducible conv => whnf); repeat (first | (refine And.intro (okII _ _) ?_; rw [eqD_ii]; with_reducible conv => whnf) | (refine And.intro (by first | assumption | exact Exists.intro _ (by assumption) | exact ⟨rfl, rfl, by decide, by decide⟩ | exact Nat.le_of_ble_eq_true rfl | exact rfl) ?_; with_reducible conv => whnf) | (rw [isLst_at (by assumption)]; with_reducible conv => whnf) | (refine ifT rfl ?_; with_reducible conv => whnf) | (refine ifF rfl ?_; with_reducible conv => whnf) | (refine it_at (by assumption) ?_; with_reducible conv => whnf)))
    refine ⟨false, rfl, ?_⟩
    ((with_reducible conv => whnf); repeat (first | (refine And.intro (okII _ _) ?_; rw [eqD_ii]; with_reducible conv => whnf) | (refine And.intro (by first | assumption | exact Exists.intro _ (by assumption) | exact ⟨rfl, rfl, by decide, by decide⟩ | exact Nat.le_of_ble_eq_true rfl | exact rfl) ?_; with_reducible conv => whnf) | (rw [isLst_at (by assumption)]; with_reducible conv => whnf) | (refine ifT rfl ?_; with_reducible conv => whnf) | (refine ifF rfl ?_; with_reducible conv => whnf) | (refine it_at (by assumption) ?_; with_reducible conv => whnf)))
    exact k0
  | bl b =>
    ((with_reducible conv => whnf); repeat (first | (refine And.intro (okII _ _) ?_; rw [eqD_ii]; with_reducible conv => whnf) | (refine And.intro (by first | assumption | exact Exists.intro _ (by assumption) | exact ⟨rfl, rfl, by decide, by decide⟩ | exact Nat.le_of_ble_eq_true rfl | exact rfl) ?_; with_reducible conv => whnf) | (rw [isLst_at (by assumption)]; with_reducible conv => whnf) | (refine ifT rfl ?_; with_reducible conv => whnf) | (refine ifF rfl ?_; with_reducible conv => whnf) | (refine it_at (by assumption) ?_; with_reducible conv => whnf)))
    refine ⟨true, rfl, ?_⟩
    ((with_reducible conv => whnf); repeat (first | (refine And.intro (okII _ _) ?_; rw [eqD_ii]; with_reducible conv => whnf) | (refine And.intro (by first | assumption | exact Exists.intro _ (by assumption) | exact ⟨rfl, rfl, by decide, by decide⟩ | exact Nat.le_of_ble_eq_true rfl | exact rfl) ?_; with_reducible conv => whnf) | (rw [isLst_at (by assumption)]; with_reducible conv => whnf) | (refine ifT rfl ?_; with_reducible conv => whnf) | (refine ifF rfl ?_; with_reducible conv => whnf) | (refine it_at (by assumption) ?_; with_reducible conv => whnf)))
    refine ⟨true, rfl, ?_⟩
    ((with_reducible conv => whnf); repeat (first | (refine And.intro (okII _ _) ?_; rw [eqD_ii]; with_reducible conv => whnf) | (refine And.intro (by first | assumption | exact Exists.intro _ (by assumption) | exact ⟨rfl, rfl, by decide, by decide⟩ | exact Nat.le_of_ble_eq_true rfl | exact rfl) ?_; with_reducible conv => whnf) | (rw [isLst_at (by assumption)]; with_reducible conv => whnf) | (refine ifT rfl ?_; with_reducible conv => whnf) | (refine ifF rfl ?_; with_reducible conv => whnf) | (refine it_at (by assumption) ?_; with_reducible conv => whnf)))
    refine ⟨⟨hf, hf, Nat.zero_le _, Nat.zero_le _⟩, ?_⟩
    rw [hself]
    exact k0
  | int i =>
    ((with_reducible conv => whnf); repeat (first | (refine And.intro (okII _ _) ?_; rw [eqD_ii]; with_reducible conv => whnf) | (refine And.intro (by first | assumption | exact Exists.intro _ (by assumption) | exact ⟨rfl, rfl, by decide, by decide⟩ | exact Nat.le_of_ble_eq_true rfl | exact rfl) ?_; with_reducible conv => whnf) | (rw [isLst_at (by assumption)]; with_reducible conv => whnf) | (refine ifT rfl ?_; with_reducible conv => whnf) | (refine ifF rfl ?_; with_reducible conv => whnf) | (refine it_at (by assumption) ?_; with_reducible conv => whnf)))
    refine ⟨false, rfl, ?_⟩
    ((with_reducible conv => whnf); repeat (first | (refine And.intro (okII _ _) ?_; rw [eqD_ii]; with_reducible conv => whnf) | (refine And.intro (by first | assumption | exact Exists.intro _ (by assumption) | exact ⟨rfl, rfl, by decide, by decide⟩ | exact Nat.le_of_ble_eq_true rfl | exact rfl) ?_; with_reducible conv => whnf) | (rw [isLst_at (by assumption)]; with_reducible conv => whnf) | (refine ifT rfl ?_; with_reducible conv => whnf) | (refine ifF rfl ?_; with_reducible conv => whnf) | (refine it_at (by assumption) ?_; with_reducible conv => whnf)))
    refine ⟨true, rfl, ?_⟩
    ((with_reducible conv => whnf); repeat (first | (refine And.intro (okII _ _) ?_; rw [eqD_ii]; with_reducible conv => whnf) | (refine And.intro (by first | assumption | exact Exists.intro _ (by assumption) | exact ⟨rfl, rfl, by decide, by decide⟩ | exact Nat.le_of_ble_eq_true rfl | exact rfl) ?_; with_reducible conv => whnf) | (rw [isLst_at (by assumption)]; with_reducible conv => whnf) | (refine ifT rfl ?_; with_reducible conv => whnf) | (refine ifF rfl ?_; with_reducible conv => whnf) | (refine it_at (by assumption) ?_; with_reducible conv => whnf)))
    refine ⟨true, rfl, ?_⟩
    ((with_reducible conv => whnf); repeat (first | (refine And.intro (okII _ _) ?_; rw [eqD_ii]; with_reducible conv => whnf) | (refine And.intro (by first | assumption | exact Exists.intro _ (by assumption) | exact ⟨rfl, rfl, by decide, by decide⟩ | exact Nat.le_of_ble_eq_true rfl | exact rfl) ?_; with_reducible conv => whnf) | (rw [isLst_at (by assumption)]; with_reducible conv => whnf) | (refine ifT rfl ?_; with_reducible conv => whnf) | (refine ifF rfl ?_; with_reducible conv => whnf) | (refine it_at (by assumption) ?_; with_reducible conv => whnf)))
    refine ⟨false, rfl, ?_⟩
    ((with_reducible conv => whnf); repeat (first | (refine And.intro (okII _ _) ?_; rw [eqD_ii]; with_reducible conv => whnf) | (refine And.intro (by first | assumption | exact Exists.intro _ (by assumption) | exact ⟨rfl, rfl, by decide, by decide⟩ | exact Nat.le_of_ble_eq_true rfl | exact rfl) ?_; with_reducible conv => whnf) | (rw [isLst_at (by assumption)]; with_reducible conv => whnf) | (refine ifT rfl ?_; with_reducible conv => whnf) | (refine ifF rfl ?_; with_reducible conv => whnf) | (refine it_at (by assumption) ?_; with_reducible conv => whnf)))
    rw [decide_eq_true rfl]
    exact k0
  | str x =>
    ((with_reducible conv => whnf); repeat (first | (refine And.intro (okII _ _) ?_; rw [eqD_ii]; with_reducible conv => whnf) | (refine And.intro (by first | assumption | exact Exists.intro _ (by assumption) | exact ⟨rfl, rfl, by decide, by decide⟩ | exact Nat.le_of_ble_eq_true rfl | exact rfl) ?_; with_reducible conv => whnf) | (rw [isLst_at (by assumption)]; with_reducible conv => whnf) | (refine ifT rfl ?_; with_reducible conv => whnf) | (refine ifF rfl ?_; with_reducible conv => whnf) | (refine it_at (by assumption) ?_; with_reducible conv => whnf)))
    refine ⟨false, rfl, ?_⟩
    ((with_reducible conv => whnf); repeat (first | (refine And.intro (okII _ _) ?_; rw [eqD_ii]; with_reducible conv => whnf) | (refine And.intro (by first | assumption | exact Exists.intro _ (by assumption) | exact ⟨rfl, rfl, by decide, by decide⟩ | exact Nat.le_of_ble_eq_true rfl | exact rfl) ?_; with_reducible conv => whnf) | (rw [isLst_at (by assumption)]; with_reducible conv => whnf) | (refine ifT rfl ?_; with_reducible conv => whnf) | (refine ifF rfl ?_; with_reducible conv => whnf) | (refine it_at (by assumption) ?_; with_reducible conv => whnf)))
    refine ⟨false, rfl, ?_⟩
    ((with_reducible conv => whnf); repeat (first | (refine And.intro (okII _ _) ?_; rw [eqD_ii]; with_reducible conv => whnf) | (refine And.intro (by first | assumption | exact Exists.intro _ (by assumption) | exact ⟨rfl, rfl, by decide, by decide⟩ | exact Nat.le_of_ble_eq_true rfl | exact rfl) ?_; with_reducible conv => whnf) | (rw [isLst_at (by assumption)]; with_reducible conv => whnf) | (refine ifT rfl ?_; with_reducible conv => whnf) | (refine ifF rfl ?_; with_reducible conv => whnf) | (refine it_at (by assumption) ?_; with_reducible conv => whnf)))
    refine ⟨true, rfl, ?_⟩
    ((with_reducible conv => whnf); repeat (first | (refine And.intro (okII _ _) ?_; rw [eqD_ii]; with_reducible conv => whnf) | (refine And.intro (by first | assumption | exact Exists.intro _ (by assumption) | exact ⟨rfl, rfl, by decide, by decide⟩ | exact Nat.le_of_ble_eq_true rfl | exact rfl) ?_; with_reducible conv => whnf) | (rw [isLst_at (by assumption)]; with_reducible conv => whnf) | (refine ifT rfl ?_; with_reducible conv => whnf) | (refine ifF rfl ?_; with_reducible conv => whnf) | (refine it_at (by assumption) ?_; with_reducible conv => whnf)))
    refine ⟨true, rfl, ?_⟩
    ((with_reducible conv => whnf); repeat (first | (refine And.intro (okII _ _) ?_; rw [eqD_ii]; with_reducible conv => whnf) | (refine And.intro (by first | assumption | exact Exists.intro _ (by assumption) | exact ⟨rfl, rfl, by decide, by decide⟩ | exact Nat.le_of_ble_eq_true rfl | exact rfl) ?_; with_reducible conv => whnf) | (rw [isLst_at (by assumption)]; with_reducible conv => whnf) | (refine ifT rfl ?_; with_reducible conv => whnf) | (refine ifF rfl ?_; with_reducible conv => whnf) | (refine it_at (by assumption) ?_; with_reducible conv => whnf)))
    refine ⟨⟨hf, hf, Nat.zero_le _, Nat.zero_le _⟩, ?_⟩
    rw [hself]
    exact k0
  | tup xs =>
    ((with_reducible conv => whnf); repeat (first | (refine And.intro (okII _ _) ?_; rw [eqD_ii]; with_reducible conv => whnf) | (refine And.intro (by first | assumption | exact Exists.intro _ (by assumption) | exact ⟨rfl, rfl, by decide, by decide⟩ | exact Nat.le_of_ble_eq_true rfl | exact rfl) ?_; with_reducible conv => whnf) | (rw [isLst_at (by assumption)]; with_reducible conv => whnf) | (refine ifT rfl ?_; with_reducible conv => whnf) | (refine ifF rfl ?_; with_reducible conv => whnf) | (refine it_at (by assumption) ?_; with_reducible conv => whnf)))
    refine ⟨false, rfl, ?_⟩
    ((with_reducible conv => whnf); repeat (first | (refine And.intro (okII _ _) ?_; rw [eqD_ii]; with_reducible conv => whnf) | (refine And.intro (by first | assumption | exact Exists.intro _ (by assumption) | exact ⟨rfl, rfl, by decide, by decide⟩ | exact Nat.le_of_ble_eq_true rfl | exact rfl) ?_; with_reducible conv => whnf) | (rw [isLst_at (by assumption)]; with_reducible conv => whnf) | (refine ifT rfl ?_; with_reducible conv => whnf) | (refine ifF rfl ?_; with_reducible conv => whnf) | (refine it_at (by assumption) ?_; with_reducible conv => whnf)))
    refine ⟨false, rfl, ?_⟩
    ((with_reducible conv => whnf); repeat (first | (refine And.intro (okII _ _) ?_; rw [eqD_ii]; with_reducible conv => whnf) | (refine And.intro (by first | assumption | exact Exists.intro _ (by assumption) | exact ⟨rfl, rfl, by decide, by decide⟩ | exact Nat.le_of_ble_eq_true rfl | exact rfl) ?_; with_reducible conv => whnf) | (rw [isLst_at (by assumption)]; with_reducible conv => whnf) | (refine ifT rfl ?_; with_reducible conv => whnf) | (refine ifF rfl ?_; with_reducible conv => whnf) | (refine it_at (by assumption) ?_; with_reducible conv => whnf)))
    refine ⟨false, rfl, ?_⟩
    ((with_reducible conv => whnf); repeat (first | (refine And.intro (okII _ _) ?_; rw [eqD_ii]; with_reducible conv => whnf) | (refine And.intro (by first | assumption | exact Exists.intro _ (by assumption) | exact ⟨rfl, rfl, by decide, by decide⟩ | exact Nat.le_of_ble_eq_true rfl | exact rfl) ?_; with_reducible conv => whnf) | (rw [isLst_at (by assumption)]; with_reducible conv => whnf) | (refine ifT rfl ?_; with_reducible conv => whnf) | (refine ifF rfl ?_; with_reducible conv => whnf) | (refine it_at (by assumption) ?_; with_reducible conv => whnf)))
    refine ⟨true, rfl, ?_⟩
    ((with_reducible conv => whnf); repeat (first | (refine And.intro (okII _ _) ?_; rw [eqD_ii]; with_reducible conv => whnf) | (refine And.intro (by first | assumption | exact Exists.intro _ (by assumption) | exact ⟨rfl, rfl, by decide, by decide⟩ | exact Nat.le_of_ble_eq_true rfl | exact rfl) ?_; with_reducible conv => whnf) | (rw [isLst_at (by assumption)]; with_reducible conv => whnf) | (refine ifT rfl ?_; with_reducible conv => whnf) | (refine ifF rfl ?_; with_reducible conv => whnf) | (refine it_at (by assumption) ?_; with_reducible conv => whnf)))
    rw [if_neg (by simp)]
    have hsl := Bool.and_eq_true_iff.mp (show (decide (xs.length ≤ szL) && slims xs) = true from hsl)
    have hz := of_decide_eq_true hsl.1
    unfold szL at hz
    ((with_reducible conv => whnf); repeat (first | (refine And.intro (okII _ _) ?_; rw [eqD_ii]; with_reducible conv => whnf) | (refine And.intro (by first | assumption | exact Exists.intro _ (by assumption) | exact ⟨rfl, rfl, by decide, by decide⟩ | exact Nat.le_of_ble_eq_true rfl | exact rfl) ?_; with_reducible conv => whnf) | (rw [isLst_at (by assumption)]; with_reducible conv => whnf) | (refine ifT rfl ?_; with_reducible conv => whnf) | (refine ifF rfl ?_; with_reducible conv => whnf) | (refine it_at (by assumption) ?_; with_reducible conv => whnf)))
    refine ⟨⟨by omega, by omega⟩, ?_⟩
    refine Loop_mk (fun _ ρ S' => ∃ o, ρ = [some (.tup xs), some (.tup xs), o] ∧ Sub S S') ⟨_, rfl, Sub.refl _⟩ (by intros; trivial) ?_ ?_
    · rintro i d ρ' S' hi ⟨o, rfl, hs⟩
      obtain ⟨hi1, rfl⟩ := rangeD_get hi
      have hl : i < xs.length := by omega
      have e := List.getElem?_eq_getElem hl
      have ez := atZ_nat e
      rw [show ((i : Nat) : Int) = 0 + i by omega] at ez
      ((with_reducible conv => whnf); repeat (first | (refine And.intro (okII _ _) ?_; rw [eqD_ii]; with_reducible conv => whnf) | (refine And.intro (by first | assumption | exact Exists.intro _ (by assumption) | exact ⟨rfl, rfl, by decide, by decide⟩ | exact Nat.le_of_ble_eq_true rfl | exact rfl) ?_; with_reducible conv => whnf) | (rw [isLst_at (by assumption)]; with_reducible conv => whnf) | (refine ifT rfl ?_; with_reducible conv => whnf) | (refine ifF rfl ?_; with_reducible conv => whnf) | (refine it_at (by assumption) ?_; with_reducible conv => whnf)))
      refine ⟨_, ez, ?_⟩
      ((with_reducible conv => whnf); repeat (first | (refine And.intro (okII _ _) ?_; rw [eqD_ii]; with_reducible conv => whnf) | (refine And.intro (by first | assumption | exact Exists.intro _ (by assumption) | exact ⟨rfl, rfl, by decide, by decide⟩ | exact Nat.le_of_ble_eq_true rfl | exact rfl) ?_; with_reducible conv => whnf) | (rw [isLst_at (by assumption)]; with_reducible conv => whnf) | (refine ifT rfl ?_; with_reducible conv => whnf) | (refine ifF rfl ?_; with_reducible conv => whnf) | (refine it_at (by assumption) ?_; with_reducible conv => whnf)))
      refine ⟨_, ez, ?_⟩
      ((with_reducible conv => whnf); repeat (first | (refine And.intro (okII _ _) ?_; rw [eqD_ii]; with_reducible conv => whnf) | (refine And.intro (by first | assumption | exact Exists.intro _ (by assumption) | exact ⟨rfl, rfl, by decide, by decide⟩ | exact Nat.le_of_ble_eq_true rfl | exact rfl) ?_; with_reducible conv => whnf) | (rw [isLst_at (by assumption)]; with_reducible conv => whnf) | (refine ifT rfl ?_; with_reducible conv => whnf) | (refine ifF rfl ?_; with_reducible conv => whnf) | (refine it_at (by assumption) ?_; with_reducible conv => whnf)))
      have hdd : deep (.tup xs) = deeps xs + 1 := rfl
      rcases hsp with h0 | ⟨M, hM, rfl⟩
      · omega
      ((with_reducible conv => whnf); repeat (first | (refine And.intro (okII _ _) ?_; rw [eqD_ii]; with_reducible conv => whnf) | (refine And.intro (by first | assumption | exact Exists.intro _ (by assumption) | exact ⟨rfl, rfl, by decide, by decide⟩ | exact Nat.le_of_ble_eq_true rfl | exact rfl) ?_; with_reducible conv => whnf) | (rw [isLst_at (by assumption)]; with_reducible conv => whnf) | (refine ifT rfl ?_; with_reducible conv => whnf) | (refine ifF rfl ?_; with_reducible conv => whnf) | (refine it_at (by assumption) ?_; with_reducible conv => whnf)))
      have := deeps_get e
      refine ⟨_, rfl, flats_get hf e, slims_get hsl.2 e, by omega, fun S2 hs2 => ?_⟩
      ((with_reducible conv => whnf); repeat (first | (refine And.intro (okII _ _) ?_; rw [eqD_ii]; with_reducible conv => whnf) | (refine And.intro (by first | assumption | exact Exists.intro _ (by assumption) | exact ⟨rfl, rfl, by decide, by decide⟩ | exact Nat.le_of_ble_eq_true rfl | exact rfl) ?_; with_reducible conv => whnf) | (rw [isLst_at (by assumption)]; with_reducible conv => whnf) | (refine ifT rfl ?_; with_reducible conv => whnf) | (refine ifF rfl ?_; with_reducible conv => whnf) | (refine it_at (by assumption) ?_; with_reducible conv => whnf)))
      exact ⟨_, rfl, hs.trans hs2⟩
    · rintro ρ' S' ⟨o, rfl, hs⟩
      ((with_reducible conv => whnf); repeat (first | (refine And.intro (okII _ _) ?_; rw [eqD_ii]; with_reducible conv => whnf) | (refine And.intro (by first | assumption | exact Exists.intro _ (by assumption) | exact ⟨rfl, rfl, by decide, by decide⟩ | exact Nat.le_of_ble_eq_true rfl | exact rfl) ?_; with_reducible conv => whnf) | (rw [isLst_at (by assumption)]; with_reducible conv => whnf) | (refine ifT rfl ?_; with_reducible conv => whnf) | (refine ifF rfl ?_; with_reducible conv => whnf) | (refine it_at (by assumption) ?_; with_reducible conv => whnf)))
      exact k _ hs
@[reducible] def sp_gcd : Spc := fun ds S Q => ∃ n d, ds = [.int n, .int d] ∧ ∀ S', Sub S S' → Q (.int (Nat.gcd n.natAbs d.natAbs : Nat)) S'
theorem body_divisor : Body 2 2 w_divisor sp_gcd := by
  rintro ds S Q _ ⟨n, d, rfl, k⟩
  unfold w_divisor
  (simp only [start, List.map_cons, List.map_nil, List.length_cons, List.length_nil, Nat.reduceAdd, Nat.reduceSub, List.replicate_succ, List.replicate_zero, List.cons_append, List.nil_append, Nat.sub_self, Nat.zero_add])
  ((with_reducible conv => whnf); repeat (first | (rw [natD_len]; with_reducible conv => whnf) | (rw [intD_len]; with_reducible conv => whnf) | (refine Exists.intro _ (And.intro (rfl : _ = some _) ?_); with_reducible conv => whnf) | (refine And.intro (okII _ _) ?_; rw [eqD_ii]; with_reducible conv => whnf) | (refine And.intro (by first | assumption | exact Exists.intro _ (by assumption) | exact ⟨rfl, rfl, by decide, by decide⟩ | exact Nat.le_of_ble_eq_true rfl | exact rfl) ?_; with_reducible conv => whnf) | (rw [isLst_at (by assumption)]; with_reducible conv => whnf) | (refine ifT rfl ?_; with_reducible conv => whnf) | (refine ifF rfl ?_; with_reducible conv => whnf) | (refine it_at (by assumption) ?_; with_reducible conv => whnf)))
  exact k _ (Sub.refl _)
@[reducible] def sp_ratio : Spc := fun ds S Q => ∃ n d, ds = [.int n, .int d] ∧ d ≠ 0 ∧ d.natAbs < 2 ^ 9000 ∧ ∀ S', Sub S S' → Q (qD (Rat.divInt n d)) S'
theorem body_fraction : Body 3 2 (w_fraction sp_gcd) sp_ratio := by
  rintro ds S Q _ ⟨n, d, rfl, h0, hb, k⟩
  unfold w_fraction
  (simp only [start, List.map_cons, List.map_nil, List.length_cons, List.length_nil, Nat.reduceAdd, Nat.reduceSub, List.replicate_succ, List.replicate_zero, List.cons_append, List.nil_append, Nat.sub_self, Nat.zero_add])
  ((with_reducible conv => whnf); repeat (first | (rw [natD_len]; with_reducible conv => whnf) | (rw [intD_len]; with_reducible conv => whnf) | (refine Exists.intro _ (And.intro (rfl : _ = some _) ?_); with_reducible conv => whnf) | (refine And.intro (okII _ _) ?_; rw [eqD_ii]; with_reducible conv => whnf) | (refine And.intro (by first | assumption | exact Exists.intro _ (by assumption) | exact ⟨rfl, rfl, by decide, by decide⟩ | exact Nat.le_of_ble_eq_true rfl | exact rfl) ?_; with_reducible conv => whnf) | (rw [isLst_at (by assumption)]; with_reducible conv => whnf) | (refine ifT rfl ?_; with_reducible conv => whnf) | (refine ifF rfl ?_; with_reducible conv => whnf) | (refine it_at (by assumption) ?_; with_reducible conv => whnf)))
  refine ⟨_, _, rfl, fun S1 h1 => ?_⟩
  have hg : 0 < Nat.gcd n.natAbs d.natAbs := Nat.gcd_pos_of_pos_right _ (by omega)
  have hle : Nat.gcd n.natAbs d.natAbs ≤ d.natAbs := Nat.gcd_le_right _ (by omega)
  have e := ratio_eq (n := n) h0
  have k := k S1 h1
  unfold qD at k
  rw [← e.1, ← e.2] at k
  ((with_reducible conv => whnf); repeat (first | (rw [natD_len]; with_reducible conv => whnf) | (rw [intD_len]; with_reducible conv => whnf) | (refine Exists.intro _ (And.intro (rfl : _ = some _) ?_); with_reducible conv => whnf) | (refine And.intro (okII _ _) ?_; rw [eqD_ii]; with_reducible conv => whnf) | (refine And.intro (by first | assumption | exact Exists.intro _ (by assumption) | exact ⟨rfl, rfl, by decide, by decide⟩ | exact Nat.le_of_ble_eq_true rfl | exact rfl) ?_; with_reducible conv => whnf) | (rw [isLst_at (by assumption)]; with_reducible conv => whnf) | (refine ifT rfl ?_; with_reducible conv => whnf) | (refine ifF rfl ?_; with_reducible conv => whnf) | (refine it_at (by assumption) ?_; with_reducible conv => whnf)))
  refine ite_d (fun hc => ?_) fun hc => ?_
  · rw [if_pos hc] at k
    ((with_reducible conv => whnf); repeat (first | (rw [natD_len]; with_reducible conv => whnf) | (rw [intD_len]; with_reducible conv => whnf) | (refine Exists.intro _ (And.intro (rfl : _ = some _) ?_); with_reducible conv => whnf) | (refine And.intro (okII _ _) ?_; rw [eqD_ii]; with_reducible conv => whnf) | (refine And.intro (by first | assumption | exact Exists.intro _ (by assumption) | exact ⟨rfl, rfl, by decide, by decide⟩ | exact Nat.le_of_ble_eq_true rfl | exact rfl) ?_; with_reducible conv => whnf) | (rw [isLst_at (by assumption)]; with_reducible conv => whnf) | (refine ifT rfl ?_; with_reducible conv => whnf) | (refine ifF rfl ?_; with_reducible conv => whnf) | (refine it_at (by assumption) ?_; with_reducible conv => whnf)))
    refine ⟨⟨by omega, by omega⟩, ?_⟩
    ((with_reducible conv => whnf); repeat (first | (rw [natD_len]; with_reducible conv => whnf) | (rw [intD_len]; with_reducible conv => whnf) | (refine Exists.intro _ (And.intro (rfl : _ = some _) ?_); with_reducible conv => whnf) | (refine And.intro (okII _ _) ?_; rw [eqD_ii]; with_reducible conv => whnf) | (refine And.intro (by first | assumption | exact Exists.intro _ (by assumption) | exact ⟨rfl, rfl, by decide, by decide⟩ | exact Nat.le_of_ble_eq_true rfl | exact rfl) ?_; with_reducible conv => whnf) | (rw [isLst_at (by assumption)]; with_reducible conv => whnf) | (refine ifT rfl ?_; with_reducible conv => whnf) | (refine ifF rfl ?_; with_reducible conv => whnf) | (refine it_at (by assumption) ?_; with_reducible conv => whnf)))
    refine ⟨⟨by omega, by omega⟩, ?_⟩
    ((with_reducible conv => whnf); repeat (first | (rw [natD_len]; with_reducible conv => whnf) | (rw [intD_len]; with_reducible conv => whnf) | (refine Exists.intro _ (And.intro (rfl : _ = some _) ?_); with_reducible conv => whnf) | (refine And.intro (okII _ _) ?_; rw [eqD_ii]; with_reducible conv => whnf) | (refine And.intro (by first | assumption | exact Exists.intro _ (by assumption) | exact ⟨rfl, rfl, by decide, by decide⟩ | exact Nat.le_of_ble_eq_true rfl | exact rfl) ?_; with_reducible conv => whnf) | (rw [isLst_at (by assumption)]; with_reducible conv => whnf) | (refine ifT rfl ?_; with_reducible conv => whnf) | (refine ifF rfl ?_; with_reducible conv => whnf) | (refine it_at (by assumption) ?_; with_reducible conv => whnf)))
    exact k
  · rw [if_neg hc] at k
    ((with_reducible conv => whnf); repeat (first | (rw [natD_len]; with_reducible conv => whnf) | (rw [intD_len]; with_reducible conv => whnf) | (refine Exists.intro _ (And.intro (rfl : _ = some _) ?_); with_reducible conv => whnf) | (refine And.intro (okII _ _) ?_; rw [eqD_ii]; with_reducible conv => whnf) | (refine And.intro (by first | assumption | exact Exists.intro _ (by assumption) | exact ⟨rfl, rfl, by decide, by decide⟩ | exact Nat.le_of_ble_eq_true rfl | exact rfl) ?_; with_reducible conv => whnf) | (rw [isLst_at (by assumption)]; with_reducible conv => whnf) | (refine ifT rfl ?_; with_reducible conv => whnf) | (refine ifF rfl ?_; with_reducible conv => whnf) | (refine it_at (by assumption) ?_; with_reducible conv => whnf)))
    refine ⟨⟨by omega, by omega⟩, ?_⟩
    ((with_reducible conv => whnf); repeat (first | (rw [natD_len]; with_reducible conv => whnf) | (rw [intD_len]; with_reducible conv => whnf) | (refine Exists.intro _ (And.intro (rfl : _ = some _) ?_); with_reducible conv => whnf) | (refine And.intro (okII _ _) ?_; rw [eqD_ii]; with_reducible conv => whnf) | (refine And.intro (by first | assumption | exact Exists.intro _ (by assumption) | exact ⟨rfl, rfl, by decide, by decide⟩ | exact Nat.le_of_ble_eq_true rfl | exact rfl) ?_; with_reducible conv => whnf) | (rw [isLst_at (by assumption)]; with_reducible conv => whnf) | (refine ifT rfl ?_; with_reducible conv => whnf) | (refine ifF rfl ?_; with_reducible conv => whnf) | (refine it_at (by assumption) ?_; with_reducible conv => whnf)))
    refine ⟨⟨by omega, by omega⟩, ?_⟩
    ((with_reducible conv => whnf); repeat (first | (rw [natD_len]; with_reducible conv => whnf) | (rw [intD_len]; with_reducible conv => whnf) | (refine Exists.intro _ (And.intro (rfl : _ = some _) ?_); with_reducible conv => whnf) | (refine And.intro (okII _ _) ?_; rw [eqD_ii]; with_reducible conv => whnf) | (refine And.intro (by first | assumption | exact Exists.intro _ (by assumption) | exact ⟨rfl, rfl, by decide, by decide⟩ | exact Nat.le_of_ble_eq_true rfl | exact rfl) ?_; with_reducible conv => whnf) | (rw [isLst_at (by assumption)]; with_reducible conv => whnf) | (refine ifT rfl ?_; with_reducible conv => whnf) | (refine ifF rfl ?_; with_reducible conv => whnf) | (refine it_at (by assumption) ?_; with_reducible conv => whnf)))
    exact k
@[reducible] def sp_shared : Spc := fun ds S Q => ∃ n d, ds = [.int n, .int d] ∧ d.natAbs < 2 ^ 2600 ∧ ∀ S', Sub S S' → Q (.int (Nat.gcd n.natAbs d.natAbs : Nat)) S'
theorem body_law_shared : Body 6 2 w_law_shared sp_shared := by
  rintro ds S Q _ ⟨n, d, rfl, hd, k⟩
  unfold w_law_shared
  (simp only [start, List.map_cons, List.map_nil, List.length_cons, List.length_nil, Nat.reduceAdd, Nat.reduceSub, List.replicate_succ, List.replicate_zero, List.cons_append, List.nil_append, Nat.sub_self, Nat.zero_add])
  ((with_reducible conv => whnf); repeat (first | (rw [natD_len]; with_reducible conv => whnf) | (rw [intD_len]; with_reducible conv => whnf) | (refine Exists.intro _ (And.intro (rfl : _ = some _) ?_); with_reducible conv => whnf) | (refine And.intro (okII _ _) ?_; rw [eqD_ii]; with_reducible conv => whnf) | (refine And.intro (by first | assumption | exact Exists.intro _ (by assumption) | exact ⟨rfl, rfl, by decide, by decide⟩ | exact Nat.le_of_ble_eq_true rfl | exact rfl) ?_; with_reducible conv => whnf) | (rw [isLst_at (by assumption)]; with_reducible conv => whnf) | (refine ifT rfl ?_; with_reducible conv => whnf) | (refine ifF rfl ?_; with_reducible conv => whnf) | (refine it_at (by assumption) ?_; with_reducible conv => whnf)))
  refine ⟨⟨by decide, by decide⟩, ?_⟩
  refine Loop_mk (fun i ρ S' => ∃ (a b : Nat) (o4 o5 : Option D), ρ = [some (.int n), some (.int d), some (.int a), some (.int b), o4, o5] ∧ Nat.gcd a b = Nat.gcd n.natAbs d.natAbs ∧ (i = 0 → b = d.natAbs) ∧ (0 < i → b < a ∧ fib i * a + fib (i - 1) * b ≤ d.natAbs) ∧ S' = S) ⟨_, _, none, none, rfl, rfl, fun _ => rfl, by omega, rfl⟩ (by intros; trivial) ?_ ?_
  · rintro i dd ρ' S' hi ⟨a, b, o4, o5, rfl, hg, h0, h1, rfl⟩
    obtain ⟨_, rfl⟩ := rangeD_get hi
    ((with_reducible conv => whnf); repeat (first | (rw [natD_len]; with_reducible conv => whnf) | (rw [intD_len]; with_reducible conv => whnf) | (refine Exists.intro _ (And.intro (rfl : _ = some _) ?_); with_reducible conv => whnf) | (refine And.intro (okII _ _) ?_; rw [eqD_ii]; with_reducible conv => whnf) | (refine And.intro (by first | assumption | exact Exists.intro _ (by assumption) | exact ⟨rfl, rfl, by decide, by decide⟩ | exact Nat.le_of_ble_eq_true rfl | exact rfl) ?_; with_reducible conv => whnf) | (rw [isLst_at (by assumption)]; with_reducible conv => whnf) | (refine ifT rfl ?_; with_reducible conv => whnf) | (refine ifF rfl ?_; with_reducible conv => whnf) | (refine it_at (by assumption) ?_; with_reducible conv => whnf)))
    by_cases hb : b = 0
    · subst hb
      refine ifT (by simp) ?_
      ((with_reducible conv => whnf); repeat (first | (rw [natD_len]; with_reducible conv => whnf) | (rw [intD_len]; with_reducible conv => whnf) | (refine Exists.intro _ (And.intro (rfl : _ = some _) ?_); with_reducible conv => whnf) | (refine And.intro (okII _ _) ?_; rw [eqD_ii]; with_reducible conv => whnf) | (refine And.intro (by first | assumption | exact Exists.intro _ (by assumption) | exact ⟨rfl, rfl, by decide, by decide⟩ | exact Nat.le_of_ble_eq_true rfl | exact rfl) ?_; with_reducible conv => whnf) | (rw [isLst_at (by assumption)]; with_reducible conv => whnf) | (refine ifT rfl ?_; with_reducible conv => whnf) | (refine ifF rfl ?_; with_reducible conv => whnf) | (refine it_at (by assumption) ?_; with_reducible conv => whnf)))
      have := k S' (Sub.refl _)
      rw [← hg, Nat.gcd_zero_right] at this
      exact this
    · refine ifF (by simp; omega) ?_
      ((with_reducible conv => whnf); repeat (first | (rw [natD_len]; with_reducible conv => whnf) | (rw [intD_len]; with_reducible conv => whnf) | (refine Exists.intro _ (And.intro (rfl : _ = some _) ?_); with_reducible conv => whnf) | (refine And.intro (okII _ _) ?_; rw [eqD_ii]; with_reducible conv => whnf) | (refine And.intro (by first | assumption | exact Exists.intro _ (by assumption) | exact ⟨rfl, rfl, by decide, by decide⟩ | exact Nat.le_of_ble_eq_true rfl | exact rfl) ?_; with_reducible conv => whnf) | (rw [isLst_at (by assumption)]; with_reducible conv => whnf) | (refine ifT rfl ?_; with_reducible conv => whnf) | (refine ifF rfl ?_; with_reducible conv => whnf) | (refine it_at (by assumption) ?_; with_reducible conv => whnf)))
      refine ⟨by omega, ?_⟩
      have e : (a : Int).fmod (b : Int) = ((a % b : Nat) : Int) := by
        rw [Int.fmod_eq_emod_of_nonneg _ (by omega), Int.natCast_emod]
      rw [e]
      ((with_reducible conv => whnf); repeat (first | (rw [natD_len]; with_reducible conv => whnf) | (rw [intD_len]; with_reducible conv => whnf) | (refine Exists.intro _ (And.intro (rfl : _ = some _) ?_); with_reducible conv => whnf) | (refine And.intro (okII _ _) ?_; rw [eqD_ii]; with_reducible conv => whnf) | (refine And.intro (by first | assumption | exact Exists.intro _ (by assumption) | exact ⟨rfl, rfl, by decide, by decide⟩ | exact Nat.le_of_ble_eq_true rfl | exact rfl) ?_; with_reducible conv => whnf) | (rw [isLst_at (by assumption)]; with_reducible conv => whnf) | (refine ifT rfl ?_; with_reducible conv => whnf) | (refine ifF rfl ?_; with_reducible conv => whnf) | (refine it_at (by assumption) ?_; with_reducible conv => whnf)))
      have hb0 : 0 < b := by omega
      refine ⟨b, a % b, _, _, rfl, ?_, by omega, fun _ => ⟨Nat.mod_lt _ hb0, ?_⟩, rfl⟩
      · rw [← hg, Nat.gcd_comm a b, Nat.gcd_rec b a, Nat.gcd_comm]
      · rcases Nat.eq_zero_or_pos i with c | c
        · subst c
          rw [h0 rfl]
          show 1 * _ + 0 * _ ≤ _
          omega
        · obtain ⟨i, rfl⟩ : ∃ j, i = j + 1 := ⟨i - 1, by omega⟩
          obtain ⟨h2, h3⟩ := h1 c
          exact fib_step hb0 (Nat.le_of_lt h2) h3
  · rintro ρ' S' ⟨a, b, o4, o5, rfl, hg, h0, h1, rfl⟩
    rw [rangeD_len] at h1
    obtain ⟨h2, h3⟩ := h1 (by decide)
    have hb : b = 0 := by
      false_or_by_contra
      rename_i hc
      rw [show ((4000 : Int) - 0).toNat = 4000 from rfl] at h3
      have h4 := Nat.mul_le_mul_left (fib 4000) (show 1 ≤ a by omega)
      have h5 := fib4000
      omega
    subst hb
    ((with_reducible conv => whnf); repeat (first | (rw [natD_len]; with_reducible conv => whnf) | (rw [intD_len]; with_reducible conv => whnf) | (refine Exists.intro _ (And.intro (rfl : _ = some _) ?_); with_reducible conv => whnf) | (refine And.intro (okII _ _) ?_; rw [eqD_ii]; with_reducible conv => whnf) | (refine And.intro (by first | assumption | exact Exists.intro _ (by assumption) | exact ⟨rfl, rfl, by decide, by decide⟩ | exact Nat.le_of_ble_eq_true rfl | exact rfl) ?_; with_reducible conv => whnf) | (rw [isLst_at (by assumption)]; with_reducible conv => whnf) | (refine ifT rfl ?_; with_reducible conv => whnf) | (refine ifF rfl ?_; with_reducible conv => whnf) | (refine it_at (by assumption) ?_; with_reducible conv => whnf)))
    have := k S' (Sub.refl _)
    rw [← hg, Nat.gcd_zero_right] at this
    exact this
@[reducible] def sp_frac : Spc := fun ds S Q => ∃ n d, ds = [.int n, .int d] ∧ d ≠ 0 ∧ d.natAbs < 2 ^ 2600 ∧ ∀ S', Sub S S' → Q (qD (Rat.divInt n d)) S'
theorem body_law_frac : Body 3 2 (w_law_frac sp_shared) sp_frac := by
  rintro ds S Q _ ⟨n, d, rfl, h0, hb, k⟩
  unfold w_law_frac
  (simp only [start, List.map_cons, List.map_nil, List.length_cons, List.length_nil, Nat.reduceAdd, Nat.reduceSub, List.replicate_succ, List.replicate_zero, List.cons_append, List.nil_append, Nat.sub_self, Nat.zero_add])
  ((with_reducible conv => whnf); repeat (first | (rw [natD_len]; with_reducible conv => whnf) | (rw [intD_len]; with_reducible conv => whnf) | (refine Exists.intro _ (And.intro (rfl : _ = some _) ?_); with_reducible conv => whnf) | (refine And.intro (okII _ _) ?_; rw [eqD_ii]; with_reducible conv => whnf) | (refine And.intro (by first | assumption | exact Exists.intro _ (by assumption) | exact ⟨rfl, rfl, by decide, by decide⟩ | exact Nat.le_of_ble_eq_true rfl | exact rfl) ?_; with_reducible conv => whnf) | (rw [isLst_at (by assumption)]; with_reducible conv => whnf) | (refine ifT rfl ?_; with_reducible conv => whnf) | (refine ifF rfl ?_; with_reducible conv => whnf) | (refine it_at (by assumption) ?_; with_reducible conv => whnf)))
  refine ⟨_, _, rfl, hb, fun S1 h1 => ?_⟩
  have hg : 0 < Nat.gcd n.natAbs d.natAbs := Nat.gcd_pos_of_pos_right _ (by omega)
  have hle : Nat.gcd n.natAbs d.natAbs ≤ d.natAbs := Nat.gcd_le_right _ (by omega)
  have hlt : Nat.gcd n.natAbs d.natAbs < 2 ^ 9000 := Nat.lt_of_le_of_lt hle (Nat.lt_of_lt_of_le hb (Nat.pow_le_pow_right (by decide) (by decide)))
  have e := ratio_eq (n := n) h0
  have k := k S1 h1
  unfold qD at k
  rw [← e.1, ← e.2] at k
  ((with_reducible conv => whnf); repeat (first | (rw [natD_len]; with_reducible conv => whnf) | (rw [intD_len]; with_reducible conv => whnf) | (refine Exists.intro _ (And.intro (rfl : _ = some _) ?_); with_reducible conv => whnf) | (refine And.intro (okII _ _) ?_; rw [eqD_ii]; with_reducible conv => whnf) | (refine And.intro (by first | assumption | exact Exists.intro _ (by assumption) | exact ⟨rfl, rfl, by decide, by decide⟩ | exact Nat.le_of_ble_eq_true rfl | exact rfl) ?_; with_reducible conv => whnf) | (rw [isLst_at (by assumption)]; with_reducible conv => whnf) | (refine ifT rfl ?_; with_reducible conv => whnf) | (refine ifF rfl ?_; with_reducible conv => whnf) | (refine it_at (by assumption) ?_; with_reducible conv => whnf)))
  refine ite_d (fun hc => ?_) fun hc => ?_
  · rw [if_pos hc] at k
    ((with_reducible conv => whnf); repeat (first | (rw [natD_len]; with_reducible conv => whnf) | (rw [intD_len]; with_reducible conv => whnf) | (refine Exists.intro _ (And.intro (rfl : _ = some _) ?_); with_reducible conv => whnf) | (refine And.intro (okII _ _) ?_; rw [eqD_ii]; with_reducible conv => whnf) | (refine And.intro (by first | assumption | exact Exists.intro _ (by assumption) | exact ⟨rfl, rfl, by decide, by decide⟩ | exact Nat.le_of_ble_eq_true rfl | exact rfl) ?_; with_reducible conv => whnf) | (rw [isLst_at (by assumption)]; with_reducible conv => whnf) | (refine ifT rfl ?_; with_reducible conv => whnf) | (refine ifF rfl ?_; with_reducible conv => whnf) | (refine it_at (by assumption) ?_; with_reducible conv => whnf)))
    refine ⟨⟨by omega, by omega⟩, ?_⟩
    ((with_reducible conv => whnf); repeat (first | (rw [natD_len]; with_reducible conv => whnf) | (rw [intD_len]; with_reducible conv => whnf) | (refine Exists.intro _ (And.intro (rfl : _ = some _) ?_); with_reducible conv => whnf) | (refine And.intro (okII _ _) ?_; rw [eqD_ii]; with_reducible conv => whnf) | (refine And.intro (by first | assumption | exact Exists.intro _ (by assumption) | exact ⟨rfl, rfl, by decide, by decide⟩ | exact Nat.le_of_ble_eq_true rfl | exact rfl) ?_; with_reducible conv => whnf) | (rw [isLst_at (by assumption)]; with_reducible conv => whnf) | (refine ifT rfl ?_; with_reducible conv => whnf) | (refine ifF rfl ?_; with_reducible conv => whnf) | (refine it_at (by assumption) ?_; with_reducible conv => whnf)))
    refine ⟨⟨by omega, by omega⟩, ?_⟩
    ((with_reducible conv => whnf); repeat (first | (rw [natD_len]; with_reducible conv => whnf) | (rw [intD_len]; with_reducible conv => whnf) | (refine Exists.intro _ (And.intro (rfl : _ = some _) ?_); with_reducible conv => whnf) | (refine And.intro (okII _ _) ?_; rw [eqD_ii]; with_reducible conv => whnf) | (refine And.intro (by first | assumption | exact Exists.intro _ (by assumption) | exact ⟨rfl, rfl, by decide, by decide⟩ | exact Nat.le_of_ble_eq_true rfl | exact rfl) ?_; with_reducible conv => whnf) | (rw [isLst_at (by assumption)]; with_reducible conv => whnf) | (refine ifT rfl ?_; with_reducible conv => whnf) | (refine ifF rfl ?_; with_reducible conv => whnf) | (refine it_at (by assumption) ?_; with_reducible conv => whnf)))
    exact k
  · rw [if_neg hc] at k
    ((with_reducible conv => whnf); repeat (first | (rw [natD_len]; with_reducible conv => whnf) | (rw [intD_len]; with_reducible conv => whnf) | (refine Exists.intro _ (And.intro (rfl : _ = some _) ?_); with_reducible conv => whnf) | (refine And.intro (okII _ _) ?_; rw [eqD_ii]; with_reducible conv => whnf) | (refine And.intro (by first | assumption | exact Exists.intro _ (by assumption) | exact ⟨rfl, rfl, by decide, by decide⟩ | exact Nat.le_of_ble_eq_true rfl | exact rfl) ?_; with_reducible conv => whnf) | (rw [isLst_at (by assumption)]; with_reducible conv => whnf) | (refine ifT rfl ?_; with_reducible conv => whnf) | (refine ifF rfl ?_; with_reducible conv => whnf) | (refine it_at (by assumption) ?_; with_reducible conv => whnf)))
    refine ⟨⟨by omega, by omega⟩, ?_⟩
    ((with_reducible conv => whnf); repeat (first | (rw [natD_len]; with_reducible conv => whnf) | (rw [intD_len]; with_reducible conv => whnf) | (refine Exists.intro _ (And.intro (rfl : _ = some _) ?_); with_reducible conv => whnf) | (refine And.intro (okII _ _) ?_; rw [eqD_ii]; with_reducible conv => whnf) | (refine And.intro (by first | assumption | exact Exists.intro _ (by assumption) | exact ⟨rfl, rfl, by decide, by decide⟩ | exact Nat.le_of_ble_eq_true rfl | exact rfl) ?_; with_reducible conv => whnf) | (rw [isLst_at (by assumption)]; with_reducible conv => whnf) | (refine ifT rfl ?_; with_reducible conv => whnf) | (refine ifF rfl ?_; with_reducible conv => whnf) | (refine it_at (by assumption) ?_; with_reducible conv => whnf)))
    refine ⟨⟨by omega, by omega⟩, ?_⟩
    ((with_reducible conv => whnf); repeat (first | (rw [natD_len]; with_reducible conv => whnf) | (rw [intD_len]; with_reducible conv => whnf) | (refine Exists.intro _ (And.intro (rfl : _ = some _) ?_); with_reducible conv => whnf) | (refine And.intro (okII _ _) ?_; rw [eqD_ii]; with_reducible conv => whnf) | (refine And.intro (by first | assumption | exact Exists.intro _ (by assumption) | exact ⟨rfl, rfl, by decide, by decide⟩ | exact Nat.le_of_ble_eq_true rfl | exact rfl) ?_; with_reducible conv => whnf) | (rw [isLst_at (by assumption)]; with_reducible conv => whnf) | (refine ifT rfl ?_; with_reducible conv => whnf) | (refine ifF rfl ?_; with_reducible conv => whnf) | (refine it_at (by assumption) ?_; with_reducible conv => whnf)))
    exact k
end K91
set_option linter.all false
set_option maxRecDepth 100000
set_option exponentiation.threshold 10000
set_option maxHeartbeats 4000000
namespace K91
open DL
theorem size_of {P M : Nat} {q : Rat} (h : Ov P q) (hP : 0 < P) (h1 : -(M : Rat) ≤ q) (h2 : q ≤ (M : Rat)) : q.den ≤ P ∧ q.num.natAbs ≤ M * P := by
  have hd : q.den ≤ P := Nat.le_of_dvd hP h
  refine ⟨hd, ?_⟩
  have e := q_den q
  have hd0 : (0 : Rat) ≤ (q.den : Rat) := by exact_mod_cast Nat.zero_le _
  have u : (q.num : Rat) ≤ ((M * q.den : Nat) : Rat) := by
    rw [← e, Rat.natCast_mul]
    exact Rat.mul_le_mul_of_nonneg_right h2 hd0
  have l : ((-(M * q.den : Nat) : Int) : Rat) ≤ (q.num : Rat) := by
    rw [← e, Rat.intCast_neg]
    have := Rat.mul_le_mul_of_nonneg_right h1 hd0
    rw [Rat.neg_mul] at this
    rw [show ((((M * q.den : Nat) : Int)) : Rat) = ((M * q.den : Nat) : Rat) from rfl, Rat.natCast_mul]
    exact this
  have u2 : q.num ≤ ((M * q.den : Nat) : Int) := Rat.intCast_le_intCast.mp u
  have l2 : -((M * q.den : Nat) : Int) ≤ q.num := Rat.intCast_le_intCast.mp l
  have : M * q.den ≤ M * P := Nat.mul_le_mul_left _ hd
  omega
/-- sizes: B for what the machine reckons by gcd, S by its own search -/
def smB (q : Rat) : Prop := q.den < 2 ^ 4400 ∧ q.num.natAbs < 2 ^ 4500
def smS (q : Rat) : Prop := q.den < 2 ^ 1300 ∧ q.num.natAbs < 2 ^ 4500
theorem smS.B {q : Rat} (h : smS q) : smB q := ⟨Nat.lt_of_lt_of_le h.1 (pow_le2 (by decide)), h.2⟩
theorem smS_of {P M : Nat} {q : Rat} (h : Ov P q) (hP : 0 < P) (h1 : -(M : Rat) ≤ q) (h2 : q ≤ (M : Rat)) (hp : P < 2 ^ 1300) (hm : M < 2 ^ 3000) : smS q := by
  obtain ⟨a, b⟩ := size_of h hP h1 h2
  have := Nat.mul_lt_mul'' hm hp
  rw [← Nat.pow_add] at this
  have h5 : (2 : Nat) ^ (3000 + 1300) ≤ 2 ^ 4500 := pow_le2 (by decide)
  exact ⟨by omega, Nat.lt_of_le_of_lt b (Nat.lt_of_lt_of_le this h5)⟩
theorem smB_of {P M : Nat} {q : Rat} (h : Ov P q) (hP : 0 < P) (h1 : -(M : Rat) ≤ q) (h2 : q ≤ (M : Rat)) (hp : P < 2 ^ 4400) (hm : M < 2 ^ 100) : smB q := by
  obtain ⟨a, b⟩ := size_of h hP h1 h2
  have := Nat.mul_lt_mul'' hm hp
  rw [← Nat.pow_add] at this
  have h5 : (2 : Nat) ^ (100 + 4400) ≤ 2 ^ 4500 := pow_le2 (by decide)
  exact ⟨by omega, Nat.lt_of_le_of_lt b (Nat.lt_of_lt_of_le this h5)⟩
theorem sm_mn {a b : Rat} (ha : smB a) (hb : smB b) : MulOk a.num b.den := sm_mul (Nat.lt_of_lt_of_le ha.2 (pow_le2 (by decide))) (by rw [Int.natAbs_natCast]; exact Nat.lt_of_lt_of_le hb.1 (pow_le2 (by decide)))
theorem sm_nn {a b : Rat} (ha : smB a) (hb : smB b) : MulOk a.num b.num := sm_mul (Nat.lt_of_lt_of_le ha.2 (pow_le2 (by decide))) (Nat.lt_of_lt_of_le hb.2 (pow_le2 (by decide)))
theorem sm_mm {a b : Rat} (ha : smB a) (hb : smB b) : MulOk a.den b.den := sm_mul (by rw [Int.natAbs_natCast]; exact Nat.lt_of_lt_of_le ha.1 (pow_le2 (by decide))) (by rw [Int.natAbs_natCast]; exact Nat.lt_of_lt_of_le hb.1 (pow_le2 (by decide)))
theorem dd_ne (a b : Rat) : (a.den : Int) * (b.den : Int) ≠ 0 := Int.mul_ne_zero (by have := a.den_nz; omega) (by have := b.den_nz; omega)
theorem smS_dd {a b : Rat} (ha : smS a) (hb : smS b) : (a.den : Int) * (b.den : Int) ≠ 0 ∧ ((a.den : Int) * (b.den : Int)).natAbs < 2 ^ 2600 := by
  refine ⟨dd_ne a b, ?_⟩
  rw [Int.natAbs_mul, Int.natAbs_natCast, Int.natAbs_natCast]
  exact Nat.lt_of_lt_of_le (Nat.mul_lt_mul'' ha.1 hb.1) (by rw [← Nat.pow_add]; exact pow_le2 (by decide))
theorem smB_dd {a b : Rat} (ha : smB a) (hb : smB b) : (a.den : Int) * (b.den : Int) ≠ 0 ∧ ((a.den : Int) * (b.den : Int)).natAbs < 2 ^ 9000 := by
  refine ⟨dd_ne a b, ?_⟩
  rw [Int.natAbs_mul, Int.natAbs_natCast, Int.natAbs_natCast]
  exact Nat.lt_of_lt_of_le (Nat.mul_lt_mul'' ha.1 hb.1) (by rw [← Nat.pow_add]; exact pow_le2 (by decide))
@[reducible] def sp_sadd : Spc := fun ds S Q => ∃ a b, ds = [qD a, qD b] ∧ smS a ∧ smS b ∧ ∀ S', Sub S S' → Q (qD (a + b)) S'
@[reducible] def sp_smul : Spc := fun ds S Q => ∃ a b, ds = [qD a, qD b] ∧ smS a ∧ smS b ∧ ∀ S', Sub S S' → Q (qD (a * b)) S'
@[reducible] def sp_badd : Spc := fun ds S Q => ∃ a b, ds = [qD a, qD b] ∧ smB a ∧ smB b ∧ ∀ S', Sub S S' → Q (qD (a + b)) S'
@[reducible] def sp_less : Spc := fun ds S Q => ∃ a b, ds = [qD a, qD b] ∧ smB a ∧ smB b ∧ ∀ S', Sub S S' → Q (.bl (decide (a < b))) S'
theorem body_plus : Body 2 2 (w_plus sp_ratio) sp_badd := by
  rintro ds S Q _ ⟨a, b, rfl, ha, hb, k⟩
  unfold w_plus
  (simp only [start, List.map_cons, List.map_nil, List.length_cons, List.length_nil, Nat.reduceAdd, Nat.reduceSub, List.replicate_succ, List.replicate_zero, List.cons_append, List.nil_append, Nat.sub_self, Nat.zero_add])
  ((with_reducible conv => whnf); repeat (first | (rw [natD_len]; with_reducible conv => whnf) | (rw [intD_len]; with_reducible conv => whnf) | (refine Exists.intro _ (And.intro (rfl : _ = some _) ?_); with_reducible conv => whnf) | (refine And.intro (okII _ _) ?_; rw [eqD_ii]; with_reducible conv => whnf) | (refine And.intro (by first | assumption | exact Exists.intro _ (by assumption) | exact ⟨rfl, rfl, by decide, by decide⟩ | exact Nat.le_of_ble_eq_true rfl | exact rfl) ?_; with_reducible conv => whnf) | (rw [isLst_at (by assumption)]; with_reducible conv => whnf) | (refine ifT rfl ?_; with_reducible conv => whnf) | (refine ifF rfl ?_; with_reducible conv => whnf) | (refine it_at (by assumption) ?_; with_reducible conv => whnf)))
  refine ⟨sm_mn ha hb, ?_⟩
  ((with_reducible conv => whnf); repeat (first | (rw [natD_len]; with_reducible conv => whnf) | (rw [intD_len]; with_reducible conv => whnf) | (refine Exists.intro _ (And.intro (rfl : _ = some _) ?_); with_reducible conv => whnf) | (refine And.intro (okII _ _) ?_; rw [eqD_ii]; with_reducible conv => whnf) | (refine And.intro (by first | assumption | exact Exists.intro _ (by assumption) | exact ⟨rfl, rfl, by decide, by decide⟩ | exact Nat.le_of_ble_eq_true rfl | exact rfl) ?_; with_reducible conv => whnf) | (rw [isLst_at (by assumption)]; with_reducible conv => whnf) | (refine ifT rfl ?_; with_reducible conv => whnf) | (refine ifF rfl ?_; with_reducible conv => whnf) | (refine it_at (by assumption) ?_; with_reducible conv => whnf)))
  refine ⟨sm_mn hb ha, ?_⟩
  ((with_reducible conv => whnf); repeat (first | (rw [natD_len]; with_reducible conv => whnf) | (rw [intD_len]; with_reducible conv => whnf) | (refine Exists.intro _ (And.intro (rfl : _ = some _) ?_); with_reducible conv => whnf) | (refine And.intro (okII _ _) ?_; rw [eqD_ii]; with_reducible conv => whnf) | (refine And.intro (by first | assumption | exact Exists.intro _ (by assumption) | exact ⟨rfl, rfl, by decide, by decide⟩ | exact Nat.le_of_ble_eq_true rfl | exact rfl) ?_; with_reducible conv => whnf) | (rw [isLst_at (by assumption)]; with_reducible conv => whnf) | (refine ifT rfl ?_; with_reducible conv => whnf) | (refine ifF rfl ?_; with_reducible conv => whnf) | (refine it_at (by assumption) ?_; with_reducible conv => whnf)))
  refine ⟨sm_mm ha hb, ?_⟩
  ((with_reducible conv => whnf); repeat (first | (rw [natD_len]; with_reducible conv => whnf) | (rw [intD_len]; with_reducible conv => whnf) | (refine Exists.intro _ (And.intro (rfl : _ = some _) ?_); with_reducible conv => whnf) | (refine And.intro (okII _ _) ?_; rw [eqD_ii]; with_reducible conv => whnf) | (refine And.intro (by first | assumption | exact Exists.intro _ (by assumption) | exact ⟨rfl, rfl, by decide, by decide⟩ | exact Nat.le_of_ble_eq_true rfl | exact rfl) ?_; with_reducible conv => whnf) | (rw [isLst_at (by assumption)]; with_reducible conv => whnf) | (refine ifT rfl ?_; with_reducible conv => whnf) | (refine ifF rfl ?_; with_reducible conv => whnf) | (refine it_at (by assumption) ?_; with_reducible conv => whnf)))
  obtain ⟨h1, h2⟩ := smB_dd ha hb
  refine ⟨_, _, rfl, h1, h2, fun S' h => ?_⟩
  rw [q_plus]
  exact k S' h
theorem body_law_plus : Body 2 2 (w_law_plus sp_frac) sp_sadd := by
  rintro ds S Q _ ⟨a, b, rfl, ha, hb, k⟩
  unfold w_law_plus
  (simp only [start, List.map_cons, List.map_nil, List.length_cons, List.length_nil, Nat.reduceAdd, Nat.reduceSub, List.replicate_succ, List.replicate_zero, List.cons_append, List.nil_append, Nat.sub_self, Nat.zero_add])
  ((with_reducible conv => whnf); repeat (first | (rw [natD_len]; with_reducible conv => whnf) | (rw [intD_len]; with_reducible conv => whnf) | (refine Exists.intro _ (And.intro (rfl : _ = some _) ?_); with_reducible conv => whnf) | (refine And.intro (okII _ _) ?_; rw [eqD_ii]; with_reducible conv => whnf) | (refine And.intro (by first | assumption | exact Exists.intro _ (by assumption) | exact ⟨rfl, rfl, by decide, by decide⟩ | exact Nat.le_of_ble_eq_true rfl | exact rfl) ?_; with_reducible conv => whnf) | (rw [isLst_at (by assumption)]; with_reducible conv => whnf) | (refine ifT rfl ?_; with_reducible conv => whnf) | (refine ifF rfl ?_; with_reducible conv => whnf) | (refine it_at (by assumption) ?_; with_reducible conv => whnf)))
  refine ⟨sm_mn ha.B hb.B, ?_⟩
  ((with_reducible conv => whnf); repeat (first | (rw [natD_len]; with_reducible conv => whnf) | (rw [intD_len]; with_reducible conv => whnf) | (refine Exists.intro _ (And.intro (rfl : _ = some _) ?_); with_reducible conv => whnf) | (refine And.intro (okII _ _) ?_; rw [eqD_ii]; with_reducible conv => whnf) | (refine And.intro (by first | assumption | exact Exists.intro _ (by assumption) | exact ⟨rfl, rfl, by decide, by decide⟩ | exact Nat.le_of_ble_eq_true rfl | exact rfl) ?_; with_reducible conv => whnf) | (rw [isLst_at (by assumption)]; with_reducible conv => whnf) | (refine ifT rfl ?_; with_reducible conv => whnf) | (refine ifF rfl ?_; with_reducible conv => whnf) | (refine it_at (by assumption) ?_; with_reducible conv => whnf)))
  refine ⟨sm_mn hb.B ha.B, ?_⟩
  ((with_reducible conv => whnf); repeat (first | (rw [natD_len]; with_reducible conv => whnf) | (rw [intD_len]; with_reducible conv => whnf) | (refine Exists.intro _ (And.intro (rfl : _ = some _) ?_); with_reducible conv => whnf) | (refine And.intro (okII _ _) ?_; rw [eqD_ii]; with_reducible conv => whnf) | (refine And.intro (by first | assumption | exact Exists.intro _ (by assumption) | exact ⟨rfl, rfl, by decide, by decide⟩ | exact Nat.le_of_ble_eq_true rfl | exact rfl) ?_; with_reducible conv => whnf) | (rw [isLst_at (by assumption)]; with_reducible conv => whnf) | (refine ifT rfl ?_; with_reducible conv => whnf) | (refine ifF rfl ?_; with_reducible conv => whnf) | (refine it_at (by assumption) ?_; with_reducible conv => whnf)))
  refine ⟨sm_mm ha.B hb.B, ?_⟩
  ((with_reducible conv => whnf); repeat (first | (rw [natD_len]; with_reducible conv => whnf) | (rw [intD_len]; with_reducible conv => whnf) | (refine Exists.intro _ (And.intro (rfl : _ = some _) ?_); with_reducible conv => whnf) | (refine And.intro (okII _ _) ?_; rw [eqD_ii]; with_reducible conv => whnf) | (refine And.intro (by first | assumption | exact Exists.intro _ (by assumption) | exact ⟨rfl, rfl, by decide, by decide⟩ | exact Nat.le_of_ble_eq_true rfl | exact rfl) ?_; with_reducible conv => whnf) | (rw [isLst_at (by assumption)]; with_reducible conv => whnf) | (refine ifT rfl ?_; with_reducible conv => whnf) | (refine ifF rfl ?_; with_reducible conv => whnf) | (refine it_at (by assumption) ?_; with_reducible conv => whnf)))
  obtain ⟨h1, h2⟩ := smS_dd ha hb
  refine ⟨_, _, rfl, h1, h2, fun S' h => ?_⟩
  rw [q_plus]
  exact k S' h
theorem body_law_mul : Body 2 2 (w_law_mul sp_frac) sp_smul := by
  rintro ds S Q _ ⟨a, b, rfl, ha, hb, k⟩
  unfold w_law_mul
  (simp only [start, List.map_cons, List.map_nil, List.length_cons, List.length_nil, Nat.reduceAdd, Nat.reduceSub, List.replicate_succ, List.replicate_zero, List.cons_append, List.nil_append, Nat.sub_self, Nat.zero_add])
  ((with_reducible conv => whnf); repeat (first | (rw [natD_len]; with_reducible conv => whnf) | (rw [intD_len]; with_reducible conv => whnf) | (refine Exists.intro _ (And.intro (rfl : _ = some _) ?_); with_reducible conv => whnf) | (refine And.intro (okII _ _) ?_; rw [eqD_ii]; with_reducible conv => whnf) | (refine And.intro (by first | assumption | exact Exists.intro _ (by assumption) | exact ⟨rfl, rfl, by decide, by decide⟩ | exact Nat.le_of_ble_eq_true rfl | exact rfl) ?_; with_reducible conv => whnf) | (rw [isLst_at (by assumption)]; with_reducible conv => whnf) | (refine ifT rfl ?_; with_reducible conv => whnf) | (refine ifF rfl ?_; with_reducible conv => whnf) | (refine it_at (by assumption) ?_; with_reducible conv => whnf)))
  refine ⟨sm_nn ha.B hb.B, ?_⟩
  ((with_reducible conv => whnf); repeat (first | (rw [natD_len]; with_reducible conv => whnf) | (rw [intD_len]; with_reducible conv => whnf) | (refine Exists.intro _ (And.intro (rfl : _ = some _) ?_); with_reducible conv => whnf) | (refine And.intro (okII _ _) ?_; rw [eqD_ii]; with_reducible conv => whnf) | (refine And.intro (by first | assumption | exact Exists.intro _ (by assumption) | exact ⟨rfl, rfl, by decide, by decide⟩ | exact Nat.le_of_ble_eq_true rfl | exact rfl) ?_; with_reducible conv => whnf) | (rw [isLst_at (by assumption)]; with_reducible conv => whnf) | (refine ifT rfl ?_; with_reducible conv => whnf) | (refine ifF rfl ?_; with_reducible conv => whnf) | (refine it_at (by assumption) ?_; with_reducible conv => whnf)))
  refine ⟨sm_mm ha.B hb.B, ?_⟩
  ((with_reducible conv => whnf); repeat (first | (rw [natD_len]; with_reducible conv => whnf) | (rw [intD_len]; with_reducible conv => whnf) | (refine Exists.intro _ (And.intro (rfl : _ = some _) ?_); with_reducible conv => whnf) | (refine And.intro (okII _ _) ?_; rw [eqD_ii]; with_reducible conv => whnf) | (refine And.intro (by first | assumption | exact Exists.intro _ (by assumption) | exact ⟨rfl, rfl, by decide, by decide⟩ | exact Nat.le_of_ble_eq_true rfl | exact rfl) ?_; with_reducible conv => whnf) | (rw [isLst_at (by assumption)]; with_reducible conv => whnf) | (refine ifT rfl ?_; with_reducible conv => whnf) | (refine ifF rfl ?_; with_reducible conv => whnf) | (refine it_at (by assumption) ?_; with_reducible conv => whnf)))
  obtain ⟨h1, h2⟩ := smS_dd ha hb
  refine ⟨_, _, rfl, h1, h2, fun S' h => ?_⟩
  rw [q_times]
  exact k S' h
theorem body_is_less : Body 2 2 w_is_less sp_less := by
  rintro ds S Q _ ⟨a, b, rfl, ha, hb, k⟩
  unfold w_is_less
  (simp only [start, List.map_cons, List.map_nil, List.length_cons, List.length_nil, Nat.reduceAdd, Nat.reduceSub, List.replicate_succ, List.replicate_zero, List.cons_append, List.nil_append, Nat.sub_self, Nat.zero_add])
  ((with_reducible conv => whnf); repeat (first | (rw [natD_len]; with_reducible conv => whnf) | (rw [intD_len]; with_reducible conv => whnf) | (refine Exists.intro _ (And.intro (rfl : _ = some _) ?_); with_reducible conv => whnf) | (refine And.intro (okII _ _) ?_; rw [eqD_ii]; with_reducible conv => whnf) | (refine And.intro (by first | assumption | exact Exists.intro _ (by assumption) | exact ⟨rfl, rfl, by decide, by decide⟩ | exact Nat.le_of_ble_eq_true rfl | exact rfl) ?_; with_reducible conv => whnf) | (rw [isLst_at (by assumption)]; with_reducible conv => whnf) | (refine ifT rfl ?_; with_reducible conv => whnf) | (refine ifF rfl ?_; with_reducible conv => whnf) | (refine it_at (by assumption) ?_; with_reducible conv => whnf)))
  refine ⟨sm_mn ha hb, ?_⟩
  ((with_reducible conv => whnf); repeat (first | (rw [natD_len]; with_reducible conv => whnf) | (rw [intD_len]; with_reducible conv => whnf) | (refine Exists.intro _ (And.intro (rfl : _ = some _) ?_); with_reducible conv => whnf) | (refine And.intro (okII _ _) ?_; rw [eqD_ii]; with_reducible conv => whnf) | (refine And.intro (by first | assumption | exact Exists.intro _ (by assumption) | exact ⟨rfl, rfl, by decide, by decide⟩ | exact Nat.le_of_ble_eq_true rfl | exact rfl) ?_; with_reducible conv => whnf) | (rw [isLst_at (by assumption)]; with_reducible conv => whnf) | (refine ifT rfl ?_; with_reducible conv => whnf) | (refine ifF rfl ?_; with_reducible conv => whnf) | (refine it_at (by assumption) ?_; with_reducible conv => whnf)))
  refine ⟨sm_mn hb ha, ?_⟩
  ((with_reducible conv => whnf); repeat (first | (rw [natD_len]; with_reducible conv => whnf) | (rw [intD_len]; with_reducible conv => whnf) | (refine Exists.intro _ (And.intro (rfl : _ = some _) ?_); with_reducible conv => whnf) | (refine And.intro (okII _ _) ?_; rw [eqD_ii]; with_reducible conv => whnf) | (refine And.intro (by first | assumption | exact Exists.intro _ (by assumption) | exact ⟨rfl, rfl, by decide, by decide⟩ | exact Nat.le_of_ble_eq_true rfl | exact rfl) ?_; with_reducible conv => whnf) | (rw [isLst_at (by assumption)]; with_reducible conv => whnf) | (refine ifT rfl ?_; with_reducible conv => whnf) | (refine ifF rfl ?_; with_reducible conv => whnf) | (refine it_at (by assumption) ?_; with_reducible conv => whnf)))
  have := k S (Sub.refl _)
  rw [← q_lt] at this
  exact this
theorem body_law_is_less : Body 2 2 w_law_is_less sp_less := by
  rintro ds S Q _ ⟨a, b, rfl, ha, hb, k⟩
  unfold w_law_is_less
  (simp only [start, List.map_cons, List.map_nil, List.length_cons, List.length_nil, Nat.reduceAdd, Nat.reduceSub, List.replicate_succ, List.replicate_zero, List.cons_append, List.nil_append, Nat.sub_self, Nat.zero_add])
  ((with_reducible conv => whnf); repeat (first | (rw [natD_len]; with_reducible conv => whnf) | (rw [intD_len]; with_reducible conv => whnf) | (refine Exists.intro _ (And.intro (rfl : _ = some _) ?_); with_reducible conv => whnf) | (refine And.intro (okII _ _) ?_; rw [eqD_ii]; with_reducible conv => whnf) | (refine And.intro (by first | assumption | exact Exists.intro _ (by assumption) | exact ⟨rfl, rfl, by decide, by decide⟩ | exact Nat.le_of_ble_eq_true rfl | exact rfl) ?_; with_reducible conv => whnf) | (rw [isLst_at (by assumption)]; with_reducible conv => whnf) | (refine ifT rfl ?_; with_reducible conv => whnf) | (refine ifF rfl ?_; with_reducible conv => whnf) | (refine it_at (by assumption) ?_; with_reducible conv => whnf)))
  refine ⟨sm_mn ha hb, ?_⟩
  ((with_reducible conv => whnf); repeat (first | (rw [natD_len]; with_reducible conv => whnf) | (rw [intD_len]; with_reducible conv => whnf) | (refine Exists.intro _ (And.intro (rfl : _ = some _) ?_); with_reducible conv => whnf) | (refine And.intro (okII _ _) ?_; rw [eqD_ii]; with_reducible conv => whnf) | (refine And.intro (by first | assumption | exact Exists.intro _ (by assumption) | exact ⟨rfl, rfl, by decide, by decide⟩ | exact Nat.le_of_ble_eq_true rfl | exact rfl) ?_; with_reducible conv => whnf) | (rw [isLst_at (by assumption)]; with_reducible conv => whnf) | (refine ifT rfl ?_; with_reducible conv => whnf) | (refine ifF rfl ?_; with_reducible conv => whnf) | (refine it_at (by assumption) ?_; with_reducible conv => whnf)))
  refine ⟨sm_mn hb ha, ?_⟩
  ((with_reducible conv => whnf); repeat (first | (rw [natD_len]; with_reducible conv => whnf) | (rw [intD_len]; with_reducible conv => whnf) | (refine Exists.intro _ (And.intro (rfl : _ = some _) ?_); with_reducible conv => whnf) | (refine And.intro (okII _ _) ?_; rw [eqD_ii]; with_reducible conv => whnf) | (refine And.intro (by first | assumption | exact Exists.intro _ (by assumption) | exact ⟨rfl, rfl, by decide, by decide⟩ | exact Nat.le_of_ble_eq_true rfl | exact rfl) ?_; with_reducible conv => whnf) | (rw [isLst_at (by assumption)]; with_reducible conv => whnf) | (refine ifT rfl ?_; with_reducible conv => whnf) | (refine ifF rfl ?_; with_reducible conv => whnf) | (refine it_at (by assumption) ?_; with_reducible conv => whnf)))
  have := k S (Sub.refl _)
  rw [← q_lt] at this
  exact this
theorem qD_inv (m : Nat) : qD (1 / ((m + 1 : Nat) : Rat)) = .tup [.int 1, .int (m + 1 : Nat)] := by
  have e : (1 : Rat) / ((m + 1 : Nat) : Rat) = Rat.divInt 1 ((m + 1 : Nat) : Int) := (divInt_eq _ _).symm
  unfold qD
  rw [e, Rat.num_divInt, Rat.den_divInt, if_neg (by omega), Int.sign_eq_one_of_pos (by omega)]
  have g : Int.gcd ((m + 1 : Nat) : Int) 1 = 1 := by
    show Nat.gcd _ 1 = 1
    exact Nat.gcd_one_right _
  rw [g, Int.natAbs_natCast, Nat.div_one]
  rfl
theorem qD_inv' {m : Nat} (h : 0 < m) : D.tup [.int 1, .int (m : Nat)] = qD (1 / (m : Rat)) := by
  have := qD_inv (m - 1)
  rw [show m - 1 + 1 = m by omega] at this
  exact this.symm
theorem Ov_inv {m : Nat} (h : 0 < m) : Ov m (1 / (m : Rat)) := by
  have := Ov.over (P := 1) (Ov_int 1 1) (k := m) (by omega)
  rw [Nat.one_mul] at this
  exact this
theorem inv_sm {m : Nat} (h : 0 < m) (h2 : m ≤ 1000) : smS (1 / (m : Rat)) := by
  have a := inv_pos h
  have b := inv_le h
  exact smS_of (M := 1) (Ov_inv h) h (by show -(1 : Rat) ≤ _; grind) (by show _ ≤ (1 : Rat); grind) (Nat.lt_of_lt_of_le (show m < 2 ^ 10 by omega) (pow_le2 (by decide))) (Nat.one_lt_pow (by decide) (by decide))
theorem fct_dvd {j m : Nat} (h : j ≤ m) : fct j ∣ fct m := by
  induction h with
  | refl => exact Nat.dvd_refl _
  | step _ ih => exact Nat.dvd_trans ih (Nat.dvd_mul_right _ _)
theorem dvd_fct {k m : Nat} (h0 : 0 < k) (h : k ≤ m) : k ∣ fct m := by
  refine Nat.dvd_trans ?_ (fct_dvd h)
  obtain ⟨j, rfl⟩ : ∃ j, k = j + 1 := ⟨k - 1, by omega⟩
  exact Nat.dvd_mul_left _ _
theorem fct_300 : fct 300 < 2 ^ 4400 := by decide +kernel
theorem fct_200 : fct 200 < 2 ^ 1300 := by decide +kernel
theorem fct_mono {j m : Nat} (h : j ≤ m) : fct j ≤ fct m := Nat.le_of_dvd (fct_pos m) (fct_dvd h)
theorem AS_ov {r m : Nat} (h : 0 < r) : ∀ j, r + j ≤ m + 1 → Ov (fct m) (AS r j)
  | 0, _ => Ov_int _ 0
  | j + 1, hj => (AS_ov h j (by omega)).add ((Ov_inv (show 0 < r + j by omega)).mono (dvd_fct (by omega) (by omega)))
theorem HS_ov {n m : Nat} : ∀ j, j < n → n ≤ m + 1 → Ov (fct m) (HS n j)
  | 0, _, _ => Ov_int _ 0
  | j + 1, hj, hm => (HS_ov j (by omega) hm).add ((Ov_inv (show 0 < n - 1 - j by omega)).mono (dvd_fct (by omega) (by omega)))
theorem HS_nn {n : Nat} : ∀ j, j < n → 0 ≤ HS n j ∧ HS n j ≤ (j : Rat) := fun j h => by
  rw [HS_AS n j h]
  exact AS_nn (by omega) j
theorem HS_sm {n j : Nat} (h : j < n) (hn : n ≤ 301) : smB (HS n j) := by
  have a := HS_nn j h
  exact smB_of (M := j) (HS_ov (m := 300) j h hn) (fct_pos _) (by have : (0 : Rat) ≤ (j : Rat) := by exact_mod_cast Nat.zero_le _
                                                                  grind) a.2 fct_300 (by omega)
theorem AS_sm {r j : Nat} (h : 0 < r) (hn : r + j ≤ 201) : smS (AS r j) := by
  have a := AS_nn h j
  exact smS_of (M := j) (AS_ov (m := 200) h j hn) (fct_pos _) (by have : (0 : Rat) ≤ (j : Rat) := by exact_mod_cast Nat.zero_le _
                                                                  grind) a.2 fct_200 (Nat.lt_of_lt_of_le (show j < 2 ^ 10 by omega) (pow_le2 (by decide)))
theorem one_sm : smB 1 := ⟨Nat.one_lt_pow (by decide) (by decide), Nat.one_lt_pow (by decide) (by decide)⟩
@[reducible] def sp_bp : Spc := fun ds S Q => ∃ n : Nat, ds = [.int n] ∧ 1 ≤ n ∧ n ≤ 301 ∧ ∀ S', Sub S S' → Q (.int (bestP n : Nat)) S'
theorem body_best_pass : Body 3 1 (w_best_pass sp_badd sp_less) sp_bp := by
  rintro ds S Q _ ⟨n, rfl, h0, h1, k⟩
  unfold w_best_pass
  (simp only [start, List.map_cons, List.map_nil, List.length_cons, List.length_nil, Nat.reduceAdd, Nat.reduceSub, List.replicate_succ, List.replicate_zero, List.cons_append, List.nil_append, Nat.sub_self, Nat.zero_add])
  ((with_reducible conv => whnf); repeat (first | (rw [natD_len]; with_reducible conv => whnf) | (rw [intD_len]; with_reducible conv => whnf) | (refine Exists.intro _ (And.intro (rfl : _ = some _) ?_); with_reducible conv => whnf) | (refine And.intro (okII _ _) ?_; rw [eqD_ii]; with_reducible conv => whnf) | (refine And.intro (by first | assumption | exact Exists.intro _ (by assumption) | exact ⟨rfl, rfl, by decide, by decide⟩ | exact Nat.le_of_ble_eq_true rfl | exact rfl) ?_; with_reducible conv => whnf) | (rw [isLst_at (by assumption)]; with_reducible conv => whnf) | (refine ifT rfl ?_; with_reducible conv => whnf) | (refine ifF rfl ?_; with_reducible conv => whnf) | (refine it_at (by assumption) ?_; with_reducible conv => whnf)))
  refine ⟨⟨by decide, ⟨by decide, by decide⟩, ⟨by omega, by omega⟩, by decide, by decide⟩, ?_⟩
  have hrn : rg3N ((n : Int) - 1) 0 (-1) = n - 1 := by
    unfold rg3N
    rw [if_neg (by decide), show -(-1 : Int) = 1 from rfl, Int.ediv_one]
    split <;> omega
  have hget : ∀ (i : Nat) d, (rangeD3 ((n : Int) - 1) 0 (-1))[i]? = some d → i < n - 1 ∧ d = .int ((n - 1 - i : Nat) : Int) := by
    intro i d h
    unfold rangeD3 at h
    rw [hrn, List.getElem?_map] at h
    by_cases hi : i < n - 1
    · rw [List.getElem?_range hi] at h
      refine ⟨hi, ?_⟩
      rw [← Option.some.inj h]
      show D.int ((n : Int) - 1 + (i : Int) * -1) = _
      congr 1
      omega
    · rw [List.getElem?_eq_none (by simpa using hi)] at h
      cases h
  have hrl : (rangeD3 ((n : Int) - 1) 0 (-1)).length = n - 1 := by
    unfold rangeD3
    rw [hrn, List.length_map, List.length_range]
  refine Loop_mk (fun i ρ S' => ∃ o2, ρ = [some (.int n), some (qD (HS n i)), o2] ∧ i < n ∧ bpF n (n - 1 - i) (HS n i) = bestP n ∧ Sub S S') ⟨none, rfl, by omega, rfl, Sub.refl _⟩ (by intros; trivial) ?_ ?_
  · rintro i d ρ' S' hi ⟨o2, rfl, hin, hb, hs⟩
    obtain ⟨hi1, rfl⟩ := hget i d hi
    ((with_reducible conv => whnf); repeat (first | (rw [natD_len]; with_reducible conv => whnf) | (rw [intD_len]; with_reducible conv => whnf) | (refine Exists.intro _ (And.intro (rfl : _ = some _) ?_); with_reducible conv => whnf) | (refine And.intro (okII _ _) ?_; rw [eqD_ii]; with_reducible conv => whnf) | (refine And.intro (by first | assumption | exact Exists.intro _ (by assumption) | exact ⟨rfl, rfl, by decide, by decide⟩ | exact Nat.le_of_ble_eq_true rfl | exact rfl) ?_; with_reducible conv => whnf) | (rw [isLst_at (by assumption)]; with_reducible conv => whnf) | (refine ifT rfl ?_; with_reducible conv => whnf) | (refine ifF rfl ?_; with_reducible conv => whnf) | (refine it_at (by assumption) ?_; with_reducible conv => whnf)))
    refine ⟨_, 1 / ((n - 1 - i : Nat) : Rat), by rw [qD_inv' (show 0 < n - 1 - i by omega)], HS_sm hin h1, (inv_sm (by omega) (by omega)).B, fun S2 h2 => ?_⟩
    have e : HS n i + 1 / ((n - 1 - i : Nat) : Rat) = HS n (i + 1) := rfl
    rw [e]
    ((with_reducible conv => whnf); repeat (first | (rw [natD_len]; with_reducible conv => whnf) | (rw [intD_len]; with_reducible conv => whnf) | (refine Exists.intro _ (And.intro (rfl : _ = some _) ?_); with_reducible conv => whnf) | (refine And.intro (okII _ _) ?_; rw [eqD_ii]; with_reducible conv => whnf) | (refine And.intro (by first | assumption | exact Exists.intro _ (by assumption) | exact ⟨rfl, rfl, by decide, by decide⟩ | exact Nat.le_of_ble_eq_true rfl | exact rfl) ?_; with_reducible conv => whnf) | (rw [isLst_at (by assumption)]; with_reducible conv => whnf) | (refine ifT rfl ?_; with_reducible conv => whnf) | (refine ifF rfl ?_; with_reducible conv => whnf) | (refine it_at (by assumption) ?_; with_reducible conv => whnf)))
    refine ⟨1, HS n (i + 1), rfl, one_sm, HS_sm (by omega) h1, fun S3 h3 => ?_⟩
    have hbp : bpF n (n - 1 - i) (HS n i) = if 1 < HS n (i + 1) then (if 2 < n then n - 1 - i else 0) else bpF n (n - 1 - (i + 1)) (HS n (i + 1)) := by
      obtain ⟨j, hj⟩ : ∃ j, n - 1 - i = j + 1 := ⟨n - 1 - i - 1, by omega⟩
      rw [← e, hj, show n - 1 - (i + 1) = j by omega]
      rfl
    have hs3 := (hs.trans h2).trans h3
    ((with_reducible conv => whnf); repeat (first | (rw [natD_len]; with_reducible conv => whnf) | (rw [intD_len]; with_reducible conv => whnf) | (refine Exists.intro _ (And.intro (rfl : _ = some _) ?_); with_reducible conv => whnf) | (refine And.intro (okII _ _) ?_; rw [eqD_ii]; with_reducible conv => whnf) | (refine And.intro (by first | assumption | exact Exists.intro _ (by assumption) | exact ⟨rfl, rfl, by decide, by decide⟩ | exact Nat.le_of_ble_eq_true rfl | exact rfl) ?_; with_reducible conv => whnf) | (rw [isLst_at (by assumption)]; with_reducible conv => whnf) | (refine ifT rfl ?_; with_reducible conv => whnf) | (refine ifF rfl ?_; with_reducible conv => whnf) | (refine it_at (by assumption) ?_; with_reducible conv => whnf)))
    refine ite_d (fun hc => ?_) fun hc => ?_
    · rw [if_pos hc, hb] at hbp
      have fin := k _ hs3
      rw [hbp] at fin
      ((with_reducible conv => whnf); repeat (first | (rw [natD_len]; with_reducible conv => whnf) | (rw [intD_len]; with_reducible conv => whnf) | (refine Exists.intro _ (And.intro (rfl : _ = some _) ?_); with_reducible conv => whnf) | (refine And.intro (okII _ _) ?_; rw [eqD_ii]; with_reducible conv => whnf) | (refine And.intro (by first | assumption | exact Exists.intro _ (by assumption) | exact ⟨rfl, rfl, by decide, by decide⟩ | exact Nat.le_of_ble_eq_true rfl | exact rfl) ?_; with_reducible conv => whnf) | (rw [isLst_at (by assumption)]; with_reducible conv => whnf) | (refine ifT rfl ?_; with_reducible conv => whnf) | (refine ifF rfl ?_; with_reducible conv => whnf) | (refine it_at (by assumption) ?_; with_reducible conv => whnf)))
      refine ite_d (fun hc2 => ?_) fun hc2 => ?_
      · rw [if_pos (by omega)] at fin
        exact fin
      · rw [if_neg (by omega)] at fin
        exact fin
    · rw [if_neg hc, hb] at hbp
      exact ⟨_, rfl, by omega, hbp.symm, hs3⟩
  · rintro ρ' S' ⟨o2, rfl, hin, hb, hs⟩
    rw [hrl, Nat.sub_self] at hb
    have fin := k _ hs
    rw [← hb] at fin
    exact fin
end K91
set_option linter.all false
set_option maxRecDepth 100000
set_option exponentiation.threshold 10000
set_option maxHeartbeats 4000000
namespace K91
open DL
/-- top over low: the sum of 1 / k from r on, j of them -/
structure Frc (r j : Nat) (T C : Int) : Prop where
  eq : (T : Rat) = AS r j * (C : Rat)
  pos : 0 < C
  le : C.natAbs ≤ 300 ^ j
theorem Frc.zero (r : Nat) : Frc r 0 0 1 := ⟨by show ((0 : Int) : Rat) = 0 * ((1 : Int) : Rat); rw [show ((0 : Int) : Rat) = 0 from rfl]; grind, by decide, by decide⟩
theorem Frc.step {r j : Nat} {T C : Int} (h : Frc r j T C) (h0 : 0 < r) (h1 : r + j ≤ 300) : Frc r (j + 1) (T * ((r + j : Nat) : Int) + C) (C * ((r + j : Nat) : Int)) := by
  have hk : (0 : Int) < ((r + j : Nat) : Int) := by omega
  refine ⟨?_, Int.mul_pos h.pos hk, ?_⟩
  · rw [Rat.intCast_add, Rat.intCast_mul, Rat.intCast_mul, h.eq]
    show AS r j * (C : Rat) * ((r + j : Nat) : Rat) + (C : Rat) = (AS r j + 1 / ((r + j : Nat) : Rat)) * ((C : Rat) * ((r + j : Nat) : Rat))
    have hk : (1 : Rat) ≤ ((r + j : Nat) : Rat) := by exact_mod_cast (show 1 ≤ r + j by omega)
    generalize ((r + j : Nat) : Rat) = k at *
    grind
  · rw [Int.natAbs_mul, Int.natAbs_natCast, Nat.pow_succ]
    exact Nat.mul_le_mul h.le h1
theorem p300 {j : Nat} (h : j ≤ 299) : 300 * 300 ^ j < 2 ^ 2600 := by
  have h1 : 300 ^ j ≤ 300 ^ 299 := Nat.pow_le_pow_right (by decide) h
  have h2 : 300 * 300 ^ 299 < 2 ^ 2600 := by decide +kernel
  omega
theorem Frc.div {r j n : Nat} {T C : Int} (h : Frc r j T C) (hn : 0 < n) (k : Nat) : Rat.divInt ((k : Int) * T) ((n : Int) * C) = (k : Rat) / (n : Rat) * AS r j := by
  rw [divInt_eq, Rat.intCast_mul, Rat.intCast_mul, h.eq]
  show (k : Rat) * (AS r j * (C : Rat)) / ((n : Rat) * (C : Rat)) = _
  have h1 : (1 : Rat) ≤ (n : Rat) := by exact_mod_cast hn
  have h2 : (0 : Rat) < (C : Rat) := by exact_mod_cast h.pos
  generalize (n : Rat) = a at *
  generalize (C : Rat) = c at *
  grind
theorem Frc.den {r j n : Nat} {T C : Int} (h : Frc r j T C) (hn : 0 < n) (hn2 : n ≤ 300) (hj : j ≤ 299) : (n : Int) * C ≠ 0 ∧ ((n : Int) * C).natAbs < 2 ^ 2600 := by
  refine ⟨Int.mul_ne_zero (by omega) (by have := h.pos; omega), ?_⟩
  rw [Int.natAbs_mul, Int.natAbs_natCast]
  exact Nat.lt_of_le_of_lt (Nat.mul_le_mul hn2 h.le) (p300 hj)
@[reducible] def sp_ctb : Spc := fun ds S Q => ∃ n r : Nat, ds = [.int n, .int r] ∧ r < n ∧ n ≤ 300 ∧ ∀ S', Sub S S' → Q (qD (chQ n r)) S'
theorem body_chance_to_best : Body 5 2 (w_chance_to_best sp_ratio) sp_ctb := by
  rintro ds S Q _ ⟨n, r, rfl, h0, h1, k⟩
  unfold w_chance_to_best
  (simp only [start, List.map_cons, List.map_nil, List.length_cons, List.length_nil, Nat.reduceAdd, Nat.reduceSub, List.replicate_succ, List.replicate_zero, List.cons_append, List.nil_append, Nat.sub_self, Nat.zero_add])
  ((with_reducible conv => whnf); repeat (first | (rw [natD_len]; with_reducible conv => whnf) | (rw [intD_len]; with_reducible conv => whnf) | (refine Exists.intro _ (And.intro (rfl : _ = some _) ?_); with_reducible conv => whnf) | (refine And.intro (okII _ _) ?_; rw [eqD_ii]; with_reducible conv => whnf) | (refine And.intro (by first | assumption | exact Exists.intro _ (by assumption) | exact ⟨rfl, rfl, by decide, by decide⟩ | exact Nat.le_of_ble_eq_true rfl | exact rfl) ?_; with_reducible conv => whnf) | (rw [isLst_at (by assumption)]; with_reducible conv => whnf) | (refine ifT rfl ?_; with_reducible conv => whnf) | (refine ifF rfl ?_; with_reducible conv => whnf) | (refine it_at (by assumption) ?_; with_reducible conv => whnf)))
  refine ite_d (fun hc => ?_) fun hc => ?_
  · have : r = 0 := by omega
    subst this
    have := k S (Sub.refl _)
    rw [show chQ n 0 = 1 / (n : Rat) from rfl, ← qD_inv' (by omega)] at this
    ((with_reducible conv => whnf); repeat (first | (rw [natD_len]; with_reducible conv => whnf) | (rw [intD_len]; with_reducible conv => whnf) | (refine Exists.intro _ (And.intro (rfl : _ = some _) ?_); with_reducible conv => whnf) | (refine And.intro (okII _ _) ?_; rw [eqD_ii]; with_reducible conv => whnf) | (refine And.intro (by first | assumption | exact Exists.intro _ (by assumption) | exact ⟨rfl, rfl, by decide, by decide⟩ | exact Nat.le_of_ble_eq_true rfl | exact rfl) ?_; with_reducible conv => whnf) | (rw [isLst_at (by assumption)]; with_reducible conv => whnf) | (refine ifT rfl ?_; with_reducible conv => whnf) | (refine ifF rfl ?_; with_reducible conv => whnf) | (refine it_at (by assumption) ?_; with_reducible conv => whnf)))
    exact this
  · ((with_reducible conv => whnf); repeat (first | (rw [natD_len]; with_reducible conv => whnf) | (rw [intD_len]; with_reducible conv => whnf) | (refine Exists.intro _ (And.intro (rfl : _ = some _) ?_); with_reducible conv => whnf) | (refine And.intro (okII _ _) ?_; rw [eqD_ii]; with_reducible conv => whnf) | (refine And.intro (by first | assumption | exact Exists.intro _ (by assumption) | exact ⟨rfl, rfl, by decide, by decide⟩ | exact Nat.le_of_ble_eq_true rfl | exact rfl) ?_; with_reducible conv => whnf) | (rw [isLst_at (by assumption)]; with_reducible conv => whnf) | (refine ifT rfl ?_; with_reducible conv => whnf) | (refine ifF rfl ?_; with_reducible conv => whnf) | (refine it_at (by assumption) ?_; with_reducible conv => whnf)))
    refine ⟨⟨by omega, by omega⟩, ⟨by omega, by omega⟩, ?_⟩
    refine Loop_mk (fun i ρ S' => ∃ T C o4, ρ = [some (.int n), some (.int r), some (.int T), some (.int C), o4] ∧ Frc r i T C ∧ S' = S) ⟨0, 1, none, rfl, Frc.zero r, rfl⟩ (by intros; trivial) ?_ ?_
    · rintro i d ρ' S' hi ⟨T, C, o4, rfl, hF, rfl⟩
      obtain ⟨hi1, rfl⟩ := rangeD_get hi
      rw [show (r : Int) + i = ((r + i : Nat) : Int) by omega]
      ((with_reducible conv => whnf); repeat (first | (rw [natD_len]; with_reducible conv => whnf) | (rw [intD_len]; with_reducible conv => whnf) | (refine Exists.intro _ (And.intro (rfl : _ = some _) ?_); with_reducible conv => whnf) | (refine And.intro (okII _ _) ?_; rw [eqD_ii]; with_reducible conv => whnf) | (refine And.intro (by first | assumption | exact Exists.intro _ (by assumption) | exact ⟨rfl, rfl, by decide, by decide⟩ | exact Nat.le_of_ble_eq_true rfl | exact rfl) ?_; with_reducible conv => whnf) | (rw [isLst_at (by assumption)]; with_reducible conv => whnf) | (refine ifT rfl ?_; with_reducible conv => whnf) | (refine ifF rfl ?_; with_reducible conv => whnf) | (refine it_at (by assumption) ?_; with_reducible conv => whnf)))
      refine ⟨smallMul (by omega), ?_⟩
      ((with_reducible conv => whnf); repeat (first | (rw [natD_len]; with_reducible conv => whnf) | (rw [intD_len]; with_reducible conv => whnf) | (refine Exists.intro _ (And.intro (rfl : _ = some _) ?_); with_reducible conv => whnf) | (refine And.intro (okII _ _) ?_; rw [eqD_ii]; with_reducible conv => whnf) | (refine And.intro (by first | assumption | exact Exists.intro _ (by assumption) | exact ⟨rfl, rfl, by decide, by decide⟩ | exact Nat.le_of_ble_eq_true rfl | exact rfl) ?_; with_reducible conv => whnf) | (rw [isLst_at (by assumption)]; with_reducible conv => whnf) | (refine ifT rfl ?_; with_reducible conv => whnf) | (refine ifF rfl ?_; with_reducible conv => whnf) | (refine it_at (by assumption) ?_; with_reducible conv => whnf)))
      refine ⟨smallMul (by omega), ?_⟩
      exact ⟨_, _, _, rfl, hF.step (by omega) (by omega), rfl⟩
    · rintro ρ' S' ⟨T, C, o4, rfl, hF, rfl⟩
      rw [rangeD_len, show ((n : Int) - r).toNat = n - r by omega] at hF
      ((with_reducible conv => whnf); repeat (first | (rw [natD_len]; with_reducible conv => whnf) | (rw [intD_len]; with_reducible conv => whnf) | (refine Exists.intro _ (And.intro (rfl : _ = some _) ?_); with_reducible conv => whnf) | (refine And.intro (okII _ _) ?_; rw [eqD_ii]; with_reducible conv => whnf) | (refine And.intro (by first | assumption | exact Exists.intro _ (by assumption) | exact ⟨rfl, rfl, by decide, by decide⟩ | exact Nat.le_of_ble_eq_true rfl | exact rfl) ?_; with_reducible conv => whnf) | (rw [isLst_at (by assumption)]; with_reducible conv => whnf) | (refine ifT rfl ?_; with_reducible conv => whnf) | (refine ifF rfl ?_; with_reducible conv => whnf) | (refine it_at (by assumption) ?_; with_reducible conv => whnf)))
      refine ⟨smallMul' (by omega), ?_⟩
      ((with_reducible conv => whnf); repeat (first | (rw [natD_len]; with_reducible conv => whnf) | (rw [intD_len]; with_reducible conv => whnf) | (refine Exists.intro _ (And.intro (rfl : _ = some _) ?_); with_reducible conv => whnf) | (refine And.intro (okII _ _) ?_; rw [eqD_ii]; with_reducible conv => whnf) | (refine And.intro (by first | assumption | exact Exists.intro _ (by assumption) | exact ⟨rfl, rfl, by decide, by decide⟩ | exact Nat.le_of_ble_eq_true rfl | exact rfl) ?_; with_reducible conv => whnf) | (rw [isLst_at (by assumption)]; with_reducible conv => whnf) | (refine ifT rfl ?_; with_reducible conv => whnf) | (refine ifF rfl ?_; with_reducible conv => whnf) | (refine it_at (by assumption) ?_; with_reducible conv => whnf)))
      refine ⟨smallMul' (by omega), ?_⟩
      ((with_reducible conv => whnf); repeat (first | (rw [natD_len]; with_reducible conv => whnf) | (rw [intD_len]; with_reducible conv => whnf) | (refine Exists.intro _ (And.intro (rfl : _ = some _) ?_); with_reducible conv => whnf) | (refine And.intro (okII _ _) ?_; rw [eqD_ii]; with_reducible conv => whnf) | (refine And.intro (by first | assumption | exact Exists.intro _ (by assumption) | exact ⟨rfl, rfl, by decide, by decide⟩ | exact Nat.le_of_ble_eq_true rfl | exact rfl) ?_; with_reducible conv => whnf) | (rw [isLst_at (by assumption)]; with_reducible conv => whnf) | (refine ifT rfl ?_; with_reducible conv => whnf) | (refine ifF rfl ?_; with_reducible conv => whnf) | (refine it_at (by assumption) ?_; with_reducible conv => whnf)))
      obtain ⟨d1, d2⟩ := hF.den (show 0 < n by omega) h1 (by omega)
      refine ⟨_, _, rfl, d1, Nat.lt_of_lt_of_le d2 (pow_le2 (by decide)), fun S2 h2 => ?_⟩
      rw [hF.div (by omega)]
      have := k S2 h2
      rw [show chQ n r = (r : Rat) / (n : Rat) * AS r (n - r) from if_neg (by omega)] at this
      exact this
@[reducible] def sp_lch : Spc := fun ds S Q => ∃ n r : Nat, ds = [.int n, .int r] ∧ r < n ∧ n ≤ 200 ∧ ∀ S', Sub S S' → Q (qD (chQ n r)) S'
theorem frac_sm {r n : Nat} (h0 : 0 < n) (h1 : n ≤ 200) (h2 : r ≤ n) : smS ((r : Rat) / (n : Rat)) := by
  have ov := Ov.over (P := 1) (Ov_int 1 (r : Int)) (k := n) (by omega)
  rw [Nat.one_mul] at ov
  have hn : (1 : Rat) ≤ (n : Rat) := by exact_mod_cast h0
  have hr : (0 : Rat) ≤ (r : Rat) := by exact_mod_cast Nat.zero_le _
  have hrn : (r : Rat) ≤ (n : Rat) := by exact_mod_cast h2
  have e : (r : Rat) / (n : Rat) * (n : Rat) = r := Rat.div_mul_cancel (by grind)
  have b : 0 ≤ (r : Rat) / (n : Rat) ∧ (r : Rat) / (n : Rat) ≤ 1 := by
    constructor
    · false_or_by_contra
      have := Rat.mul_lt_mul_of_pos_right (show (r : Rat) / (n : Rat) < 0 by grind) (show 0 < (n : Rat) by grind)
      grind
    · false_or_by_contra
      have := Rat.mul_lt_mul_of_pos_right (show 1 < (r : Rat) / (n : Rat) by grind) (show 0 < (n : Rat) by grind)
      grind
  exact smS_of (M := 1) ov h0 (by show -(1 : Rat) ≤ _; grind) (by show _ ≤ (1 : Rat); grind) (Nat.lt_of_lt_of_le (show n < 2 ^ 10 by omega) (pow_le2 (by decide))) (Nat.one_lt_pow (by decide) (by decide))
theorem body_law_chance : Body 4 2 (w_law_chance sp_sadd sp_frac sp_smul) sp_lch := by
  rintro ds S Q _ ⟨n, r, rfl, h0, h1, k⟩
  unfold w_law_chance
  (simp only [start, List.map_cons, List.map_nil, List.length_cons, List.length_nil, Nat.reduceAdd, Nat.reduceSub, List.replicate_succ, List.replicate_zero, List.cons_append, List.nil_append, Nat.sub_self, Nat.zero_add])
  ((with_reducible conv => whnf); repeat (first | (rw [natD_len]; with_reducible conv => whnf) | (rw [intD_len]; with_reducible conv => whnf) | (refine Exists.intro _ (And.intro (rfl : _ = some _) ?_); with_reducible conv => whnf) | (refine And.intro (okII _ _) ?_; rw [eqD_ii]; with_reducible conv => whnf) | (refine And.intro (by first | assumption | exact Exists.intro _ (by assumption) | exact ⟨rfl, rfl, by decide, by decide⟩ | exact Nat.le_of_ble_eq_true rfl | exact rfl) ?_; with_reducible conv => whnf) | (rw [isLst_at (by assumption)]; with_reducible conv => whnf) | (refine ifT rfl ?_; with_reducible conv => whnf) | (refine ifF rfl ?_; with_reducible conv => whnf) | (refine it_at (by assumption) ?_; with_reducible conv => whnf)))
  refine ite_d (fun hc => ?_) fun hc => ?_
  · have : r = 0 := by omega
    subst this
    have := k S (Sub.refl _)
    rw [show chQ n 0 = 1 / (n : Rat) from rfl, ← qD_inv' (by omega)] at this
    ((with_reducible conv => whnf); repeat (first | (rw [natD_len]; with_reducible conv => whnf) | (rw [intD_len]; with_reducible conv => whnf) | (refine Exists.intro _ (And.intro (rfl : _ = some _) ?_); with_reducible conv => whnf) | (refine And.intro (okII _ _) ?_; rw [eqD_ii]; with_reducible conv => whnf) | (refine And.intro (by first | assumption | exact Exists.intro _ (by assumption) | exact ⟨rfl, rfl, by decide, by decide⟩ | exact Nat.le_of_ble_eq_true rfl | exact rfl) ?_; with_reducible conv => whnf) | (rw [isLst_at (by assumption)]; with_reducible conv => whnf) | (refine ifT rfl ?_; with_reducible conv => whnf) | (refine ifF rfl ?_; with_reducible conv => whnf) | (refine it_at (by assumption) ?_; with_reducible conv => whnf)))
    exact this
  · ((with_reducible conv => whnf); repeat (first | (rw [natD_len]; with_reducible conv => whnf) | (rw [intD_len]; with_reducible conv => whnf) | (refine Exists.intro _ (And.intro (rfl : _ = some _) ?_); with_reducible conv => whnf) | (refine And.intro (okII _ _) ?_; rw [eqD_ii]; with_reducible conv => whnf) | (refine And.intro (by first | assumption | exact Exists.intro _ (by assumption) | exact ⟨rfl, rfl, by decide, by decide⟩ | exact Nat.le_of_ble_eq_true rfl | exact rfl) ?_; with_reducible conv => whnf) | (rw [isLst_at (by assumption)]; with_reducible conv => whnf) | (refine ifT rfl ?_; with_reducible conv => whnf) | (refine ifF rfl ?_; with_reducible conv => whnf) | (refine it_at (by assumption) ?_; with_reducible conv => whnf)))
    refine ⟨⟨by omega, by omega⟩, ⟨by omega, by omega⟩, ?_⟩
    refine Loop_mk (fun i ρ S' => ∃ o3, ρ = [some (.int n), some (.int r), some (qD (AS r i)), o3] ∧ Sub S S') ⟨none, rfl, Sub.refl _⟩ (by intros; trivial) ?_ ?_
    · rintro i d ρ' S' hi ⟨o3, rfl, hs⟩
      obtain ⟨hi1, rfl⟩ := rangeD_get hi
      rw [show (r : Int) + i = ((r + i : Nat) : Int) by omega]
      ((with_reducible conv => whnf); repeat (first | (rw [natD_len]; with_reducible conv => whnf) | (rw [intD_len]; with_reducible conv => whnf) | (refine Exists.intro _ (And.intro (rfl : _ = some _) ?_); with_reducible conv => whnf) | (refine And.intro (okII _ _) ?_; rw [eqD_ii]; with_reducible conv => whnf) | (refine And.intro (by first | assumption | exact Exists.intro _ (by assumption) | exact ⟨rfl, rfl, by decide, by decide⟩ | exact Nat.le_of_ble_eq_true rfl | exact rfl) ?_; with_reducible conv => whnf) | (rw [isLst_at (by assumption)]; with_reducible conv => whnf) | (refine ifT rfl ?_; with_reducible conv => whnf) | (refine ifF rfl ?_; with_reducible conv => whnf) | (refine it_at (by assumption) ?_; with_reducible conv => whnf)))
      refine ⟨_, 1 / ((r + i : Nat) : Rat), by rw [qD_inv' (show 0 < r + i by omega)], AS_sm (by omega) (by omega), inv_sm (by omega) (by omega), fun S2 h2 => ?_⟩
      exact ⟨_, rfl, hs.trans h2⟩
    · rintro ρ' S' ⟨o3, rfl, hs⟩
      rw [rangeD_len, show ((n : Int) - r).toNat = n - r by omega]
      ((with_reducible conv => whnf); repeat (first | (rw [natD_len]; with_reducible conv => whnf) | (rw [intD_len]; with_reducible conv => whnf) | (refine Exists.intro _ (And.intro (rfl : _ = some _) ?_); with_reducible conv => whnf) | (refine And.intro (okII _ _) ?_; rw [eqD_ii]; with_reducible conv => whnf) | (refine And.intro (by first | assumption | exact Exists.intro _ (by assumption) | exact ⟨rfl, rfl, by decide, by decide⟩ | exact Nat.le_of_ble_eq_true rfl | exact rfl) ?_; with_reducible conv => whnf) | (rw [isLst_at (by assumption)]; with_reducible conv => whnf) | (refine ifT rfl ?_; with_reducible conv => whnf) | (refine ifF rfl ?_; with_reducible conv => whnf) | (refine it_at (by assumption) ?_; with_reducible conv => whnf)))
      refine ⟨_, _, rfl, by omega, Nat.lt_of_lt_of_le (show (n : Int).natAbs < 2 ^ 10 by omega) (pow_le2 (by decide)), fun S2 h2 => ?_⟩
      rw [divInt_eq]
      ((with_reducible conv => whnf); repeat (first | (rw [natD_len]; with_reducible conv => whnf) | (rw [intD_len]; with_reducible conv => whnf) | (refine Exists.intro _ (And.intro (rfl : _ = some _) ?_); with_reducible conv => whnf) | (refine And.intro (okII _ _) ?_; rw [eqD_ii]; with_reducible conv => whnf) | (refine And.intro (by first | assumption | exact Exists.intro _ (by assumption) | exact ⟨rfl, rfl, by decide, by decide⟩ | exact Nat.le_of_ble_eq_true rfl | exact rfl) ?_; with_reducible conv => whnf) | (rw [isLst_at (by assumption)]; with_reducible conv => whnf) | (refine ifT rfl ?_; with_reducible conv => whnf) | (refine ifF rfl ?_; with_reducible conv => whnf) | (refine it_at (by assumption) ?_; with_reducible conv => whnf)))
      refine ⟨_, (r : Rat) / (n : Rat), rfl, AS_sm (by omega) (by omega), frac_sm (by omega) h1 (by omega), fun S3 h3 => ?_⟩
      have := k S3 ((hs.trans h2).trans h3)
      rw [show chQ n r = (r : Rat) / (n : Rat) * AS r (n - r) from if_neg (by omega), Rat.mul_comm] at this
      exact this
@[reducible] def sp_sum : Spc := fun ds S Q => ∃ n r : Nat, ds = [.int r, .int n] ∧ 0 < r ∧ r ≤ n ∧ n ≤ 300 ∧ ∀ T C S', Frc r (n - r) T C → Sub S S' → Q (.tup [.int T, .int C]) S'
theorem body_law_sum : Body 5 2 w_law_sum sp_sum := by
  rintro ds S Q _ ⟨n, r, rfl, hr, h0, h1, k⟩
  unfold w_law_sum
  (simp only [start, List.map_cons, List.map_nil, List.length_cons, List.length_nil, Nat.reduceAdd, Nat.reduceSub, List.replicate_succ, List.replicate_zero, List.cons_append, List.nil_append, Nat.sub_self, Nat.zero_add])
  ((with_reducible conv => whnf); repeat (first | (rw [natD_len]; with_reducible conv => whnf) | (rw [intD_len]; with_reducible conv => whnf) | (refine Exists.intro _ (And.intro (rfl : _ = some _) ?_); with_reducible conv => whnf) | (refine And.intro (okII _ _) ?_; rw [eqD_ii]; with_reducible conv => whnf) | (refine And.intro (by first | assumption | exact Exists.intro _ (by assumption) | exact ⟨rfl, rfl, by decide, by decide⟩ | exact Nat.le_of_ble_eq_true rfl | exact rfl) ?_; with_reducible conv => whnf) | (rw [isLst_at (by assumption)]; with_reducible conv => whnf) | (refine ifT rfl ?_; with_reducible conv => whnf) | (refine ifF rfl ?_; with_reducible conv => whnf) | (refine it_at (by assumption) ?_; with_reducible conv => whnf)))
  refine ⟨⟨by omega, by omega⟩, ⟨by omega, by omega⟩, ?_⟩
  refine Loop_mk (fun i ρ S' => ∃ T C o4, ρ = [some (.int r), some (.int n), some (.int T), some (.int C), o4] ∧ Frc r i T C ∧ S' = S) ⟨0, 1, none, rfl, Frc.zero r, rfl⟩ (by intros; trivial) ?_ ?_
  · rintro i d ρ' S' hi ⟨T, C, o4, rfl, hF, rfl⟩
    obtain ⟨hi1, rfl⟩ := rangeD_get hi
    rw [show (r : Int) + i = ((r + i : Nat) : Int) by omega]
    ((with_reducible conv => whnf); repeat (first | (rw [natD_len]; with_reducible conv => whnf) | (rw [intD_len]; with_reducible conv => whnf) | (refine Exists.intro _ (And.intro (rfl : _ = some _) ?_); with_reducible conv => whnf) | (refine And.intro (okII _ _) ?_; rw [eqD_ii]; with_reducible conv => whnf) | (refine And.intro (by first | assumption | exact Exists.intro _ (by assumption) | exact ⟨rfl, rfl, by decide, by decide⟩ | exact Nat.le_of_ble_eq_true rfl | exact rfl) ?_; with_reducible conv => whnf) | (rw [isLst_at (by assumption)]; with_reducible conv => whnf) | (refine ifT rfl ?_; with_reducible conv => whnf) | (refine ifF rfl ?_; with_reducible conv => whnf) | (refine it_at (by assumption) ?_; with_reducible conv => whnf)))
    refine ⟨smallMul (by omega), ?_⟩
    ((with_reducible conv => whnf); repeat (first | (rw [natD_len]; with_reducible conv => whnf) | (rw [intD_len]; with_reducible conv => whnf) | (refine Exists.intro _ (And.intro (rfl : _ = some _) ?_); with_reducible conv => whnf) | (refine And.intro (okII _ _) ?_; rw [eqD_ii]; with_reducible conv => whnf) | (refine And.intro (by first | assumption | exact Exists.intro _ (by assumption) | exact ⟨rfl, rfl, by decide, by decide⟩ | exact Nat.le_of_ble_eq_true rfl | exact rfl) ?_; with_reducible conv => whnf) | (rw [isLst_at (by assumption)]; with_reducible conv => whnf) | (refine ifT rfl ?_; with_reducible conv => whnf) | (refine ifF rfl ?_; with_reducible conv => whnf) | (refine it_at (by assumption) ?_; with_reducible conv => whnf)))
    refine ⟨smallMul (by omega), ?_⟩
    exact ⟨_, _, _, rfl, hF.step (by omega) (by omega), rfl⟩
  · rintro ρ' S' ⟨T, C, o4, rfl, hF, rfl⟩
    rw [rangeD_len, show ((n : Int) - r).toNat = n - r by omega] at hF
    ((with_reducible conv => whnf); repeat (first | (rw [natD_len]; with_reducible conv => whnf) | (rw [intD_len]; with_reducible conv => whnf) | (refine Exists.intro _ (And.intro (rfl : _ = some _) ?_); with_reducible conv => whnf) | (refine And.intro (okII _ _) ?_; rw [eqD_ii]; with_reducible conv => whnf) | (refine And.intro (by first | assumption | exact Exists.intro _ (by assumption) | exact ⟨rfl, rfl, by decide, by decide⟩ | exact Nat.le_of_ble_eq_true rfl | exact rfl) ?_; with_reducible conv => whnf) | (rw [isLst_at (by assumption)]; with_reducible conv => whnf) | (refine ifT rfl ?_; with_reducible conv => whnf) | (refine ifF rfl ?_; with_reducible conv => whnf) | (refine it_at (by assumption) ?_; with_reducible conv => whnf)))
    exact k _ _ _ hF (Sub.refl _)
theorem AS_smB {r j : Nat} (h : 0 < r) (hn : r + j ≤ 301) : smB (AS r j) := by
  have a := AS_nn h j
  exact smB_of (M := j) (AS_ov (m := 300) h j hn) (fct_pos _) (by have : (0 : Rat) ≤ (j : Rat) := by exact_mod_cast Nat.zero_le _
                                                                  grind) a.2 fct_300 (by omega)
@[reducible] def sp_mean : Spc := fun ds S Q => ∃ n : Nat, ds = [.int n] ∧ n ≤ 200 ∧ ∀ S', Sub S S' → Q (qD (AS 1 n)) S'
theorem body_mean_records : Body 3 1 (w_mean_records sp_badd) sp_mean := by
  rintro ds S Q _ ⟨n, rfl, h1, k⟩
  unfold w_mean_records
  (simp only [start, List.map_cons, List.map_nil, List.length_cons, List.length_nil, Nat.reduceAdd, Nat.reduceSub, List.replicate_succ, List.replicate_zero, List.cons_append, List.nil_append, Nat.sub_self, Nat.zero_add])
  ((with_reducible conv => whnf); repeat (first | (rw [natD_len]; with_reducible conv => whnf) | (rw [intD_len]; with_reducible conv => whnf) | (refine Exists.intro _ (And.intro (rfl : _ = some _) ?_); with_reducible conv => whnf) | (refine And.intro (okII _ _) ?_; rw [eqD_ii]; with_reducible conv => whnf) | (refine And.intro (by first | assumption | exact Exists.intro _ (by assumption) | exact ⟨rfl, rfl, by decide, by decide⟩ | exact Nat.le_of_ble_eq_true rfl | exact rfl) ?_; with_reducible conv => whnf) | (rw [isLst_at (by assumption)]; with_reducible conv => whnf) | (refine ifT rfl ?_; with_reducible conv => whnf) | (refine ifF rfl ?_; with_reducible conv => whnf) | (refine it_at (by assumption) ?_; with_reducible conv => whnf)))
  refine ⟨⟨by decide, by decide⟩, ⟨by omega, by omega⟩, ?_⟩
  refine Loop_mk (fun i ρ S' => ∃ o2, ρ = [some (.int n), some (qD (AS 1 i)), o2] ∧ Sub S S') ⟨none, rfl, Sub.refl _⟩ (by intros; trivial) ?_ ?_
  · rintro i d ρ' S' hi ⟨o3, rfl, hs⟩
    obtain ⟨hi1, rfl⟩ := rangeD_get hi
    rw [show (1 : Int) + i = ((1 + i : Nat) : Int) by omega]
    ((with_reducible conv => whnf); repeat (first | (rw [natD_len]; with_reducible conv => whnf) | (rw [intD_len]; with_reducible conv => whnf) | (refine Exists.intro _ (And.intro (rfl : _ = some _) ?_); with_reducible conv => whnf) | (refine And.intro (okII _ _) ?_; rw [eqD_ii]; with_reducible conv => whnf) | (refine And.intro (by first | assumption | exact Exists.intro _ (by assumption) | exact ⟨rfl, rfl, by decide, by decide⟩ | exact Nat.le_of_ble_eq_true rfl | exact rfl) ?_; with_reducible conv => whnf) | (rw [isLst_at (by assumption)]; with_reducible conv => whnf) | (refine ifT rfl ?_; with_reducible conv => whnf) | (refine ifF rfl ?_; with_reducible conv => whnf) | (refine it_at (by assumption) ?_; with_reducible conv => whnf)))
    refine ⟨_, 1 / ((1 + i : Nat) : Rat), by rw [qD_inv' (show 0 < 1 + i by omega)], AS_smB (by omega) (by omega), (inv_sm (by omega) (by omega)).B, fun S2 h2 => ?_⟩
    exact ⟨_, rfl, hs.trans h2⟩
  · rintro ρ' S' ⟨o3, rfl, hs⟩
    rw [rangeD_len, show ((n : Int) + 1 - 1).toNat = n by omega]
    ((with_reducible conv => whnf); repeat (first | (rw [natD_len]; with_reducible conv => whnf) | (rw [intD_len]; with_reducible conv => whnf) | (refine Exists.intro _ (And.intro (rfl : _ = some _) ?_); with_reducible conv => whnf) | (refine And.intro (okII _ _) ?_; rw [eqD_ii]; with_reducible conv => whnf) | (refine And.intro (by first | assumption | exact Exists.intro _ (by assumption) | exact ⟨rfl, rfl, by decide, by decide⟩ | exact Nat.le_of_ble_eq_true rfl | exact rfl) ?_; with_reducible conv => whnf) | (rw [isLst_at (by assumption)]; with_reducible conv => whnf) | (refine ifT rfl ?_; with_reducible conv => whnf) | (refine ifF rfl ?_; with_reducible conv => whnf) | (refine it_at (by assumption) ?_; with_reducible conv => whnf)))
    exact k _ hs
end K91
set_option linter.all false
set_option maxRecDepth 100000
set_option exponentiation.threshold 10000
set_option maxHeartbeats 4000000
namespace K91
open DL
theorem intD_app1 (ns : List Int) (x : Int) : intD ns ++ [.int x] = intD (ns ++ [x]) := by simp [intD]
@[reducible] def sp_rows : Spc := fun ds S Q => ∃ n : Nat, ds = [.int n] ∧ n ≤ 200 ∧ ∀ m S', S.length ≤ m → S'[m]? = some (.lst (intD (rowR n))) → Sub S S' → Q (.ref m) S'
theorem body_rows_by_records : Body 5 1 w_rows_by_records sp_rows := by
  rintro ds S Q _ ⟨n, rfl, hn, k⟩
  unfold w_rows_by_records
  (simp only [start, List.map_cons, List.map_nil, List.length_cons, List.length_nil, Nat.reduceAdd, Nat.reduceSub, List.replicate_succ, List.replicate_zero, List.cons_append, List.nil_append, Nat.sub_self, Nat.zero_add])
  ((with_reducible conv => whnf); repeat (first | (rw [natD_len]; with_reducible conv => whnf) | (rw [intD_len]; with_reducible conv => whnf) | (refine Exists.intro _ (And.intro (rfl : _ = some _) ?_); with_reducible conv => whnf) | (refine And.intro (okII _ _) ?_; rw [eqD_ii]; with_reducible conv => whnf) | (refine And.intro (by first | assumption | exact Exists.intro _ (by assumption) | exact ⟨rfl, rfl, by decide, by decide⟩ | exact Nat.le_of_ble_eq_true rfl | exact rfl) ?_; with_reducible conv => whnf) | (rw [isLst_at (by assumption)]; with_reducible conv => whnf) | (refine ifT rfl ?_; with_reducible conv => whnf) | (refine ifF rfl ?_; with_reducible conv => whnf) | (refine it_at (by assumption) ?_; with_reducible conv => whnf)))
  have e0 := at_push S (.lst [.int 1])
  have s0 := (Sub.refl S).app [.lst [.int 1]]
  generalize S ++ [.lst [.int 1]] = S1 at *
  refine ⟨⟨by decide, by decide⟩, ⟨by omega, by omega⟩, ?_⟩
  refine Loop_mk (fun i ρ S' => ∃ m o2 o3, S.length ≤ m ∧ ρ = [some (.int n), some (.ref m), o2, o3, none] ∧ S'[m]? = some (.lst (intD (rowR i))) ∧ Sub S S') ⟨S.length, none, none, Nat.le_refl _, rfl, e0, s0⟩ (by intros; trivial) ?_ ?_
  · rintro i d ρ' S' hi ⟨m, o3, o4, hm, rfl, f1, f2⟩
    obtain ⟨hi1, rfl⟩ := rangeD_get hi
    have e1 := at_push S' (.lst [.int 0])
    have f1 := push_at f1 [.lst [.int 0]]
    have f2 := f2.app [.lst [.int 0]]
    ((with_reducible conv => whnf); repeat (first | (rw [natD_len]; with_reducible conv => whnf) | (rw [intD_len]; with_reducible conv => whnf) | (refine Exists.intro _ (And.intro (rfl : _ = some _) ?_); with_reducible conv => whnf) | (refine And.intro (okII _ _) ?_; rw [eqD_ii]; with_reducible conv => whnf) | (refine And.intro (by first | assumption | exact Exists.intro _ (by assumption) | exact ⟨rfl, rfl, by decide, by decide⟩ | exact Nat.le_of_ble_eq_true rfl | exact rfl) ?_; with_reducible conv => whnf) | (rw [isLst_at (by assumption)]; with_reducible conv => whnf) | (refine ifT rfl ?_; with_reducible conv => whnf) | (refine ifF rfl ?_; with_reducible conv => whnf) | (refine it_at (by assumption) ?_; with_reducible conv => whnf)))
    generalize S' ++ [.lst [.int 0]] = S2 at *
    refine ⟨by rw [rowR_len]; show i + 1 + 1 ≤ _; unfold szL; omega, ?_⟩
    rw [intD_app1]
    have e2 := at_push S2 (.lst (intD (rowR i ++ [0])))
    have f2 := f2.app [.lst (intD (rowR i ++ [0]))]
    ((with_reducible conv => whnf); repeat (first | (rw [natD_len]; with_reducible conv => whnf) | (rw [intD_len]; with_reducible conv => whnf) | (refine Exists.intro _ (And.intro (rfl : _ = some _) ?_); with_reducible conv => whnf) | (refine And.intro (okII _ _) ?_; rw [eqD_ii]; with_reducible conv => whnf) | (refine And.intro (by first | assumption | exact Exists.intro _ (by assumption) | exact ⟨rfl, rfl, by decide, by decide⟩ | exact Nat.le_of_ble_eq_true rfl | exact rfl) ?_; with_reducible conv => whnf) | (rw [isLst_at (by assumption)]; with_reducible conv => whnf) | (refine ifT rfl ?_; with_reducible conv => whnf) | (refine ifF rfl ?_; with_reducible conv => whnf) | (refine it_at (by assumption) ?_; with_reducible conv => whnf)))
    generalize S2 ++ [.lst (intD (rowR i ++ [0]))] = S3 at *
    refine ⟨⟨by omega, by omega⟩, ?_⟩
    rw [show (1 : Int) + i + 1 = ((i + 2 : Nat) : Int) by omega]
    have hl : (rowR i ++ [0]).length = i + 2 := by rw [List.length_append, rowR_len]; rfl
    refine Lc_rm (fun r => .int ((i : Int) * (rowR i ++ [0]).getD r 0 + (if 0 < r then (rowR i ++ [0]).getD (r - 1) 0 else 0))) (by unfold szL; omega) (by intros; trivial) (fun r S4 R hr h4 hR => ?_) fun S4 h4 => ?_
    · have e2 := h4 _ _ e2
      ((with_reducible conv => whnf); repeat (first | (rw [natD_len]; with_reducible conv => whnf) | (rw [intD_len]; with_reducible conv => whnf) | (refine Exists.intro _ (And.intro (rfl : _ = some _) ?_); with_reducible conv => whnf) | (refine And.intro (okII _ _) ?_; rw [eqD_ii]; with_reducible conv => whnf) | (refine And.intro (by first | assumption | exact Exists.intro _ (by assumption) | exact ⟨rfl, rfl, by decide, by decide⟩ | exact Nat.le_of_ble_eq_true rfl | exact rfl) ?_; with_reducible conv => whnf) | (rw [isLst_at (by assumption)]; with_reducible conv => whnf) | (refine ifT rfl ?_; with_reducible conv => whnf) | (refine ifF rfl ?_; with_reducible conv => whnf) | (refine it_at (by assumption) ?_; with_reducible conv => whnf)))
      refine ⟨_, atZ_intN (by omega), ?_⟩
      rw [show (1 : Int) + i - 1 = i by omega]
      ((with_reducible conv => whnf); repeat (first | (rw [natD_len]; with_reducible conv => whnf) | (rw [intD_len]; with_reducible conv => whnf) | (refine Exists.intro _ (And.intro (rfl : _ = some _) ?_); with_reducible conv => whnf) | (refine And.intro (okII _ _) ?_; rw [eqD_ii]; with_reducible conv => whnf) | (refine And.intro (by first | assumption | exact Exists.intro _ (by assumption) | exact ⟨rfl, rfl, by decide, by decide⟩ | exact Nat.le_of_ble_eq_true rfl | exact rfl) ?_; with_reducible conv => whnf) | (rw [isLst_at (by assumption)]; with_reducible conv => whnf) | (refine ifT rfl ?_; with_reducible conv => whnf) | (refine ifF rfl ?_; with_reducible conv => whnf) | (refine it_at (by assumption) ?_; with_reducible conv => whnf)))
      refine ⟨smallMul' (by omega), ?_⟩
      ((with_reducible conv => whnf); repeat (first | (rw [natD_len]; with_reducible conv => whnf) | (rw [intD_len]; with_reducible conv => whnf) | (refine Exists.intro _ (And.intro (rfl : _ = some _) ?_); with_reducible conv => whnf) | (refine And.intro (okII _ _) ?_; rw [eqD_ii]; with_reducible conv => whnf) | (refine And.intro (by first | assumption | exact Exists.intro _ (by assumption) | exact ⟨rfl, rfl, by decide, by decide⟩ | exact Nat.le_of_ble_eq_true rfl | exact rfl) ?_; with_reducible conv => whnf) | (rw [isLst_at (by assumption)]; with_reducible conv => whnf) | (refine ifT rfl ?_; with_reducible conv => whnf) | (refine ifF rfl ?_; with_reducible conv => whnf) | (refine it_at (by assumption) ?_; with_reducible conv => whnf)))
      have := hR S4 (Sub.refl _)
      refine ite_d (fun hc => ?_) fun hc => ?_
      · ((with_reducible conv => whnf); repeat (first | (rw [natD_len]; with_reducible conv => whnf) | (rw [intD_len]; with_reducible conv => whnf) | (refine Exists.intro _ (And.intro (rfl : _ = some _) ?_); with_reducible conv => whnf) | (refine And.intro (okII _ _) ?_; rw [eqD_ii]; with_reducible conv => whnf) | (refine And.intro (by first | assumption | exact Exists.intro _ (by assumption) | exact ⟨rfl, rfl, by decide, by decide⟩ | exact Nat.le_of_ble_eq_true rfl | exact rfl) ?_; with_reducible conv => whnf) | (rw [isLst_at (by assumption)]; with_reducible conv => whnf) | (refine ifT rfl ?_; with_reducible conv => whnf) | (refine ifF rfl ?_; with_reducible conv => whnf) | (refine it_at (by assumption) ?_; with_reducible conv => whnf)))
        rw [show (r : Int) - 1 = ((r - 1 : Nat) : Int) by omega]
        refine ⟨_, atZ_intN (by omega), ?_⟩
        rw [if_pos (by omega)] at this
        exact this
      · ((with_reducible conv => whnf); repeat (first | (rw [natD_len]; with_reducible conv => whnf) | (rw [intD_len]; with_reducible conv => whnf) | (refine Exists.intro _ (And.intro (rfl : _ = some _) ?_); with_reducible conv => whnf) | (refine And.intro (okII _ _) ?_; rw [eqD_ii]; with_reducible conv => whnf) | (refine And.intro (by first | assumption | exact Exists.intro _ (by assumption) | exact ⟨rfl, rfl, by decide, by decide⟩ | exact Nat.le_of_ble_eq_true rfl | exact rfl) ?_; with_reducible conv => whnf) | (rw [isLst_at (by assumption)]; with_reducible conv => whnf) | (refine ifT rfl ?_; with_reducible conv => whnf) | (refine ifF rfl ?_; with_reducible conv => whnf) | (refine it_at (by assumption) ?_; with_reducible conv => whnf)))
        rw [if_neg (by omega)] at this
        exact this
    · have hle := (f2.trans h4).len
      refine ⟨_, _, _, by omega, rfl, ?_, (f2.trans h4).app _⟩
      rw [at_push]
      simp [intD, rowR]
  · rintro ρ' S' ⟨m, o3, o4, hm, rfl, f1, f2⟩
    rw [rangeD_len, show ((n : Int) + 1 - 1).toNat = n by omega] at f1
    ((with_reducible conv => whnf); repeat (first | (rw [natD_len]; with_reducible conv => whnf) | (rw [intD_len]; with_reducible conv => whnf) | (refine Exists.intro _ (And.intro (rfl : _ = some _) ?_); with_reducible conv => whnf) | (refine And.intro (okII _ _) ?_; rw [eqD_ii]; with_reducible conv => whnf) | (refine And.intro (by first | assumption | exact Exists.intro _ (by assumption) | exact ⟨rfl, rfl, by decide, by decide⟩ | exact Nat.le_of_ble_eq_true rfl | exact rfl) ?_; with_reducible conv => whnf) | (rw [isLst_at (by assumption)]; with_reducible conv => whnf) | (refine ifT rfl ?_; with_reducible conv => whnf) | (refine ifF rfl ?_; with_reducible conv => whnf) | (refine it_at (by assumption) ?_; with_reducible conv => whnf)))
    exact k _ _ hm f1 f2
/-! the law's rows -/
/-- the next row behind j turns -/
def midR (m j : Nat) (row : List Int) : List Int := (List.range (m + 2)).map fun r => (if r < j then (m : Int) * row.getD r 0 else 0) + (if 0 < r ∧ r ≤ j then row.getD (r - 1) 0 else 0)
theorem midR_len (m j : Nat) (row : List Int) : (midR m j row).length = m + 2 := by unfold midR; rw [List.length_map, List.length_range]
theorem midR_get {m j r : Nat} {row : List Int} (h : r < m + 2) : (midR m j row).getD r 0 = (if r < j then (m : Int) * row.getD r 0 else 0) + (if 0 < r ∧ r ≤ j then row.getD (r - 1) 0 else 0) := by
  unfold midR
  rw [List.getD_eq_getElem?_getD, List.getElem?_map, List.getElem?_range h]
  rfl
theorem getD_ext {a b : List Int} (hl : a.length = b.length) (h : ∀ r, r < a.length → a.getD r 0 = b.getD r 0) : a = b := by
  apply List.ext_getElem hl
  intro r h1 h2
  have := h r h1
  rw [List.getD_eq_getElem?_getD, List.getD_eq_getElem?_getD, List.getElem?_eq_getElem h1, List.getElem?_eq_getElem h2] at this
  exact this
theorem getD_set {l : List Int} {i r : Nat} {x : Int} (hi : i < l.length) : (l.set i x).getD r 0 = if i = r then x else l.getD r 0 := by
  rw [List.getD_eq_getElem?_getD, List.getD_eq_getElem?_getD, List.getElem?_set]
  by_cases h : i = r
  · subst h
    rw [if_pos rfl, if_pos rfl, if_pos hi]
    rfl
  · rw [if_neg h, if_neg h]
theorem mid_step {m j : Nat} {row : List Int} (hj : j < m + 1) (hl : row.length = m + 1) : ((midR m j row).set j ((midR m j row).getD j 0 + (m : Int) * row.getD j 0)).set (j + 1) (((midR m j row).set j ((midR m j row).getD j 0 + (m : Int) * row.getD j 0)).getD (j + 1) 0 + row.getD j 0) = midR m (j + 1) row := by
  have l0 := midR_len m j row
  apply getD_ext
  · rw [List.length_set, List.length_set, midR_len, midR_len]
  · intro r hr
    rw [List.length_set, List.length_set, midR_len] at hr
    rw [getD_set (by rw [List.length_set, midR_len]; omega), getD_set (by rw [midR_len]; omega), getD_set (by rw [midR_len]; omega), midR_get hr, midR_get (show j < m + 2 by omega), midR_get (show j + 1 < m + 2 by omega), midR_get hr]
    grind
theorem mid_last (m : Nat) : midR m (m + 1) (rowR m) = rowR (m + 1) := by
  have hl := rowR_len m
  apply getD_ext
  · rw [midR_len, rowR_len]
  · intro r hr
    rw [midR_len] at hr
    rw [midR_get hr]
    have hR : (rowR (m + 1)).getD r 0 = (m : Int) * (rowR m ++ [0]).getD r 0 + (if 0 < r then (rowR m ++ [0]).getD (r - 1) 0 else 0) := by
      show ((List.range (m + 2)).map _).getD r 0 = _
      rw [List.getD_eq_getElem?_getD, List.getElem?_map, List.getElem?_range hr]
      rfl
    rw [hR]
    show _ = (m : Int) * (rowR m ++ [0]).getD r 0 + (if 0 < r then (rowR m ++ [0]).getD (r - 1) 0 else 0)
    have ap : ∀ q, (rowR m ++ [0]).getD q 0 = (rowR m).getD q 0 := by
      intro q
      rw [List.getD_eq_getElem?_getD, List.getD_eq_getElem?_getD]
      rcases Nat.lt_or_ge q (rowR m).length with h | h
      · rw [List.getElem?_append_left h]
      · rw [List.getElem?_append_right h, List.getElem?_eq_none h]
        rcases Nat.eq_zero_or_pos (q - (rowR m).length) with e | e
        · rw [e]; rfl
        · rw [List.getElem?_eq_none (by simp; omega)]
    rw [ap, ap]
    congr 1
    · by_cases h : r < m + 1
      · rw [if_pos h]
      · rw [if_neg h, List.getD_eq_getElem?_getD, List.getElem?_eq_none (by omega)]
        show (0 : Int) = (m : Int) * 0
        omega
    · by_cases h : 0 < r
      · rw [if_pos h, if_pos (by omega)]
      · rw [if_neg h, if_neg (by omega)]
theorem mid_0 (m : Nat) (row : List Int) : midR m 0 row = List.replicate (m + 2) 0 := by
  apply getD_ext
  · rw [midR_len, List.length_replicate]
  · intro r hr
    rw [midR_len] at hr
    rw [midR_get hr, if_neg (by omega), if_neg (by omega), List.getD_eq_getElem?_getD, List.getElem?_replicate, if_pos hr]
    rfl
theorem body_law_by_last : Body 5 1 w_law_by_last sp_rows := by
  rintro ds S Q _ ⟨n, rfl, hn, k⟩
  unfold w_law_by_last
  (simp only [start, List.map_cons, List.map_nil, List.length_cons, List.length_nil, Nat.reduceAdd, Nat.reduceSub, List.replicate_succ, List.replicate_zero, List.cons_append, List.nil_append, Nat.sub_self, Nat.zero_add])
  ((with_reducible conv => whnf); repeat (first | (rw [natD_len]; with_reducible conv => whnf) | (rw [intD_len]; with_reducible conv => whnf) | (refine Exists.intro _ (And.intro (rfl : _ = some _) ?_); with_reducible conv => whnf) | (refine And.intro (okII _ _) ?_; rw [eqD_ii]; with_reducible conv => whnf) | (refine And.intro (by first | assumption | exact Exists.intro _ (by assumption) | exact ⟨rfl, rfl, by decide, by decide⟩ | exact Nat.le_of_ble_eq_true rfl | exact rfl) ?_; with_reducible conv => whnf) | (rw [isLst_at (by assumption)]; with_reducible conv => whnf) | (refine ifT rfl ?_; with_reducible conv => whnf) | (refine ifF rfl ?_; with_reducible conv => whnf) | (refine it_at (by assumption) ?_; with_reducible conv => whnf)))
  have e0 := at_push S (.lst [.int 1])
  have s0 := (Sub.refl S).app [.lst [.int 1]]
  generalize S ++ [.lst [.int 1]] = S1 at *
  generalize hn0 : S.length = n0 at *
  refine ⟨⟨by omega, by omega⟩, ?_⟩
  refine Loop_mk (fun i ρ S' => ∃ m o2 o3 o4, n0 ≤ m ∧ ρ = [some (.int n), some (.ref m), o2, o3, o4] ∧ S'[m]? = some (.lst (intD (rowR i))) ∧ Sub S S') ⟨n0, none, none, none, Nat.le_refl _, rfl, e0, s0⟩ (by intros; trivial) ?_ ?_
  · rintro i d ρ' S' hi ⟨m, o2, o3, o4, hm0, rfl, f1, f2⟩
    obtain ⟨hi1, rfl⟩ := rangeD_get hi
    have e1 := at_push S' (.lst [.int 0])
    have f1 := push_at f1 [.lst [.int 0]]
    have f2 := f2.app [.lst [.int 0]]
    have hSl := f2.len
    have hrl := rowR_len i
    rw [show (0 : Int) + i = i by omega]
    ((with_reducible conv => whnf); repeat (first | (rw [natD_len]; with_reducible conv => whnf) | (rw [intD_len]; with_reducible conv => whnf) | (refine Exists.intro _ (And.intro (rfl : _ = some _) ?_); with_reducible conv => whnf) | (refine And.intro (okII _ _) ?_; rw [eqD_ii]; with_reducible conv => whnf) | (refine And.intro (by first | assumption | exact Exists.intro _ (by assumption) | exact ⟨rfl, rfl, by decide, by decide⟩ | exact Nat.le_of_ble_eq_true rfl | exact rfl) ?_; with_reducible conv => whnf) | (rw [isLst_at (by assumption)]; with_reducible conv => whnf) | (refine ifT rfl ?_; with_reducible conv => whnf) | (refine ifF rfl ?_; with_reducible conv => whnf) | (refine it_at (by assumption) ?_; with_reducible conv => whnf)))
    generalize S' ++ [.lst [.int 0]] = S2 at *
    rw [hrl]
    refine ⟨⟨by omega, by omega⟩, by unfold szL; show 1 * _ ≤ _; omega, ?_⟩
    rw [show (((i + 1 : Nat) : Int) + 1).toNat = i + 2 by omega]
    have hz : (List.replicate (i + 2) [D.int 0]).flatten = intD (midR i 0 (rowR i)) := by
      rw [mid_0]
      simp [intD]
    rw [hz]
    have e2 := at_push S2 (.lst (intD (midR i 0 (rowR i))))
    have f1 := push_at f1 [.lst (intD (midR i 0 (rowR i)))]
    have f2 := f2.app [.lst (intD (midR i 0 (rowR i)))]
    have hmn : m ≠ S2.length := by
      intro e
      rw [e, at_push] at f1
      have := congrArg (fun o => match o with | some (O.lst l) => l.length | _ => 0) f1
      simp [intD, midR_len, rowR_len] at this
    ((with_reducible conv => whnf); repeat (first | (rw [natD_len]; with_reducible conv => whnf) | (rw [intD_len]; with_reducible conv => whnf) | (refine Exists.intro _ (And.intro (rfl : _ = some _) ?_); with_reducible conv => whnf) | (refine And.intro (okII _ _) ?_; rw [eqD_ii]; with_reducible conv => whnf) | (refine And.intro (by first | assumption | exact Exists.intro _ (by assumption) | exact ⟨rfl, rfl, by decide, by decide⟩ | exact Nat.le_of_ble_eq_true rfl | exact rfl) ?_; with_reducible conv => whnf) | (rw [isLst_at (by assumption)]; with_reducible conv => whnf) | (refine ifT rfl ?_; with_reducible conv => whnf) | (refine ifF rfl ?_; with_reducible conv => whnf) | (refine it_at (by assumption) ?_; with_reducible conv => whnf)))
    generalize hS3 : S2 ++ [.lst (intD (midR i 0 (rowR i)))] = S3 at *
    generalize S2.length = n2 at *
    refine ⟨⟨by omega, by omega⟩, ?_⟩
    rw [hrl]
    refine Loop_mk (fun j ρ S4 => ∃ o4, ρ = [some (.int n), some (.ref m), some (.int i), some (.ref n2), o4] ∧ S4[m]? = some (.lst (intD (rowR i))) ∧ S4[n2]? = some (.lst (intD (midR i j (rowR i)))) ∧ Sub S S4) ⟨o4, rfl, f1, e2, f2⟩ (by intros; trivial) ?_ ?_
    · rintro j d ρ' S4 hj ⟨o4, rfl, g1, g2, g3⟩
      obtain ⟨hj1, rfl⟩ := rangeD_get hj
      have hji : j < i + 1 := by omega
      have l0 := midR_len i j (rowR i)
      rw [show (0 : Int) + j = j by omega]
      ((with_reducible conv => whnf); repeat (first | (rw [natD_len]; with_reducible conv => whnf) | (rw [intD_len]; with_reducible conv => whnf) | (refine Exists.intro _ (And.intro (rfl : _ = some _) ?_); with_reducible conv => whnf) | (refine And.intro (okII _ _) ?_; rw [eqD_ii]; with_reducible conv => whnf) | (refine And.intro (by first | assumption | exact Exists.intro _ (by assumption) | exact ⟨rfl, rfl, by decide, by decide⟩ | exact Nat.le_of_ble_eq_true rfl | exact rfl) ?_; with_reducible conv => whnf) | (rw [isLst_at (by assumption)]; with_reducible conv => whnf) | (refine ifT rfl ?_; with_reducible conv => whnf) | (refine ifF rfl ?_; with_reducible conv => whnf) | (refine it_at (by assumption) ?_; with_reducible conv => whnf)))
      refine ⟨_, atZ_intN (by omega), ?_⟩
      ((with_reducible conv => whnf); repeat (first | (rw [natD_len]; with_reducible conv => whnf) | (rw [intD_len]; with_reducible conv => whnf) | (refine Exists.intro _ (And.intro (rfl : _ = some _) ?_); with_reducible conv => whnf) | (refine And.intro (okII _ _) ?_; rw [eqD_ii]; with_reducible conv => whnf) | (refine And.intro (by first | assumption | exact Exists.intro _ (by assumption) | exact ⟨rfl, rfl, by decide, by decide⟩ | exact Nat.le_of_ble_eq_true rfl | exact rfl) ?_; with_reducible conv => whnf) | (rw [isLst_at (by assumption)]; with_reducible conv => whnf) | (refine ifT rfl ?_; with_reducible conv => whnf) | (refine ifF rfl ?_; with_reducible conv => whnf) | (refine it_at (by assumption) ?_; with_reducible conv => whnf)))
      refine ⟨_, atZ_intN (by omega), ?_⟩
      ((with_reducible conv => whnf); repeat (first | (rw [natD_len]; with_reducible conv => whnf) | (rw [intD_len]; with_reducible conv => whnf) | (refine Exists.intro _ (And.intro (rfl : _ = some _) ?_); with_reducible conv => whnf) | (refine And.intro (okII _ _) ?_; rw [eqD_ii]; with_reducible conv => whnf) | (refine And.intro (by first | assumption | exact Exists.intro _ (by assumption) | exact ⟨rfl, rfl, by decide, by decide⟩ | exact Nat.le_of_ble_eq_true rfl | exact rfl) ?_; with_reducible conv => whnf) | (rw [isLst_at (by assumption)]; with_reducible conv => whnf) | (refine ifT rfl ?_; with_reducible conv => whnf) | (refine ifF rfl ?_; with_reducible conv => whnf) | (refine it_at (by assumption) ?_; with_reducible conv => whnf)))
      refine ⟨smallMul' (by omega), ?_⟩
      ((with_reducible conv => whnf); repeat (first | (rw [natD_len]; with_reducible conv => whnf) | (rw [intD_len]; with_reducible conv => whnf) | (refine Exists.intro _ (And.intro (rfl : _ = some _) ?_); with_reducible conv => whnf) | (refine And.intro (okII _ _) ?_; rw [eqD_ii]; with_reducible conv => whnf) | (refine And.intro (by first | assumption | exact Exists.intro _ (by assumption) | exact ⟨rfl, rfl, by decide, by decide⟩ | exact Nat.le_of_ble_eq_true rfl | exact rfl) ?_; with_reducible conv => whnf) | (rw [isLst_at (by assumption)]; with_reducible conv => whnf) | (refine ifT rfl ?_; with_reducible conv => whnf) | (refine ifF rfl ?_; with_reducible conv => whnf) | (refine it_at (by assumption) ?_; with_reducible conv => whnf)))
      refine ⟨_, ixZ_ok (by omega) (by omega), ?_⟩
      try rw [Int.toNat_natCast]
      rw [intD_set]
      have g4 := at_set g2 (o' := .lst (intD ((midR i j (rowR i)).set j ((midR i j (rowR i)).getD j 0 + (i : Int) * (rowR i).getD j 0))))
      have g5 : (S4.set n2 (.lst (intD ((midR i j (rowR i)).set j ((midR i j (rowR i)).getD j 0 + (i : Int) * (rowR i).getD j 0)))))[m]? = some (.lst (intD (rowR i))) := by rw [at_set_ne hmn, g1]
      have g6 := g3.put (show S.length ≤ n2 by omega) (o := .lst (intD ((midR i j (rowR i)).set j ((midR i j (rowR i)).getD j 0 + (i : Int) * (rowR i).getD j 0))))
      ((with_reducible conv => whnf); repeat (first | (rw [natD_len]; with_reducible conv => whnf) | (rw [intD_len]; with_reducible conv => whnf) | (refine Exists.intro _ (And.intro (rfl : _ = some _) ?_); with_reducible conv => whnf) | (refine And.intro (okII _ _) ?_; rw [eqD_ii]; with_reducible conv => whnf) | (refine And.intro (by first | assumption | exact Exists.intro _ (by assumption) | exact ⟨rfl, rfl, by decide, by decide⟩ | exact Nat.le_of_ble_eq_true rfl | exact rfl) ?_; with_reducible conv => whnf) | (rw [isLst_at (by assumption)]; with_reducible conv => whnf) | (refine ifT rfl ?_; with_reducible conv => whnf) | (refine ifF rfl ?_; with_reducible conv => whnf) | (refine it_at (by assumption) ?_; with_reducible conv => whnf)))
      generalize S4.set n2 (.lst (intD ((midR i j (rowR i)).set j ((midR i j (rowR i)).getD j 0 + (i : Int) * (rowR i).getD j 0)))) = S5 at *
      rw [show (j : Int) + 1 = ((j + 1 : Nat) : Int) by omega]
      refine ⟨_, atZ_intN (by rw [List.length_set]; omega), ?_⟩
      ((with_reducible conv => whnf); repeat (first | (rw [natD_len]; with_reducible conv => whnf) | (rw [intD_len]; with_reducible conv => whnf) | (refine Exists.intro _ (And.intro (rfl : _ = some _) ?_); with_reducible conv => whnf) | (refine And.intro (okII _ _) ?_; rw [eqD_ii]; with_reducible conv => whnf) | (refine And.intro (by first | assumption | exact Exists.intro _ (by assumption) | exact ⟨rfl, rfl, by decide, by decide⟩ | exact Nat.le_of_ble_eq_true rfl | exact rfl) ?_; with_reducible conv => whnf) | (rw [isLst_at (by assumption)]; with_reducible conv => whnf) | (refine ifT rfl ?_; with_reducible conv => whnf) | (refine ifF rfl ?_; with_reducible conv => whnf) | (refine it_at (by assumption) ?_; with_reducible conv => whnf)))
      refine ⟨_, atZ_intN (by omega), ?_⟩
      ((with_reducible conv => whnf); repeat (first | (rw [natD_len]; with_reducible conv => whnf) | (rw [intD_len]; with_reducible conv => whnf) | (refine Exists.intro _ (And.intro (rfl : _ = some _) ?_); with_reducible conv => whnf) | (refine And.intro (okII _ _) ?_; rw [eqD_ii]; with_reducible conv => whnf) | (refine And.intro (by first | assumption | exact Exists.intro _ (by assumption) | exact ⟨rfl, rfl, by decide, by decide⟩ | exact Nat.le_of_ble_eq_true rfl | exact rfl) ?_; with_reducible conv => whnf) | (rw [isLst_at (by assumption)]; with_reducible conv => whnf) | (refine ifT rfl ?_; with_reducible conv => whnf) | (refine ifF rfl ?_; with_reducible conv => whnf) | (refine it_at (by assumption) ?_; with_reducible conv => whnf)))
      refine ⟨_, ixZ_ok (by omega) (by rw [List.length_set]; omega), ?_⟩
      refine ⟨_, rfl, by rw [at_set_ne hmn, g5], ?_, g6.put (by omega)⟩
      rw [at_set g4, show ((j : Int) + 1).toNat = j + 1 by omega, intD_set, mid_step hji hrl]
    · rintro ρ' S4 ⟨o4, rfl, g1, g2, g3⟩
      rw [rangeD_len, show (((i + 1 : Nat) : Int) - 0).toNat = i + 1 by omega, mid_last] at g2
      ((with_reducible conv => whnf); repeat (first | (rw [natD_len]; with_reducible conv => whnf) | (rw [intD_len]; with_reducible conv => whnf) | (refine Exists.intro _ (And.intro (rfl : _ = some _) ?_); with_reducible conv => whnf) | (refine And.intro (okII _ _) ?_; rw [eqD_ii]; with_reducible conv => whnf) | (refine And.intro (by first | assumption | exact Exists.intro _ (by assumption) | exact ⟨rfl, rfl, by decide, by decide⟩ | exact Nat.le_of_ble_eq_true rfl | exact rfl) ?_; with_reducible conv => whnf) | (rw [isLst_at (by assumption)]; with_reducible conv => whnf) | (refine ifT rfl ?_; with_reducible conv => whnf) | (refine ifF rfl ?_; with_reducible conv => whnf) | (refine it_at (by assumption) ?_; with_reducible conv => whnf)))
      exact ⟨n2, _, _, _, by omega, rfl, g2, g3⟩
  · rintro ρ' S' ⟨m, o2, o3, o4, hm0, rfl, f1, f2⟩
    rw [rangeD_len, show ((n : Int) - 0).toNat = n by omega] at f1
    ((with_reducible conv => whnf); repeat (first | (rw [natD_len]; with_reducible conv => whnf) | (rw [intD_len]; with_reducible conv => whnf) | (refine Exists.intro _ (And.intro (rfl : _ = some _) ?_); with_reducible conv => whnf) | (refine And.intro (okII _ _) ?_; rw [eqD_ii]; with_reducible conv => whnf) | (refine And.intro (by first | assumption | exact Exists.intro _ (by assumption) | exact ⟨rfl, rfl, by decide, by decide⟩ | exact Nat.le_of_ble_eq_true rfl | exact rfl) ?_; with_reducible conv => whnf) | (rw [isLst_at (by assumption)]; with_reducible conv => whnf) | (refine ifT rfl ?_; with_reducible conv => whnf) | (refine ifF rfl ?_; with_reducible conv => whnf) | (refine it_at (by assumption) ?_; with_reducible conv => whnf)))
    exact k _ _ hm0 f1 f2
/-! their sums -/
def Wt : Nat → List Int → Int
  | _, [] => 0
  | j, x :: l => (j : Int) * x + Wt (j + 1) l
theorem Wt_app0 : ∀ (l : List Int) (j : Nat), Wt j (l ++ [0]) = Wt j l
  | [], j => by show (j : Int) * 0 + 0 = 0; omega
  | x :: l, j => by show (j : Int) * x + Wt (j + 1) (l ++ [0]) = (j : Int) * x + Wt (j + 1) l; rw [Wt_app0 l]
theorem Wt_up : ∀ (l : List Int) (j : Nat), Wt (j + 1) l = Wt j l + l.sum
  | [], j => rfl
  | x :: l, j => by
    show ((j + 1 : Nat) : Int) * x + Wt (j + 1 + 1) l = (j : Int) * x + Wt (j + 1) l + (x + l.sum)
    rw [Wt_up l (j + 1), show ((j + 1 : Nat) : Int) = (j : Int) + 1 by omega, Int.add_mul]
    omega
theorem zip_sum (m : Int) : ∀ (a b : List Int), a.length = b.length → (List.zipWith (fun x y => m * x + y) a b).sum = m * a.sum + b.sum
  | [], [], _ => by show (0 : Int) = m * 0 + 0; omega
  | x :: a, y :: b, h => by
    have ih := zip_sum m a b (by simpa using h)
    show m * x + y + (List.zipWith (fun x y => m * x + y) a b).sum = m * (x + a.sum) + (y + b.sum)
    rw [ih, Int.mul_add]
    omega
theorem zip_Wt (m : Int) : ∀ (a b : List Int) (j : Nat), a.length = b.length → Wt j (List.zipWith (fun x y => m * x + y) a b) = m * Wt j a + Wt j b
  | [], [], _, _ => by show (0 : Int) = m * 0 + 0; omega
  | x :: a, y :: b, j, h => by
    have ih := zip_Wt m a b (j + 1) (by simpa using h)
    show (j : Int) * (m * x + y) + Wt (j + 1) (List.zipWith (fun x y => m * x + y) a b) = m * ((j : Int) * x + Wt (j + 1) a) + ((j : Int) * y + Wt (j + 1) b)
    rw [ih]
    grind
theorem row_zip (m : Nat) : rowR (m + 1) = List.zipWith (fun x y => (m : Int) * x + y) (rowR m ++ [0]) (0 :: rowR m) := by
  have hl := rowR_len m
  apply List.ext_getElem
  · rw [rowR_len, List.length_zipWith]
    simp [hl]
  · intro i h1 h2
    rw [rowR_len] at h1
    rw [List.getElem_zipWith]
    have hL : (rowR m ++ [0]).length = m + 2 := by rw [List.length_append, hl]; rfl
    have e : (rowR (m + 1))[i]'(by rw [rowR_len]; exact h1) = (m : Int) * (rowR m ++ [0]).getD i 0 + (if 0 < i then (rowR m ++ [0]).getD (i - 1) 0 else 0) := by
      simp only [rowR, List.getElem_map, List.getElem_range]
    rw [e, List.getD_eq_getElem?_getD, List.getElem?_eq_getElem (show i < (rowR m ++ [0]).length by omega)]
    congr 1
    cases i with
    | zero => rfl
    | succ i =>
      rw [if_pos (by omega), Nat.add_sub_cancel, List.getElem_cons_succ, List.getD_eq_getElem?_getD, List.getElem?_append_left (by omega), List.getElem?_eq_getElem (by omega)]
      rfl
theorem row_sum : ∀ m, (rowR m).sum = (fct m : Nat)
  | 0 => rfl
  | m + 1 => by
    have hl := rowR_len m
    rw [row_zip, zip_sum _ _ _ (by simp), List.sum_append]
    show (m : Int) * ((rowR m).sum + (0 + 0)) + (0 + (rowR m).sum) = ((fct m * (m + 1) : Nat) : Int)
    rw [row_sum m, Int.natCast_mul]
    grind
theorem row_Wt : ∀ m, ((Wt 0 (rowR m) : Int) : Rat) = (fct m : Rat) * AS 1 m
  | 0 => by decide +kernel
  | m + 1 => by
    have ih := row_Wt m
    have e : Wt 0 (rowR (m + 1)) = ((m + 1 : Nat) : Int) * Wt 0 (rowR m) + (fct m : Nat) := by
      rw [row_zip, zip_Wt _ _ _ _ (by simp), Wt_app0]
      show (m : Int) * Wt 0 (rowR m) + (((0 : Nat) : Int) * 0 + Wt (0 + 1) (rowR m)) = _
      rw [Wt_up, row_sum, show ((m + 1 : Nat) : Int) = (m : Int) + 1 by omega, Int.add_mul]
      omega
    rw [e, Rat.intCast_add, Rat.intCast_mul, ih]
    show ((m + 1 : Nat) : Rat) * ((fct m : Rat) * AS 1 m) + ((fct m : Nat) : Rat) = ((fct m * (m + 1) : Nat) : Rat) * (AS 1 m + 1 / ((1 + m : Nat) : Rat))
    rw [Rat.natCast_mul, show 1 + m = m + 1 by omega]
    have hk : (1 : Rat) ≤ ((m + 1 : Nat) : Rat) := by exact_mod_cast (show 1 ≤ m + 1 by omega)
    generalize ((m + 1 : Nat) : Rat) = k at *
    grind
theorem range_Wt : ∀ (l : List Int) (j : Nat), ((List.range l.length).map fun (k : Nat) => (((j + k : Nat) : Int)) * l.getD k 0).sum = Wt j l
  | [], j => rfl
  | x :: l, j => by
    have ih := range_Wt l (j + 1)
    rw [List.length_cons, List.range_succ_eq_map, List.map_cons, List.map_map, List.sum_cons]
    show ((j + 0 : Nat) : Int) * x + _ = (j : Int) * x + Wt (j + 1) l
    rw [← ih, Nat.add_zero]
    congr 2
    apply List.map_congr_left
    intro k _
    show ((j + (k + 1) : Nat) : Int) * l.getD k 0 = ((j + 1 + k : Nat) : Int) * l.getD k 0
    rw [show j + (k + 1) = j + 1 + k by omega]
/-- the chance of k records -/
def recQ (n : Nat) (k : Int) : Rat := if 0 ≤ k ∧ k ≤ n then Rat.divInt ((rowR n).getD k.toNat 0) (fct n : Nat) else 0
theorem intL {S : Sto} {m : Nat} {ns : List Int} (h : S[m]? = some (.lst (intD ns))) : itemsAt (.ref m) S = some (intD ns) := by
  show (match S[m]? with | some (.lst xs) => some xs | _ => none) = _
  rw [h]
theorem fct_den {n : Nat} (h : n ≤ 200) : ((fct n : Nat) : Int) ≠ 0 ∧ ((fct n : Nat) : Int).natAbs < 2 ^ 1300 := by
  have := fct_pos n
  refine ⟨by omega, ?_⟩
  rw [Int.natAbs_natCast]
  exact Nat.lt_of_le_of_lt (fct_mono h) fct_200
@[reducible] def sp_rec : Spc := fun ds S Q => ∃ (n : Nat) (k : Int), ds = [.int n, .int k] ∧ n ≤ 200 ∧ ∀ S', Sub S S' → Q (qD (recQ n k)) S'
theorem body_chance_of_records : Body 3 2 (w_chance_of_records sp_rows sp_ratio) sp_rec := by
  rintro ds S Q _ ⟨n, kk, rfl, hn, k⟩
  unfold w_chance_of_records
  (simp only [start, List.map_cons, List.map_nil, List.length_cons, List.length_nil, Nat.reduceAdd, Nat.reduceSub, List.replicate_succ, List.replicate_zero, List.cons_append, List.nil_append, Nat.sub_self, Nat.zero_add])
  ((with_reducible conv => whnf); repeat (first | (rw [natD_len]; with_reducible conv => whnf) | (rw [intD_len]; with_reducible conv => whnf) | (refine Exists.intro _ (And.intro (rfl : _ = some _) ?_); with_reducible conv => whnf) | (refine And.intro (okII _ _) ?_; rw [eqD_ii]; with_reducible conv => whnf) | (refine And.intro (by first | assumption | exact Exists.intro _ (by assumption) | exact ⟨rfl, rfl, by decide, by decide⟩ | exact Nat.le_of_ble_eq_true rfl | exact rfl) ?_; with_reducible conv => whnf) | (rw [isLst_at (by assumption)]; with_reducible conv => whnf) | (refine ifT rfl ?_; with_reducible conv => whnf) | (refine ifF rfl ?_; with_reducible conv => whnf) | (refine it_at (by assumption) ?_; with_reducible conv => whnf)))
  refine ⟨n, rfl, hn, fun m S1 hm e1 s1 => ?_⟩
  have fin := k
  unfold recQ at fin
  have hden := fct_den hn
  ((with_reducible conv => whnf); repeat (first | (rw [natD_len]; with_reducible conv => whnf) | (rw [intD_len]; with_reducible conv => whnf) | (refine Exists.intro _ (And.intro (rfl : _ = some _) ?_); with_reducible conv => whnf) | (refine And.intro (okII _ _) ?_; rw [eqD_ii]; with_reducible conv => whnf) | (refine And.intro (by first | assumption | exact Exists.intro _ (by assumption) | exact ⟨rfl, rfl, by decide, by decide⟩ | exact Nat.le_of_ble_eq_true rfl | exact rfl) ?_; with_reducible conv => whnf) | (rw [isLst_at (by assumption)]; with_reducible conv => whnf) | (refine ifT rfl ?_; with_reducible conv => whnf) | (refine ifF rfl ?_; with_reducible conv => whnf) | (refine it_at (by assumption) ?_; with_reducible conv => whnf)))
  refine ite_d (fun hc => ?_) fun hc => ?_
  · ((with_reducible conv => whnf); repeat (first | (rw [natD_len]; with_reducible conv => whnf) | (rw [intD_len]; with_reducible conv => whnf) | (refine Exists.intro _ (And.intro (rfl : _ = some _) ?_); with_reducible conv => whnf) | (refine And.intro (okII _ _) ?_; rw [eqD_ii]; with_reducible conv => whnf) | (refine And.intro (by first | assumption | exact Exists.intro _ (by assumption) | exact ⟨rfl, rfl, by decide, by decide⟩ | exact Nat.le_of_ble_eq_true rfl | exact rfl) ?_; with_reducible conv => whnf) | (rw [isLst_at (by assumption)]; with_reducible conv => whnf) | (refine ifT rfl ?_; with_reducible conv => whnf) | (refine ifF rfl ?_; with_reducible conv => whnf) | (refine it_at (by assumption) ?_; with_reducible conv => whnf)))
    refine ite_d (fun hc2 => ?_) fun hc2 => ?_
    · rw [if_pos ⟨hc, hc2⟩] at fin
      ((with_reducible conv => whnf); repeat (first | (rw [natD_len]; with_reducible conv => whnf) | (rw [intD_len]; with_reducible conv => whnf) | (refine Exists.intro _ (And.intro (rfl : _ = some _) ?_); with_reducible conv => whnf) | (refine And.intro (okII _ _) ?_; rw [eqD_ii]; with_reducible conv => whnf) | (refine And.intro (by first | assumption | exact Exists.intro _ (by assumption) | exact ⟨rfl, rfl, by decide, by decide⟩ | exact Nat.le_of_ble_eq_true rfl | exact rfl) ?_; with_reducible conv => whnf) | (rw [isLst_at (by assumption)]; with_reducible conv => whnf) | (refine ifT rfl ?_; with_reducible conv => whnf) | (refine ifF rfl ?_; with_reducible conv => whnf) | (refine it_at (by assumption) ?_; with_reducible conv => whnf)))
      refine ⟨_, atZ_intD hc (by rw [rowR_len]; omega), ?_⟩
      ((with_reducible conv => whnf); repeat (first | (rw [natD_len]; with_reducible conv => whnf) | (rw [intD_len]; with_reducible conv => whnf) | (refine Exists.intro _ (And.intro (rfl : _ = some _) ?_); with_reducible conv => whnf) | (refine And.intro (okII _ _) ?_; rw [eqD_ii]; with_reducible conv => whnf) | (refine And.intro (by first | assumption | exact Exists.intro _ (by assumption) | exact ⟨rfl, rfl, by decide, by decide⟩ | exact Nat.le_of_ble_eq_true rfl | exact rfl) ?_; with_reducible conv => whnf) | (rw [isLst_at (by assumption)]; with_reducible conv => whnf) | (refine ifT rfl ?_; with_reducible conv => whnf) | (refine ifF rfl ?_; with_reducible conv => whnf) | (refine it_at (by assumption) ?_; with_reducible conv => whnf)))
      refine ⟨_, intL e1, ?_⟩
      (with_reducible conv => whnf)
      rw [row_sum]
      ((with_reducible conv => whnf); repeat (first | (rw [natD_len]; with_reducible conv => whnf) | (rw [intD_len]; with_reducible conv => whnf) | (refine Exists.intro _ (And.intro (rfl : _ = some _) ?_); with_reducible conv => whnf) | (refine And.intro (okII _ _) ?_; rw [eqD_ii]; with_reducible conv => whnf) | (refine And.intro (by first | assumption | exact Exists.intro _ (by assumption) | exact ⟨rfl, rfl, by decide, by decide⟩ | exact Nat.le_of_ble_eq_true rfl | exact rfl) ?_; with_reducible conv => whnf) | (rw [isLst_at (by assumption)]; with_reducible conv => whnf) | (refine ifT rfl ?_; with_reducible conv => whnf) | (refine ifF rfl ?_; with_reducible conv => whnf) | (refine it_at (by assumption) ?_; with_reducible conv => whnf)))
      exact ⟨_, _, rfl, hden.1, Nat.lt_of_lt_of_le hden.2 (pow_le2 (by decide)), fun S2 h2 => fin S2 (s1.trans h2)⟩
    · rw [if_neg (by omega)] at fin
      exact fin S1 s1
  · rw [if_neg (by omega)] at fin
    ((with_reducible conv => whnf); repeat (first | (rw [natD_len]; with_reducible conv => whnf) | (rw [intD_len]; with_reducible conv => whnf) | (refine Exists.intro _ (And.intro (rfl : _ = some _) ?_); with_reducible conv => whnf) | (refine And.intro (okII _ _) ?_; rw [eqD_ii]; with_reducible conv => whnf) | (refine And.intro (by first | assumption | exact Exists.intro _ (by assumption) | exact ⟨rfl, rfl, by decide, by decide⟩ | exact Nat.le_of_ble_eq_true rfl | exact rfl) ?_; with_reducible conv => whnf) | (rw [isLst_at (by assumption)]; with_reducible conv => whnf) | (refine ifT rfl ?_; with_reducible conv => whnf) | (refine ifF rfl ?_; with_reducible conv => whnf) | (refine it_at (by assumption) ?_; with_reducible conv => whnf)))
    exact fin S1 s1
end K91
set_option linter.all false
set_option maxRecDepth 100000
set_option maxHeartbeats 4000000
namespace K91
open DL
@[reducible] def ordD (o : List Nat) : D := .tup (natD o)
def oat (o : List Nat) (k : Nat) : Nat := o.getD k 0
def okO (o : List Nat) : Prop := ∀ x ∈ o, x < o.length
def isRec (o : List Nat) (k : Nat) : Bool := (o.take k).all fun y => decide (oat o k < y)
def recs (o : List Nat) : List Nat := (List.range o.length).filter (isRec o)
def tkF (o : List Nat) : Nat → Nat → Option Nat
  | 0, _ => none
  | s + 1, r => if isRec o r = true then some r else tkF o s (r + 1)
def tkN (o : List Nat) (r : Nat) : Option Nat := tkF o (o.length - r) r
@[reducible] def optD : Option Nat → D
  | none => .non
  | some k => .int (k : Nat)
theorem tk_some {o : List Nat} {k : Nat} (h : isRec o k = true) : ∀ s r, r ≤ k → k < r + s → (∀ j, r ≤ j → j < k → isRec o j = false) → tkF o s r = some k
  | 0, r, h1, h2, _ => by omega
  | s + 1, r, h1, h2, h3 => by
    unfold tkF
    by_cases c : r = k
    · subst c
      rw [if_pos h]
    · rw [if_neg (by rw [h3 r (Nat.le_refl _) (by omega)]; decide)]
      exact tk_some h s (r + 1) (by omega) (by omega) fun j a b => h3 j (by omega) b
theorem tk_none {o : List Nat} : ∀ s r, (∀ j, r ≤ j → j < r + s → isRec o j = false) → tkF o s r = none
  | 0, r, _ => rfl
  | s + 1, r, h => by
    unfold tkF
    rw [if_neg (by rw [h r (Nat.le_refl _) (by omega)]; decide)]
    exact tk_none s (r + 1) fun j a b => h j (by omega) (by omega)
theorem atZ_natD {o : List Nat} {k : Nat} (h : k < o.length) : atZ (natD o) (k : Int) = some (.int (oat o k : Nat)) := by
  have := atZ_intN (ns := o.map fun (k : Nat) => (k : Int)) (i := k) (by rw [List.length_map]; exact h)
  rw [this]
  unfold oat
  rw [List.getD_eq_getElem?_getD, List.getD_eq_getElem?_getD, List.getElem?_map, List.getElem?_eq_getElem h]
  rfl
theorem natD_app (a b : List Nat) : natD a ++ natD b = natD (a ++ b) := by simp [natD, intD]
theorem natD_take (a : List Nat) (i : Nat) : (natD a).take i = natD (a.take i) := by simp [natD, intD]
theorem natD_drop (a : List Nat) (i : Nat) : (natD a).drop i = natD (a.drop i) := by simp [natD, intD]
@[reducible] def sp_recs : Spc := fun ds S Q => ∃ o, ds = [ordD o] ∧ o.length ≤ 100 ∧ ∀ S', Sub S S' → Q (ordD (recs o)) S'
/-- whether it is the best so far: as the program asks -/
theorem all_best {o : List Nat} {k : Nat} (hk : k < o.length) (hl : o.length ≤ 100) {S : Sto} {Q : Bool → Sto → Prop} {guard : Sto → Prop} {step : D → Sto → (Option D → Sto → Prop) → Prop} (hg : ∀ S', guard S')
    (hs : ∀ (y : Nat) S' R, (∀ S2, Sub S' S2 → R (some (.bl (decide (oat o k < y)))) S2) → step (.int (y : Nat)) S' R) (h : ∀ S', Sub S S' → Q (isRec o k) S') :
    Lc (natD (o.take k)) guard S step (fun d S' => rAll [d] S' fun b S2 => match b with | .bl c => Q c S2 | _ => False) := by
  rw [natD_map]
  refine Lc_lm (xs := o.take k) (e := fun (y : Nat) => D.int (y : Int)) (fun y => .bl (decide (oat o k < y))) (by have := List.length_take_le k o; unfold szL; omega) (fun S' _ => hg S') (fun y S' R _ _ hR => hs y S' R hR) fun S' h' => ?_
  refine ⟨(o.take k).map fun y => decide (oat o k < y), by rw [at_push, List.map_map]; rfl, ?_⟩
  have := h _ (h'.app [.lst ((o.take k).map fun y => D.bl (decide (oat o k < y)))])
  have e : ((o.take k).map fun y => decide (oat o k < y)).all id = isRec o k := by
    unfold isRec
    rw [List.all_map]
    rfl
  rw [e]
  exact this
theorem body_records : Body 3 1 w_records sp_recs := by
  rintro ds S Q _ ⟨o, rfl, hl, k⟩
  unfold w_records
  (simp only [start, List.map_cons, List.map_nil, List.length_cons, List.length_nil, Nat.reduceAdd, Nat.reduceSub, List.replicate_succ, List.replicate_zero, List.cons_append, List.nil_append, Nat.sub_self, Nat.zero_add])
  ((with_reducible conv => whnf); repeat (first | (rw [natD_len]; with_reducible conv => whnf) | (rw [intD_len]; with_reducible conv => whnf) | (refine Exists.intro _ (And.intro (rfl : _ = some _) ?_); with_reducible conv => whnf) | (refine And.intro (okII _ _) ?_; rw [eqD_ii]; with_reducible conv => whnf) | (refine And.intro (by first | assumption | exact Exists.intro _ (by assumption) | exact ⟨rfl, rfl, by decide, by decide⟩ | exact Nat.le_of_ble_eq_true rfl | exact rfl) ?_; with_reducible conv => whnf) | (rw [isLst_at (by assumption)]; with_reducible conv => whnf) | (refine ifT rfl ?_; with_reducible conv => whnf) | (refine ifF rfl ?_; with_reducible conv => whnf) | (refine it_at (by assumption) ?_; with_reducible conv => whnf)))
  refine ⟨⟨by omega, by omega⟩, ?_⟩
  refine Lc_rf (isRec o) (fun j => .int (j : Nat)) (by unfold szL; omega) (by intros; trivial) (fun j S' R hj h hR => ?_) fun S' h => ?_
  · (with_reducible conv => whnf)
    rw [cut_take _ (by omega), Int.toNat_natCast, natD_take]
    refine all_best hj hl (Q := fun b S3 => if b = true then _ else _) (by intros; trivial) (fun y S2 R2 hR2 => ?_) fun S2 h2 => ?_
    · ((with_reducible conv => whnf); repeat (first | (rw [natD_len]; with_reducible conv => whnf) | (rw [intD_len]; with_reducible conv => whnf) | (refine Exists.intro _ (And.intro (rfl : _ = some _) ?_); with_reducible conv => whnf) | (refine And.intro (okII _ _) ?_; rw [eqD_ii]; with_reducible conv => whnf) | (refine And.intro (by first | assumption | exact Exists.intro _ (by assumption) | exact ⟨rfl, rfl, by decide, by decide⟩ | exact Nat.le_of_ble_eq_true rfl | exact rfl) ?_; with_reducible conv => whnf) | (rw [isLst_at (by assumption)]; with_reducible conv => whnf) | (refine ifT rfl ?_; with_reducible conv => whnf) | (refine ifF rfl ?_; with_reducible conv => whnf) | (refine it_at (by assumption) ?_; with_reducible conv => whnf)))
      refine ⟨_, atZ_natD hj, ?_⟩
      ((with_reducible conv => whnf); repeat (first | (rw [natD_len]; with_reducible conv => whnf) | (rw [intD_len]; with_reducible conv => whnf) | (refine Exists.intro _ (And.intro (rfl : _ = some _) ?_); with_reducible conv => whnf) | (refine And.intro (okII _ _) ?_; rw [eqD_ii]; with_reducible conv => whnf) | (refine And.intro (by first | assumption | exact Exists.intro _ (by assumption) | exact ⟨rfl, rfl, by decide, by decide⟩ | exact Nat.le_of_ble_eq_true rfl | exact rfl) ?_; with_reducible conv => whnf) | (rw [isLst_at (by assumption)]; with_reducible conv => whnf) | (refine ifT rfl ?_; with_reducible conv => whnf) | (refine ifF rfl ?_; with_reducible conv => whnf) | (refine it_at (by assumption) ?_; with_reducible conv => whnf)))
      have := hR2 S2 (Sub.refl _)
      rw [show decide (oat o j < y) = decide (((oat o j : Nat) : Int) < (y : Int)) by rw [decide_eq_decide]; omega] at this
      exact this
    · have := hR S2 h2
      cases e : isRec o j with
      | true => rw [e, if_pos rfl] at this; rw [if_pos rfl]; exact this
      | false => rw [e, if_neg (by decide)] at this; rw [if_neg (by decide)]; exact this
  · rw [← natD_map]
    have e := at_push S' (.lst (natD ((List.range o.length).filter (isRec o))))
    have := h.app [.lst (natD ((List.range o.length).filter (isRec o)))]
    ((with_reducible conv => whnf); repeat (first | (rw [natD_len]; with_reducible conv => whnf) | (rw [intD_len]; with_reducible conv => whnf) | (refine Exists.intro _ (And.intro (rfl : _ = some _) ?_); with_reducible conv => whnf) | (refine And.intro (okII _ _) ?_; rw [eqD_ii]; with_reducible conv => whnf) | (refine And.intro (by first | assumption | exact Exists.intro _ (by assumption) | exact ⟨rfl, rfl, by decide, by decide⟩ | exact Nat.le_of_ble_eq_true rfl | exact rfl) ?_; with_reducible conv => whnf) | (rw [isLst_at (by assumption)]; with_reducible conv => whnf) | (refine ifT rfl ?_; with_reducible conv => whnf) | (refine ifF rfl ?_; with_reducible conv => whnf) | (refine it_at (by assumption) ?_; with_reducible conv => whnf)))
    exact k _ this
@[reducible] def sp_tk : Spc := fun ds S Q => ∃ o r, ds = [ordD o, .int (r : Nat)] ∧ o.length ≤ 100 ∧ r ≤ 200 ∧ ∀ S', Sub S S' → Q (optD (tkN o r)) S'
theorem body_taken : Body 4 2 w_taken sp_tk := by
  rintro ds S Q _ ⟨o, r, rfl, hl, hr, k⟩
  unfold w_taken
  (simp only [start, List.map_cons, List.map_nil, List.length_cons, List.length_nil, Nat.reduceAdd, Nat.reduceSub, List.replicate_succ, List.replicate_zero, List.cons_append, List.nil_append, Nat.sub_self, Nat.zero_add])
  ((with_reducible conv => whnf); repeat (first | (rw [natD_len]; with_reducible conv => whnf) | (rw [intD_len]; with_reducible conv => whnf) | (refine Exists.intro _ (And.intro (rfl : _ = some _) ?_); with_reducible conv => whnf) | (refine And.intro (okII _ _) ?_; rw [eqD_ii]; with_reducible conv => whnf) | (refine And.intro (by first | assumption | exact Exists.intro _ (by assumption) | exact ⟨rfl, rfl, by decide, by decide⟩ | exact Nat.le_of_ble_eq_true rfl | exact rfl) ?_; with_reducible conv => whnf) | (rw [isLst_at (by assumption)]; with_reducible conv => whnf) | (refine ifT rfl ?_; with_reducible conv => whnf) | (refine ifF rfl ?_; with_reducible conv => whnf) | (refine it_at (by assumption) ?_; with_reducible conv => whnf)))
  refine ⟨⟨by omega, by omega⟩, ⟨by omega, by omega⟩, ?_⟩
  refine Loop_mk (fun i ρ S' => ∃ o2, ρ = [some (ordD o), some (.int (r : Nat)), o2, none] ∧ (∀ j, r ≤ j → j < r + i → isRec o j = false) ∧ Sub S S') ⟨none, rfl, by omega, Sub.refl _⟩ (by intros; trivial) ?_ ?_
  · rintro i d ρ' S' hi ⟨o2, rfl, h1, h2⟩
    obtain ⟨hi1, rfl⟩ := rangeD_get hi
    rw [show (r : Int) + i = ((r + i : Nat) : Int) by omega]
    have hj : r + i < o.length := by omega
    (with_reducible conv => whnf)
    rw [cut_take _ (by omega), Int.toNat_natCast, natD_take]
    refine all_best hj hl (Q := fun b S3 => if b = true then _ else _) (by intros; trivial) (fun y S2 R2 hR2 => ?_) fun S2 h3 => ?_
    · ((with_reducible conv => whnf); repeat (first | (rw [natD_len]; with_reducible conv => whnf) | (rw [intD_len]; with_reducible conv => whnf) | (refine Exists.intro _ (And.intro (rfl : _ = some _) ?_); with_reducible conv => whnf) | (refine And.intro (okII _ _) ?_; rw [eqD_ii]; with_reducible conv => whnf) | (refine And.intro (by first | assumption | exact Exists.intro _ (by assumption) | exact ⟨rfl, rfl, by decide, by decide⟩ | exact Nat.le_of_ble_eq_true rfl | exact rfl) ?_; with_reducible conv => whnf) | (rw [isLst_at (by assumption)]; with_reducible conv => whnf) | (refine ifT rfl ?_; with_reducible conv => whnf) | (refine ifF rfl ?_; with_reducible conv => whnf) | (refine it_at (by assumption) ?_; with_reducible conv => whnf)))
      refine ⟨_, atZ_natD hj, ?_⟩
      ((with_reducible conv => whnf); repeat (first | (rw [natD_len]; with_reducible conv => whnf) | (rw [intD_len]; with_reducible conv => whnf) | (refine Exists.intro _ (And.intro (rfl : _ = some _) ?_); with_reducible conv => whnf) | (refine And.intro (okII _ _) ?_; rw [eqD_ii]; with_reducible conv => whnf) | (refine And.intro (by first | assumption | exact Exists.intro _ (by assumption) | exact ⟨rfl, rfl, by decide, by decide⟩ | exact Nat.le_of_ble_eq_true rfl | exact rfl) ?_; with_reducible conv => whnf) | (rw [isLst_at (by assumption)]; with_reducible conv => whnf) | (refine ifT rfl ?_; with_reducible conv => whnf) | (refine ifF rfl ?_; with_reducible conv => whnf) | (refine it_at (by assumption) ?_; with_reducible conv => whnf)))
      have := hR2 S2 (Sub.refl _)
      rw [show decide (oat o (r + i) < y) = decide (((oat o (r + i) : Nat) : Int) < (y : Int)) by rw [decide_eq_decide]; omega] at this
      exact this
    · cases e : isRec o (r + i) with
      | true =>
        rw [if_pos rfl]
        have fin := k S2 (h2.trans h3)
        rw [show tkN o r = some (r + i) from tk_some e _ _ (by omega) (by omega) h1] at fin
        exact fin
      | false =>
        rw [if_neg (by decide)]
        refine ⟨_, rfl, fun j a b => ?_, h2.trans h3⟩
        by_cases c : j = r + i
        · rw [c]; exact e
        · exact h1 j a (by omega)
  · rintro ρ' S' ⟨o2, rfl, h1, h2⟩
    rw [rangeD_len] at h1
    ((with_reducible conv => whnf); repeat (first | (rw [natD_len]; with_reducible conv => whnf) | (rw [intD_len]; with_reducible conv => whnf) | (refine Exists.intro _ (And.intro (rfl : _ = some _) ?_); with_reducible conv => whnf) | (refine And.intro (okII _ _) ?_; rw [eqD_ii]; with_reducible conv => whnf) | (refine And.intro (by first | assumption | exact Exists.intro _ (by assumption) | exact ⟨rfl, rfl, by decide, by decide⟩ | exact Nat.le_of_ble_eq_true rfl | exact rfl) ?_; with_reducible conv => whnf) | (rw [isLst_at (by assumption)]; with_reducible conv => whnf) | (refine ifT rfl ?_; with_reducible conv => whnf) | (refine ifF rfl ?_; with_reducible conv => whnf) | (refine it_at (by assumption) ?_; with_reducible conv => whnf)))
    have fin := k S' h2
    rw [show tkN o r = none from tk_none _ _ fun j a b => h1 j a (by omega)] at fin
    exact fin
theorem recs_len (o : List Nat) : (recs o).length ≤ o.length := by
  have := List.length_filter_le (isRec o) (List.range o.length)
  rwa [List.length_range] at this
theorem take_all {o : List Nat} {k : Nat} (hk : k < o.length) (p : Nat → Bool) : (o.take (k + 1)).all p = ((o.take k).all p && p (oat o k)) := by
  rw [List.take_add_one, List.getElem?_eq_getElem hk, List.all_append]
  unfold oat
  rw [List.getD_eq_getElem?_getD, List.getElem?_eq_getElem hk]
  simp
@[reducible] def sp_lrecs : Spc := fun ds S Q => ∃ o, ds = [ordD o] ∧ o.length ≤ 100 ∧ okO o ∧ ∀ S', Sub S S' → Q (ordD (recs o)) S'
theorem oat_lt {o : List Nat} (h : okO o) {k : Nat} (hk : k < o.length) : oat o k < o.length := by
  unfold oat
  rw [List.getD_eq_getElem?_getD, List.getElem?_eq_getElem hk]
  exact h _ (List.getElem_mem _)
theorem range_filter_succ (p : Nat → Bool) (k : Nat) : (List.range (k + 1)).filter p = (List.range k).filter p ++ if p k = true then [k] else [] := by
  rw [List.range_succ, List.filter_append]
  cases e : p k <;> simp [e]
theorem body_law_records : Body 4 1 w_law_records sp_lrecs := by
  rintro ds S Q _ ⟨o, rfl, hl, ho, k⟩
  unfold w_law_records
  (simp only [start, List.map_cons, List.map_nil, List.length_cons, List.length_nil, Nat.reduceAdd, Nat.reduceSub, List.replicate_succ, List.replicate_zero, List.cons_append, List.nil_append, Nat.sub_self, Nat.zero_add])
  ((with_reducible conv => whnf); repeat (first | (rw [natD_len]; with_reducible conv => whnf) | (rw [intD_len]; with_reducible conv => whnf) | (refine Exists.intro _ (And.intro (rfl : _ = some _) ?_); with_reducible conv => whnf) | (refine And.intro (okII _ _) ?_; rw [eqD_ii]; with_reducible conv => whnf) | (refine And.intro (by first | assumption | exact Exists.intro _ (by assumption) | exact ⟨rfl, rfl, by decide, by decide⟩ | exact Nat.le_of_ble_eq_true rfl | exact rfl) ?_; with_reducible conv => whnf) | (rw [isLst_at (by assumption)]; with_reducible conv => whnf) | (refine ifT rfl ?_; with_reducible conv => whnf) | (refine ifF rfl ?_; with_reducible conv => whnf) | (refine it_at (by assumption) ?_; with_reducible conv => whnf)))
  have e0 := at_push S (.lst [])
  have s0 := (Sub.refl S).app [.lst []]
  generalize S ++ [.lst []] = S1 at *
  refine ⟨⟨by omega, by omega⟩, ?_⟩
  refine Loop_mk (fun i ρ S' => ∃ (b : Nat) (o3 : Option D), ρ = [some (ordD o), some (.ref S.length), some (.int b), o3] ∧ S'[S.length]? = some (.lst (natD ((List.range i).filter (isRec o)))) ∧ (∀ x, x < o.length → decide (x < b) = ((o.take i).all fun y => decide (x < y))) ∧ Sub S S') ⟨o.length, none, rfl, e0, fun x hx => (by rw [List.take_zero]; simpa using hx), s0⟩ (by intros; trivial) ?_ ?_
  · rintro i d ρ' S' hi ⟨b, o3, rfl, f1, hb, f2⟩
    obtain ⟨hi1, rfl⟩ := rangeD_get hi
    rw [show (0 : Int) + i = i by omega]
    have hio : i < o.length := by omega
    have hx := hb _ (oat_lt ho hio)
    have hr : isRec o i = decide (oat o i < b) := hx.symm
    have hfl : ((List.range i).filter (isRec o)).length ≤ i := by
      have := List.length_filter_le (isRec o) (List.range i)
      rwa [List.length_range] at this
    ((with_reducible conv => whnf); repeat (first | (rw [natD_len]; with_reducible conv => whnf) | (rw [intD_len]; with_reducible conv => whnf) | (refine Exists.intro _ (And.intro (rfl : _ = some _) ?_); with_reducible conv => whnf) | (refine And.intro (okII _ _) ?_; rw [eqD_ii]; with_reducible conv => whnf) | (refine And.intro (by first | assumption | exact Exists.intro _ (by assumption) | exact ⟨rfl, rfl, by decide, by decide⟩ | exact Nat.le_of_ble_eq_true rfl | exact rfl) ?_; with_reducible conv => whnf) | (rw [isLst_at (by assumption)]; with_reducible conv => whnf) | (refine ifT rfl ?_; with_reducible conv => whnf) | (refine ifF rfl ?_; with_reducible conv => whnf) | (refine it_at (by assumption) ?_; with_reducible conv => whnf)))
    refine ⟨_, atZ_natD hio, ?_⟩
    ((with_reducible conv => whnf); repeat (first | (rw [natD_len]; with_reducible conv => whnf) | (rw [intD_len]; with_reducible conv => whnf) | (refine Exists.intro _ (And.intro (rfl : _ = some _) ?_); with_reducible conv => whnf) | (refine And.intro (okII _ _) ?_; rw [eqD_ii]; with_reducible conv => whnf) | (refine And.intro (by first | assumption | exact Exists.intro _ (by assumption) | exact ⟨rfl, rfl, by decide, by decide⟩ | exact Nat.le_of_ble_eq_true rfl | exact rfl) ?_; with_reducible conv => whnf) | (rw [isLst_at (by assumption)]; with_reducible conv => whnf) | (refine ifT rfl ?_; with_reducible conv => whnf) | (refine ifF rfl ?_; with_reducible conv => whnf) | (refine it_at (by assumption) ?_; with_reducible conv => whnf)))
    refine ite_d (fun hc => ?_) fun hc => ?_
    · have hc' : oat o i < b := by omega
      rw [decide_eq_true hc'] at hr
      ((with_reducible conv => whnf); repeat (first | (rw [natD_len]; with_reducible conv => whnf) | (rw [intD_len]; with_reducible conv => whnf) | (refine Exists.intro _ (And.intro (rfl : _ = some _) ?_); with_reducible conv => whnf) | (refine And.intro (okII _ _) ?_; rw [eqD_ii]; with_reducible conv => whnf) | (refine And.intro (by first | assumption | exact Exists.intro _ (by assumption) | exact ⟨rfl, rfl, by decide, by decide⟩ | exact Nat.le_of_ble_eq_true rfl | exact rfl) ?_; with_reducible conv => whnf) | (rw [isLst_at (by assumption)]; with_reducible conv => whnf) | (refine ifT rfl ?_; with_reducible conv => whnf) | (refine ifF rfl ?_; with_reducible conv => whnf) | (refine it_at (by assumption) ?_; with_reducible conv => whnf)))
      refine ⟨by unfold szL; omega, ?_⟩
      ((with_reducible conv => whnf); repeat (first | (rw [natD_len]; with_reducible conv => whnf) | (rw [intD_len]; with_reducible conv => whnf) | (refine Exists.intro _ (And.intro (rfl : _ = some _) ?_); with_reducible conv => whnf) | (refine And.intro (okII _ _) ?_; rw [eqD_ii]; with_reducible conv => whnf) | (refine And.intro (by first | assumption | exact Exists.intro _ (by assumption) | exact ⟨rfl, rfl, by decide, by decide⟩ | exact Nat.le_of_ble_eq_true rfl | exact rfl) ?_; with_reducible conv => whnf) | (rw [isLst_at (by assumption)]; with_reducible conv => whnf) | (refine ifT rfl ?_; with_reducible conv => whnf) | (refine ifF rfl ?_; with_reducible conv => whnf) | (refine it_at (by assumption) ?_; with_reducible conv => whnf)))
      refine ⟨_, atZ_natD hio, ?_⟩
      refine ⟨oat o i, _, rfl, ?_, fun x hxo => ?_, f2.put (Nat.le_refl _)⟩
      · rw [at_set f1, range_filter_succ, if_pos hr, ← natD_app]
        rfl
      · rw [take_all hio, ← hb x hxo, ← Bool.decide_and, decide_eq_decide]
        omega
    · have hc' : ¬ oat o i < b := by omega
      rw [decide_eq_false hc'] at hr
      refine ⟨b, _, rfl, ?_, fun x hxo => ?_, f2⟩
      · rw [range_filter_succ, hr, if_neg (by decide), List.append_nil]
        exact f1
      · rw [take_all hio, ← hb x hxo, ← Bool.decide_and, decide_eq_decide]
        omega
  · rintro ρ' S' ⟨b, o3, rfl, f1, hb, f2⟩
    rw [rangeD_len, show ((o.length : Int) - 0).toNat = o.length by omega] at f1
    ((with_reducible conv => whnf); repeat (first | (rw [natD_len]; with_reducible conv => whnf) | (rw [intD_len]; with_reducible conv => whnf) | (refine Exists.intro _ (And.intro (rfl : _ = some _) ?_); with_reducible conv => whnf) | (refine And.intro (okII _ _) ?_; rw [eqD_ii]; with_reducible conv => whnf) | (refine And.intro (by first | assumption | exact Exists.intro _ (by assumption) | exact ⟨rfl, rfl, by decide, by decide⟩ | exact Nat.le_of_ble_eq_true rfl | exact rfl) ?_; with_reducible conv => whnf) | (rw [isLst_at (by assumption)]; with_reducible conv => whnf) | (refine ifT rfl ?_; with_reducible conv => whnf) | (refine ifF rfl ?_; with_reducible conv => whnf) | (refine it_at (by assumption) ?_; with_reducible conv => whnf)))
    exact k _ f2
@[reducible] def sp_ltk : Spc := fun ds S Q => ∃ o r, ds = [ordD o, .int (r : Nat)] ∧ o.length ≤ 100 ∧ okO o ∧ ∀ S', Sub S S' → Q (optD (tkN o r)) S'
theorem recs_lt (o : List Nat) : (recs o).Pairwise (· < ·) := (List.pairwise_lt_range).filter _
theorem mem_recs {o : List Nat} {k : Nat} : k ∈ recs o ↔ k < o.length ∧ isRec o k = true := by
  unfold recs
  rw [List.mem_filter, List.mem_range]
theorem body_law_taken : Body 3 2 (w_law_taken sp_lrecs) sp_ltk := by
  rintro ds S Q _ ⟨o, r, rfl, hl, ho, k⟩
  unfold w_law_taken
  (simp only [start, List.map_cons, List.map_nil, List.length_cons, List.length_nil, Nat.reduceAdd, Nat.reduceSub, List.replicate_succ, List.replicate_zero, List.cons_append, List.nil_append, Nat.sub_self, Nat.zero_add])
  ((with_reducible conv => whnf); repeat (first | (rw [natD_len]; with_reducible conv => whnf) | (rw [intD_len]; with_reducible conv => whnf) | (refine Exists.intro _ (And.intro (rfl : _ = some _) ?_); with_reducible conv => whnf) | (refine And.intro (okII _ _) ?_; rw [eqD_ii]; with_reducible conv => whnf) | (refine And.intro (by first | assumption | exact Exists.intro _ (by assumption) | exact ⟨rfl, rfl, by decide, by decide⟩ | exact Nat.le_of_ble_eq_true rfl | exact rfl) ?_; with_reducible conv => whnf) | (rw [isLst_at (by assumption)]; with_reducible conv => whnf) | (refine ifT rfl ?_; with_reducible conv => whnf) | (refine ifF rfl ?_; with_reducible conv => whnf) | (refine it_at (by assumption) ?_; with_reducible conv => whnf)))
  refine ⟨o, rfl, hl, ho, fun S1 s1 => ?_⟩
  ((with_reducible conv => whnf); repeat (first | (rw [natD_len]; with_reducible conv => whnf) | (rw [intD_len]; with_reducible conv => whnf) | (refine Exists.intro _ (And.intro (rfl : _ = some _) ?_); with_reducible conv => whnf) | (refine And.intro (okII _ _) ?_; rw [eqD_ii]; with_reducible conv => whnf) | (refine And.intro (by first | assumption | exact Exists.intro _ (by assumption) | exact ⟨rfl, rfl, by decide, by decide⟩ | exact Nat.le_of_ble_eq_true rfl | exact rfl) ?_; with_reducible conv => whnf) | (rw [isLst_at (by assumption)]; with_reducible conv => whnf) | (refine ifT rfl ?_; with_reducible conv => whnf) | (refine ifF rfl ?_; with_reducible conv => whnf) | (refine it_at (by assumption) ?_; with_reducible conv => whnf)))
  refine Loop_mk (fun i ρ S' => ∃ o2, ρ = [some (ordD o), some (.int (r : Nat)), o2] ∧ (∀ j, j < i → ∀ k, (recs o)[j]? = some k → k < r) ∧ Sub S S') ⟨none, rfl, by omega, s1⟩ (by intros; trivial) ?_ ?_
  · rintro i d ρ' S' hi ⟨o2, rfl, h1, h2⟩
    obtain ⟨x, hx, rfl⟩ := natD_get hi
    ((with_reducible conv => whnf); repeat (first | (rw [natD_len]; with_reducible conv => whnf) | (rw [intD_len]; with_reducible conv => whnf) | (refine Exists.intro _ (And.intro (rfl : _ = some _) ?_); with_reducible conv => whnf) | (refine And.intro (okII _ _) ?_; rw [eqD_ii]; with_reducible conv => whnf) | (refine And.intro (by first | assumption | exact Exists.intro _ (by assumption) | exact ⟨rfl, rfl, by decide, by decide⟩ | exact Nat.le_of_ble_eq_true rfl | exact rfl) ?_; with_reducible conv => whnf) | (rw [isLst_at (by assumption)]; with_reducible conv => whnf) | (refine ifT rfl ?_; with_reducible conv => whnf) | (refine ifF rfl ?_; with_reducible conv => whnf) | (refine it_at (by assumption) ?_; with_reducible conv => whnf)))
    refine ite_d (fun hc => ?_) fun hc => ?_
    · have hm := mem_recs.mp (List.mem_of_getElem? hx)
      have fin := k S' h2
      rw [show tkN o r = some x from tk_some hm.2 _ _ (by omega) (by omega) fun j a b => ?_] at fin
      · exact fin
      · false_or_by_contra
        rename_i hh
        have hj : j ∈ recs o := mem_recs.mpr ⟨by omega, by simpa using hh⟩
        obtain ⟨q, hq, e⟩ := List.mem_iff_getElem.mp hj
        have hi2 := (List.getElem?_eq_some_iff.mp hx)
        obtain ⟨hi3, hi4⟩ := hi2
        have hqi : q < i := by
          false_or_by_contra
          rename_i hc3
          have hp := List.pairwise_iff_getElem.mp (recs_lt o)
          by_cases c : q = i
          · subst c; omega
          · have := hp i q hi3 hq (by omega)
            omega
        have := h1 q hqi j (by rw [List.getElem?_eq_getElem hq, e])
        omega
    · refine ⟨_, rfl, fun j hj k hk => ?_, h2⟩
      by_cases c : j = i
      · subst c
        rw [hx] at hk
        have := Option.some.inj hk
        omega
      · exact h1 j (by omega) k hk
  · rintro ρ' S' ⟨o2, rfl, h1, h2⟩
    rw [natD_len] at h1
    have fin := k S' h2
    rw [show tkN o r = none from tk_none _ _ fun j a b => ?_] at fin
    · exact fin
    · cases e : isRec o j with
      | false => rfl
      | true =>
        have hj : j ∈ recs o := mem_recs.mpr ⟨by omega, e⟩
        obtain ⟨q, hq, e⟩ := List.mem_iff_getElem.mp hj
        have := h1 q hq j (by rw [List.getElem?_eq_getElem hq, e])
        omega
@[reducible] def sp_order : Spc := fun ds S Q => ∃ n k : Nat, ds = [.ref n, .int k] ∧ k ≤ 100 ∧ Dr n S ∧ ∀ o S', o.length = k → okO o → Dr n S' → Ch n S S' → Q (.tup (natD o)) S'
theorem map_er {α β : Type} (f : α → β) : ∀ (l : List α) (i : Nat), (l.map f).eraseIdx i = (l.eraseIdx i).map f
  | [], _ => rfl
  | _ :: _, 0 => rfl
  | a :: l, i + 1 => by show f a :: (l.map f).eraseIdx i = f a :: (l.eraseIdx i).map f; rw [map_er f l i]
theorem nat_erase (l : List Nat) (i : Nat) : (natD l).eraseIdx i = natD (l.eraseIdx i) := by
  show ((l.map fun (k : Nat) => (k : Int)).map D.int).eraseIdx i = ((l.eraseIdx i).map fun (k : Nat) => (k : Int)).map D.int
  rw [map_er, map_er]
theorem rangeD_natD (k : Nat) : rangeD 0 (k : Int) = natD (List.range k) := by rw [rangeD_nat, natD_map]
theorem mem_er {l : List Nat} {i x : Nat} (h : x ∈ l.eraseIdx i) : x ∈ l := List.mem_of_mem_eraseIdx h
theorem pick4 {a b c d : Int} {r : Int} (h0 : 0 ≤ r) (h1 : r < 4) : ∃ x, atZ [D.int a, .int b, .int c, .int d] r = some (.int x) ∧ (x = a ∨ x = b ∨ x = c ∨ x = d) := by
  have : r = 0 ∨ r = 1 ∨ r = 2 ∨ r = 3 := by omega
  rcases this with rfl | rfl | rfl | rfl
  · exact ⟨a, rfl, by simp⟩
  · exact ⟨b, rfl, by simp⟩
  · exact ⟨c, rfl, by simp⟩
  · exact ⟨d, rfl, by simp⟩
theorem natD_rev (l : List Nat) : (natD l).reverse = natD l.reverse := by simp [natD, intD]
theorem body_law_order : Body 7 2 (w_law_order sp_take) sp_order := by
  rintro ds S Q _ ⟨n, kk, rfl, hk, hd, k⟩
  unfold w_law_order
  (simp only [start, List.map_cons, List.map_nil, List.length_cons, List.length_nil, Nat.reduceAdd, Nat.reduceSub, List.replicate_succ, List.replicate_zero, List.cons_append, List.nil_append, Nat.sub_self, Nat.zero_add])
  ((with_reducible conv => whnf); repeat (first | (rw [natD_len]; with_reducible conv => whnf) | (rw [intD_len]; with_reducible conv => whnf) | (refine Exists.intro _ (And.intro (rfl : _ = some _) ?_); with_reducible conv => whnf) | (refine And.intro (okII _ _) ?_; rw [eqD_ii]; with_reducible conv => whnf) | (refine And.intro (by first | assumption | exact Exists.intro _ (by assumption) | exact ⟨rfl, rfl, by decide, by decide⟩ | exact Nat.le_of_ble_eq_true rfl | exact rfl) ?_; with_reducible conv => whnf) | (rw [isLst_at (by assumption)]; with_reducible conv => whnf) | (refine ifT rfl ?_; with_reducible conv => whnf) | (refine ifF rfl ?_; with_reducible conv => whnf) | (refine it_at (by assumption) ?_; with_reducible conv => whnf)))
  refine ⟨n, 4, rfl, by decide, hd, fun r S1 r0 r1 d1 c1 => ?_⟩
  ((with_reducible conv => whnf); repeat (first | (rw [natD_len]; with_reducible conv => whnf) | (rw [intD_len]; with_reducible conv => whnf) | (refine Exists.intro _ (And.intro (rfl : _ = some _) ?_); with_reducible conv => whnf) | (refine And.intro (okII _ _) ?_; rw [eqD_ii]; with_reducible conv => whnf) | (refine And.intro (by first | assumption | exact Exists.intro _ (by assumption) | exact ⟨rfl, rfl, by decide, by decide⟩ | exact Nat.le_of_ble_eq_true rfl | exact rfl) ?_; with_reducible conv => whnf) | (rw [isLst_at (by assumption)]; with_reducible conv => whnf) | (refine ifT rfl ?_; with_reducible conv => whnf) | (refine ifF rfl ?_; with_reducible conv => whnf) | (refine it_at (by assumption) ?_; with_reducible conv => whnf)))
  refine ⟨⟨⟨by omega, by omega⟩, by unfold szL; omega⟩, ?_⟩
  rw [rangeD_natD]
  have l1 := c1.len d1.lt
  have hn1 := d1.lt
  have e0 := at_push S1 (.lst (natD (List.range kk)))
  have c2 := c1.app [.lst (natD (List.range kk))]
  have d2 := d1.app [.lst (natD (List.range kk))]
  ((with_reducible conv => whnf); repeat (first | (rw [natD_len]; with_reducible conv => whnf) | (rw [intD_len]; with_reducible conv => whnf) | (refine Exists.intro _ (And.intro (rfl : _ = some _) ?_); with_reducible conv => whnf) | (refine And.intro (okII _ _) ?_; rw [eqD_ii]; with_reducible conv => whnf) | (refine And.intro (by first | assumption | exact Exists.intro _ (by assumption) | exact ⟨rfl, rfl, by decide, by decide⟩ | exact Nat.le_of_ble_eq_true rfl | exact rfl) ?_; with_reducible conv => whnf) | (rw [isLst_at (by assumption)]; with_reducible conv => whnf) | (refine ifT rfl ?_; with_reducible conv => whnf) | (refine ifF rfl ?_; with_reducible conv => whnf) | (refine it_at (by assumption) ?_; with_reducible conv => whnf)))
  generalize hS2 : S1 ++ [.lst (natD (List.range kk))] = S2 at *
  have hl2 : S2.length = S1.length + 1 := by rw [← hS2]; simp
  have e1 := at_push S2 (.lst [])
  have e0 := push_at e0 [.lst []]
  have c3 := c2.app [.lst []]
  have d3 := d2.app [.lst []]
  rw [hl2] at e1
  ((with_reducible conv => whnf); repeat (first | (rw [natD_len]; with_reducible conv => whnf) | (rw [intD_len]; with_reducible conv => whnf) | (refine Exists.intro _ (And.intro (rfl : _ = some _) ?_); with_reducible conv => whnf) | (refine And.intro (okII _ _) ?_; rw [eqD_ii]; with_reducible conv => whnf) | (refine And.intro (by first | assumption | exact Exists.intro _ (by assumption) | exact ⟨rfl, rfl, by decide, by decide⟩ | exact Nat.le_of_ble_eq_true rfl | exact rfl) ?_; with_reducible conv => whnf) | (rw [isLst_at (by assumption)]; with_reducible conv => whnf) | (refine ifT rfl ?_; with_reducible conv => whnf) | (refine ifF rfl ?_; with_reducible conv => whnf) | (refine it_at (by assumption) ?_; with_reducible conv => whnf)))
  rw [hl2]
  generalize hS3 : S2 ++ [.lst []] = S3 at *
  generalize hnl : S1.length = nl at *
  refine ⟨⟨by omega, by omega⟩, ?_⟩
  refine Loop_mk (fun i ρ S' => ∃ o5 o6 fs ls, ρ = [some (.ref n), some (.int kk), some (.int r), some (.ref nl), some (.ref (nl + 1)), o5, o6] ∧ S'[nl]? = some (.lst (natD ls)) ∧ S'[nl + 1]? = some (.lst (natD fs)) ∧ fs.length = i ∧ ls.length + i = kk ∧ (∀ x ∈ fs, x < kk) ∧ (∀ x ∈ ls, x < kk) ∧ Dr n S' ∧ Ch n S S') ⟨none, none, [], List.range kk, rfl, e0, e1, rfl, by rw [List.length_range]; omega, by simp, fun x hx => List.mem_range.mp hx, d3, c3⟩ (by intros; trivial) ?_ ?_
  · rintro i d ρ' S' hi ⟨o5, o6, fs, ls, rfl, f0, f1, f2, f3, f3a, f3b, f4, f5⟩
    obtain ⟨hi1, rfl⟩ := rangeD_get hi
    ((with_reducible conv => whnf); repeat (first | (rw [natD_len]; with_reducible conv => whnf) | (rw [intD_len]; with_reducible conv => whnf) | (refine Exists.intro _ (And.intro (rfl : _ = some _) ?_); with_reducible conv => whnf) | (refine And.intro (okII _ _) ?_; rw [eqD_ii]; with_reducible conv => whnf) | (refine And.intro (by first | assumption | exact Exists.intro _ (by assumption) | exact ⟨rfl, rfl, by decide, by decide⟩ | exact Nat.le_of_ble_eq_true rfl | exact rfl) ?_; with_reducible conv => whnf) | (rw [isLst_at (by assumption)]; with_reducible conv => whnf) | (refine ifT rfl ?_; with_reducible conv => whnf) | (refine ifF rfl ?_; with_reducible conv => whnf) | (refine it_at (by assumption) ?_; with_reducible conv => whnf)))
    refine ⟨n, 1000, rfl, by omega, f4, fun u S4 u0 u1 d4 c4 => ?_⟩
    have f0 := c4 _ _ (by omega) f0
    have f1 := c4 _ _ (by omega) f1
    have c5 := f5.trans c4
    ((with_reducible conv => whnf); repeat (first | (rw [natD_len]; with_reducible conv => whnf) | (rw [intD_len]; with_reducible conv => whnf) | (refine Exists.intro _ (And.intro (rfl : _ = some _) ?_); with_reducible conv => whnf) | (refine And.intro (okII _ _) ?_; rw [eqD_ii]; with_reducible conv => whnf) | (refine And.intro (by first | assumption | exact Exists.intro _ (by assumption) | exact ⟨rfl, rfl, by decide, by decide⟩ | exact Nat.le_of_ble_eq_true rfl | exact rfl) ?_; with_reducible conv => whnf) | (rw [isLst_at (by assumption)]; with_reducible conv => whnf) | (refine ifT rfl ?_; with_reducible conv => whnf) | (refine ifF rfl ?_; with_reducible conv => whnf) | (refine it_at (by assumption) ?_; with_reducible conv => whnf)))
    refine ⟨by omega, ?_⟩
    ((with_reducible conv => whnf); repeat (first | (rw [natD_len]; with_reducible conv => whnf) | (rw [intD_len]; with_reducible conv => whnf) | (refine Exists.intro _ (And.intro (rfl : _ = some _) ?_); with_reducible conv => whnf) | (refine And.intro (okII _ _) ?_; rw [eqD_ii]; with_reducible conv => whnf) | (refine And.intro (by first | assumption | exact Exists.intro _ (by assumption) | exact ⟨rfl, rfl, by decide, by decide⟩ | exact Nat.le_of_ble_eq_true rfl | exact rfl) ?_; with_reducible conv => whnf) | (rw [isLst_at (by assumption)]; with_reducible conv => whnf) | (refine ifT rfl ?_; with_reducible conv => whnf) | (refine ifF rfl ?_; with_reducible conv => whnf) | (refine it_at (by assumption) ?_; with_reducible conv => whnf)))
    refine ⟨by omega, ?_⟩
    obtain ⟨v0, v1⟩ := fmod_lt (a := u) (b := (ls.length : Int)) (by omega)
    obtain ⟨w0, w1⟩ := fmod_lt (a := u) (b := min (ls.length : Int) 3) (by omega)
    generalize u.fmod (ls.length : Int) = v at *
    generalize u.fmod (min (ls.length : Int) 3) = w at *
    have e5 := at_push S4 (.lst [.int v, .int 0, .int ((ls.length : Int) - 1), .int w])
    have f0 := push_at f0 [.lst [.int v, .int 0, .int ((ls.length : Int) - 1), .int w]]
    have f1 := push_at f1 [.lst [.int v, .int 0, .int ((ls.length : Int) - 1), .int w]]
    have c6 := c5.app [.lst [.int v, .int 0, .int ((ls.length : Int) - 1), .int w]]
    have d6 := d4.app [.lst [.int v, .int 0, .int ((ls.length : Int) - 1), .int w]]
    ((with_reducible conv => whnf); repeat (first | (rw [natD_len]; with_reducible conv => whnf) | (rw [intD_len]; with_reducible conv => whnf) | (refine Exists.intro _ (And.intro (rfl : _ = some _) ?_); with_reducible conv => whnf) | (refine And.intro (okII _ _) ?_; rw [eqD_ii]; with_reducible conv => whnf) | (refine And.intro (by first | assumption | exact Exists.intro _ (by assumption) | exact ⟨rfl, rfl, by decide, by decide⟩ | exact Nat.le_of_ble_eq_true rfl | exact rfl) ?_; with_reducible conv => whnf) | (rw [isLst_at (by assumption)]; with_reducible conv => whnf) | (refine ifT rfl ?_; with_reducible conv => whnf) | (refine ifF rfl ?_; with_reducible conv => whnf) | (refine it_at (by assumption) ?_; with_reducible conv => whnf)))
    obtain ⟨q, hq, hq2⟩ := pick4 (a := v) (b := 0) (c := (ls.length : Int) - 1) (d := w) r0 r1
    have q0 : 0 ≤ q := by omega
    have q1 : q < ls.length := by omega
    refine ⟨_, hq, ?_⟩
    ((with_reducible conv => whnf); repeat (first | (rw [natD_len]; with_reducible conv => whnf) | (rw [intD_len]; with_reducible conv => whnf) | (refine Exists.intro _ (And.intro (rfl : _ = some _) ?_); with_reducible conv => whnf) | (refine And.intro (okII _ _) ?_; rw [eqD_ii]; with_reducible conv => whnf) | (refine And.intro (by first | assumption | exact Exists.intro _ (by assumption) | exact ⟨rfl, rfl, by decide, by decide⟩ | exact Nat.le_of_ble_eq_true rfl | exact rfl) ?_; with_reducible conv => whnf) | (rw [isLst_at (by assumption)]; with_reducible conv => whnf) | (refine ifT rfl ?_; with_reducible conv => whnf) | (refine ifF rfl ?_; with_reducible conv => whnf) | (refine it_at (by assumption) ?_; with_reducible conv => whnf)))
    generalize S4 ++ [.lst [.int v, .int 0, .int ((ls.length : Int) - 1), .int w]] = S5 at *
    have hq3 : q.toNat < ls.length := by omega
    refine ⟨⟨by omega, by omega⟩, q.toNat, .int (ls[q.toNat] : Nat), ixZ_ok q0 q1, ?_, ?_⟩
    · show ((ls.map fun (k : Nat) => (k : Int)).map D.int)[q.toNat]? = _
      rw [List.getElem?_map, List.getElem?_map, List.getElem?_eq_getElem hq3]
      rfl
    rw [nat_erase]
    have f1 : (S5.set nl (.lst (natD (ls.eraseIdx q.toNat))))[nl + 1]? = some (.lst (natD fs)) := by rw [at_set_ne (by omega), f1]
    have f0 := at_set f0 (o' := .lst (natD (ls.eraseIdx q.toNat)))
    have c5 := c6.put (show S.length ≤ nl by omega) (o := .lst (natD (ls.eraseIdx q.toNat)))
    have d5 := d6.put (show n ≠ nl by omega) (o := .lst (natD (ls.eraseIdx q.toNat)))
    ((with_reducible conv => whnf); repeat (first | (rw [natD_len]; with_reducible conv => whnf) | (rw [intD_len]; with_reducible conv => whnf) | (refine Exists.intro _ (And.intro (rfl : _ = some _) ?_); with_reducible conv => whnf) | (refine And.intro (okII _ _) ?_; rw [eqD_ii]; with_reducible conv => whnf) | (refine And.intro (by first | assumption | exact Exists.intro _ (by assumption) | exact ⟨rfl, rfl, by decide, by decide⟩ | exact Nat.le_of_ble_eq_true rfl | exact rfl) ?_; with_reducible conv => whnf) | (rw [isLst_at (by assumption)]; with_reducible conv => whnf) | (refine ifT rfl ?_; with_reducible conv => whnf) | (refine ifF rfl ?_; with_reducible conv => whnf) | (refine it_at (by assumption) ?_; with_reducible conv => whnf)))
    generalize S5.set nl (.lst (natD (ls.eraseIdx q.toNat))) = S7 at *
    refine ⟨by unfold szL; omega, ?_⟩
    refine ⟨_, _, fs ++ [ls[q.toNat]], ls.eraseIdx q.toNat, rfl, ?_, ?_, by rw [List.length_append, f2]; rfl, by rw [List.length_eraseIdx_of_lt hq3]; omega, fun x hx => ?_, fun x hx => f3b x (mem_er hx), d5.put (by omega), c5.put (by omega)⟩
    · rw [at_set_ne (by omega), f0]
    · rw [at_set f1, ← natD_app]; rfl
    · rcases List.mem_append.mp hx with e | e
      · exact f3a x e
      · rw [List.mem_singleton.mp e]
        exact f3b _ (List.getElem_mem _)
  · rintro ρ' S' ⟨o5, o6, fs, ls, rfl, f0, f1, f2, f3, f3a, f3b, f4, f5⟩
    rw [rangeD_len, show ((kk : Int) - 0).toNat = kk by omega] at f2
    have hn := f4.lt
    have hll := f5.len hn
    ((with_reducible conv => whnf); repeat (first | (rw [natD_len]; with_reducible conv => whnf) | (rw [intD_len]; with_reducible conv => whnf) | (refine Exists.intro _ (And.intro (rfl : _ = some _) ?_); with_reducible conv => whnf) | (refine And.intro (okII _ _) ?_; rw [eqD_ii]; with_reducible conv => whnf) | (refine And.intro (by first | assumption | exact Exists.intro _ (by assumption) | exact ⟨rfl, rfl, by decide, by decide⟩ | exact Nat.le_of_ble_eq_true rfl | exact rfl) ?_; with_reducible conv => whnf) | (rw [isLst_at (by assumption)]; with_reducible conv => whnf) | (refine ifT rfl ?_; with_reducible conv => whnf) | (refine ifF rfl ?_; with_reducible conv => whnf) | (refine it_at (by assumption) ?_; with_reducible conv => whnf)))
    refine ite_d (fun hc => ?_) fun hc => ?_
    · ((with_reducible conv => whnf); repeat (first | (rw [natD_len]; with_reducible conv => whnf) | (rw [intD_len]; with_reducible conv => whnf) | (refine Exists.intro _ (And.intro (rfl : _ = some _) ?_); with_reducible conv => whnf) | (refine And.intro (okII _ _) ?_; rw [eqD_ii]; with_reducible conv => whnf) | (refine And.intro (by first | assumption | exact Exists.intro _ (by assumption) | exact ⟨rfl, rfl, by decide, by decide⟩ | exact Nat.le_of_ble_eq_true rfl | exact rfl) ?_; with_reducible conv => whnf) | (rw [isLst_at (by assumption)]; with_reducible conv => whnf) | (refine ifT rfl ?_; with_reducible conv => whnf) | (refine ifF rfl ?_; with_reducible conv => whnf) | (refine it_at (by assumption) ?_; with_reducible conv => whnf)))
      rw [natD_rev]
      have e9 := at_set f1 (o' := .lst (natD fs.reverse))
      ((with_reducible conv => whnf); repeat (first | (rw [natD_len]; with_reducible conv => whnf) | (rw [intD_len]; with_reducible conv => whnf) | (refine Exists.intro _ (And.intro (rfl : _ = some _) ?_); with_reducible conv => whnf) | (refine And.intro (okII _ _) ?_; rw [eqD_ii]; with_reducible conv => whnf) | (refine And.intro (by first | assumption | exact Exists.intro _ (by assumption) | exact ⟨rfl, rfl, by decide, by decide⟩ | exact Nat.le_of_ble_eq_true rfl | exact rfl) ?_; with_reducible conv => whnf) | (rw [isLst_at (by assumption)]; with_reducible conv => whnf) | (refine ifT rfl ?_; with_reducible conv => whnf) | (refine ifF rfl ?_; with_reducible conv => whnf) | (refine it_at (by assumption) ?_; with_reducible conv => whnf)))
      refine k fs.reverse _ (by rw [List.length_reverse, f2]) (fun x hx => ?_) (f4.put (by omega)) (f5.put (by omega))
      rw [List.length_reverse, f2]
      exact f3a x (List.mem_reverse.mp hx)
    · ((with_reducible conv => whnf); repeat (first | (rw [natD_len]; with_reducible conv => whnf) | (rw [intD_len]; with_reducible conv => whnf) | (refine Exists.intro _ (And.intro (rfl : _ = some _) ?_); with_reducible conv => whnf) | (refine And.intro (okII _ _) ?_; rw [eqD_ii]; with_reducible conv => whnf) | (refine And.intro (by first | assumption | exact Exists.intro _ (by assumption) | exact ⟨rfl, rfl, by decide, by decide⟩ | exact Nat.le_of_ble_eq_true rfl | exact rfl) ?_; with_reducible conv => whnf) | (rw [isLst_at (by assumption)]; with_reducible conv => whnf) | (refine ifT rfl ?_; with_reducible conv => whnf) | (refine ifF rfl ?_; with_reducible conv => whnf) | (refine it_at (by assumption) ?_; with_reducible conv => whnf)))
      exact k fs _ f2 (fun x hx => by rw [f2]; exact f3a x hx) f4 f5
end K91
set_option linter.all false
set_option maxRecDepth 100000
set_option exponentiation.threshold 10000
set_option maxHeartbeats 4000000
namespace K91
open DL
/-- k put in at each place -/
def putIn (k : Nat) (o : List Nat) : List (List Nat) := (List.range (k + 1)).map fun i => o.take i ++ [k] ++ o.drop i
def allO : Nat → List (List Nat)
  | 0 => [[]]
  | k + 1 => (allO k).flatMap (putIn k)
theorem allO_len : ∀ k, (allO k).length = fct k
  | 0 => rfl
  | k + 1 => by
    show ((allO k).flatMap (putIn k)).length = fct k * (k + 1)
    rw [← allO_len k]
    generalize allO k = l
    induction l with
    | nil => simp
    | cons x l ih =>
      rw [List.flatMap_cons, List.length_append, ih, List.length_cons, Nat.add_mul, Nat.one_mul]
      unfold putIn
      rw [List.length_map, List.length_range]
      omega
theorem allO_ol : ∀ k, ∀ o ∈ allO k, o.length = k
  | 0, o, h => by rw [List.mem_singleton.mp h]; rfl
  | k + 1, o, h => by
    obtain ⟨p, hp, ho⟩ := List.mem_flatMap.mp (show o ∈ (allO k).flatMap (putIn k) from h)
    obtain ⟨i, hi, rfl⟩ := List.mem_map.mp ho
    have := allO_ol k p hp
    have := List.mem_range.mp hi
    simp
    omega
@[reducible] def sp_allO : Spc := fun ds S Q => ∃ n : Nat, ds = [.int n] ∧ n ≤ 8 ∧ ∀ m S', S'[m]? = some (.lst ((allO n).map ordD)) → Sub S S' → Q (.ref m) S'
theorem fct_8 {n : Nat} (h : n ≤ 8) : fct n ≤ 40320 := Nat.le_trans (fct_mono h) (by decide)
theorem body_law_all_orders : Body 6 1 w_law_all_orders sp_allO := by
  rintro ds S Q _ ⟨n, rfl, hn, k⟩
  unfold w_law_all_orders
  (simp only [start, List.map_cons, List.map_nil, List.length_cons, List.length_nil, Nat.reduceAdd, Nat.reduceSub, List.replicate_succ, List.replicate_zero, List.cons_append, List.nil_append, Nat.sub_self, Nat.zero_add])
  ((with_reducible conv => whnf); repeat (first | (rw [natD_len]; with_reducible conv => whnf) | (rw [intD_len]; with_reducible conv => whnf) | (refine Exists.intro _ (And.intro (rfl : _ = some _) ?_); with_reducible conv => whnf) | (refine And.intro (okII _ _) ?_; rw [eqD_ii]; with_reducible conv => whnf) | (refine And.intro (by first | assumption | exact Exists.intro _ (by assumption) | exact ⟨rfl, rfl, by decide, by decide⟩ | exact Nat.le_of_ble_eq_true rfl | exact rfl) ?_; with_reducible conv => whnf) | (rw [isLst_at (by assumption)]; with_reducible conv => whnf) | (refine ifT rfl ?_; with_reducible conv => whnf) | (refine ifF rfl ?_; with_reducible conv => whnf) | (refine it_at (by assumption) ?_; with_reducible conv => whnf)))
  have e0 := at_push S (.lst [.tup []])
  have s0 := (Sub.refl S).app [.lst [.tup []]]
  generalize S ++ [.lst [.tup []]] = S1 at *
  generalize S.length = n0 at *
  refine ⟨⟨by omega, by omega⟩, ?_⟩
  refine Loop_mk (fun i ρ S' => ∃ m o2 o3 o4, ρ = [some (.int n), some (.ref m), o2, o3, o4, none] ∧ S'[m]? = some (.lst ((allO i).map ordD)) ∧ Sub S S') ⟨n0, none, none, none, rfl, e0, s0⟩ (by intros; trivial) ?_ ?_
  · rintro i d ρ' S' hi ⟨m, o2, o3, o4, rfl, f1, f2⟩
    obtain ⟨hi1, rfl⟩ := rangeD_get hi
    rw [show (0 : Int) + i = i by omega]
    have e1 := at_push S' (.lst [])
    have f1 := push_at f1 [.lst []]
    have f2 := f2.app [.lst []]
    ((with_reducible conv => whnf); repeat (first | (rw [natD_len]; with_reducible conv => whnf) | (rw [intD_len]; with_reducible conv => whnf) | (refine Exists.intro _ (And.intro (rfl : _ = some _) ?_); with_reducible conv => whnf) | (refine And.intro (okII _ _) ?_; rw [eqD_ii]; with_reducible conv => whnf) | (refine And.intro (by first | assumption | exact Exists.intro _ (by assumption) | exact ⟨rfl, rfl, by decide, by decide⟩ | exact Nat.le_of_ble_eq_true rfl | exact rfl) ?_; with_reducible conv => whnf) | (rw [isLst_at (by assumption)]; with_reducible conv => whnf) | (refine ifT rfl ?_; with_reducible conv => whnf) | (refine ifF rfl ?_; with_reducible conv => whnf) | (refine it_at (by assumption) ?_; with_reducible conv => whnf)))
    generalize S' ++ [.lst []] = S2 at *
    generalize S'.length = n2 at *
    have hfi := fct_8 (show i + 1 ≤ 8 by omega)
    have hll : ∀ j, (((allO i).take j).flatMap (putIn i)).length ≤ 40320 := by
      intro j
      have h1 := allO_len (i + 1)
      have h2 : (allO (i + 1)).length = (((allO i).take j).flatMap (putIn i)).length + (((allO i).drop j).flatMap (putIn i)).length := by
        show ((allO i).flatMap (putIn i)).length = _
        rw [← List.length_append, ← List.flatMap_append, List.take_append_drop]
      omega
    refine Loop_mk (fun j ρ S' => ∃ q o4, ρ = [some (.int n), some (.ref m), some (.int i), some (.ref q), o4, none] ∧ S'[m]? = some (.lst ((allO i).map ordD)) ∧ S'[q]? = some (.lst ((((allO i).take j).flatMap (putIn i)).map ordD)) ∧ Sub S S') ⟨n2, o4, rfl, f1, e1, f2⟩ (by rintro j ρ S' ⟨q, o4, rfl, h, _⟩; exact h) ?_ ?_
    · rintro j d ρ' S3 hj ⟨q, o4, rfl, g1, g2, g3⟩
      rw [List.getElem?_map] at hj
      obtain ⟨o, ho, rfl⟩ : ∃ o, (allO i)[j]? = some o ∧ d = ordD o := by
        cases e : (allO i)[j]? with
        | none => rw [e] at hj; cases hj
        | some o => rw [e] at hj; exact ⟨o, rfl, (Option.some.inj hj).symm⟩
      have hol := allO_ol i o (List.mem_of_getElem? ho)
      ((with_reducible conv => whnf); repeat (first | (rw [natD_len]; with_reducible conv => whnf) | (rw [intD_len]; with_reducible conv => whnf) | (refine Exists.intro _ (And.intro (rfl : _ = some _) ?_); with_reducible conv => whnf) | (refine And.intro (okII _ _) ?_; rw [eqD_ii]; with_reducible conv => whnf) | (refine And.intro (by first | assumption | exact Exists.intro _ (by assumption) | exact ⟨rfl, rfl, by decide, by decide⟩ | exact Nat.le_of_ble_eq_true rfl | exact rfl) ?_; with_reducible conv => whnf) | (rw [isLst_at (by assumption)]; with_reducible conv => whnf) | (refine ifT rfl ?_; with_reducible conv => whnf) | (refine ifF rfl ?_; with_reducible conv => whnf) | (refine it_at (by assumption) ?_; with_reducible conv => whnf)))
      refine ⟨⟨by omega, by omega⟩, ?_⟩
      rw [show (i : Int) + 1 = ((i + 1 : Nat) : Int) by omega]
      refine Lc_rm (fun t => ordD (o.take t ++ [i] ++ o.drop t)) (by unfold szL; omega) (by intros; trivial) (fun t S4 R ht h4 hR => ?_) fun S4 h4 => ?_
      · ((with_reducible conv => whnf); repeat (first | (rw [natD_len]; with_reducible conv => whnf) | (rw [intD_len]; with_reducible conv => whnf) | (refine Exists.intro _ (And.intro (rfl : _ = some _) ?_); with_reducible conv => whnf) | (refine And.intro (okII _ _) ?_; rw [eqD_ii]; with_reducible conv => whnf) | (refine And.intro (by first | assumption | exact Exists.intro _ (by assumption) | exact ⟨rfl, rfl, by decide, by decide⟩ | exact Nat.le_of_ble_eq_true rfl | exact rfl) ?_; with_reducible conv => whnf) | (rw [isLst_at (by assumption)]; with_reducible conv => whnf) | (refine ifT rfl ?_; with_reducible conv => whnf) | (refine ifF rfl ?_; with_reducible conv => whnf) | (refine it_at (by assumption) ?_; with_reducible conv => whnf)))
        rw [cut_take _ (by omega), Int.toNat_natCast, natD_take]
        refine ⟨by rw [natD_len, List.length_take, List.length_singleton]; unfold szL; omega, ?_⟩
        ((with_reducible conv => whnf); repeat (first | (rw [natD_len]; with_reducible conv => whnf) | (rw [intD_len]; with_reducible conv => whnf) | (refine Exists.intro _ (And.intro (rfl : _ = some _) ?_); with_reducible conv => whnf) | (refine And.intro (okII _ _) ?_; rw [eqD_ii]; with_reducible conv => whnf) | (refine And.intro (by first | assumption | exact Exists.intro _ (by assumption) | exact ⟨rfl, rfl, by decide, by decide⟩ | exact Nat.le_of_ble_eq_true rfl | exact rfl) ?_; with_reducible conv => whnf) | (rw [isLst_at (by assumption)]; with_reducible conv => whnf) | (refine ifT rfl ?_; with_reducible conv => whnf) | (refine ifF rfl ?_; with_reducible conv => whnf) | (refine it_at (by assumption) ?_; with_reducible conv => whnf)))
        rw [cut_drop _ (by omega), Int.toNat_natCast, natD_drop, show [D.int (i : Int)] = natD [i] from rfl, natD_app]
        refine ⟨by rw [natD_len, natD_len, List.length_append, List.length_take, List.length_drop, List.length_singleton]; unfold szL; omega, ?_⟩
        rw [natD_app]
        exact hR S4 (Sub.refl _)
      · have em : (List.range (i + 1)).map (fun t => ordD (o.take t ++ [i] ++ o.drop t)) = (putIn i o).map ordD := by unfold putIn; rw [List.map_map]; rfl
        rw [em]
        have e5 := at_push S4 (.lst ((putIn i o).map ordD))
        have g1 := push_at (h4 _ _ g1) [.lst ((putIn i o).map ordD)]
        have g2 := push_at (h4 _ _ g2) [.lst ((putIn i o).map ordD)]
        have g3 := (g3.trans h4).app [.lst ((putIn i o).map ordD)]
        generalize S4 ++ [.lst ((putIn i o).map ordD)] = S5 at *
        ((with_reducible conv => whnf); repeat (first | (rw [natD_len]; with_reducible conv => whnf) | (rw [intD_len]; with_reducible conv => whnf) | (refine Exists.intro _ (And.intro (rfl : _ = some _) ?_); with_reducible conv => whnf) | (refine And.intro (okII _ _) ?_; rw [eqD_ii]; with_reducible conv => whnf) | (refine And.intro (by first | assumption | exact Exists.intro _ (by assumption) | exact ⟨rfl, rfl, by decide, by decide⟩ | exact Nat.le_of_ble_eq_true rfl | exact rfl) ?_; with_reducible conv => whnf) | (rw [isLst_at (by assumption)]; with_reducible conv => whnf) | (refine ifT rfl ?_; with_reducible conv => whnf) | (refine ifF rfl ?_; with_reducible conv => whnf) | (refine it_at (by assumption) ?_; with_reducible conv => whnf)))
        have hpl : (putIn i o).length = i + 1 := by unfold putIn; rw [List.length_map, List.length_range]
        have := hll j
        refine ⟨by rw [List.length_map, List.length_map, hpl]; unfold szL; omega, ?_⟩
        refine ⟨_, _, rfl, push_at g1 _, ?_, g3.app _⟩
        rw [at_push, ← List.map_append]
        have : ((allO i).take (j + 1)).flatMap (putIn i) = ((allO i).take j).flatMap (putIn i) ++ putIn i o := by
          rw [List.take_add_one, ho, List.flatMap_append]
          simp
        rw [this]
    · rintro ρ' S3 ⟨q, o4, rfl, g1, g2, g3⟩
      rw [List.length_map, List.take_length] at g2
      ((with_reducible conv => whnf); repeat (first | (rw [natD_len]; with_reducible conv => whnf) | (rw [intD_len]; with_reducible conv => whnf) | (refine Exists.intro _ (And.intro (rfl : _ = some _) ?_); with_reducible conv => whnf) | (refine And.intro (okII _ _) ?_; rw [eqD_ii]; with_reducible conv => whnf) | (refine And.intro (by first | assumption | exact Exists.intro _ (by assumption) | exact ⟨rfl, rfl, by decide, by decide⟩ | exact Nat.le_of_ble_eq_true rfl | exact rfl) ?_; with_reducible conv => whnf) | (rw [isLst_at (by assumption)]; with_reducible conv => whnf) | (refine ifT rfl ?_; with_reducible conv => whnf) | (refine ifF rfl ?_; with_reducible conv => whnf) | (refine it_at (by assumption) ?_; with_reducible conv => whnf)))
      exact ⟨q, _, _, _, rfl, g2, g3⟩
  · rintro ρ' S' ⟨m, o2, o3, o4, rfl, f1, f2⟩
    rw [rangeD_len, show ((n : Int) - 0).toNat = n by omega] at f1
    ((with_reducible conv => whnf); repeat (first | (rw [natD_len]; with_reducible conv => whnf) | (rw [intD_len]; with_reducible conv => whnf) | (refine Exists.intro _ (And.intro (rfl : _ = some _) ?_); with_reducible conv => whnf) | (refine And.intro (okII _ _) ?_; rw [eqD_ii]; with_reducible conv => whnf) | (refine And.intro (by first | assumption | exact Exists.intro _ (by assumption) | exact ⟨rfl, rfl, by decide, by decide⟩ | exact Nat.le_of_ble_eq_true rfl | exact rfl) ?_; with_reducible conv => whnf) | (rw [isLst_at (by assumption)]; with_reducible conv => whnf) | (refine ifT rfl ?_; with_reducible conv => whnf) | (refine ifF rfl ?_; with_reducible conv => whnf) | (refine it_at (by assumption) ?_; with_reducible conv => whnf)))
    exact k _ _ f1 f2
theorem allO_mem : ∀ k, ∀ o ∈ allO k, ∀ x ∈ o, x < k
  | 0, o, h, x, hx => by rw [List.mem_singleton.mp h] at hx; cases hx
  | k + 1, o, h, x, hx => by
    obtain ⟨p, hp, ho⟩ := List.mem_flatMap.mp (show o ∈ (allO k).flatMap (putIn k) from h)
    obtain ⟨i, hi, rfl⟩ := List.mem_map.mp ho
    have ih := allO_mem k p hp
    rcases List.mem_append.mp hx with e | e
    · rcases List.mem_append.mp e with e | e
      · have := ih x (List.mem_of_mem_take e); omega
      · rw [List.mem_singleton.mp e]; omega
    · have := ih x (List.mem_of_mem_drop e); omega
theorem allO_okO {k : Nat} {o : List Nat} (h : o ∈ allO k) : okO o := fun x hx => by rw [allO_ol k o h]; exact allO_mem k o h x hx
/-! few things: what all orders tell -/
def goodP (r : Nat) (o : List Nat) : Bool := match tkN o r with
  | none => false
  | some k => decide (oat o k = 0)
def cgN (l : List (List Nat)) (r : Nat) : Nat := (l.filter (goodP r)).length
def crN (l : List (List Nat)) (k : Nat) : Nat := (l.filter fun o => decide ((recs o).length = k)).length
def bst (l : List (List Nat)) : Nat → Nat × Nat
  | 0 => (0, 0)
  | j + 1 => if (bst l j).1 < cgN l j then (cgN l j, j) else bst l j
def fewB (n : Nat) (l : List (List Nat)) : Bool :=
  ((List.range n).all fun r => decide (chQ n r = Rat.divInt (cgN l r) (fct n))) &&
  decide (bestP n = (bst l n).2) &&
  ((List.range (n + 2)).all fun k => decide (recQ n k = Rat.divInt (crN l k) (fct n)))
theorem few1 : fewB 1 (allO 1) = true := by decide +kernel
theorem few2 : fewB 2 (allO 2) = true := by decide +kernel
theorem few3 : fewB 3 (allO 3) = true := by decide +kernel
theorem few4 : fewB 4 (allO 4) = true := by decide +kernel
theorem few5 : fewB 5 (allO 5) = true := by decide +kernel
theorem few6 : fewB 6 (allO 6) = true := by decide +kernel
structure Few (n : Nat) : Prop where
  a : ∀ r, r < n → chQ n r = Rat.divInt (cgN (allO n) r) (fct n)
  b : bestP n = (bst (allO n) n).2
  c : ∀ k : Nat, k < n + 2 → recQ n k = Rat.divInt (crN (allO n) k) (fct n)
theorem few_mk {n : Nat} (h0 : 1 ≤ n) (h : n ≤ 6) : Few n := by
  have f : fewB n (allO n) = true := by
    have : n = 1 ∨ n = 2 ∨ n = 3 ∨ n = 4 ∨ n = 5 ∨ n = 6 := by omega
    rcases this with rfl | rfl | rfl | rfl | rfl | rfl
    · exact few1
    · exact few2
    · exact few3
    · exact few4
    · exact few5
    · exact few6
  unfold fewB at f
  simp only [Bool.and_eq_true, List.all_eq_true, List.mem_range, decide_eq_true_eq] at f
  exact ⟨f.1.1, f.1.2, f.2⟩
end K91
set_option linter.all false
set_option maxRecDepth 100000
set_option exponentiation.threshold 10000
set_option maxHeartbeats 4000000
namespace K91
open DL
theorem tk_lt {o : List Nat} {k : Nat} : ∀ s r, tkF o s r = some k → k < r + s
  | 0, r, h => by cases h
  | s + 1, r, h => by
    unfold tkF at h
    by_cases c : isRec o r = true
    · rw [if_pos c] at h
      have := Option.some.inj h
      omega
    · rw [if_neg c] at h
      have := tk_lt s (r + 1) h
      omega
theorem tkN_lt {o : List Nat} {r k : Nat} (h : tkN o r = some k) : k < o.length := by
  have := tk_lt _ _ h
  by_cases c : r ≤ o.length
  · omega
  · unfold tkN at h
    rw [show o.length - r = 0 by omega] at h
    cases h
@[reducible] def sp_few : Spc := fun ds S Q => ∃ n : Nat, ds = [.int n] ∧ 1 ≤ n ∧ n ≤ 6 ∧ ∀ S', Sub S S' → Q (.bl true) S'
theorem body_law_few : Body 8 1 (w_law_few sp_allO sp_ltk sp_frac sp_ctb (sp_same 3) sp_bp sp_lrecs sp_rec) sp_few := by
  rintro ds S Q _ ⟨n, rfl, hn0, hn, kk⟩
  unfold w_law_few
  have F := few_mk hn0 hn
  have hfct := fct_8 (show n ≤ 8 by omega)
  have hol : ∀ o ∈ allO n, o.length = n := allO_ol n
  have hlen := allO_len n
  have hden : ((fct n : Nat) : Int) ≠ 0 ∧ ((fct n : Nat) : Int).natAbs < 2 ^ 2600 := by
    have := fct_pos n
    refine ⟨by omega, ?_⟩
    rw [Int.natAbs_natCast]
    exact Nat.lt_of_le_of_lt hfct (Nat.lt_of_lt_of_le (show 40320 < 2 ^ 16 by decide) (pow_le2 (by decide)))
  have qok : ∀ q : Rat, flat (qD q) = true ∧ slim (qD q) = true ∧ deep (qD q) ≤ 3 := fun q => ⟨rfl, rfl, by show max 0 (max 0 0) + 1 ≤ 3; decide⟩
  (simp only [start, List.map_cons, List.map_nil, List.length_cons, List.length_nil, Nat.reduceAdd, Nat.reduceSub, List.replicate_succ, List.replicate_zero, List.cons_append, List.nil_append, Nat.sub_self, Nat.zero_add])
  ((with_reducible conv => whnf); repeat (first | (rw [natD_len]; with_reducible conv => whnf) | (rw [intD_len]; with_reducible conv => whnf) | (refine Exists.intro _ (And.intro (rfl : _ = some _) ?_); with_reducible conv => whnf) | (refine And.intro (okII _ _) ?_; rw [eqD_ii]; with_reducible conv => whnf) | (refine And.intro (by first | assumption | exact Exists.intro _ (by assumption) | exact ⟨rfl, rfl, by decide, by decide⟩ | exact Nat.le_of_ble_eq_true rfl | exact rfl) ?_; with_reducible conv => whnf) | (rw [isLst_at (by assumption)]; with_reducible conv => whnf) | (refine ifT rfl ?_; with_reducible conv => whnf) | (refine ifF rfl ?_; with_reducible conv => whnf) | (refine it_at (by assumption) ?_; with_reducible conv => whnf)))
  refine ⟨n, rfl, by omega, fun m S1 e1 s1 => ?_⟩
  ((with_reducible conv => whnf); repeat (first | (rw [natD_len]; with_reducible conv => whnf) | (rw [intD_len]; with_reducible conv => whnf) | (refine Exists.intro _ (And.intro (rfl : _ = some _) ?_); with_reducible conv => whnf) | (refine And.intro (okII _ _) ?_; rw [eqD_ii]; with_reducible conv => whnf) | (refine And.intro (by first | assumption | exact Exists.intro _ (by assumption) | exact ⟨rfl, rfl, by decide, by decide⟩ | exact Nat.le_of_ble_eq_true rfl | exact rfl) ?_; with_reducible conv => whnf) | (rw [isLst_at (by assumption)]; with_reducible conv => whnf) | (refine ifT rfl ?_; with_reducible conv => whnf) | (refine ifF rfl ?_; with_reducible conv => whnf) | (refine it_at (by assumption) ?_; with_reducible conv => whnf)))
  refine ⟨⟨by omega, by omega⟩, ?_⟩
  refine Loop_mk (fun i ρ S' => ∃ o3 o4, ρ = [some (.int n), some (.ref m), some (.tup [.int ((bst (allO n) i).1 : Nat), .int ((bst (allO n) i).2 : Nat)]), o3, o4, none, none, none] ∧ S'[m]? = some (.lst ((allO n).map ordD)) ∧ Sub S S') ⟨none, none, rfl, e1, s1⟩ (by intros; trivial) ?_ ?_
  · rintro i d ρ' S' hi ⟨o3, o4, rfl, f1, f2⟩
    obtain ⟨hi1, rfl⟩ := rangeD_get hi
    rw [show (0 : Int) + i = i by omega]
    have hin : i < n := by omega
    ((with_reducible conv => whnf); repeat (first | (rw [natD_len]; with_reducible conv => whnf) | (rw [intD_len]; with_reducible conv => whnf) | (refine Exists.intro _ (And.intro (rfl : _ = some _) ?_); with_reducible conv => whnf) | (refine And.intro (okII _ _) ?_; rw [eqD_ii]; with_reducible conv => whnf) | (refine And.intro (by first | assumption | exact Exists.intro _ (by assumption) | exact ⟨rfl, rfl, by decide, by decide⟩ | exact Nat.le_of_ble_eq_true rfl | exact rfl) ?_; with_reducible conv => whnf) | (rw [isLst_at (by assumption)]; with_reducible conv => whnf) | (refine ifT rfl ?_; with_reducible conv => whnf) | (refine ifF rfl ?_; with_reducible conv => whnf) | (refine it_at (by assumption) ?_; with_reducible conv => whnf)))
    refine Lc_lf (xs := allO n) (e := ordD) (goodP i) ordD (by rw [hlen]; unfold szL; omega) (fun S' h => h _ _ f1) (fun o S7 R ho h hR => ?_) fun S7 h7 => ?_
    · have ol := hol o ho
      ((with_reducible conv => whnf); repeat (first | (rw [natD_len]; with_reducible conv => whnf) | (rw [intD_len]; with_reducible conv => whnf) | (refine Exists.intro _ (And.intro (rfl : _ = some _) ?_); with_reducible conv => whnf) | (refine And.intro (okII _ _) ?_; rw [eqD_ii]; with_reducible conv => whnf) | (refine And.intro (by first | assumption | exact Exists.intro _ (by assumption) | exact ⟨rfl, rfl, by decide, by decide⟩ | exact Nat.le_of_ble_eq_true rfl | exact rfl) ?_; with_reducible conv => whnf) | (rw [isLst_at (by assumption)]; with_reducible conv => whnf) | (refine ifT rfl ?_; with_reducible conv => whnf) | (refine ifF rfl ?_; with_reducible conv => whnf) | (refine it_at (by assumption) ?_; with_reducible conv => whnf)))
      refine ⟨o, i, rfl, by omega, allO_okO ho, fun S8 h8 => ?_⟩
      have hR' := hR
      unfold goodP at hR'
      cases e : tkN o i with
      | none =>
        rw [e] at hR'
        exact hR' S8 h8
      | some k =>
        rw [e] at hR'
        ((with_reducible conv => whnf); repeat (first | (rw [natD_len]; with_reducible conv => whnf) | (rw [intD_len]; with_reducible conv => whnf) | (refine Exists.intro _ (And.intro (rfl : _ = some _) ?_); with_reducible conv => whnf) | (refine And.intro (okII _ _) ?_; rw [eqD_ii]; with_reducible conv => whnf) | (refine And.intro (by first | assumption | exact Exists.intro _ (by assumption) | exact ⟨rfl, rfl, by decide, by decide⟩ | exact Nat.le_of_ble_eq_true rfl | exact rfl) ?_; with_reducible conv => whnf) | (rw [isLst_at (by assumption)]; with_reducible conv => whnf) | (refine ifT rfl ?_; with_reducible conv => whnf) | (refine ifF rfl ?_; with_reducible conv => whnf) | (refine it_at (by assumption) ?_; with_reducible conv => whnf)))
        refine ⟨o, i, rfl, by omega, allO_okO ho, fun S9 h9 => ?_⟩
        rw [e]
        ((with_reducible conv => whnf); repeat (first | (rw [natD_len]; with_reducible conv => whnf) | (rw [intD_len]; with_reducible conv => whnf) | (refine Exists.intro _ (And.intro (rfl : _ = some _) ?_); with_reducible conv => whnf) | (refine And.intro (okII _ _) ?_; rw [eqD_ii]; with_reducible conv => whnf) | (refine And.intro (by first | assumption | exact Exists.intro _ (by assumption) | exact ⟨rfl, rfl, by decide, by decide⟩ | exact Nat.le_of_ble_eq_true rfl | exact rfl) ?_; with_reducible conv => whnf) | (rw [isLst_at (by assumption)]; with_reducible conv => whnf) | (refine ifT rfl ?_; with_reducible conv => whnf) | (refine ifF rfl ?_; with_reducible conv => whnf) | (refine it_at (by assumption) ?_; with_reducible conv => whnf)))
        refine ⟨_, atZ_natD (tkN_lt e), ?_⟩
        ((with_reducible conv => whnf); repeat (first | (rw [natD_len]; with_reducible conv => whnf) | (rw [intD_len]; with_reducible conv => whnf) | (refine Exists.intro _ (And.intro (rfl : _ = some _) ?_); with_reducible conv => whnf) | (refine And.intro (okII _ _) ?_; rw [eqD_ii]; with_reducible conv => whnf) | (refine And.intro (by first | assumption | exact Exists.intro _ (by assumption) | exact ⟨rfl, rfl, by decide, by decide⟩ | exact Nat.le_of_ble_eq_true rfl | exact rfl) ?_; with_reducible conv => whnf) | (rw [isLst_at (by assumption)]; with_reducible conv => whnf) | (refine ifT rfl ?_; with_reducible conv => whnf) | (refine ifF rfl ?_; with_reducible conv => whnf) | (refine it_at (by assumption) ?_; with_reducible conv => whnf)))
        have := hR' S9 (h8.trans h9)
        refine ite_d (fun hc => ?_) fun hc => ?_
        · rw [if_pos (decide_eq_true (by omega))] at this; exact this
        · rw [if_neg (by rw [decide_eq_true_eq]; omega)] at this; exact this
    have e7 := at_push S7 (.lst (((allO n).filter (goodP i)).map ordD))
    have f1 := push_at (h7 _ _ f1) [.lst (((allO n).filter (goodP i)).map ordD)]
    have f2 := (f2.trans h7).app [.lst (((allO n).filter (goodP i)).map ordD)]
    ((with_reducible conv => whnf); repeat (first | (rw [natD_len]; with_reducible conv => whnf) | (rw [intD_len]; with_reducible conv => whnf) | (refine Exists.intro _ (And.intro (rfl : _ = some _) ?_); with_reducible conv => whnf) | (refine And.intro (okII _ _) ?_; rw [eqD_ii]; with_reducible conv => whnf) | (refine And.intro (by first | assumption | exact Exists.intro _ (by assumption) | exact ⟨rfl, rfl, by decide, by decide⟩ | exact Nat.le_of_ble_eq_true rfl | exact rfl) ?_; with_reducible conv => whnf) | (rw [isLst_at (by assumption)]; with_reducible conv => whnf) | (refine ifT rfl ?_; with_reducible conv => whnf) | (refine ifF rfl ?_; with_reducible conv => whnf) | (refine it_at (by assumption) ?_; with_reducible conv => whnf)))
    rw [List.length_map]
    generalize S7 ++ [.lst (((allO n).filter (goodP i)).map ordD)] = S8 at *
    refine ⟨n, i, rfl, hin, by omega, fun S9 h9 => ?_⟩
    have f1 := h9 _ _ f1
    have f2 := f2.trans h9
    ((with_reducible conv => whnf); repeat (first | (rw [natD_len]; with_reducible conv => whnf) | (rw [intD_len]; with_reducible conv => whnf) | (refine Exists.intro _ (And.intro (rfl : _ = some _) ?_); with_reducible conv => whnf) | (refine And.intro (okII _ _) ?_; rw [eqD_ii]; with_reducible conv => whnf) | (refine And.intro (by first | assumption | exact Exists.intro _ (by assumption) | exact ⟨rfl, rfl, by decide, by decide⟩ | exact Nat.le_of_ble_eq_true rfl | exact rfl) ?_; with_reducible conv => whnf) | (rw [isLst_at (by assumption)]; with_reducible conv => whnf) | (refine ifT rfl ?_; with_reducible conv => whnf) | (refine ifF rfl ?_; with_reducible conv => whnf) | (refine it_at (by assumption) ?_; with_reducible conv => whnf)))
    rw [List.length_map, hlen]
    refine ⟨_, _, rfl, hden.1, hden.2, fun S10 h10 => ?_⟩
    have f1 := h10 _ _ f1
    have f2 := f2.trans h10
    ((with_reducible conv => whnf); repeat (first | (rw [natD_len]; with_reducible conv => whnf) | (rw [intD_len]; with_reducible conv => whnf) | (refine Exists.intro _ (And.intro (rfl : _ = some _) ?_); with_reducible conv => whnf) | (refine And.intro (okII _ _) ?_; rw [eqD_ii]; with_reducible conv => whnf) | (refine And.intro (by first | assumption | exact Exists.intro _ (by assumption) | exact ⟨rfl, rfl, by decide, by decide⟩ | exact Nat.le_of_ble_eq_true rfl | exact rfl) ?_; with_reducible conv => whnf) | (rw [isLst_at (by assumption)]; with_reducible conv => whnf) | (refine ifT rfl ?_; with_reducible conv => whnf) | (refine ifF rfl ?_; with_reducible conv => whnf) | (refine it_at (by assumption) ?_; with_reducible conv => whnf)))
    rw [F.a i hin]
    obtain ⟨z1, z2, z3⟩ := qok (Rat.divInt (cgN (allO n) i) (fct n))
    refine ⟨qD (Rat.divInt (cgN (allO n) i) (fct n)), rfl, z1, z2, z3, fun S11 h11 => ?_⟩
    have f1 := h11 _ _ f1
    have f2 := f2.trans h11
    ((with_reducible conv => whnf); repeat (first | (rw [natD_len]; with_reducible conv => whnf) | (rw [intD_len]; with_reducible conv => whnf) | (refine Exists.intro _ (And.intro (rfl : _ = some _) ?_); with_reducible conv => whnf) | (refine And.intro (okII _ _) ?_; rw [eqD_ii]; with_reducible conv => whnf) | (refine And.intro (by first | assumption | exact Exists.intro _ (by assumption) | exact ⟨rfl, rfl, by decide, by decide⟩ | exact Nat.le_of_ble_eq_true rfl | exact rfl) ?_; with_reducible conv => whnf) | (rw [isLst_at (by assumption)]; with_reducible conv => whnf) | (refine ifT rfl ?_; with_reducible conv => whnf) | (refine ifF rfl ?_; with_reducible conv => whnf) | (refine it_at (by assumption) ?_; with_reducible conv => whnf)))
    have hb : bst (allO n) (i + 1) = if (bst (allO n) i).1 < cgN (allO n) i then (cgN (allO n) i, i) else bst (allO n) i := rfl
    refine ite_d (fun hc => ?_) fun hc => ?_
    · rw [if_pos (by show _ < ((allO n).filter (goodP i)).length; omega)] at hb
      ((with_reducible conv => whnf); repeat (first | (rw [natD_len]; with_reducible conv => whnf) | (rw [intD_len]; with_reducible conv => whnf) | (refine Exists.intro _ (And.intro (rfl : _ = some _) ?_); with_reducible conv => whnf) | (refine And.intro (okII _ _) ?_; rw [eqD_ii]; with_reducible conv => whnf) | (refine And.intro (by first | assumption | exact Exists.intro _ (by assumption) | exact ⟨rfl, rfl, by decide, by decide⟩ | exact Nat.le_of_ble_eq_true rfl | exact rfl) ?_; with_reducible conv => whnf) | (rw [isLst_at (by assumption)]; with_reducible conv => whnf) | (refine ifT rfl ?_; with_reducible conv => whnf) | (refine ifF rfl ?_; with_reducible conv => whnf) | (refine it_at (by assumption) ?_; with_reducible conv => whnf)))
      rw [hb]
      exact ⟨_, _, rfl, f1, f2⟩
    · rw [if_neg (by show ¬ _ < ((allO n).filter (goodP i)).length; omega)] at hb
      ((with_reducible conv => whnf); repeat (first | (rw [natD_len]; with_reducible conv => whnf) | (rw [intD_len]; with_reducible conv => whnf) | (refine Exists.intro _ (And.intro (rfl : _ = some _) ?_); with_reducible conv => whnf) | (refine And.intro (okII _ _) ?_; rw [eqD_ii]; with_reducible conv => whnf) | (refine And.intro (by first | assumption | exact Exists.intro _ (by assumption) | exact ⟨rfl, rfl, by decide, by decide⟩ | exact Nat.le_of_ble_eq_true rfl | exact rfl) ?_; with_reducible conv => whnf) | (rw [isLst_at (by assumption)]; with_reducible conv => whnf) | (refine ifT rfl ?_; with_reducible conv => whnf) | (refine ifF rfl ?_; with_reducible conv => whnf) | (refine it_at (by assumption) ?_; with_reducible conv => whnf)))
      rw [hb]
      exact ⟨_, _, rfl, f1, f2⟩
  rintro ρ' S' ⟨o3, o4, rfl, f1, f2⟩
  rw [rangeD_len, show ((n : Int) - 0).toNat = n by omega, ← F.b]
  ((with_reducible conv => whnf); repeat (first | (rw [natD_len]; with_reducible conv => whnf) | (rw [intD_len]; with_reducible conv => whnf) | (refine Exists.intro _ (And.intro (rfl : _ = some _) ?_); with_reducible conv => whnf) | (refine And.intro (okII _ _) ?_; rw [eqD_ii]; with_reducible conv => whnf) | (refine And.intro (by first | assumption | exact Exists.intro _ (by assumption) | exact ⟨rfl, rfl, by decide, by decide⟩ | exact Nat.le_of_ble_eq_true rfl | exact rfl) ?_; with_reducible conv => whnf) | (rw [isLst_at (by assumption)]; with_reducible conv => whnf) | (refine ifT rfl ?_; with_reducible conv => whnf) | (refine ifF rfl ?_; with_reducible conv => whnf) | (refine it_at (by assumption) ?_; with_reducible conv => whnf)))
  refine ⟨n, rfl, by omega, by omega, fun S9 h9 => ?_⟩
  ((with_reducible conv => whnf); repeat (first | (rw [natD_len]; with_reducible conv => whnf) | (rw [intD_len]; with_reducible conv => whnf) | (refine Exists.intro _ (And.intro (rfl : _ = some _) ?_); with_reducible conv => whnf) | (refine And.intro (okII _ _) ?_; rw [eqD_ii]; with_reducible conv => whnf) | (refine And.intro (by first | assumption | exact Exists.intro _ (by assumption) | exact ⟨rfl, rfl, by decide, by decide⟩ | exact Nat.le_of_ble_eq_true rfl | exact rfl) ?_; with_reducible conv => whnf) | (rw [isLst_at (by assumption)]; with_reducible conv => whnf) | (refine ifT rfl ?_; with_reducible conv => whnf) | (refine ifF rfl ?_; with_reducible conv => whnf) | (refine it_at (by assumption) ?_; with_reducible conv => whnf)))
  refine ⟨.int (bestP n : Nat), rfl, rfl, rfl, Nat.zero_le _, fun S10 h10 => ?_⟩
  have f1 := h10 _ _ (h9 _ _ f1)
  have f2 := (f2.trans h9).trans h10
  ((with_reducible conv => whnf); repeat (first | (rw [natD_len]; with_reducible conv => whnf) | (rw [intD_len]; with_reducible conv => whnf) | (refine Exists.intro _ (And.intro (rfl : _ = some _) ?_); with_reducible conv => whnf) | (refine And.intro (okII _ _) ?_; rw [eqD_ii]; with_reducible conv => whnf) | (refine And.intro (by first | assumption | exact Exists.intro _ (by assumption) | exact ⟨rfl, rfl, by decide, by decide⟩ | exact Nat.le_of_ble_eq_true rfl | exact rfl) ?_; with_reducible conv => whnf) | (rw [isLst_at (by assumption)]; with_reducible conv => whnf) | (refine ifT rfl ?_; with_reducible conv => whnf) | (refine ifF rfl ?_; with_reducible conv => whnf) | (refine it_at (by assumption) ?_; with_reducible conv => whnf)))
  refine ⟨⟨by omega, by omega⟩, ?_⟩
  refine Loop_mk (fun i ρ S' => ∃ o6 o7, ρ = [some (.int n), some (.ref m), some (.tup [.int ((bst (allO n) n).1 : Nat), .int (bestP n : Nat)]), o3, o4, none, o6, o7] ∧ S'[m]? = some (.lst ((allO n).map ordD)) ∧ Sub S S') ⟨none, none, rfl, f1, f2⟩ (by intros; trivial) ?_ ?_
  · rintro i d ρ' S' hi ⟨o6, o7, rfl, f1, f2⟩
    obtain ⟨hi1, rfl⟩ := rangeD_get hi
    rw [show (0 : Int) + i = i by omega]
    have hin : i < n + 2 := by omega
    ((with_reducible conv => whnf); repeat (first | (rw [natD_len]; with_reducible conv => whnf) | (rw [intD_len]; with_reducible conv => whnf) | (refine Exists.intro _ (And.intro (rfl : _ = some _) ?_); with_reducible conv => whnf) | (refine And.intro (okII _ _) ?_; rw [eqD_ii]; with_reducible conv => whnf) | (refine And.intro (by first | assumption | exact Exists.intro _ (by assumption) | exact ⟨rfl, rfl, by decide, by decide⟩ | exact Nat.le_of_ble_eq_true rfl | exact rfl) ?_; with_reducible conv => whnf) | (rw [isLst_at (by assumption)]; with_reducible conv => whnf) | (refine ifT rfl ?_; with_reducible conv => whnf) | (refine ifF rfl ?_; with_reducible conv => whnf) | (refine it_at (by assumption) ?_; with_reducible conv => whnf)))
    refine Lc_lf (xs := allO n) (e := ordD) (fun o => decide ((recs o).length = i)) ordD (by rw [hlen]; unfold szL; omega) (fun S' h => h _ _ f1) (fun o S7 R ho h hR => ?_) fun S7 h7 => ?_
    · have ol := hol o ho
      ((with_reducible conv => whnf); repeat (first | (rw [natD_len]; with_reducible conv => whnf) | (rw [intD_len]; with_reducible conv => whnf) | (refine Exists.intro _ (And.intro (rfl : _ = some _) ?_); with_reducible conv => whnf) | (refine And.intro (okII _ _) ?_; rw [eqD_ii]; with_reducible conv => whnf) | (refine And.intro (by first | assumption | exact Exists.intro _ (by assumption) | exact ⟨rfl, rfl, by decide, by decide⟩ | exact Nat.le_of_ble_eq_true rfl | exact rfl) ?_; with_reducible conv => whnf) | (rw [isLst_at (by assumption)]; with_reducible conv => whnf) | (refine ifT rfl ?_; with_reducible conv => whnf) | (refine ifF rfl ?_; with_reducible conv => whnf) | (refine it_at (by assumption) ?_; with_reducible conv => whnf)))
      refine ⟨o, rfl, by omega, allO_okO ho, fun S8 h8 => ?_⟩
      ((with_reducible conv => whnf); repeat (first | (rw [natD_len]; with_reducible conv => whnf) | (rw [intD_len]; with_reducible conv => whnf) | (refine Exists.intro _ (And.intro (rfl : _ = some _) ?_); with_reducible conv => whnf) | (refine And.intro (okII _ _) ?_; rw [eqD_ii]; with_reducible conv => whnf) | (refine And.intro (by first | assumption | exact Exists.intro _ (by assumption) | exact ⟨rfl, rfl, by decide, by decide⟩ | exact Nat.le_of_ble_eq_true rfl | exact rfl) ?_; with_reducible conv => whnf) | (rw [isLst_at (by assumption)]; with_reducible conv => whnf) | (refine ifT rfl ?_; with_reducible conv => whnf) | (refine ifF rfl ?_; with_reducible conv => whnf) | (refine it_at (by assumption) ?_; with_reducible conv => whnf)))
      have := hR S8 h8
      refine ite_d (fun hc => ?_) fun hc => ?_
      · rw [if_pos (decide_eq_true (by omega))] at this; exact this
      · rw [if_neg (by rw [decide_eq_true_eq]; omega)] at this; exact this
    have e7 := at_push S7 (.lst (((allO n).filter fun o => decide ((recs o).length = i)).map ordD))
    have f1 := push_at (h7 _ _ f1) [.lst (((allO n).filter fun o => decide ((recs o).length = i)).map ordD)]
    have f2 := (f2.trans h7).app [.lst (((allO n).filter fun o => decide ((recs o).length = i)).map ordD)]
    ((with_reducible conv => whnf); repeat (first | (rw [natD_len]; with_reducible conv => whnf) | (rw [intD_len]; with_reducible conv => whnf) | (refine Exists.intro _ (And.intro (rfl : _ = some _) ?_); with_reducible conv => whnf) | (refine And.intro (okII _ _) ?_; rw [eqD_ii]; with_reducible conv => whnf) | (refine And.intro (by first | assumption | exact Exists.intro _ (by assumption) | exact ⟨rfl, rfl, by decide, by decide⟩ | exact Nat.le_of_ble_eq_true rfl | exact rfl) ?_; with_reducible conv => whnf) | (rw [isLst_at (by assumption)]; with_reducible conv => whnf) | (refine ifT rfl ?_; with_reducible conv => whnf) | (refine ifF rfl ?_; with_reducible conv => whnf) | (refine it_at (by assumption) ?_; with_reducible conv => whnf)))
    rw [List.length_map]
    generalize S7 ++ [.lst (((allO n).filter fun o => decide ((recs o).length = i)).map ordD)] = S8 at *
    refine ⟨n, i, rfl, by omega, fun S9 h9 => ?_⟩
    have f1 := h9 _ _ f1
    have f2 := f2.trans h9
    ((with_reducible conv => whnf); repeat (first | (rw [natD_len]; with_reducible conv => whnf) | (rw [intD_len]; with_reducible conv => whnf) | (refine Exists.intro _ (And.intro (rfl : _ = some _) ?_); with_reducible conv => whnf) | (refine And.intro (okII _ _) ?_; rw [eqD_ii]; with_reducible conv => whnf) | (refine And.intro (by first | assumption | exact Exists.intro _ (by assumption) | exact ⟨rfl, rfl, by decide, by decide⟩ | exact Nat.le_of_ble_eq_true rfl | exact rfl) ?_; with_reducible conv => whnf) | (rw [isLst_at (by assumption)]; with_reducible conv => whnf) | (refine ifT rfl ?_; with_reducible conv => whnf) | (refine ifF rfl ?_; with_reducible conv => whnf) | (refine it_at (by assumption) ?_; with_reducible conv => whnf)))
    rw [List.length_map, hlen]
    refine ⟨_, _, rfl, hden.1, hden.2, fun S10 h10 => ?_⟩
    have f1 := h10 _ _ f1
    have f2 := f2.trans h10
    ((with_reducible conv => whnf); repeat (first | (rw [natD_len]; with_reducible conv => whnf) | (rw [intD_len]; with_reducible conv => whnf) | (refine Exists.intro _ (And.intro (rfl : _ = some _) ?_); with_reducible conv => whnf) | (refine And.intro (okII _ _) ?_; rw [eqD_ii]; with_reducible conv => whnf) | (refine And.intro (by first | assumption | exact Exists.intro _ (by assumption) | exact ⟨rfl, rfl, by decide, by decide⟩ | exact Nat.le_of_ble_eq_true rfl | exact rfl) ?_; with_reducible conv => whnf) | (rw [isLst_at (by assumption)]; with_reducible conv => whnf) | (refine ifT rfl ?_; with_reducible conv => whnf) | (refine ifF rfl ?_; with_reducible conv => whnf) | (refine it_at (by assumption) ?_; with_reducible conv => whnf)))
    rw [F.c i hin]
    obtain ⟨z1, z2, z3⟩ := qok (Rat.divInt (crN (allO n) i) (fct n))
    refine ⟨qD (Rat.divInt (crN (allO n) i) (fct n)), rfl, z1, z2, z3, fun S11 h11 => ?_⟩
    ((with_reducible conv => whnf); repeat (first | (rw [natD_len]; with_reducible conv => whnf) | (rw [intD_len]; with_reducible conv => whnf) | (refine Exists.intro _ (And.intro (rfl : _ = some _) ?_); with_reducible conv => whnf) | (refine And.intro (okII _ _) ?_; rw [eqD_ii]; with_reducible conv => whnf) | (refine And.intro (by first | assumption | exact Exists.intro _ (by assumption) | exact ⟨rfl, rfl, by decide, by decide⟩ | exact Nat.le_of_ble_eq_true rfl | exact rfl) ?_; with_reducible conv => whnf) | (rw [isLst_at (by assumption)]; with_reducible conv => whnf) | (refine ifT rfl ?_; with_reducible conv => whnf) | (refine ifF rfl ?_; with_reducible conv => whnf) | (refine it_at (by assumption) ?_; with_reducible conv => whnf)))
    exact ⟨_, _, rfl, h11 _ _ f1, f2.trans h11⟩
  rintro ρ' S' ⟨o6, o7, rfl, f1, f2⟩
  ((with_reducible conv => whnf); repeat (first | (rw [natD_len]; with_reducible conv => whnf) | (rw [intD_len]; with_reducible conv => whnf) | (refine Exists.intro _ (And.intro (rfl : _ = some _) ?_); with_reducible conv => whnf) | (refine And.intro (okII _ _) ?_; rw [eqD_ii]; with_reducible conv => whnf) | (refine And.intro (by first | assumption | exact Exists.intro _ (by assumption) | exact ⟨rfl, rfl, by decide, by decide⟩ | exact Nat.le_of_ble_eq_true rfl | exact rfl) ?_; with_reducible conv => whnf) | (rw [isLst_at (by assumption)]; with_reducible conv => whnf) | (refine ifT rfl ?_; with_reducible conv => whnf) | (refine ifF rfl ?_; with_reducible conv => whnf) | (refine it_at (by assumption) ?_; with_reducible conv => whnf)))
  exact kk _ f2
end K91
set_option linter.all false
set_option maxRecDepth 100000
set_option exponentiation.threshold 10000
set_option maxHeartbeats 4000000
namespace K91
open DL
@[reducible] def sp_law : Spc := fun ds S Q => ∃ ns, ds = [.rol (intD ns)] ∧ ns.length ≤ 63 ∧ ∀ S', Q (.bl true) S'
theorem pickI {c : Prop} [Decidable c] (a b : Int) : ∃ x, (if c then D.int a else D.int b) = .int x ∧ (x = a ∨ x = b) := by
  by_cases h : c
  · exact ⟨a, if_pos h, .inl rfl⟩
  · exact ⟨b, if_neg h, .inr rfl⟩
theorem pick2 {a b : D} {r : Int} (h0 : 0 ≤ r) (h1 : r < 2) : atZ [a, b] r = some (if r = 0 then a else b) := by
  have : r = 0 ∨ r = 1 := by omega
  rcases this with rfl | rfl <;> rfl
theorem qok (q : Rat) : flat (qD q) = true ∧ slim (qD q) = true ∧ deep (qD q) ≤ 3 := ⟨rfl, rfl, by show max 0 (max 0 0) + 1 ≤ 3; decide⟩
theorem same_ord (o : List Nat) (h : o.length ≤ 1000) : flat (ordD o) = true ∧ slim (ordD o) = true ∧ deep (ordD o) ≤ 3 := by
  refine ⟨flats_int _, ?_, ?_⟩
  · show (decide ((natD o).length ≤ szL) && slims (natD o)) = true
    rw [natD_len, decide_eq_true (by unfold szL; omega), slims_int]
    rfl
  · show deeps (natD o) + 1 ≤ 3
    rw [deeps_int]
    omega
theorem same_opt (x : Option Nat) : flat (optD x) = true ∧ slim (optD x) = true ∧ deep (optD x) ≤ 3 := by
  cases x with
  | none => exact ⟨rfl, rfl, Nat.zero_le _⟩
  | some k => exact ⟨rfl, rfl, Nat.zero_le _⟩
theorem tk0 {o : List Nat} (h : 0 < o.length) : tkN o 0 = some 0 := by
  refine tk_some ?_ _ _ (Nat.le_refl _) (by omega) (by omega)
  unfold isRec
  rw [List.take_zero]
  rfl
theorem rec_app {n : Nat} {k : Nat} (h : k ≤ n + 1) : Rat.divInt ((rowR n ++ [0, 0]).getD k 0) (fct n : Nat) = recQ n k := by
  have hl := rowR_len n
  unfold recQ
  by_cases c : k ≤ n
  · rw [if_pos (by omega), Int.toNat_natCast, List.getD_eq_getElem?_getD, List.getElem?_append_left (by omega), List.getD_eq_getElem?_getD]
  · have : k = n + 1 := by omega
    subst this
    rw [if_neg (by omega), List.getD_eq_getElem?_getD, List.getElem?_append_right (by omega), hl, Nat.sub_self]
    show Rat.divInt 0 _ = 0
    rw [Rat.zero_divInt]
theorem law_D {Q : VK} {n : Nat} {o : List Nat} {x0 x2 x4 x5 x6 x7 x8 x9 x10 x11 x12 x13 x14 x15 : Option D} {S : Sto} (ho : okO o) (ho0 : 0 < o.length) (hol : o.length ≤ 100) (kk : ∀ S', Q (.bl true) S') (d0 : Dr n S) : w_law_t18 sp_draws sp_take sp_few sp_order sp_lrecs sp_recs (sp_same 3) sp_ltk sp_tk sp_lch sp_less sp_bp sp_ctb sp_sum sp_frac sp_rows sp_rec sp_sadd sp_mean { nx := fun _ S' => Q .non S', rt := Q, bk := fun _ _ => False, ct := fun _ _ => False } [x0, some (.ref n), x2, some (ordD o), x4, x5, x6, x7, x8, x9, x10, x11, x12, x13, x14, x15] S := by
  ((with_reducible conv => whnf); repeat (first | (rw [natD_len]; with_reducible conv => whnf) | (rw [intD_len]; with_reducible conv => whnf) | (refine Exists.intro _ (And.intro (rfl : _ = some _) ?_); with_reducible conv => whnf) | (refine And.intro (okII _ _) ?_; rw [eqD_ii]; with_reducible conv => whnf) | (refine And.intro (by first | assumption | exact Exists.intro _ (by assumption) | exact ⟨rfl, rfl, by decide, by decide⟩ | exact Nat.le_of_ble_eq_true rfl | exact rfl) ?_; with_reducible conv => whnf) | (rw [isLst_at (by assumption)]; with_reducible conv => whnf) | (refine ifT rfl ?_; with_reducible conv => whnf) | (refine ifF rfl ?_; with_reducible conv => whnf) | (refine it_at (by assumption) ?_; with_reducible conv => whnf)))
  have hp := at_push S (.lst [.int 30, .int 201])
  have hne : S.length ≠ n := by have := d0.lt; omega
  have d1 := d0.app [.lst [.int 30, .int 201]]
  generalize S ++ [.lst [.int 30, .int 201]] = S1 at *
  refine ⟨n, 8, rfl, by decide, d1, fun r S2 r0 r1 d2 c2 => ?_⟩
  have hp := c2 _ _ hne hp
  ((with_reducible conv => whnf); repeat (first | (rw [natD_len]; with_reducible conv => whnf) | (rw [intD_len]; with_reducible conv => whnf) | (refine Exists.intro _ (And.intro (rfl : _ = some _) ?_); with_reducible conv => whnf) | (refine And.intro (okII _ _) ?_; rw [eqD_ii]; with_reducible conv => whnf) | (refine And.intro (by first | assumption | exact Exists.intro _ (by assumption) | exact ⟨rfl, rfl, by decide, by decide⟩ | exact Nat.le_of_ble_eq_true rfl | exact rfl) ?_; with_reducible conv => whnf) | (rw [isLst_at (by assumption)]; with_reducible conv => whnf) | (refine ifT rfl ?_; with_reducible conv => whnf) | (refine ifF rfl ?_; with_reducible conv => whnf) | (refine it_at (by assumption) ?_; with_reducible conv => whnf)))
  refine ⟨_, pick2 (by split <;> decide) (by split <;> decide), ?_⟩
  obtain ⟨x, hx, hx01⟩ := pickI (c := (if decide (r = 0) = true then (1 : Int) else 0) = 0) 30 201
  rw [hx]
  ((with_reducible conv => whnf); repeat (first | (rw [natD_len]; with_reducible conv => whnf) | (rw [intD_len]; with_reducible conv => whnf) | (refine Exists.intro _ (And.intro (rfl : _ = some _) ?_); with_reducible conv => whnf) | (refine And.intro (okII _ _) ?_; rw [eqD_ii]; with_reducible conv => whnf) | (refine And.intro (by first | assumption | exact Exists.intro _ (by assumption) | exact ⟨rfl, rfl, by decide, by decide⟩ | exact Nat.le_of_ble_eq_true rfl | exact rfl) ?_; with_reducible conv => whnf) | (rw [isLst_at (by assumption)]; with_reducible conv => whnf) | (refine ifT rfl ?_; with_reducible conv => whnf) | (refine ifF rfl ?_; with_reducible conv => whnf) | (refine it_at (by assumption) ?_; with_reducible conv => whnf)))
  refine ⟨n, x, rfl, by omega, d2, fun z S3 z0 z1 d3 c3 => ?_⟩
  clear hp c2 c3 hne hx d0 d1 d2
  ((with_reducible conv => whnf); repeat (first | (rw [natD_len]; with_reducible conv => whnf) | (rw [intD_len]; with_reducible conv => whnf) | (refine Exists.intro _ (And.intro (rfl : _ = some _) ?_); with_reducible conv => whnf) | (refine And.intro (okII _ _) ?_; rw [eqD_ii]; with_reducible conv => whnf) | (refine And.intro (by first | assumption | exact Exists.intro _ (by assumption) | exact ⟨rfl, rfl, by decide, by decide⟩ | exact Nat.le_of_ble_eq_true rfl | exact rfl) ?_; with_reducible conv => whnf) | (rw [isLst_at (by assumption)]; with_reducible conv => whnf) | (refine ifT rfl ?_; with_reducible conv => whnf) | (refine ifF rfl ?_; with_reducible conv => whnf) | (refine it_at (by assumption) ?_; with_reducible conv => whnf)))
  obtain ⟨N, hN, hN0, hN1⟩ : ∃ N : Nat, min (z + 1) 200 = (N : Int) ∧ 1 ≤ N ∧ N ≤ 200 := ⟨(min (z + 1) 200).toNat, by omega, by omega, by omega⟩
  rw [hN]
  have hn3 := d3.lt
  refine ⟨N, rfl, hN1, fun mr S4 hmr er s4 => ?_⟩
  have d4 := d3.sub s4
  have hnr : mr ≠ n := by omega
  have hrl := rowR_len N
  have hden := fct_den hN1
  have hden2 : ((fct N : Nat) : Int).natAbs < 2 ^ 2600 := Nat.lt_of_lt_of_le hden.2 (pow_le2 (by decide))
  ((with_reducible conv => whnf); repeat (first | (rw [natD_len]; with_reducible conv => whnf) | (rw [intD_len]; with_reducible conv => whnf) | (refine Exists.intro _ (And.intro (rfl : _ = some _) ?_); with_reducible conv => whnf) | (refine And.intro (okII _ _) ?_; rw [eqD_ii]; with_reducible conv => whnf) | (refine And.intro (by first | assumption | exact Exists.intro _ (by assumption) | exact ⟨rfl, rfl, by decide, by decide⟩ | exact Nat.le_of_ble_eq_true rfl | exact rfl) ?_; with_reducible conv => whnf) | (rw [isLst_at (by assumption)]; with_reducible conv => whnf) | (refine ifT rfl ?_; with_reducible conv => whnf) | (refine ifF rfl ?_; with_reducible conv => whnf) | (refine it_at (by assumption) ?_; with_reducible conv => whnf)))
  refine ⟨n, _, rfl, by omega, d4, fun t S5 t0 t1 d5 c5 => ?_⟩
  have er := c5 _ _ hnr er
  ((with_reducible conv => whnf); repeat (first | (rw [natD_len]; with_reducible conv => whnf) | (rw [intD_len]; with_reducible conv => whnf) | (refine Exists.intro _ (And.intro (rfl : _ = some _) ?_); with_reducible conv => whnf) | (refine And.intro (okII _ _) ?_; rw [eqD_ii]; with_reducible conv => whnf) | (refine And.intro (by first | assumption | exact Exists.intro _ (by assumption) | exact ⟨rfl, rfl, by decide, by decide⟩ | exact Nat.le_of_ble_eq_true rfl | exact rfl) ?_; with_reducible conv => whnf) | (rw [isLst_at (by assumption)]; with_reducible conv => whnf) | (refine ifT rfl ?_; with_reducible conv => whnf) | (refine ifF rfl ?_; with_reducible conv => whnf) | (refine it_at (by assumption) ?_; with_reducible conv => whnf)))
  refine ⟨n, _, rfl, by omega, d5, fun u S6 u0 u1 d6 c6 => ?_⟩
  have er := c6 _ _ hnr er
  obtain ⟨t, rfl⟩ : ∃ m : Nat, t = m := ⟨t.toNat, by omega⟩
  obtain ⟨u, rfl⟩ : ∃ m : Nat, u = m := ⟨u.toNat, by omega⟩
  ((with_reducible conv => whnf); repeat (first | (rw [natD_len]; with_reducible conv => whnf) | (rw [intD_len]; with_reducible conv => whnf) | (refine Exists.intro _ (And.intro (rfl : _ = some _) ?_); with_reducible conv => whnf) | (refine And.intro (okII _ _) ?_; rw [eqD_ii]; with_reducible conv => whnf) | (refine And.intro (by first | assumption | exact Exists.intro _ (by assumption) | exact ⟨rfl, rfl, by decide, by decide⟩ | exact Nat.le_of_ble_eq_true rfl | exact rfl) ?_; with_reducible conv => whnf) | (rw [isLst_at (by assumption)]; with_reducible conv => whnf) | (refine ifT rfl ?_; with_reducible conv => whnf) | (refine ifF rfl ?_; with_reducible conv => whnf) | (refine it_at (by assumption) ?_; with_reducible conv => whnf)))
  have hL : [D.int 0, .int 1, .int N, .int ((N : Int) + 1), .int t, .int (1 + (u : Int))] = natD [0, 1, N, N + 1, t, 1 + u] := by
    rw [natD_map]
    rfl
  rw [hL]
  have hLm : ∀ k ∈ [0, 1, N, N + 1, t, 1 + u], k ≤ N + 1 := by
    simp only [List.mem_cons, List.not_mem_nil, or_false]
    omega
  clear hL
  generalize [0, 1, N, N + 1, t, 1 + u] = L at *
  have ep := at_push S6 (.lst (natD L))
  have er := push_at er [.lst (natD L)]
  have d7 := d6.app [.lst (natD L)]
  ((with_reducible conv => whnf); repeat (first | (rw [natD_len]; with_reducible conv => whnf) | (rw [intD_len]; with_reducible conv => whnf) | (refine Exists.intro _ (And.intro (rfl : _ = some _) ?_); with_reducible conv => whnf) | (refine And.intro (okII _ _) ?_; rw [eqD_ii]; with_reducible conv => whnf) | (refine And.intro (by first | assumption | exact Exists.intro _ (by assumption) | exact ⟨rfl, rfl, by decide, by decide⟩ | exact Nat.le_of_ble_eq_true rfl | exact rfl) ?_; with_reducible conv => whnf) | (rw [isLst_at (by assumption)]; with_reducible conv => whnf) | (refine ifT rfl ?_; with_reducible conv => whnf) | (refine ifF rfl ?_; with_reducible conv => whnf) | (refine it_at (by assumption) ?_; with_reducible conv => whnf)))
  generalize S6 ++ [.lst (natD L)] = S7 at *
  generalize S6.length = pl at *
  refine Loop_mk (fun i ρ S' => ∃ o2, ρ = [x0, some (.ref n), o2, some (ordD o), x4, some (.int N), x6, x7, x8, x9, x10, x11, x12, some (.ref mr), some (.tup [.int 0, .int 1]), x15] ∧ S'[pl]? = some (.lst (natD L)) ∧ S'[mr]? = some (.lst (intD (rowR N)))) ⟨_, rfl, ep, er⟩ (by rintro i ρ S' ⟨_, rfl, h, _⟩; exact h) ?_ ?_
  · rintro i d ρ' S' hi ⟨o2, rfl, f1, f2⟩
    obtain ⟨k, hk, rfl⟩ := natD_get hi
    have hk1 := hLm k (List.mem_of_getElem? hk)
    ((with_reducible conv => whnf); repeat (first | (rw [natD_len]; with_reducible conv => whnf) | (rw [intD_len]; with_reducible conv => whnf) | (refine Exists.intro _ (And.intro (rfl : _ = some _) ?_); with_reducible conv => whnf) | (refine And.intro (okII _ _) ?_; rw [eqD_ii]; with_reducible conv => whnf) | (refine And.intro (by first | assumption | exact Exists.intro _ (by assumption) | exact ⟨rfl, rfl, by decide, by decide⟩ | exact Nat.le_of_ble_eq_true rfl | exact rfl) ?_; with_reducible conv => whnf) | (rw [isLst_at (by assumption)]; with_reducible conv => whnf) | (refine ifT rfl ?_; with_reducible conv => whnf) | (refine ifF rfl ?_; with_reducible conv => whnf) | (refine it_at (by assumption) ?_; with_reducible conv => whnf)))
    refine ⟨N, k, rfl, hN1, fun S8 s8 => ?_⟩
    have f1 := s8 _ _ f1
    have f2 := s8 _ _ f2
    have e8 := at_push S8 (.lst [.int 0, .int 0])
    have f1 := push_at f1 [.lst [.int 0, .int 0]]
    have f2 := push_at f2 [.lst [.int 0, .int 0]]
    ((with_reducible conv => whnf); repeat (first | (rw [natD_len]; with_reducible conv => whnf) | (rw [intD_len]; with_reducible conv => whnf) | (refine Exists.intro _ (And.intro (rfl : _ = some _) ?_); with_reducible conv => whnf) | (refine And.intro (okII _ _) ?_; rw [eqD_ii]; with_reducible conv => whnf) | (refine And.intro (by first | assumption | exact Exists.intro _ (by assumption) | exact ⟨rfl, rfl, by decide, by decide⟩ | exact Nat.le_of_ble_eq_true rfl | exact rfl) ?_; with_reducible conv => whnf) | (rw [isLst_at (by assumption)]; with_reducible conv => whnf) | (refine ifT rfl ?_; with_reducible conv => whnf) | (refine ifF rfl ?_; with_reducible conv => whnf) | (refine it_at (by assumption) ?_; with_reducible conv => whnf)))
    generalize S8 ++ [.lst [.int 0, .int 0]] = S9 at *
    refine ⟨by rw [hrl]; show N + 1 + 2 ≤ _; unfold szL; omega, ?_⟩
    have ea : intD (rowR N) ++ [D.int 0, .int 0] = intD (rowR N ++ [0, 0]) := by simp [intD]
    rw [ea]
    have e9 := at_push S9 (.lst (intD (rowR N ++ [0, 0])))
    have f1 := push_at f1 [.lst (intD (rowR N ++ [0, 0]))]
    have f2 := push_at f2 [.lst (intD (rowR N ++ [0, 0]))]
    ((with_reducible conv => whnf); repeat (first | (rw [natD_len]; with_reducible conv => whnf) | (rw [intD_len]; with_reducible conv => whnf) | (refine Exists.intro _ (And.intro (rfl : _ = some _) ?_); with_reducible conv => whnf) | (refine And.intro (okII _ _) ?_; rw [eqD_ii]; with_reducible conv => whnf) | (refine And.intro (by first | assumption | exact Exists.intro _ (by assumption) | exact ⟨rfl, rfl, by decide, by decide⟩ | exact Nat.le_of_ble_eq_true rfl | exact rfl) ?_; with_reducible conv => whnf) | (rw [isLst_at (by assumption)]; with_reducible conv => whnf) | (refine ifT rfl ?_; with_reducible conv => whnf) | (refine ifF rfl ?_; with_reducible conv => whnf) | (refine it_at (by assumption) ?_; with_reducible conv => whnf)))
    generalize S9 ++ [.lst (intD (rowR N ++ [0, 0]))] = S10 at *
    refine ⟨_, atZ_intN (by rw [List.length_append, hrl]; show k < N + 1 + 2; omega), ?_⟩
    ((with_reducible conv => whnf); repeat (first | (rw [natD_len]; with_reducible conv => whnf) | (rw [intD_len]; with_reducible conv => whnf) | (refine Exists.intro _ (And.intro (rfl : _ = some _) ?_); with_reducible conv => whnf) | (refine And.intro (okII _ _) ?_; rw [eqD_ii]; with_reducible conv => whnf) | (refine And.intro (by first | assumption | exact Exists.intro _ (by assumption) | exact ⟨rfl, rfl, by decide, by decide⟩ | exact Nat.le_of_ble_eq_true rfl | exact rfl) ?_; with_reducible conv => whnf) | (rw [isLst_at (by assumption)]; with_reducible conv => whnf) | (refine ifT rfl ?_; with_reducible conv => whnf) | (refine ifF rfl ?_; with_reducible conv => whnf) | (refine it_at (by assumption) ?_; with_reducible conv => whnf)))
    refine ⟨_, intL f2, ?_⟩
    (with_reducible conv => whnf)
    rw [row_sum]
    ((with_reducible conv => whnf); repeat (first | (rw [natD_len]; with_reducible conv => whnf) | (rw [intD_len]; with_reducible conv => whnf) | (refine Exists.intro _ (And.intro (rfl : _ = some _) ?_); with_reducible conv => whnf) | (refine And.intro (okII _ _) ?_; rw [eqD_ii]; with_reducible conv => whnf) | (refine And.intro (by first | assumption | exact Exists.intro _ (by assumption) | exact ⟨rfl, rfl, by decide, by decide⟩ | exact Nat.le_of_ble_eq_true rfl | exact rfl) ?_; with_reducible conv => whnf) | (rw [isLst_at (by assumption)]; with_reducible conv => whnf) | (refine ifT rfl ?_; with_reducible conv => whnf) | (refine ifF rfl ?_; with_reducible conv => whnf) | (refine it_at (by assumption) ?_; with_reducible conv => whnf)))
    refine ⟨_, _, rfl, hden.1, hden2, fun S11 s11 => ?_⟩
    rw [rec_app hk1]
    ((with_reducible conv => whnf); repeat (first | (rw [natD_len]; with_reducible conv => whnf) | (rw [intD_len]; with_reducible conv => whnf) | (refine Exists.intro _ (And.intro (rfl : _ = some _) ?_); with_reducible conv => whnf) | (refine And.intro (okII _ _) ?_; rw [eqD_ii]; with_reducible conv => whnf) | (refine And.intro (by first | assumption | exact Exists.intro _ (by assumption) | exact ⟨rfl, rfl, by decide, by decide⟩ | exact Nat.le_of_ble_eq_true rfl | exact rfl) ?_; with_reducible conv => whnf) | (rw [isLst_at (by assumption)]; with_reducible conv => whnf) | (refine ifT rfl ?_; with_reducible conv => whnf) | (refine ifF rfl ?_; with_reducible conv => whnf) | (refine it_at (by assumption) ?_; with_reducible conv => whnf)))
    obtain ⟨z1, z2, z3⟩ := qok (recQ N k)
    refine ⟨qD (recQ N k), rfl, z1, z2, z3, fun S12 s12 => ?_⟩
    have ss := s11.trans s12
    ((with_reducible conv => whnf); repeat (first | (rw [natD_len]; with_reducible conv => whnf) | (rw [intD_len]; with_reducible conv => whnf) | (refine Exists.intro _ (And.intro (rfl : _ = some _) ?_); with_reducible conv => whnf) | (refine And.intro (okII _ _) ?_; rw [eqD_ii]; with_reducible conv => whnf) | (refine And.intro (by first | assumption | exact Exists.intro _ (by assumption) | exact ⟨rfl, rfl, by decide, by decide⟩ | exact Nat.le_of_ble_eq_true rfl | exact rfl) ?_; with_reducible conv => whnf) | (rw [isLst_at (by assumption)]; with_reducible conv => whnf) | (refine ifT rfl ?_; with_reducible conv => whnf) | (refine ifF rfl ?_; with_reducible conv => whnf) | (refine it_at (by assumption) ?_; with_reducible conv => whnf)))
    exact ⟨_, rfl, ss _ _ f1, ss _ _ f2⟩
  rintro ρ' S8 ⟨o2, rfl, -, er⟩
  clear ep d3 d4 d5 d6 d7 hLm c5 c6
  ((with_reducible conv => whnf); repeat (first | (rw [natD_len]; with_reducible conv => whnf) | (rw [intD_len]; with_reducible conv => whnf) | (refine Exists.intro _ (And.intro (rfl : _ = some _) ?_); with_reducible conv => whnf) | (refine And.intro (okII _ _) ?_; rw [eqD_ii]; with_reducible conv => whnf) | (refine And.intro (by first | assumption | exact Exists.intro _ (by assumption) | exact ⟨rfl, rfl, by decide, by decide⟩ | exact Nat.le_of_ble_eq_true rfl | exact rfl) ?_; with_reducible conv => whnf) | (rw [isLst_at (by assumption)]; with_reducible conv => whnf) | (refine ifT rfl ?_; with_reducible conv => whnf) | (refine ifF rfl ?_; with_reducible conv => whnf) | (refine it_at (by assumption) ?_; with_reducible conv => whnf)))
  refine ⟨⟨by decide, by decide⟩, ⟨by omega, by omega⟩, ?_⟩
  refine Loop_mk (fun i ρ S' => ∃ o2, ρ = [x0, some (.ref n), o2, some (ordD o), x4, some (.int N), x6, x7, x8, x9, x10, x11, x12, some (.ref mr), some (qD (AS 1 i)), x15] ∧ S'[mr]? = some (.lst (intD (rowR N)))) ⟨_, rfl, er⟩ (by intros; trivial) ?_ ?_
  · rintro i d ρ' S' hi ⟨o2, rfl, f2⟩
    obtain ⟨hi1, rfl⟩ := rangeD_get hi
    rw [show (1 : Int) + i = ((1 + i : Nat) : Int) by omega]
    ((with_reducible conv => whnf); repeat (first | (rw [natD_len]; with_reducible conv => whnf) | (rw [intD_len]; with_reducible conv => whnf) | (refine Exists.intro _ (And.intro (rfl : _ = some _) ?_); with_reducible conv => whnf) | (refine And.intro (okII _ _) ?_; rw [eqD_ii]; with_reducible conv => whnf) | (refine And.intro (by first | assumption | exact Exists.intro _ (by assumption) | exact ⟨rfl, rfl, by decide, by decide⟩ | exact Nat.le_of_ble_eq_true rfl | exact rfl) ?_; with_reducible conv => whnf) | (rw [isLst_at (by assumption)]; with_reducible conv => whnf) | (refine ifT rfl ?_; with_reducible conv => whnf) | (refine ifF rfl ?_; with_reducible conv => whnf) | (refine it_at (by assumption) ?_; with_reducible conv => whnf)))
    refine ⟨_, 1 / ((1 + i : Nat) : Rat), by rw [qD_inv' (show 0 < 1 + i by omega)], AS_sm (by omega) (by omega), inv_sm (by omega) (by omega), fun S2 h2 => ?_⟩
    exact ⟨_, rfl, h2 _ _ f2⟩
  rintro ρ' S9 ⟨o2, rfl, er⟩
  rw [rangeD_len, show ((N : Int) + 1 - 1).toNat = N by omega]
  ((with_reducible conv => whnf); repeat (first | (rw [natD_len]; with_reducible conv => whnf) | (rw [intD_len]; with_reducible conv => whnf) | (refine Exists.intro _ (And.intro (rfl : _ = some _) ?_); with_reducible conv => whnf) | (refine And.intro (okII _ _) ?_; rw [eqD_ii]; with_reducible conv => whnf) | (refine And.intro (by first | assumption | exact Exists.intro _ (by assumption) | exact ⟨rfl, rfl, by decide, by decide⟩ | exact Nat.le_of_ble_eq_true rfl | exact rfl) ?_; with_reducible conv => whnf) | (rw [isLst_at (by assumption)]; with_reducible conv => whnf) | (refine ifT rfl ?_; with_reducible conv => whnf) | (refine ifF rfl ?_; with_reducible conv => whnf) | (refine it_at (by assumption) ?_; with_reducible conv => whnf)))
  refine ⟨⟨by omega, by omega⟩, ?_⟩
  rw [show (N : Int) + 1 = ((N + 1 : Nat) : Int) by omega]
  refine Lc_rm (fun k => .int ((k : Int) * (rowR N).getD k 0)) (by unfold szL; omega) (by intros; trivial) (fun k S' R hk h hR => ?_) fun S10 s10 => ?_
  · have er := h _ _ er
    ((with_reducible conv => whnf); repeat (first | (rw [natD_len]; with_reducible conv => whnf) | (rw [intD_len]; with_reducible conv => whnf) | (refine Exists.intro _ (And.intro (rfl : _ = some _) ?_); with_reducible conv => whnf) | (refine And.intro (okII _ _) ?_; rw [eqD_ii]; with_reducible conv => whnf) | (refine And.intro (by first | assumption | exact Exists.intro _ (by assumption) | exact ⟨rfl, rfl, by decide, by decide⟩ | exact Nat.le_of_ble_eq_true rfl | exact rfl) ?_; with_reducible conv => whnf) | (rw [isLst_at (by assumption)]; with_reducible conv => whnf) | (refine ifT rfl ?_; with_reducible conv => whnf) | (refine ifF rfl ?_; with_reducible conv => whnf) | (refine it_at (by assumption) ?_; with_reducible conv => whnf)))
    refine ⟨_, atZ_intN (by omega), ?_⟩
    ((with_reducible conv => whnf); repeat (first | (rw [natD_len]; with_reducible conv => whnf) | (rw [intD_len]; with_reducible conv => whnf) | (refine Exists.intro _ (And.intro (rfl : _ = some _) ?_); with_reducible conv => whnf) | (refine And.intro (okII _ _) ?_; rw [eqD_ii]; with_reducible conv => whnf) | (refine And.intro (by first | assumption | exact Exists.intro _ (by assumption) | exact ⟨rfl, rfl, by decide, by decide⟩ | exact Nat.le_of_ble_eq_true rfl | exact rfl) ?_; with_reducible conv => whnf) | (rw [isLst_at (by assumption)]; with_reducible conv => whnf) | (refine ifT rfl ?_; with_reducible conv => whnf) | (refine ifF rfl ?_; with_reducible conv => whnf) | (refine it_at (by assumption) ?_; with_reducible conv => whnf)))
    refine ⟨smallMul' (by omega), ?_⟩
    exact hR S' (Sub.refl _)
  have em : (List.range (N + 1)).map (fun (k : Nat) => D.int ((k : Int) * (rowR N).getD k 0)) = intD ((List.range (N + 1)).map fun (k : Nat) => (k : Int) * (rowR N).getD k 0) := by simp [intD]
  have es : ((List.range (N + 1)).map fun (k : Nat) => (k : Int) * (rowR N).getD k 0).sum = Wt 0 (rowR N) := by
    rw [← range_Wt (rowR N) 0, hrl]
    congr 1
    apply List.map_congr_left
    intro k _
    rw [Nat.zero_add]
  rw [em]
  have e10 := at_push S10 (.lst (intD ((List.range (N + 1)).map fun (k : Nat) => (k : Int) * (rowR N).getD k 0)))
  have er := push_at (s10 _ _ er) [.lst (intD ((List.range (N + 1)).map fun (k : Nat) => (k : Int) * (rowR N).getD k 0))]
  ((with_reducible conv => whnf); repeat (first | (rw [natD_len]; with_reducible conv => whnf) | (rw [intD_len]; with_reducible conv => whnf) | (refine Exists.intro _ (And.intro (rfl : _ = some _) ?_); with_reducible conv => whnf) | (refine And.intro (okII _ _) ?_; rw [eqD_ii]; with_reducible conv => whnf) | (refine And.intro (by first | assumption | exact Exists.intro _ (by assumption) | exact ⟨rfl, rfl, by decide, by decide⟩ | exact Nat.le_of_ble_eq_true rfl | exact rfl) ?_; with_reducible conv => whnf) | (rw [isLst_at (by assumption)]; with_reducible conv => whnf) | (refine ifT rfl ?_; with_reducible conv => whnf) | (refine ifF rfl ?_; with_reducible conv => whnf) | (refine it_at (by assumption) ?_; with_reducible conv => whnf)))
  refine ⟨_, intL e10, ?_⟩
  (with_reducible conv => whnf)
  rw [es]
  generalize S10 ++ [.lst (intD ((List.range (N + 1)).map fun (k : Nat) => (k : Int) * (rowR N).getD k 0))] = S11 at *
  ((with_reducible conv => whnf); repeat (first | (rw [natD_len]; with_reducible conv => whnf) | (rw [intD_len]; with_reducible conv => whnf) | (refine Exists.intro _ (And.intro (rfl : _ = some _) ?_); with_reducible conv => whnf) | (refine And.intro (okII _ _) ?_; rw [eqD_ii]; with_reducible conv => whnf) | (refine And.intro (by first | assumption | exact Exists.intro _ (by assumption) | exact ⟨rfl, rfl, by decide, by decide⟩ | exact Nat.le_of_ble_eq_true rfl | exact rfl) ?_; with_reducible conv => whnf) | (rw [isLst_at (by assumption)]; with_reducible conv => whnf) | (refine ifT rfl ?_; with_reducible conv => whnf) | (refine ifF rfl ?_; with_reducible conv => whnf) | (refine it_at (by assumption) ?_; with_reducible conv => whnf)))
  refine ⟨N, rfl, hN1, fun S12 s12 => ?_⟩
  have er := s12 _ _ er
  ((with_reducible conv => whnf); repeat (first | (rw [natD_len]; with_reducible conv => whnf) | (rw [intD_len]; with_reducible conv => whnf) | (refine Exists.intro _ (And.intro (rfl : _ = some _) ?_); with_reducible conv => whnf) | (refine And.intro (okII _ _) ?_; rw [eqD_ii]; with_reducible conv => whnf) | (refine And.intro (by first | assumption | exact Exists.intro _ (by assumption) | exact ⟨rfl, rfl, by decide, by decide⟩ | exact Nat.le_of_ble_eq_true rfl | exact rfl) ?_; with_reducible conv => whnf) | (rw [isLst_at (by assumption)]; with_reducible conv => whnf) | (refine ifT rfl ?_; with_reducible conv => whnf) | (refine ifF rfl ?_; with_reducible conv => whnf) | (refine it_at (by assumption) ?_; with_reducible conv => whnf)))
  obtain ⟨z1, z2, z3⟩ := qok (AS 1 N)
  refine ⟨qD (AS 1 N), rfl, z1, z2, z3, fun S13 s13 => ?_⟩
  have er := s13 _ _ er
  ((with_reducible conv => whnf); repeat (first | (rw [natD_len]; with_reducible conv => whnf) | (rw [intD_len]; with_reducible conv => whnf) | (refine Exists.intro _ (And.intro (rfl : _ = some _) ?_); with_reducible conv => whnf) | (refine And.intro (okII _ _) ?_; rw [eqD_ii]; with_reducible conv => whnf) | (refine And.intro (by first | assumption | exact Exists.intro _ (by assumption) | exact ⟨rfl, rfl, by decide, by decide⟩ | exact Nat.le_of_ble_eq_true rfl | exact rfl) ?_; with_reducible conv => whnf) | (rw [isLst_at (by assumption)]; with_reducible conv => whnf) | (refine ifT rfl ?_; with_reducible conv => whnf) | (refine ifF rfl ?_; with_reducible conv => whnf) | (refine it_at (by assumption) ?_; with_reducible conv => whnf)))
  refine ⟨_, intL er, ?_⟩
  (with_reducible conv => whnf)
  rw [row_sum]
  ((with_reducible conv => whnf); repeat (first | (rw [natD_len]; with_reducible conv => whnf) | (rw [intD_len]; with_reducible conv => whnf) | (refine Exists.intro _ (And.intro (rfl : _ = some _) ?_); with_reducible conv => whnf) | (refine And.intro (okII _ _) ?_; rw [eqD_ii]; with_reducible conv => whnf) | (refine And.intro (by first | assumption | exact Exists.intro _ (by assumption) | exact ⟨rfl, rfl, by decide, by decide⟩ | exact Nat.le_of_ble_eq_true rfl | exact rfl) ?_; with_reducible conv => whnf) | (rw [isLst_at (by assumption)]; with_reducible conv => whnf) | (refine ifT rfl ?_; with_reducible conv => whnf) | (refine ifF rfl ?_; with_reducible conv => whnf) | (refine it_at (by assumption) ?_; with_reducible conv => whnf)))
  refine ⟨_, _, rfl, hden.1, hden2, fun S14 s14 => ?_⟩
  have ew : Rat.divInt (Wt 0 (rowR N)) (fct N : Nat) = AS 1 N := by
    rw [divInt_eq, row_Wt]
    show (fct N : Rat) * AS 1 N / (fct N : Rat) = AS 1 N
    have h1 : (1 : Rat) ≤ (fct N : Rat) := by exact_mod_cast fct_pos N
    grind
  rw [ew]
  (with_reducible conv => whnf)
  refine ⟨qD_ok _ _, ?_⟩
  refine ifF (by rw [qD_eq]; simp) ?_
  ((with_reducible conv => whnf); repeat (first | (rw [natD_len]; with_reducible conv => whnf) | (rw [intD_len]; with_reducible conv => whnf) | (refine Exists.intro _ (And.intro (rfl : _ = some _) ?_); with_reducible conv => whnf) | (refine And.intro (okII _ _) ?_; rw [eqD_ii]; with_reducible conv => whnf) | (refine And.intro (by first | assumption | exact Exists.intro _ (by assumption) | exact ⟨rfl, rfl, by decide, by decide⟩ | exact Nat.le_of_ble_eq_true rfl | exact rfl) ?_; with_reducible conv => whnf) | (rw [isLst_at (by assumption)]; with_reducible conv => whnf) | (refine ifT rfl ?_; with_reducible conv => whnf) | (refine ifF rfl ?_; with_reducible conv => whnf) | (refine it_at (by assumption) ?_; with_reducible conv => whnf)))
  refine ⟨3, 1, rfl, by decide, by decide, fun S15 s15 => ?_⟩
  have e31 : qD (chQ 3 1) = .tup [.int 1, .int 2] := by
    have : (chQ 3 1).num = 1 ∧ (chQ 3 1).den = 2 := by decide +kernel
    unfold qD
    rw [this.1, this.2]
    rfl
  rw [e31]
  ((with_reducible conv => whnf); repeat (first | (rw [natD_len]; with_reducible conv => whnf) | (rw [intD_len]; with_reducible conv => whnf) | (refine Exists.intro _ (And.intro (rfl : _ = some _) ?_); with_reducible conv => whnf) | (refine And.intro (okII _ _) ?_; rw [eqD_ii]; with_reducible conv => whnf) | (refine And.intro (by first | assumption | exact Exists.intro _ (by assumption) | exact ⟨rfl, rfl, by decide, by decide⟩ | exact Nat.le_of_ble_eq_true rfl | exact rfl) ?_; with_reducible conv => whnf) | (rw [isLst_at (by assumption)]; with_reducible conv => whnf) | (refine ifT rfl ?_; with_reducible conv => whnf) | (refine ifF rfl ?_; with_reducible conv => whnf) | (refine it_at (by assumption) ?_; with_reducible conv => whnf)))
  refine ⟨.tup [.int 1, .int 2], rfl, rfl, rfl, by show max 0 (max 0 0) + 1 ≤ 3; decide, fun S16 s16 => ?_⟩
  ((with_reducible conv => whnf); repeat (first | (rw [natD_len]; with_reducible conv => whnf) | (rw [intD_len]; with_reducible conv => whnf) | (refine Exists.intro _ (And.intro (rfl : _ = some _) ?_); with_reducible conv => whnf) | (refine And.intro (okII _ _) ?_; rw [eqD_ii]; with_reducible conv => whnf) | (refine And.intro (by first | assumption | exact Exists.intro _ (by assumption) | exact ⟨rfl, rfl, by decide, by decide⟩ | exact Nat.le_of_ble_eq_true rfl | exact rfl) ?_; with_reducible conv => whnf) | (rw [isLst_at (by assumption)]; with_reducible conv => whnf) | (refine ifT rfl ?_; with_reducible conv => whnf) | (refine ifF rfl ?_; with_reducible conv => whnf) | (refine it_at (by assumption) ?_; with_reducible conv => whnf)))
  refine ⟨1, rfl, by decide, by decide, fun S17 s17 => ?_⟩
  rw [show bestP 1 = 0 by decide +kernel]
  ((with_reducible conv => whnf); repeat (first | (rw [natD_len]; with_reducible conv => whnf) | (rw [intD_len]; with_reducible conv => whnf) | (refine Exists.intro _ (And.intro (rfl : _ = some _) ?_); with_reducible conv => whnf) | (refine And.intro (okII _ _) ?_; rw [eqD_ii]; with_reducible conv => whnf) | (refine And.intro (by first | assumption | exact Exists.intro _ (by assumption) | exact ⟨rfl, rfl, by decide, by decide⟩ | exact Nat.le_of_ble_eq_true rfl | exact rfl) ?_; with_reducible conv => whnf) | (rw [isLst_at (by assumption)]; with_reducible conv => whnf) | (refine ifT rfl ?_; with_reducible conv => whnf) | (refine ifF rfl ?_; with_reducible conv => whnf) | (refine it_at (by assumption) ?_; with_reducible conv => whnf)))
  refine ⟨.int 0, rfl, rfl, rfl, Nat.zero_le _, fun S18 s18 => ?_⟩
  ((with_reducible conv => whnf); repeat (first | (rw [natD_len]; with_reducible conv => whnf) | (rw [intD_len]; with_reducible conv => whnf) | (refine Exists.intro _ (And.intro (rfl : _ = some _) ?_); with_reducible conv => whnf) | (refine And.intro (okII _ _) ?_; rw [eqD_ii]; with_reducible conv => whnf) | (refine And.intro (by first | assumption | exact Exists.intro _ (by assumption) | exact ⟨rfl, rfl, by decide, by decide⟩ | exact Nat.le_of_ble_eq_true rfl | exact rfl) ?_; with_reducible conv => whnf) | (rw [isLst_at (by assumption)]; with_reducible conv => whnf) | (refine ifT rfl ?_; with_reducible conv => whnf) | (refine ifF rfl ?_; with_reducible conv => whnf) | (refine it_at (by assumption) ?_; with_reducible conv => whnf)))
  refine ⟨2, rfl, by decide, by decide, fun S19 s19 => ?_⟩
  rw [show bestP 2 = 0 by decide +kernel]
  ((with_reducible conv => whnf); repeat (first | (rw [natD_len]; with_reducible conv => whnf) | (rw [intD_len]; with_reducible conv => whnf) | (refine Exists.intro _ (And.intro (rfl : _ = some _) ?_); with_reducible conv => whnf) | (refine And.intro (okII _ _) ?_; rw [eqD_ii]; with_reducible conv => whnf) | (refine And.intro (by first | assumption | exact Exists.intro _ (by assumption) | exact ⟨rfl, rfl, by decide, by decide⟩ | exact Nat.le_of_ble_eq_true rfl | exact rfl) ?_; with_reducible conv => whnf) | (rw [isLst_at (by assumption)]; with_reducible conv => whnf) | (refine ifT rfl ?_; with_reducible conv => whnf) | (refine ifF rfl ?_; with_reducible conv => whnf) | (refine it_at (by assumption) ?_; with_reducible conv => whnf)))
  refine ⟨.int 0, rfl, rfl, rfl, Nat.zero_le _, fun S20 s20 => ?_⟩
  ((with_reducible conv => whnf); repeat (first | (rw [natD_len]; with_reducible conv => whnf) | (rw [intD_len]; with_reducible conv => whnf) | (refine Exists.intro _ (And.intro (rfl : _ = some _) ?_); with_reducible conv => whnf) | (refine And.intro (okII _ _) ?_; rw [eqD_ii]; with_reducible conv => whnf) | (refine And.intro (by first | assumption | exact Exists.intro _ (by assumption) | exact ⟨rfl, rfl, by decide, by decide⟩ | exact Nat.le_of_ble_eq_true rfl | exact rfl) ?_; with_reducible conv => whnf) | (rw [isLst_at (by assumption)]; with_reducible conv => whnf) | (refine ifT rfl ?_; with_reducible conv => whnf) | (refine ifF rfl ?_; with_reducible conv => whnf) | (refine it_at (by assumption) ?_; with_reducible conv => whnf)))
  refine ⟨[0, 2, 1], 1, rfl, by decide, by decide, fun S21 s21 => ?_⟩
  rw [show tkN [0, 2, 1] 1 = none by decide]
  ((with_reducible conv => whnf); repeat (first | (rw [natD_len]; with_reducible conv => whnf) | (rw [intD_len]; with_reducible conv => whnf) | (refine Exists.intro _ (And.intro (rfl : _ = some _) ?_); with_reducible conv => whnf) | (refine And.intro (okII _ _) ?_; rw [eqD_ii]; with_reducible conv => whnf) | (refine And.intro (by first | assumption | exact Exists.intro _ (by assumption) | exact ⟨rfl, rfl, by decide, by decide⟩ | exact Nat.le_of_ble_eq_true rfl | exact rfl) ?_; with_reducible conv => whnf) | (rw [isLst_at (by assumption)]; with_reducible conv => whnf) | (refine ifT rfl ?_; with_reducible conv => whnf) | (refine ifF rfl ?_; with_reducible conv => whnf) | (refine it_at (by assumption) ?_; with_reducible conv => whnf)))
  refine ⟨[2, 0, 1], rfl, by decide, fun S22 s22 => ?_⟩
  rw [show recs [2, 0, 1] = [0, 1] by decide]
  ((with_reducible conv => whnf); repeat (first | (rw [natD_len]; with_reducible conv => whnf) | (rw [intD_len]; with_reducible conv => whnf) | (refine Exists.intro _ (And.intro (rfl : _ = some _) ?_); with_reducible conv => whnf) | (refine And.intro (okII _ _) ?_; rw [eqD_ii]; with_reducible conv => whnf) | (refine And.intro (by first | assumption | exact Exists.intro _ (by assumption) | exact ⟨rfl, rfl, by decide, by decide⟩ | exact Nat.le_of_ble_eq_true rfl | exact rfl) ?_; with_reducible conv => whnf) | (rw [isLst_at (by assumption)]; with_reducible conv => whnf) | (refine ifT rfl ?_; with_reducible conv => whnf) | (refine ifF rfl ?_; with_reducible conv => whnf) | (refine it_at (by assumption) ?_; with_reducible conv => whnf)))
  refine ⟨.tup [.int 0, .int 1], rfl, rfl, rfl, by show max 0 (max 0 0) + 1 ≤ 3; decide, fun S23 s23 => ?_⟩
  ((with_reducible conv => whnf); repeat (first | (rw [natD_len]; with_reducible conv => whnf) | (rw [intD_len]; with_reducible conv => whnf) | (refine Exists.intro _ (And.intro (rfl : _ = some _) ?_); with_reducible conv => whnf) | (refine And.intro (okII _ _) ?_; rw [eqD_ii]; with_reducible conv => whnf) | (refine And.intro (by first | assumption | exact Exists.intro _ (by assumption) | exact ⟨rfl, rfl, by decide, by decide⟩ | exact Nat.le_of_ble_eq_true rfl | exact rfl) ?_; with_reducible conv => whnf) | (rw [isLst_at (by assumption)]; with_reducible conv => whnf) | (refine ifT rfl ?_; with_reducible conv => whnf) | (refine ifF rfl ?_; with_reducible conv => whnf) | (refine it_at (by assumption) ?_; with_reducible conv => whnf)))
  refine ⟨o, 0, rfl, hol, by decide, fun S24 s24 => ?_⟩
  rw [tk0 ho0]
  ((with_reducible conv => whnf); repeat (first | (rw [natD_len]; with_reducible conv => whnf) | (rw [intD_len]; with_reducible conv => whnf) | (refine Exists.intro _ (And.intro (rfl : _ = some _) ?_); with_reducible conv => whnf) | (refine And.intro (okII _ _) ?_; rw [eqD_ii]; with_reducible conv => whnf) | (refine And.intro (by first | assumption | exact Exists.intro _ (by assumption) | exact ⟨rfl, rfl, by decide, by decide⟩ | exact Nat.le_of_ble_eq_true rfl | exact rfl) ?_; with_reducible conv => whnf) | (rw [isLst_at (by assumption)]; with_reducible conv => whnf) | (refine ifT rfl ?_; with_reducible conv => whnf) | (refine ifF rfl ?_; with_reducible conv => whnf) | (refine it_at (by assumption) ?_; with_reducible conv => whnf)))
  exact ⟨.int 0, rfl, rfl, rfl, Nat.zero_le _, fun S25 s25 => kk _⟩
theorem Frc.le1 {r j : Nat} {T C : Int} (h : Frc r j T C) (h1 : AS r j ≤ 1) : T ≤ C := by
  have hc : (0 : Rat) ≤ (C : Rat) := by exact_mod_cast (show (0 : Int) ≤ C by have := h.pos; omega)
  have := Rat.mul_le_mul_of_nonneg_right h1 hc
  rw [← h.eq, Rat.one_mul] at this
  exact Rat.intCast_le_intCast.mp this
theorem Frc.gt1 {r j : Nat} {T C : Int} (h : Frc r j T C) (h1 : 1 < AS r j) : C < T := by
  have hc : (0 : Rat) < (C : Rat) := by exact_mod_cast h.pos
  have := Rat.mul_lt_mul_of_pos_right h1 hc
  rw [← h.eq, Rat.one_mul] at this
  exact Rat.intCast_lt_intCast.mp this
theorem law_C {Q : VK} {n : Nat} {o : List Nat} {x0 x2 x4 x5 x6 x7 x8 x9 x10 x11 x12 x13 x14 x15 : Option D} {S : Sto} (ho : okO o) (ho0 : 0 < o.length) (hol : o.length ≤ 100) (kk : ∀ S', Q (.bl true) S') (d0 : Dr n S) : w_law_t10 sp_draws sp_take sp_few sp_order sp_lrecs sp_recs (sp_same 3) sp_ltk sp_tk sp_lch sp_less sp_bp sp_ctb sp_sum sp_frac sp_rows sp_rec sp_sadd sp_mean { nx := fun _ S' => Q .non S', rt := Q, bk := fun _ _ => False, ct := fun _ _ => False } [x0, some (.ref n), x2, some (ordD o), x4, x5, x6, x7, x8, x9, x10, x11, x12, x13, x14, x15] S := by
  ((with_reducible conv => whnf); repeat (first | (rw [natD_len]; with_reducible conv => whnf) | (rw [intD_len]; with_reducible conv => whnf) | (refine Exists.intro _ (And.intro (rfl : _ = some _) ?_); with_reducible conv => whnf) | (refine And.intro (okII _ _) ?_; rw [eqD_ii]; with_reducible conv => whnf) | (refine And.intro (by first | assumption | exact Exists.intro _ (by assumption) | exact ⟨rfl, rfl, by decide, by decide⟩ | exact Nat.le_of_ble_eq_true rfl | exact rfl) ?_; with_reducible conv => whnf) | (rw [isLst_at (by assumption)]; with_reducible conv => whnf) | (refine ifT rfl ?_; with_reducible conv => whnf) | (refine ifF rfl ?_; with_reducible conv => whnf) | (refine it_at (by assumption) ?_; with_reducible conv => whnf)))
  refine ⟨n, 260, rfl, by decide, d0, fun z S1 z0 z1 d1 c1 => ?_⟩
  ((with_reducible conv => whnf); repeat (first | (rw [natD_len]; with_reducible conv => whnf) | (rw [intD_len]; with_reducible conv => whnf) | (refine Exists.intro _ (And.intro (rfl : _ = some _) ?_); with_reducible conv => whnf) | (refine And.intro (okII _ _) ?_; rw [eqD_ii]; with_reducible conv => whnf) | (refine And.intro (by first | assumption | exact Exists.intro _ (by assumption) | exact ⟨rfl, rfl, by decide, by decide⟩ | exact Nat.le_of_ble_eq_true rfl | exact rfl) ?_; with_reducible conv => whnf) | (rw [isLst_at (by assumption)]; with_reducible conv => whnf) | (refine ifT rfl ?_; with_reducible conv => whnf) | (refine ifF rfl ?_; with_reducible conv => whnf) | (refine it_at (by assumption) ?_; with_reducible conv => whnf)))
  obtain ⟨N, hN, hN0, hN1⟩ : ∃ N : Nat, 41 + z = (N : Int) ∧ 41 ≤ N ∧ N ≤ 300 := ⟨(41 + z).toNat, by omega, by omega, by omega⟩
  rw [hN]
  refine ⟨N, rfl, by omega, by omega, fun S2 s2 => ?_⟩
  obtain ⟨b1, b2, b3, b4⟩ := bestP_find (show 2 < N by omega)
  have hch : chQ N (bestP N) = (bestP N : Rat) / (N : Rat) * AS (bestP N) (N - bestP N) := if_neg (by omega)
  generalize bestP N = B at *
  have d2 := d1.sub s2
  ((with_reducible conv => whnf); repeat (first | (rw [natD_len]; with_reducible conv => whnf) | (rw [intD_len]; with_reducible conv => whnf) | (refine Exists.intro _ (And.intro (rfl : _ = some _) ?_); with_reducible conv => whnf) | (refine And.intro (okII _ _) ?_; rw [eqD_ii]; with_reducible conv => whnf) | (refine And.intro (by first | assumption | exact Exists.intro _ (by assumption) | exact ⟨rfl, rfl, by decide, by decide⟩ | exact Nat.le_of_ble_eq_true rfl | exact rfl) ?_; with_reducible conv => whnf) | (rw [isLst_at (by assumption)]; with_reducible conv => whnf) | (refine ifT rfl ?_; with_reducible conv => whnf) | (refine ifF rfl ?_; with_reducible conv => whnf) | (refine it_at (by assumption) ?_; with_reducible conv => whnf)))
  refine ite_d (fun hc => ?_) fun hc => ?_
  · omega
  ((with_reducible conv => whnf); repeat (first | (rw [natD_len]; with_reducible conv => whnf) | (rw [intD_len]; with_reducible conv => whnf) | (refine Exists.intro _ (And.intro (rfl : _ = some _) ?_); with_reducible conv => whnf) | (refine And.intro (okII _ _) ?_; rw [eqD_ii]; with_reducible conv => whnf) | (refine And.intro (by first | assumption | exact Exists.intro _ (by assumption) | exact ⟨rfl, rfl, by decide, by decide⟩ | exact Nat.le_of_ble_eq_true rfl | exact rfl) ?_; with_reducible conv => whnf) | (rw [isLst_at (by assumption)]; with_reducible conv => whnf) | (refine ifT rfl ?_; with_reducible conv => whnf) | (refine ifF rfl ?_; with_reducible conv => whnf) | (refine it_at (by assumption) ?_; with_reducible conv => whnf)))
  refine ite_d (fun hc => ?_) fun hc => ?_
  · omega
  ((with_reducible conv => whnf); repeat (first | (rw [natD_len]; with_reducible conv => whnf) | (rw [intD_len]; with_reducible conv => whnf) | (refine Exists.intro _ (And.intro (rfl : _ = some _) ?_); with_reducible conv => whnf) | (refine And.intro (okII _ _) ?_; rw [eqD_ii]; with_reducible conv => whnf) | (refine And.intro (by first | assumption | exact Exists.intro _ (by assumption) | exact ⟨rfl, rfl, by decide, by decide⟩ | exact Nat.le_of_ble_eq_true rfl | exact rfl) ?_; with_reducible conv => whnf) | (rw [isLst_at (by assumption)]; with_reducible conv => whnf) | (refine ifT rfl ?_; with_reducible conv => whnf) | (refine ifF rfl ?_; with_reducible conv => whnf) | (refine it_at (by assumption) ?_; with_reducible conv => whnf)))
  refine ⟨N, B + 1, by rw [show ((B + 1 : Nat) : Int) = (B : Int) + 1 by omega], by omega, by omega, hN1, fun T1 C1 S3 F1 s3 => ?_⟩
  ((with_reducible conv => whnf); repeat (first | (rw [natD_len]; with_reducible conv => whnf) | (rw [intD_len]; with_reducible conv => whnf) | (refine Exists.intro _ (And.intro (rfl : _ = some _) ?_); with_reducible conv => whnf) | (refine And.intro (okII _ _) ?_; rw [eqD_ii]; with_reducible conv => whnf) | (refine And.intro (by first | assumption | exact Exists.intro _ (by assumption) | exact ⟨rfl, rfl, by decide, by decide⟩ | exact Nat.le_of_ble_eq_true rfl | exact rfl) ?_; with_reducible conv => whnf) | (rw [isLst_at (by assumption)]; with_reducible conv => whnf) | (refine ifT rfl ?_; with_reducible conv => whnf) | (refine ifF rfl ?_; with_reducible conv => whnf) | (refine it_at (by assumption) ?_; with_reducible conv => whnf)))
  refine ⟨N, B, rfl, by omega, by omega, hN1, fun T2 C2 S4 F2 s4 => ?_⟩
  ((with_reducible conv => whnf); repeat (first | (rw [natD_len]; with_reducible conv => whnf) | (rw [intD_len]; with_reducible conv => whnf) | (refine Exists.intro _ (And.intro (rfl : _ = some _) ?_); with_reducible conv => whnf) | (refine And.intro (okII _ _) ?_; rw [eqD_ii]; with_reducible conv => whnf) | (refine And.intro (by first | assumption | exact Exists.intro _ (by assumption) | exact ⟨rfl, rfl, by decide, by decide⟩ | exact Nat.le_of_ble_eq_true rfl | exact rfl) ?_; with_reducible conv => whnf) | (rw [isLst_at (by assumption)]; with_reducible conv => whnf) | (refine ifT rfl ?_; with_reducible conv => whnf) | (refine ifF rfl ?_; with_reducible conv => whnf) | (refine it_at (by assumption) ?_; with_reducible conv => whnf)))
  have l1 := F1.le1 b4
  have l2 := F2.gt1 b3
  refine ite_d (fun hc => ?_) fun hc => ?_
  · omega
  ((with_reducible conv => whnf); repeat (first | (rw [natD_len]; with_reducible conv => whnf) | (rw [intD_len]; with_reducible conv => whnf) | (refine Exists.intro _ (And.intro (rfl : _ = some _) ?_); with_reducible conv => whnf) | (refine And.intro (okII _ _) ?_; rw [eqD_ii]; with_reducible conv => whnf) | (refine And.intro (by first | assumption | exact Exists.intro _ (by assumption) | exact ⟨rfl, rfl, by decide, by decide⟩ | exact Nat.le_of_ble_eq_true rfl | exact rfl) ?_; with_reducible conv => whnf) | (rw [isLst_at (by assumption)]; with_reducible conv => whnf) | (refine ifT rfl ?_; with_reducible conv => whnf) | (refine ifF rfl ?_; with_reducible conv => whnf) | (refine it_at (by assumption) ?_; with_reducible conv => whnf)))
  refine ite_d (fun hc => ?_) fun hc => ?_
  · omega
  ((with_reducible conv => whnf); repeat (first | (rw [natD_len]; with_reducible conv => whnf) | (rw [intD_len]; with_reducible conv => whnf) | (refine Exists.intro _ (And.intro (rfl : _ = some _) ?_); with_reducible conv => whnf) | (refine And.intro (okII _ _) ?_; rw [eqD_ii]; with_reducible conv => whnf) | (refine And.intro (by first | assumption | exact Exists.intro _ (by assumption) | exact ⟨rfl, rfl, by decide, by decide⟩ | exact Nat.le_of_ble_eq_true rfl | exact rfl) ?_; with_reducible conv => whnf) | (rw [isLst_at (by assumption)]; with_reducible conv => whnf) | (refine ifT rfl ?_; with_reducible conv => whnf) | (refine ifF rfl ?_; with_reducible conv => whnf) | (refine it_at (by assumption) ?_; with_reducible conv => whnf)))
  refine ⟨N, B, rfl, by omega, by omega, hN1, fun T3 C3 S5 F3 s5 => ?_⟩
  ((with_reducible conv => whnf); repeat (first | (rw [natD_len]; with_reducible conv => whnf) | (rw [intD_len]; with_reducible conv => whnf) | (refine Exists.intro _ (And.intro (rfl : _ = some _) ?_); with_reducible conv => whnf) | (refine And.intro (okII _ _) ?_; rw [eqD_ii]; with_reducible conv => whnf) | (refine And.intro (by first | assumption | exact Exists.intro _ (by assumption) | exact ⟨rfl, rfl, by decide, by decide⟩ | exact Nat.le_of_ble_eq_true rfl | exact rfl) ?_; with_reducible conv => whnf) | (rw [isLst_at (by assumption)]; with_reducible conv => whnf) | (refine ifT rfl ?_; with_reducible conv => whnf) | (refine ifF rfl ?_; with_reducible conv => whnf) | (refine it_at (by assumption) ?_; with_reducible conv => whnf)))
  refine ⟨N, B, rfl, by omega, hN1, fun S6 s6 => ?_⟩
  ((with_reducible conv => whnf); repeat (first | (rw [natD_len]; with_reducible conv => whnf) | (rw [intD_len]; with_reducible conv => whnf) | (refine Exists.intro _ (And.intro (rfl : _ = some _) ?_); with_reducible conv => whnf) | (refine And.intro (okII _ _) ?_; rw [eqD_ii]; with_reducible conv => whnf) | (refine And.intro (by first | assumption | exact Exists.intro _ (by assumption) | exact ⟨rfl, rfl, by decide, by decide⟩ | exact Nat.le_of_ble_eq_true rfl | exact rfl) ?_; with_reducible conv => whnf) | (rw [isLst_at (by assumption)]; with_reducible conv => whnf) | (refine ifT rfl ?_; with_reducible conv => whnf) | (refine ifF rfl ?_; with_reducible conv => whnf) | (refine it_at (by assumption) ?_; with_reducible conv => whnf)))
  refine ⟨smallMul' (by omega), ?_⟩
  ((with_reducible conv => whnf); repeat (first | (rw [natD_len]; with_reducible conv => whnf) | (rw [intD_len]; with_reducible conv => whnf) | (refine Exists.intro _ (And.intro (rfl : _ = some _) ?_); with_reducible conv => whnf) | (refine And.intro (okII _ _) ?_; rw [eqD_ii]; with_reducible conv => whnf) | (refine And.intro (by first | assumption | exact Exists.intro _ (by assumption) | exact ⟨rfl, rfl, by decide, by decide⟩ | exact Nat.le_of_ble_eq_true rfl | exact rfl) ?_; with_reducible conv => whnf) | (rw [isLst_at (by assumption)]; with_reducible conv => whnf) | (refine ifT rfl ?_; with_reducible conv => whnf) | (refine ifF rfl ?_; with_reducible conv => whnf) | (refine it_at (by assumption) ?_; with_reducible conv => whnf)))
  refine ⟨smallMul' (by omega), ?_⟩
  ((with_reducible conv => whnf); repeat (first | (rw [natD_len]; with_reducible conv => whnf) | (rw [intD_len]; with_reducible conv => whnf) | (refine Exists.intro _ (And.intro (rfl : _ = some _) ?_); with_reducible conv => whnf) | (refine And.intro (okII _ _) ?_; rw [eqD_ii]; with_reducible conv => whnf) | (refine And.intro (by first | assumption | exact Exists.intro _ (by assumption) | exact ⟨rfl, rfl, by decide, by decide⟩ | exact Nat.le_of_ble_eq_true rfl | exact rfl) ?_; with_reducible conv => whnf) | (rw [isLst_at (by assumption)]; with_reducible conv => whnf) | (refine ifT rfl ?_; with_reducible conv => whnf) | (refine ifF rfl ?_; with_reducible conv => whnf) | (refine it_at (by assumption) ?_; with_reducible conv => whnf)))
  obtain ⟨e1, e2⟩ := F3.den (show 0 < N by omega) hN1 (by omega)
  refine ⟨_, _, rfl, e1, e2, fun S7 s7 => ?_⟩
  rw [F3.div (by omega), hch]
  ((with_reducible conv => whnf); repeat (first | (rw [natD_len]; with_reducible conv => whnf) | (rw [intD_len]; with_reducible conv => whnf) | (refine Exists.intro _ (And.intro (rfl : _ = some _) ?_); with_reducible conv => whnf) | (refine And.intro (okII _ _) ?_; rw [eqD_ii]; with_reducible conv => whnf) | (refine And.intro (by first | assumption | exact Exists.intro _ (by assumption) | exact ⟨rfl, rfl, by decide, by decide⟩ | exact Nat.le_of_ble_eq_true rfl | exact rfl) ?_; with_reducible conv => whnf) | (rw [isLst_at (by assumption)]; with_reducible conv => whnf) | (refine ifT rfl ?_; with_reducible conv => whnf) | (refine ifF rfl ?_; with_reducible conv => whnf) | (refine it_at (by assumption) ?_; with_reducible conv => whnf)))
  obtain ⟨z1, z2, z3⟩ := qok ((B : Rat) / (N : Rat) * AS B (N - B))
  refine ⟨_, rfl, z1, z2, z3, fun S8 s8 => ?_⟩
  have d8 := d2.sub (((s3.trans s4).trans (s5.trans s6)).trans (s7.trans s8))
  exact law_D ho ho0 hol kk d8
theorem amax_lt (n : Nat) : ∀ j, amax n j = 0 ∨ amax n j < j
  | 0 => .inl rfl
  | j + 1 => by
    show (if chQ n (amax n j) < chQ n j then j else amax n j) = 0 ∨ (if chQ n (amax n j) < chQ n j then j else amax n j) < j + 1
    have := amax_lt n j
    split <;> omega
theorem chQ_sm {n r : Nat} (h : r < n) (hn : n ≤ 40) : smB (chQ n r) := by
  unfold chQ
  by_cases c : r = 0
  · rw [if_pos c]
    exact (inv_sm (by omega) (by omega)).B
  · rw [if_neg c]
    have ov1 := Ov.over (P := 1) (Ov_int 1 (r : Int)) (k := n) (by omega)
    rw [Nat.one_mul] at ov1
    have ov := ov1.mul (AS_ov (m := 200) (r := r) (by omega) (n - r) (by omega))
    have a := AS_nn (show 0 < r by omega) (n - r)
    have hn1 : (1 : Rat) ≤ (n : Rat) := by exact_mod_cast (show 1 ≤ n by omega)
    have hr : (0 : Rat) ≤ (r : Rat) := by exact_mod_cast Nat.zero_le _
    have hrn : (r : Rat) ≤ (n : Rat) := by exact_mod_cast (show r ≤ n by omega)
    have e : (r : Rat) / (n : Rat) * (n : Rat) = r := Rat.div_mul_cancel (by grind)
    have b : 0 ≤ (r : Rat) / (n : Rat) ∧ (r : Rat) / (n : Rat) ≤ 1 := by
      constructor
      · false_or_by_contra
        have := Rat.mul_lt_mul_of_pos_right (show (r : Rat) / (n : Rat) < 0 by grind) (show 0 < (n : Rat) by grind)
        grind
      · false_or_by_contra
        have := Rat.mul_lt_mul_of_pos_right (show 1 < (r : Rat) / (n : Rat) by grind) (show 0 < (n : Rat) by grind)
        grind
    have h1 := Rat.mul_nonneg b.1 a.1
    have h2 := Rat.mul_le_mul_of_nonneg_right b.2 a.1
    refine smB_of (M := n - r) ov (Nat.mul_pos (by omega) (fct_pos _)) ?_ (by grind) ?_ (by omega)
    · have : (0 : Rat) ≤ ((n - r : Nat) : Rat) := by exact_mod_cast Nat.zero_le _
      grind
    · have := Nat.mul_lt_mul'' (show n < 2 ^ 10 by omega) fct_200
      rw [← Nat.pow_add] at this
      exact Nat.lt_of_lt_of_le this (pow_le2 (by decide))
theorem law_B {Q : VK} {n : Nat} {o : List Nat} {x0 x2 x4 x5 x6 x7 x8 x9 x10 x11 x12 x13 x14 x15 : Option D} {S : Sto} (ho : okO o) (ho0 : 0 < o.length) (hol : o.length ≤ 100) (kk : ∀ S', Q (.bl true) S') (d0 : Dr n S) : w_law_t3 sp_draws sp_take sp_few sp_order sp_lrecs sp_recs (sp_same 3) sp_ltk sp_tk sp_lch sp_less sp_bp sp_ctb sp_sum sp_frac sp_rows sp_rec sp_sadd sp_mean { nx := fun _ S' => Q .non S', rt := Q, bk := fun _ _ => False, ct := fun _ _ => False } [x0, some (.ref n), x2, some (ordD o), x4, x5, x6, x7, x8, x9, x10, x11, x12, x13, x14, x15] S := by
  ((with_reducible conv => whnf); repeat (first | (rw [natD_len]; with_reducible conv => whnf) | (rw [intD_len]; with_reducible conv => whnf) | (refine Exists.intro _ (And.intro (rfl : _ = some _) ?_); with_reducible conv => whnf) | (refine And.intro (okII _ _) ?_; rw [eqD_ii]; with_reducible conv => whnf) | (refine And.intro (by first | assumption | exact Exists.intro _ (by assumption) | exact ⟨rfl, rfl, by decide, by decide⟩ | exact Nat.le_of_ble_eq_true rfl | exact rfl) ?_; with_reducible conv => whnf) | (rw [isLst_at (by assumption)]; with_reducible conv => whnf) | (refine ifT rfl ?_; with_reducible conv => whnf) | (refine ifF rfl ?_; with_reducible conv => whnf) | (refine it_at (by assumption) ?_; with_reducible conv => whnf)))
  refine ⟨n, 40, rfl, by decide, d0, fun z S1 z0 z1 d1 c1 => ?_⟩
  ((with_reducible conv => whnf); repeat (first | (rw [natD_len]; with_reducible conv => whnf) | (rw [intD_len]; with_reducible conv => whnf) | (refine Exists.intro _ (And.intro (rfl : _ = some _) ?_); with_reducible conv => whnf) | (refine And.intro (okII _ _) ?_; rw [eqD_ii]; with_reducible conv => whnf) | (refine And.intro (by first | assumption | exact Exists.intro _ (by assumption) | exact ⟨rfl, rfl, by decide, by decide⟩ | exact Nat.le_of_ble_eq_true rfl | exact rfl) ?_; with_reducible conv => whnf) | (rw [isLst_at (by assumption)]; with_reducible conv => whnf) | (refine ifT rfl ?_; with_reducible conv => whnf) | (refine ifF rfl ?_; with_reducible conv => whnf) | (refine it_at (by assumption) ?_; with_reducible conv => whnf)))
  obtain ⟨N, hN, hN0, hN1⟩ : ∃ N : Nat, 1 + z = (N : Int) ∧ 1 ≤ N ∧ N ≤ 40 := ⟨(1 + z).toNat, by omega, by omega, by omega⟩
  rw [hN]
  refine ⟨⟨by omega, by omega⟩, ?_⟩
  refine Lc_rm (fun r => qD (chQ N r)) (by unfold szL; omega) (by intros; trivial) (fun r S' R hr h hR => ?_) fun S2 s2 => ?_
  · ((with_reducible conv => whnf); repeat (first | (rw [natD_len]; with_reducible conv => whnf) | (rw [intD_len]; with_reducible conv => whnf) | (refine Exists.intro _ (And.intro (rfl : _ = some _) ?_); with_reducible conv => whnf) | (refine And.intro (okII _ _) ?_; rw [eqD_ii]; with_reducible conv => whnf) | (refine And.intro (by first | assumption | exact Exists.intro _ (by assumption) | exact ⟨rfl, rfl, by decide, by decide⟩ | exact Nat.le_of_ble_eq_true rfl | exact rfl) ?_; with_reducible conv => whnf) | (rw [isLst_at (by assumption)]; with_reducible conv => whnf) | (refine ifT rfl ?_; with_reducible conv => whnf) | (refine ifF rfl ?_; with_reducible conv => whnf) | (refine it_at (by assumption) ?_; with_reducible conv => whnf)))
    exact ⟨N, r, rfl, hr, by omega, fun S3 s3 => hR S3 s3⟩
  have ec := at_push S2 (.lst ((List.range N).map fun r => qD (chQ N r)))
  have d2 := (d1.sub s2).app [.lst ((List.range N).map fun r => qD (chQ N r))]
  have hnc : S2.length ≠ n := by have := (d1.sub s2).lt; omega
  ((with_reducible conv => whnf); repeat (first | (rw [natD_len]; with_reducible conv => whnf) | (rw [intD_len]; with_reducible conv => whnf) | (refine Exists.intro _ (And.intro (rfl : _ = some _) ?_); with_reducible conv => whnf) | (refine And.intro (okII _ _) ?_; rw [eqD_ii]; with_reducible conv => whnf) | (refine And.intro (by first | assumption | exact Exists.intro _ (by assumption) | exact ⟨rfl, rfl, by decide, by decide⟩ | exact Nat.le_of_ble_eq_true rfl | exact rfl) ?_; with_reducible conv => whnf) | (rw [isLst_at (by assumption)]; with_reducible conv => whnf) | (refine ifT rfl ?_; with_reducible conv => whnf) | (refine ifF rfl ?_; with_reducible conv => whnf) | (refine it_at (by assumption) ?_; with_reducible conv => whnf)))
  generalize S2 ++ [.lst ((List.range N).map fun r => qD (chQ N r))] = S3 at *
  generalize S2.length = mc at *
  have hget : ∀ {k : Nat}, k < N → atZ ((List.range N).map fun r => qD (chQ N r)) (k : Int) = some (qD (chQ N k)) := fun {k} h => atZ_nat (by rw [List.getElem?_map, List.getElem?_range h]; rfl)
  generalize hCL : (List.range N).map (fun r => qD (chQ N r)) = CL at *
  refine ⟨⟨by omega, by omega⟩, ?_⟩
  refine Loop_mk (fun i ρ S' => ∃ o4, ρ = [x0, some (.ref n), x2, some (ordD o), o4, some (.int N), some (.ref mc), some (.int (amax N i : Nat)), x8, x9, x10, x11, x12, x13, x14, x15] ∧ S'[mc]? = some (.lst CL) ∧ Dr n S') ⟨_, rfl, ec, d2⟩ (by intros; trivial) ?_ ?_
  · rintro i d ρ' S' hi ⟨o4, rfl, f1, f2⟩
    obtain ⟨hi1, rfl⟩ := rangeD_get hi
    rw [show (0 : Int) + i = i by omega]
    have hiN : i < N := by omega
    have ha := amax_lt N i
    have haN : amax N i < N := by omega
    ((with_reducible conv => whnf); repeat (first | (rw [natD_len]; with_reducible conv => whnf) | (rw [intD_len]; with_reducible conv => whnf) | (refine Exists.intro _ (And.intro (rfl : _ = some _) ?_); with_reducible conv => whnf) | (refine And.intro (okII _ _) ?_; rw [eqD_ii]; with_reducible conv => whnf) | (refine And.intro (by first | assumption | exact Exists.intro _ (by assumption) | exact ⟨rfl, rfl, by decide, by decide⟩ | exact Nat.le_of_ble_eq_true rfl | exact rfl) ?_; with_reducible conv => whnf) | (rw [isLst_at (by assumption)]; with_reducible conv => whnf) | (refine ifT rfl ?_; with_reducible conv => whnf) | (refine ifF rfl ?_; with_reducible conv => whnf) | (refine it_at (by assumption) ?_; with_reducible conv => whnf)))
    refine ⟨_, hget haN, ?_⟩
    ((with_reducible conv => whnf); repeat (first | (rw [natD_len]; with_reducible conv => whnf) | (rw [intD_len]; with_reducible conv => whnf) | (refine Exists.intro _ (And.intro (rfl : _ = some _) ?_); with_reducible conv => whnf) | (refine And.intro (okII _ _) ?_; rw [eqD_ii]; with_reducible conv => whnf) | (refine And.intro (by first | assumption | exact Exists.intro _ (by assumption) | exact ⟨rfl, rfl, by decide, by decide⟩ | exact Nat.le_of_ble_eq_true rfl | exact rfl) ?_; with_reducible conv => whnf) | (rw [isLst_at (by assumption)]; with_reducible conv => whnf) | (refine ifT rfl ?_; with_reducible conv => whnf) | (refine ifF rfl ?_; with_reducible conv => whnf) | (refine it_at (by assumption) ?_; with_reducible conv => whnf)))
    refine ⟨_, hget hiN, ?_⟩
    ((with_reducible conv => whnf); repeat (first | (rw [natD_len]; with_reducible conv => whnf) | (rw [intD_len]; with_reducible conv => whnf) | (refine Exists.intro _ (And.intro (rfl : _ = some _) ?_); with_reducible conv => whnf) | (refine And.intro (okII _ _) ?_; rw [eqD_ii]; with_reducible conv => whnf) | (refine And.intro (by first | assumption | exact Exists.intro _ (by assumption) | exact ⟨rfl, rfl, by decide, by decide⟩ | exact Nat.le_of_ble_eq_true rfl | exact rfl) ?_; with_reducible conv => whnf) | (rw [isLst_at (by assumption)]; with_reducible conv => whnf) | (refine ifT rfl ?_; with_reducible conv => whnf) | (refine ifF rfl ?_; with_reducible conv => whnf) | (refine it_at (by assumption) ?_; with_reducible conv => whnf)))
    refine ⟨_, _, rfl, chQ_sm haN hN1, chQ_sm hiN hN1, fun S4 s4 => ?_⟩
    have e : amax N (i + 1) = if chQ N (amax N i) < chQ N i then i else amax N i := rfl
    ((with_reducible conv => whnf); repeat (first | (rw [natD_len]; with_reducible conv => whnf) | (rw [intD_len]; with_reducible conv => whnf) | (refine Exists.intro _ (And.intro (rfl : _ = some _) ?_); with_reducible conv => whnf) | (refine And.intro (okII _ _) ?_; rw [eqD_ii]; with_reducible conv => whnf) | (refine And.intro (by first | assumption | exact Exists.intro _ (by assumption) | exact ⟨rfl, rfl, by decide, by decide⟩ | exact Nat.le_of_ble_eq_true rfl | exact rfl) ?_; with_reducible conv => whnf) | (rw [isLst_at (by assumption)]; with_reducible conv => whnf) | (refine ifT rfl ?_; with_reducible conv => whnf) | (refine ifF rfl ?_; with_reducible conv => whnf) | (refine it_at (by assumption) ?_; with_reducible conv => whnf)))
    refine ite_d (fun hc => ?_) fun hc => ?_
    · rw [if_pos hc] at e
      ((with_reducible conv => whnf); repeat (first | (rw [natD_len]; with_reducible conv => whnf) | (rw [intD_len]; with_reducible conv => whnf) | (refine Exists.intro _ (And.intro (rfl : _ = some _) ?_); with_reducible conv => whnf) | (refine And.intro (okII _ _) ?_; rw [eqD_ii]; with_reducible conv => whnf) | (refine And.intro (by first | assumption | exact Exists.intro _ (by assumption) | exact ⟨rfl, rfl, by decide, by decide⟩ | exact Nat.le_of_ble_eq_true rfl | exact rfl) ?_; with_reducible conv => whnf) | (rw [isLst_at (by assumption)]; with_reducible conv => whnf) | (refine ifT rfl ?_; with_reducible conv => whnf) | (refine ifF rfl ?_; with_reducible conv => whnf) | (refine it_at (by assumption) ?_; with_reducible conv => whnf)))
      rw [e]
      exact ⟨_, rfl, s4 _ _ f1, f2.sub s4⟩
    · rw [if_neg hc] at e
      rw [e]
      exact ⟨_, rfl, s4 _ _ f1, f2.sub s4⟩
  rintro ρ' S4 ⟨o4, rfl, f1, f2⟩
  rw [rangeD_len, show ((N : Int) - 0).toNat = N by omega, amax_best hN0 hN1]
  have hbN : bestP N < N := by
    have := amax_lt N N
    rw [amax_best hN0 hN1] at this
    omega
  ((with_reducible conv => whnf); repeat (first | (rw [natD_len]; with_reducible conv => whnf) | (rw [intD_len]; with_reducible conv => whnf) | (refine Exists.intro _ (And.intro (rfl : _ = some _) ?_); with_reducible conv => whnf) | (refine And.intro (okII _ _) ?_; rw [eqD_ii]; with_reducible conv => whnf) | (refine And.intro (by first | assumption | exact Exists.intro _ (by assumption) | exact ⟨rfl, rfl, by decide, by decide⟩ | exact Nat.le_of_ble_eq_true rfl | exact rfl) ?_; with_reducible conv => whnf) | (rw [isLst_at (by assumption)]; with_reducible conv => whnf) | (refine ifT rfl ?_; with_reducible conv => whnf) | (refine ifF rfl ?_; with_reducible conv => whnf) | (refine it_at (by assumption) ?_; with_reducible conv => whnf)))
  refine ⟨N, rfl, by omega, by omega, fun S5 s5 => ?_⟩
  have f1 := s5 _ _ f1
  ((with_reducible conv => whnf); repeat (first | (rw [natD_len]; with_reducible conv => whnf) | (rw [intD_len]; with_reducible conv => whnf) | (refine Exists.intro _ (And.intro (rfl : _ = some _) ?_); with_reducible conv => whnf) | (refine And.intro (okII _ _) ?_; rw [eqD_ii]; with_reducible conv => whnf) | (refine And.intro (by first | assumption | exact Exists.intro _ (by assumption) | exact ⟨rfl, rfl, by decide, by decide⟩ | exact Nat.le_of_ble_eq_true rfl | exact rfl) ?_; with_reducible conv => whnf) | (rw [isLst_at (by assumption)]; with_reducible conv => whnf) | (refine ifT rfl ?_; with_reducible conv => whnf) | (refine ifF rfl ?_; with_reducible conv => whnf) | (refine it_at (by assumption) ?_; with_reducible conv => whnf)))
  refine ⟨.int (bestP N : Nat), rfl, rfl, rfl, Nat.zero_le _, fun S6 s6 => ?_⟩
  have f1 := s6 _ _ f1
  ((with_reducible conv => whnf); repeat (first | (rw [natD_len]; with_reducible conv => whnf) | (rw [intD_len]; with_reducible conv => whnf) | (refine Exists.intro _ (And.intro (rfl : _ = some _) ?_); with_reducible conv => whnf) | (refine And.intro (okII _ _) ?_; rw [eqD_ii]; with_reducible conv => whnf) | (refine And.intro (by first | assumption | exact Exists.intro _ (by assumption) | exact ⟨rfl, rfl, by decide, by decide⟩ | exact Nat.le_of_ble_eq_true rfl | exact rfl) ?_; with_reducible conv => whnf) | (rw [isLst_at (by assumption)]; with_reducible conv => whnf) | (refine ifT rfl ?_; with_reducible conv => whnf) | (refine ifF rfl ?_; with_reducible conv => whnf) | (refine it_at (by assumption) ?_; with_reducible conv => whnf)))
  refine ⟨N, bestP N, rfl, hbN, by omega, fun S7 s7 => ?_⟩
  have f1 := s7 _ _ f1
  ((with_reducible conv => whnf); repeat (first | (rw [natD_len]; with_reducible conv => whnf) | (rw [intD_len]; with_reducible conv => whnf) | (refine Exists.intro _ (And.intro (rfl : _ = some _) ?_); with_reducible conv => whnf) | (refine And.intro (okII _ _) ?_; rw [eqD_ii]; with_reducible conv => whnf) | (refine And.intro (by first | assumption | exact Exists.intro _ (by assumption) | exact ⟨rfl, rfl, by decide, by decide⟩ | exact Nat.le_of_ble_eq_true rfl | exact rfl) ?_; with_reducible conv => whnf) | (rw [isLst_at (by assumption)]; with_reducible conv => whnf) | (refine ifT rfl ?_; with_reducible conv => whnf) | (refine ifF rfl ?_; with_reducible conv => whnf) | (refine it_at (by assumption) ?_; with_reducible conv => whnf)))
  refine ⟨_, hget hbN, ?_⟩
  ((with_reducible conv => whnf); repeat (first | (rw [natD_len]; with_reducible conv => whnf) | (rw [intD_len]; with_reducible conv => whnf) | (refine Exists.intro _ (And.intro (rfl : _ = some _) ?_); with_reducible conv => whnf) | (refine And.intro (okII _ _) ?_; rw [eqD_ii]; with_reducible conv => whnf) | (refine And.intro (by first | assumption | exact Exists.intro _ (by assumption) | exact ⟨rfl, rfl, by decide, by decide⟩ | exact Nat.le_of_ble_eq_true rfl | exact rfl) ?_; with_reducible conv => whnf) | (rw [isLst_at (by assumption)]; with_reducible conv => whnf) | (refine ifT rfl ?_; with_reducible conv => whnf) | (refine ifF rfl ?_; with_reducible conv => whnf) | (refine it_at (by assumption) ?_; with_reducible conv => whnf)))
  obtain ⟨z1, z2, z3⟩ := qok (chQ N (bestP N))
  refine ⟨_, rfl, z1, z2, z3, fun S8 s8 => ?_⟩
  have f1 := s8 _ _ f1
  have d8 := f2.sub ((s5.trans s6).trans (s7.trans s8))
  ((with_reducible conv => whnf); repeat (first | (rw [natD_len]; with_reducible conv => whnf) | (rw [intD_len]; with_reducible conv => whnf) | (refine Exists.intro _ (And.intro (rfl : _ = some _) ?_); with_reducible conv => whnf) | (refine And.intro (okII _ _) ?_; rw [eqD_ii]; with_reducible conv => whnf) | (refine And.intro (by first | assumption | exact Exists.intro _ (by assumption) | exact ⟨rfl, rfl, by decide, by decide⟩ | exact Nat.le_of_ble_eq_true rfl | exact rfl) ?_; with_reducible conv => whnf) | (rw [isLst_at (by assumption)]; with_reducible conv => whnf) | (refine ifT rfl ?_; with_reducible conv => whnf) | (refine ifF rfl ?_; with_reducible conv => whnf) | (refine it_at (by assumption) ?_; with_reducible conv => whnf)))
  refine ⟨n, _, rfl, by omega, d8, fun r S9 r0 r1 d9 c9 => ?_⟩
  obtain ⟨r, rfl⟩ : ∃ m : Nat, r = m := ⟨r.toNat, by omega⟩
  have f1 := c9 _ _ hnc f1
  ((with_reducible conv => whnf); repeat (first | (rw [natD_len]; with_reducible conv => whnf) | (rw [intD_len]; with_reducible conv => whnf) | (refine Exists.intro _ (And.intro (rfl : _ = some _) ?_); with_reducible conv => whnf) | (refine And.intro (okII _ _) ?_; rw [eqD_ii]; with_reducible conv => whnf) | (refine And.intro (by first | assumption | exact Exists.intro _ (by assumption) | exact ⟨rfl, rfl, by decide, by decide⟩ | exact Nat.le_of_ble_eq_true rfl | exact rfl) ?_; with_reducible conv => whnf) | (rw [isLst_at (by assumption)]; with_reducible conv => whnf) | (refine ifT rfl ?_; with_reducible conv => whnf) | (refine ifF rfl ?_; with_reducible conv => whnf) | (refine it_at (by assumption) ?_; with_reducible conv => whnf)))
  refine ⟨N, r, rfl, by omega, by omega, fun S10 s10 => ?_⟩
  have f1 := s10 _ _ f1
  ((with_reducible conv => whnf); repeat (first | (rw [natD_len]; with_reducible conv => whnf) | (rw [intD_len]; with_reducible conv => whnf) | (refine Exists.intro _ (And.intro (rfl : _ = some _) ?_); with_reducible conv => whnf) | (refine And.intro (okII _ _) ?_; rw [eqD_ii]; with_reducible conv => whnf) | (refine And.intro (by first | assumption | exact Exists.intro _ (by assumption) | exact ⟨rfl, rfl, by decide, by decide⟩ | exact Nat.le_of_ble_eq_true rfl | exact rfl) ?_; with_reducible conv => whnf) | (rw [isLst_at (by assumption)]; with_reducible conv => whnf) | (refine ifT rfl ?_; with_reducible conv => whnf) | (refine ifF rfl ?_; with_reducible conv => whnf) | (refine it_at (by assumption) ?_; with_reducible conv => whnf)))
  refine ⟨_, hget (show r < N by omega), ?_⟩
  ((with_reducible conv => whnf); repeat (first | (rw [natD_len]; with_reducible conv => whnf) | (rw [intD_len]; with_reducible conv => whnf) | (refine Exists.intro _ (And.intro (rfl : _ = some _) ?_); with_reducible conv => whnf) | (refine And.intro (okII _ _) ?_; rw [eqD_ii]; with_reducible conv => whnf) | (refine And.intro (by first | assumption | exact Exists.intro _ (by assumption) | exact ⟨rfl, rfl, by decide, by decide⟩ | exact Nat.le_of_ble_eq_true rfl | exact rfl) ?_; with_reducible conv => whnf) | (rw [isLst_at (by assumption)]; with_reducible conv => whnf) | (refine ifT rfl ?_; with_reducible conv => whnf) | (refine ifF rfl ?_; with_reducible conv => whnf) | (refine it_at (by assumption) ?_; with_reducible conv => whnf)))
  obtain ⟨z1, z2, z3⟩ := qok (chQ N r)
  refine ⟨_, rfl, z1, z2, z3, fun S11 s11 => ?_⟩
  exact law_C ho ho0 hol kk (d9.sub (s10.trans s11))
theorem body_law : Body 16 1 (w_law sp_draws sp_take sp_few sp_order sp_lrecs sp_recs (sp_same 3) sp_ltk sp_tk sp_lch sp_less sp_bp sp_ctb sp_sum sp_frac sp_rows sp_rec sp_sadd sp_mean) sp_law := by
  rintro ds S Q _ ⟨ns, rfl, hl, kk⟩
  unfold w_law
  (simp only [start, List.map_cons, List.map_nil, List.length_cons, List.length_nil, Nat.reduceAdd, Nat.reduceSub, List.replicate_succ, List.replicate_zero, List.cons_append, List.nil_append, Nat.sub_self, Nat.zero_add])
  ((with_reducible conv => whnf); repeat (first | (rw [natD_len]; with_reducible conv => whnf) | (rw [intD_len]; with_reducible conv => whnf) | (refine Exists.intro _ (And.intro (rfl : _ = some _) ?_); with_reducible conv => whnf) | (refine And.intro (okII _ _) ?_; rw [eqD_ii]; with_reducible conv => whnf) | (refine And.intro (by first | assumption | exact Exists.intro _ (by assumption) | exact ⟨rfl, rfl, by decide, by decide⟩ | exact Nat.le_of_ble_eq_true rfl | exact rfl) ?_; with_reducible conv => whnf) | (rw [isLst_at (by assumption)]; with_reducible conv => whnf) | (refine ifT rfl ?_; with_reducible conv => whnf) | (refine ifF rfl ?_; with_reducible conv => whnf) | (refine it_at (by assumption) ?_; with_reducible conv => whnf)))
  refine ⟨ns, 120, rfl, hl, by decide, by decide, fun n S1 d1 s1 l1 => ?_⟩
  ((with_reducible conv => whnf); repeat (first | (rw [natD_len]; with_reducible conv => whnf) | (rw [intD_len]; with_reducible conv => whnf) | (refine Exists.intro _ (And.intro (rfl : _ = some _) ?_); with_reducible conv => whnf) | (refine And.intro (okII _ _) ?_; rw [eqD_ii]; with_reducible conv => whnf) | (refine And.intro (by first | assumption | exact Exists.intro _ (by assumption) | exact ⟨rfl, rfl, by decide, by decide⟩ | exact Nat.le_of_ble_eq_true rfl | exact rfl) ?_; with_reducible conv => whnf) | (rw [isLst_at (by assumption)]; with_reducible conv => whnf) | (refine ifT rfl ?_; with_reducible conv => whnf) | (refine ifF rfl ?_; with_reducible conv => whnf) | (refine it_at (by assumption) ?_; with_reducible conv => whnf)))
  refine ⟨n, 4, rfl, by decide, d1, fun r S2 r0 r1 d2 c2 => ?_⟩
  ((with_reducible conv => whnf); repeat (first | (rw [natD_len]; with_reducible conv => whnf) | (rw [intD_len]; with_reducible conv => whnf) | (refine Exists.intro _ (And.intro (rfl : _ = some _) ?_); with_reducible conv => whnf) | (refine And.intro (okII _ _) ?_; rw [eqD_ii]; with_reducible conv => whnf) | (refine And.intro (by first | assumption | exact Exists.intro _ (by assumption) | exact ⟨rfl, rfl, by decide, by decide⟩ | exact Nat.le_of_ble_eq_true rfl | exact rfl) ?_; with_reducible conv => whnf) | (rw [isLst_at (by assumption)]; with_reducible conv => whnf) | (refine ifT rfl ?_; with_reducible conv => whnf) | (refine ifF rfl ?_; with_reducible conv => whnf) | (refine it_at (by assumption) ?_; with_reducible conv => whnf)))
  refine ⟨n, _, rfl, by split <;> omega, d2, fun q S3 q0 q1 d3 c3 => ?_⟩
  have q1 : q ≤ 5 := by split at q1 <;> omega
  ((with_reducible conv => whnf); repeat (first | (rw [natD_len]; with_reducible conv => whnf) | (rw [intD_len]; with_reducible conv => whnf) | (refine Exists.intro _ (And.intro (rfl : _ = some _) ?_); with_reducible conv => whnf) | (refine And.intro (okII _ _) ?_; rw [eqD_ii]; with_reducible conv => whnf) | (refine And.intro (by first | assumption | exact Exists.intro _ (by assumption) | exact ⟨rfl, rfl, by decide, by decide⟩ | exact Nat.le_of_ble_eq_true rfl | exact rfl) ?_; with_reducible conv => whnf) | (rw [isLst_at (by assumption)]; with_reducible conv => whnf) | (refine ifT rfl ?_; with_reducible conv => whnf) | (refine ifF rfl ?_; with_reducible conv => whnf) | (refine it_at (by assumption) ?_; with_reducible conv => whnf)))
  obtain ⟨N, hN, hN0, hN1⟩ : ∃ N : Nat, 1 + q = (N : Int) ∧ 1 ≤ N ∧ N ≤ 6 := ⟨(1 + q).toNat, by omega, by omega, by omega⟩
  rw [hN]
  refine ⟨N, rfl, hN0, hN1, fun S4 s4 => ?_⟩
  have d4 := d3.sub s4
  ((with_reducible conv => whnf); repeat (first | (rw [natD_len]; with_reducible conv => whnf) | (rw [intD_len]; with_reducible conv => whnf) | (refine Exists.intro _ (And.intro (rfl : _ = some _) ?_); with_reducible conv => whnf) | (refine And.intro (okII _ _) ?_; rw [eqD_ii]; with_reducible conv => whnf) | (refine And.intro (by first | assumption | exact Exists.intro _ (by assumption) | exact ⟨rfl, rfl, by decide, by decide⟩ | exact Nat.le_of_ble_eq_true rfl | exact rfl) ?_; with_reducible conv => whnf) | (rw [isLst_at (by assumption)]; with_reducible conv => whnf) | (refine ifT rfl ?_; with_reducible conv => whnf) | (refine ifF rfl ?_; with_reducible conv => whnf) | (refine it_at (by assumption) ?_; with_reducible conv => whnf)))
  refine ⟨⟨by decide, by decide⟩, ?_⟩
  refine Loop_mk (fun i ρ S' => ∃ o2 o3 o4, ρ = [some (.rol (intD ns)), some (.ref n), o2, o3, o4, none, none, none, none, none, none, none, none, none, none, none] ∧ Dr n S' ∧ (0 < i → ∃ o, o3 = some (ordD o) ∧ okO o ∧ 0 < o.length ∧ o.length ≤ 100)) ⟨none, none, none, rfl, d4, by omega⟩ (by intros; trivial) ?_ ?_
  · rintro i d ρ' S' hi ⟨o2, o3, o4, rfl, f3, -⟩
    obtain ⟨hi1, rfl⟩ := rangeD_get hi
    clear d1 d2 d3 d4 c2 c3 s4 s1
    ((with_reducible conv => whnf); repeat (first | (rw [natD_len]; with_reducible conv => whnf) | (rw [intD_len]; with_reducible conv => whnf) | (refine Exists.intro _ (And.intro (rfl : _ = some _) ?_); with_reducible conv => whnf) | (refine And.intro (okII _ _) ?_; rw [eqD_ii]; with_reducible conv => whnf) | (refine And.intro (by first | assumption | exact Exists.intro _ (by assumption) | exact ⟨rfl, rfl, by decide, by decide⟩ | exact Nat.le_of_ble_eq_true rfl | exact rfl) ?_; with_reducible conv => whnf) | (rw [isLst_at (by assumption)]; with_reducible conv => whnf) | (refine ifT rfl ?_; with_reducible conv => whnf) | (refine ifF rfl ?_; with_reducible conv => whnf) | (refine it_at (by assumption) ?_; with_reducible conv => whnf)))
    have hp := at_push S' (.lst [.int 8, .int 40])
    have d5 := f3.app [.lst [.int 8, .int 40]]
    have hne : S'.length ≠ n := by have := f3.lt; omega
    generalize S' ++ [.lst [.int 8, .int 40]] = S5 at *
    refine ⟨n, 2, rfl, by decide, d5, fun r S6 r0 r1 d6 c6 => ?_⟩
    have hp := c6 _ _ hne hp
    ((with_reducible conv => whnf); repeat (first | (rw [natD_len]; with_reducible conv => whnf) | (rw [intD_len]; with_reducible conv => whnf) | (refine Exists.intro _ (And.intro (rfl : _ = some _) ?_); with_reducible conv => whnf) | (refine And.intro (okII _ _) ?_; rw [eqD_ii]; with_reducible conv => whnf) | (refine And.intro (by first | assumption | exact Exists.intro _ (by assumption) | exact ⟨rfl, rfl, by decide, by decide⟩ | exact Nat.le_of_ble_eq_true rfl | exact rfl) ?_; with_reducible conv => whnf) | (rw [isLst_at (by assumption)]; with_reducible conv => whnf) | (refine ifT rfl ?_; with_reducible conv => whnf) | (refine ifF rfl ?_; with_reducible conv => whnf) | (refine it_at (by assumption) ?_; with_reducible conv => whnf)))
    refine ⟨_, pick2 r0 r1, ?_⟩
    obtain ⟨x, hx, hx01⟩ := pickI (c := r = 0) 8 40
    rw [hx]
    ((with_reducible conv => whnf); repeat (first | (rw [natD_len]; with_reducible conv => whnf) | (rw [intD_len]; with_reducible conv => whnf) | (refine Exists.intro _ (And.intro (rfl : _ = some _) ?_); with_reducible conv => whnf) | (refine And.intro (okII _ _) ?_; rw [eqD_ii]; with_reducible conv => whnf) | (refine And.intro (by first | assumption | exact Exists.intro _ (by assumption) | exact ⟨rfl, rfl, by decide, by decide⟩ | exact Nat.le_of_ble_eq_true rfl | exact rfl) ?_; with_reducible conv => whnf) | (rw [isLst_at (by assumption)]; with_reducible conv => whnf) | (refine ifT rfl ?_; with_reducible conv => whnf) | (refine ifF rfl ?_; with_reducible conv => whnf) | (refine it_at (by assumption) ?_; with_reducible conv => whnf)))
    refine ⟨n, x, rfl, by omega, d6, fun z S7 z0 z1 d7 c7 => ?_⟩
    ((with_reducible conv => whnf); repeat (first | (rw [natD_len]; with_reducible conv => whnf) | (rw [intD_len]; with_reducible conv => whnf) | (refine Exists.intro _ (And.intro (rfl : _ = some _) ?_); with_reducible conv => whnf) | (refine And.intro (okII _ _) ?_; rw [eqD_ii]; with_reducible conv => whnf) | (refine And.intro (by first | assumption | exact Exists.intro _ (by assumption) | exact ⟨rfl, rfl, by decide, by decide⟩ | exact Nat.le_of_ble_eq_true rfl | exact rfl) ?_; with_reducible conv => whnf) | (rw [isLst_at (by assumption)]; with_reducible conv => whnf) | (refine ifT rfl ?_; with_reducible conv => whnf) | (refine ifF rfl ?_; with_reducible conv => whnf) | (refine it_at (by assumption) ?_; with_reducible conv => whnf)))
    obtain ⟨M, hM, hM0, hM1⟩ : ∃ M : Nat, 1 + z = (M : Int) ∧ 1 ≤ M ∧ M ≤ 40 := ⟨(1 + z).toNat, by omega, by omega, by omega⟩
    rw [hM]
    refine ⟨n, M, rfl, by omega, d7, fun o S8 hol ho d8 c8 => ?_⟩
    have ho0 : 0 < o.length := by omega
    have hol : o.length ≤ 100 := by omega
    clear hp c6 c7 c8 hne hx d5 d6 d7
    ((with_reducible conv => whnf); repeat (first | (rw [natD_len]; with_reducible conv => whnf) | (rw [intD_len]; with_reducible conv => whnf) | (refine Exists.intro _ (And.intro (rfl : _ = some _) ?_); with_reducible conv => whnf) | (refine And.intro (okII _ _) ?_; rw [eqD_ii]; with_reducible conv => whnf) | (refine And.intro (by first | assumption | exact Exists.intro _ (by assumption) | exact ⟨rfl, rfl, by decide, by decide⟩ | exact Nat.le_of_ble_eq_true rfl | exact rfl) ?_; with_reducible conv => whnf) | (rw [isLst_at (by assumption)]; with_reducible conv => whnf) | (refine ifT rfl ?_; with_reducible conv => whnf) | (refine ifF rfl ?_; with_reducible conv => whnf) | (refine it_at (by assumption) ?_; with_reducible conv => whnf)))
    refine ⟨o, rfl, hol, fun S9 s9 => ?_⟩
    ((with_reducible conv => whnf); repeat (first | (rw [natD_len]; with_reducible conv => whnf) | (rw [intD_len]; with_reducible conv => whnf) | (refine Exists.intro _ (And.intro (rfl : _ = some _) ?_); with_reducible conv => whnf) | (refine And.intro (okII _ _) ?_; rw [eqD_ii]; with_reducible conv => whnf) | (refine And.intro (by first | assumption | exact Exists.intro _ (by assumption) | exact ⟨rfl, rfl, by decide, by decide⟩ | exact Nat.le_of_ble_eq_true rfl | exact rfl) ?_; with_reducible conv => whnf) | (rw [isLst_at (by assumption)]; with_reducible conv => whnf) | (refine ifT rfl ?_; with_reducible conv => whnf) | (refine ifF rfl ?_; with_reducible conv => whnf) | (refine it_at (by assumption) ?_; with_reducible conv => whnf)))
    refine ⟨o, rfl, hol, ho, fun S10 s10 => ?_⟩
    ((with_reducible conv => whnf); repeat (first | (rw [natD_len]; with_reducible conv => whnf) | (rw [intD_len]; with_reducible conv => whnf) | (refine Exists.intro _ (And.intro (rfl : _ = some _) ?_); with_reducible conv => whnf) | (refine And.intro (okII _ _) ?_; rw [eqD_ii]; with_reducible conv => whnf) | (refine And.intro (by first | assumption | exact Exists.intro _ (by assumption) | exact ⟨rfl, rfl, by decide, by decide⟩ | exact Nat.le_of_ble_eq_true rfl | exact rfl) ?_; with_reducible conv => whnf) | (rw [isLst_at (by assumption)]; with_reducible conv => whnf) | (refine ifT rfl ?_; with_reducible conv => whnf) | (refine ifF rfl ?_; with_reducible conv => whnf) | (refine it_at (by assumption) ?_; with_reducible conv => whnf)))
    obtain ⟨w1, w2, w3⟩ := same_ord (recs o) (by have := recs_len o; omega)
    refine ⟨_, rfl, w1, w2, w3, fun S11 s11 => ?_⟩
    have d11 := d8.sub ((s9.trans s10).trans s11)
    ((with_reducible conv => whnf); repeat (first | (rw [natD_len]; with_reducible conv => whnf) | (rw [intD_len]; with_reducible conv => whnf) | (refine Exists.intro _ (And.intro (rfl : _ = some _) ?_); with_reducible conv => whnf) | (refine And.intro (okII _ _) ?_; rw [eqD_ii]; with_reducible conv => whnf) | (refine And.intro (by first | assumption | exact Exists.intro _ (by assumption) | exact ⟨rfl, rfl, by decide, by decide⟩ | exact Nat.le_of_ble_eq_true rfl | exact rfl) ?_; with_reducible conv => whnf) | (rw [isLst_at (by assumption)]; with_reducible conv => whnf) | (refine ifT rfl ?_; with_reducible conv => whnf) | (refine ifF rfl ?_; with_reducible conv => whnf) | (refine it_at (by assumption) ?_; with_reducible conv => whnf)))
    refine ⟨n, _, rfl, by omega, d11, fun t S12 t0 t1 d12 c12 => ?_⟩
    obtain ⟨t, rfl⟩ : ∃ m : Nat, t = m := ⟨t.toNat, by omega⟩
    ((with_reducible conv => whnf); repeat (first | (rw [natD_len]; with_reducible conv => whnf) | (rw [intD_len]; with_reducible conv => whnf) | (refine Exists.intro _ (And.intro (rfl : _ = some _) ?_); with_reducible conv => whnf) | (refine And.intro (okII _ _) ?_; rw [eqD_ii]; with_reducible conv => whnf) | (refine And.intro (by first | assumption | exact Exists.intro _ (by assumption) | exact ⟨rfl, rfl, by decide, by decide⟩ | exact Nat.le_of_ble_eq_true rfl | exact rfl) ?_; with_reducible conv => whnf) | (rw [isLst_at (by assumption)]; with_reducible conv => whnf) | (refine ifT rfl ?_; with_reducible conv => whnf) | (refine ifF rfl ?_; with_reducible conv => whnf) | (refine it_at (by assumption) ?_; with_reducible conv => whnf)))
    have hL : [D.int 0, .int 1, .int t, .int ((o.length : Int) - 1)] = natD [0, 1, t, o.length - 1] := by
      rw [natD_map, show (o.length : Int) - 1 = ((o.length - 1 : Nat) : Int) by omega]
      rfl
    rw [hL]
    have hLm : ∀ k ∈ [0, 1, t, o.length - 1], k ≤ 100 := by
      simp only [List.mem_cons, List.not_mem_nil, or_false]
      omega
    clear hL
    generalize [0, 1, t, o.length - 1] = L at *
    have ep := at_push S12 (.lst (natD L))
    have d13 := d12.app [.lst (natD L)]
    ((with_reducible conv => whnf); repeat (first | (rw [natD_len]; with_reducible conv => whnf) | (rw [intD_len]; with_reducible conv => whnf) | (refine Exists.intro _ (And.intro (rfl : _ = some _) ?_); with_reducible conv => whnf) | (refine And.intro (okII _ _) ?_; rw [eqD_ii]; with_reducible conv => whnf) | (refine And.intro (by first | assumption | exact Exists.intro _ (by assumption) | exact ⟨rfl, rfl, by decide, by decide⟩ | exact Nat.le_of_ble_eq_true rfl | exact rfl) ?_; with_reducible conv => whnf) | (rw [isLst_at (by assumption)]; with_reducible conv => whnf) | (refine ifT rfl ?_; with_reducible conv => whnf) | (refine ifF rfl ?_; with_reducible conv => whnf) | (refine it_at (by assumption) ?_; with_reducible conv => whnf)))
    generalize S12 ++ [.lst (natD L)] = S13 at *
    generalize S12.length = pl at *
    refine Loop_mk (fun j ρ S' => ∃ o4, ρ = [some (.rol (intD ns)), some (.ref n), some (.int (0 + (i : Int))), some (ordD o), o4, none, none, none, none, none, none, none, none, none, none, none] ∧ S'[pl]? = some (.lst (natD L)) ∧ Dr n S') ⟨_, rfl, ep, d13⟩ (by rintro i ρ S' ⟨_, rfl, h, _⟩; exact h) ?_ ?_
    · rintro j d ρ' S14 hj ⟨o4, rfl, f1, f2⟩
      obtain ⟨k, hk, rfl⟩ := natD_get hj
      have hk1 := hLm k (List.mem_of_getElem? hk)
      ((with_reducible conv => whnf); repeat (first | (rw [natD_len]; with_reducible conv => whnf) | (rw [intD_len]; with_reducible conv => whnf) | (refine Exists.intro _ (And.intro (rfl : _ = some _) ?_); with_reducible conv => whnf) | (refine And.intro (okII _ _) ?_; rw [eqD_ii]; with_reducible conv => whnf) | (refine And.intro (by first | assumption | exact Exists.intro _ (by assumption) | exact ⟨rfl, rfl, by decide, by decide⟩ | exact Nat.le_of_ble_eq_true rfl | exact rfl) ?_; with_reducible conv => whnf) | (rw [isLst_at (by assumption)]; with_reducible conv => whnf) | (refine ifT rfl ?_; with_reducible conv => whnf) | (refine ifF rfl ?_; with_reducible conv => whnf) | (refine it_at (by assumption) ?_; with_reducible conv => whnf)))
      refine ite_d (fun hc => ?_) fun hc => ?_
      · ((with_reducible conv => whnf); repeat (first | (rw [natD_len]; with_reducible conv => whnf) | (rw [intD_len]; with_reducible conv => whnf) | (refine Exists.intro _ (And.intro (rfl : _ = some _) ?_); with_reducible conv => whnf) | (refine And.intro (okII _ _) ?_; rw [eqD_ii]; with_reducible conv => whnf) | (refine And.intro (by first | assumption | exact Exists.intro _ (by assumption) | exact ⟨rfl, rfl, by decide, by decide⟩ | exact Nat.le_of_ble_eq_true rfl | exact rfl) ?_; with_reducible conv => whnf) | (rw [isLst_at (by assumption)]; with_reducible conv => whnf) | (refine ifT rfl ?_; with_reducible conv => whnf) | (refine ifF rfl ?_; with_reducible conv => whnf) | (refine it_at (by assumption) ?_; with_reducible conv => whnf)))
        refine ⟨o, k, rfl, hol, by omega, fun S15 s15 => ?_⟩
        ((with_reducible conv => whnf); repeat (first | (rw [natD_len]; with_reducible conv => whnf) | (rw [intD_len]; with_reducible conv => whnf) | (refine Exists.intro _ (And.intro (rfl : _ = some _) ?_); with_reducible conv => whnf) | (refine And.intro (okII _ _) ?_; rw [eqD_ii]; with_reducible conv => whnf) | (refine And.intro (by first | assumption | exact Exists.intro _ (by assumption) | exact ⟨rfl, rfl, by decide, by decide⟩ | exact Nat.le_of_ble_eq_true rfl | exact rfl) ?_; with_reducible conv => whnf) | (rw [isLst_at (by assumption)]; with_reducible conv => whnf) | (refine ifT rfl ?_; with_reducible conv => whnf) | (refine ifF rfl ?_; with_reducible conv => whnf) | (refine it_at (by assumption) ?_; with_reducible conv => whnf)))
        refine ⟨o, k, rfl, hol, ho, fun S16 s16 => ?_⟩
        ((with_reducible conv => whnf); repeat (first | (rw [natD_len]; with_reducible conv => whnf) | (rw [intD_len]; with_reducible conv => whnf) | (refine Exists.intro _ (And.intro (rfl : _ = some _) ?_); with_reducible conv => whnf) | (refine And.intro (okII _ _) ?_; rw [eqD_ii]; with_reducible conv => whnf) | (refine And.intro (by first | assumption | exact Exists.intro _ (by assumption) | exact ⟨rfl, rfl, by decide, by decide⟩ | exact Nat.le_of_ble_eq_true rfl | exact rfl) ?_; with_reducible conv => whnf) | (rw [isLst_at (by assumption)]; with_reducible conv => whnf) | (refine ifT rfl ?_; with_reducible conv => whnf) | (refine ifF rfl ?_; with_reducible conv => whnf) | (refine it_at (by assumption) ?_; with_reducible conv => whnf)))
        obtain ⟨w1, w2, w3⟩ := same_opt (tkN o k)
        refine ⟨_, rfl, w1, w2, w3, fun S17 s17 => ?_⟩
        have ss := (s15.trans s16).trans s17
        ((with_reducible conv => whnf); repeat (first | (rw [natD_len]; with_reducible conv => whnf) | (rw [intD_len]; with_reducible conv => whnf) | (refine Exists.intro _ (And.intro (rfl : _ = some _) ?_); with_reducible conv => whnf) | (refine And.intro (okII _ _) ?_; rw [eqD_ii]; with_reducible conv => whnf) | (refine And.intro (by first | assumption | exact Exists.intro _ (by assumption) | exact ⟨rfl, rfl, by decide, by decide⟩ | exact Nat.le_of_ble_eq_true rfl | exact rfl) ?_; with_reducible conv => whnf) | (rw [isLst_at (by assumption)]; with_reducible conv => whnf) | (refine ifT rfl ?_; with_reducible conv => whnf) | (refine ifF rfl ?_; with_reducible conv => whnf) | (refine it_at (by assumption) ?_; with_reducible conv => whnf)))
        exact ⟨_, rfl, ss _ _ f1, f2.sub ss⟩
      · ((with_reducible conv => whnf); repeat (first | (rw [natD_len]; with_reducible conv => whnf) | (rw [intD_len]; with_reducible conv => whnf) | (refine Exists.intro _ (And.intro (rfl : _ = some _) ?_); with_reducible conv => whnf) | (refine And.intro (okII _ _) ?_; rw [eqD_ii]; with_reducible conv => whnf) | (refine And.intro (by first | assumption | exact Exists.intro _ (by assumption) | exact ⟨rfl, rfl, by decide, by decide⟩ | exact Nat.le_of_ble_eq_true rfl | exact rfl) ?_; with_reducible conv => whnf) | (rw [isLst_at (by assumption)]; with_reducible conv => whnf) | (refine ifT rfl ?_; with_reducible conv => whnf) | (refine ifF rfl ?_; with_reducible conv => whnf) | (refine it_at (by assumption) ?_; with_reducible conv => whnf)))
        exact ⟨_, rfl, f1, f2⟩
    · rintro ρ' S14 ⟨o4, rfl, f1, f2⟩
      exact ⟨_, _, _, rfl, f2, fun _ => ⟨o, rfl, ho, ho0, hol⟩⟩
  · rintro ρ' S5 ⟨o2, o3, o4, rfl, f3, ho⟩
    obtain ⟨o, rfl, ho, ho0, hol⟩ := ho (by decide)
    exact law_B ho ho0 hol kk f3
end K91
set_option Elab.async false
set_option linter.all false
set_option maxRecDepth 100000
set_option maxHeartbeats 8000000
/-! the end: oddsweighed_k91_whole_best_of_many -/
namespace K91
open PySem PySem.Spec DL
theorem all_mk {l : PySem.W.OpenLaw} {w : World} {K : PySem.W.Frag} {h : Heap} {mg : Str → Option Value} {fa f_divisor f_fraction f_plus f_is_less f_chance_to_best f_best_pass f_taken f_records f_rows_by_records f_chance_of_records f_mean_records f_law_draws f_law_take f_law_same f_law_shared f_law_frac f_law_plus f_law_mul f_law_is_less f_law_all_orders f_law_records f_law_taken f_law_chance f_law_sum f_law_order f_law_by_last f_law_few f_law : Addr} (X : K.In h) (G : h.Ns mainGlobals mg) (hfa : mg "law" = some (.ref fa))
    {od_divisor an_divisor : Option Addr} {sl_divisor : Array (Option Value)} {oc_divisor kV_divisor dc_divisor pm_divisor cd_divisor ct_divisor : Value}
    (a_divisor : PySem.W.nsIn K mainGlobals "divisor" = some (some (.ref f_divisor))) (l_divisor : K.lookup f_divisor = some ⟨oc_divisor, od_divisor, .func (PySem.W.fnOf "divisor" "divisor" (L2.defArgs s_divisor) (L2.defBody s_divisor) (L2.defScope s_divisor) .none kV_divisor dc_divisor pm_divisor an_divisor cd_divisor ct_divisor), sl_divisor⟩) (c_divisor : PySem.W.codeIn K cd_divisor "divisor" = true) (k_divisor : PySem.W.keepIn K (.ref f_divisor) = true)
    {od_fraction an_fraction : Option Addr} {sl_fraction : Array (Option Value)} {oc_fraction kV_fraction dc_fraction pm_fraction cd_fraction ct_fraction : Value}
    (a_fraction : PySem.W.nsIn K mainGlobals "fraction" = some (some (.ref f_fraction))) (l_fraction : K.lookup f_fraction = some ⟨oc_fraction, od_fraction, .func (PySem.W.fnOf "fraction" "fraction" (L2.defArgs s_fraction) (L2.defBody s_fraction) (L2.defScope s_fraction) .none kV_fraction dc_fraction pm_fraction an_fraction cd_fraction ct_fraction), sl_fraction⟩) (c_fraction : PySem.W.codeIn K cd_fraction "fraction" = true) (k_fraction : PySem.W.keepIn K (.ref f_fraction) = true)
    {od_plus an_plus : Option Addr} {sl_plus : Array (Option Value)} {oc_plus kV_plus dc_plus pm_plus cd_plus ct_plus : Value}
    (a_plus : PySem.W.nsIn K mainGlobals "plus" = some (some (.ref f_plus))) (l_plus : K.lookup f_plus = some ⟨oc_plus, od_plus, .func (PySem.W.fnOf "plus" "plus" (L2.defArgs s_plus) (L2.defBody s_plus) (L2.defScope s_plus) .none kV_plus dc_plus pm_plus an_plus cd_plus ct_plus), sl_plus⟩) (c_plus : PySem.W.codeIn K cd_plus "plus" = true) (k_plus : PySem.W.keepIn K (.ref f_plus) = true)
    {od_is_less an_is_less : Option Addr} {sl_is_less : Array (Option Value)} {oc_is_less kV_is_less dc_is_less pm_is_less cd_is_less ct_is_less : Value}
    (a_is_less : PySem.W.nsIn K mainGlobals "is_less" = some (some (.ref f_is_less))) (l_is_less : K.lookup f_is_less = some ⟨oc_is_less, od_is_less, .func (PySem.W.fnOf "is_less" "is_less" (L2.defArgs s_is_less) (L2.defBody s_is_less) (L2.defScope s_is_less) .none kV_is_less dc_is_less pm_is_less an_is_less cd_is_less ct_is_less), sl_is_less⟩) (c_is_less : PySem.W.codeIn K cd_is_less "is_less" = true) (k_is_less : PySem.W.keepIn K (.ref f_is_less) = true)
    {od_chance_to_best an_chance_to_best : Option Addr} {sl_chance_to_best : Array (Option Value)} {oc_chance_to_best kV_chance_to_best dc_chance_to_best pm_chance_to_best cd_chance_to_best ct_chance_to_best : Value}
    (a_chance_to_best : PySem.W.nsIn K mainGlobals "chance_to_best" = some (some (.ref f_chance_to_best))) (l_chance_to_best : K.lookup f_chance_to_best = some ⟨oc_chance_to_best, od_chance_to_best, .func (PySem.W.fnOf "chance_to_best" "chance_to_best" (L2.defArgs s_chance_to_best) (L2.defBody s_chance_to_best) (L2.defScope s_chance_to_best) .none kV_chance_to_best dc_chance_to_best pm_chance_to_best an_chance_to_best cd_chance_to_best ct_chance_to_best), sl_chance_to_best⟩) (c_chance_to_best : PySem.W.codeIn K cd_chance_to_best "chance_to_best" = true) (k_chance_to_best : PySem.W.keepIn K (.ref f_chance_to_best) = true)
    {od_best_pass an_best_pass : Option Addr} {sl_best_pass : Array (Option Value)} {oc_best_pass kV_best_pass dc_best_pass pm_best_pass cd_best_pass ct_best_pass : Value}
    (a_best_pass : PySem.W.nsIn K mainGlobals "best_pass" = some (some (.ref f_best_pass))) (l_best_pass : K.lookup f_best_pass = some ⟨oc_best_pass, od_best_pass, .func (PySem.W.fnOf "best_pass" "best_pass" (L2.defArgs s_best_pass) (L2.defBody s_best_pass) (L2.defScope s_best_pass) .none kV_best_pass dc_best_pass pm_best_pass an_best_pass cd_best_pass ct_best_pass), sl_best_pass⟩) (c_best_pass : PySem.W.codeIn K cd_best_pass "best_pass" = true) (k_best_pass : PySem.W.keepIn K (.ref f_best_pass) = true)
    {od_taken an_taken : Option Addr} {sl_taken : Array (Option Value)} {oc_taken kV_taken dc_taken pm_taken cd_taken ct_taken : Value}
    (a_taken : PySem.W.nsIn K mainGlobals "taken" = some (some (.ref f_taken))) (l_taken : K.lookup f_taken = some ⟨oc_taken, od_taken, .func (PySem.W.fnOf "taken" "taken" (L2.defArgs s_taken) (L2.defBody s_taken) (L2.defScope s_taken) .none kV_taken dc_taken pm_taken an_taken cd_taken ct_taken), sl_taken⟩) (c_taken : PySem.W.codeIn K cd_taken "taken" = true) (k_taken : PySem.W.keepIn K (.ref f_taken) = true)
    {od_records an_records : Option Addr} {sl_records : Array (Option Value)} {oc_records kV_records dc_records pm_records cd_records ct_records : Value}
    (a_records : PySem.W.nsIn K mainGlobals "records" = some (some (.ref f_records))) (l_records : K.lookup f_records = some ⟨oc_records, od_records, .func (PySem.W.fnOf "records" "records" (L2.defArgs s_records) (L2.defBody s_records) (L2.defScope s_records) .none kV_records dc_records pm_records an_records cd_records ct_records), sl_records⟩) (c_records : PySem.W.codeIn K cd_records "records" = true) (k_records : PySem.W.keepIn K (.ref f_records) = true)
    {od_rows_by_records an_rows_by_records : Option Addr} {sl_rows_by_records : Array (Option Value)} {oc_rows_by_records kV_rows_by_records dc_rows_by_records pm_rows_by_records cd_rows_by_records ct_rows_by_records : Value}
    (a_rows_by_records : PySem.W.nsIn K mainGlobals "rows_by_records" = some (some (.ref f_rows_by_records))) (l_rows_by_records : K.lookup f_rows_by_records = some ⟨oc_rows_by_records, od_rows_by_records, .func (PySem.W.fnOf "rows_by_records" "rows_by_records" (L2.defArgs s_rows_by_records) (L2.defBody s_rows_by_records) (L2.defScope s_rows_by_records) .none kV_rows_by_records dc_rows_by_records pm_rows_by_records an_rows_by_records cd_rows_by_records ct_rows_by_records), sl_rows_by_records⟩) (c_rows_by_records : PySem.W.codeIn K cd_rows_by_records "rows_by_records" = true) (k_rows_by_records : PySem.W.keepIn K (.ref f_rows_by_records) = true)
    {od_chance_of_records an_chance_of_records : Option Addr} {sl_chance_of_records : Array (Option Value)} {oc_chance_of_records kV_chance_of_records dc_chance_of_records pm_chance_of_records cd_chance_of_records ct_chance_of_records : Value}
    (a_chance_of_records : PySem.W.nsIn K mainGlobals "chance_of_records" = some (some (.ref f_chance_of_records))) (l_chance_of_records : K.lookup f_chance_of_records = some ⟨oc_chance_of_records, od_chance_of_records, .func (PySem.W.fnOf "chance_of_records" "chance_of_records" (L2.defArgs s_chance_of_records) (L2.defBody s_chance_of_records) (L2.defScope s_chance_of_records) .none kV_chance_of_records dc_chance_of_records pm_chance_of_records an_chance_of_records cd_chance_of_records ct_chance_of_records), sl_chance_of_records⟩) (c_chance_of_records : PySem.W.codeIn K cd_chance_of_records "chance_of_records" = true) (k_chance_of_records : PySem.W.keepIn K (.ref f_chance_of_records) = true)
    {od_mean_records an_mean_records : Option Addr} {sl_mean_records : Array (Option Value)} {oc_mean_records kV_mean_records dc_mean_records pm_mean_records cd_mean_records ct_mean_records : Value}
    (a_mean_records : PySem.W.nsIn K mainGlobals "mean_records" = some (some (.ref f_mean_records))) (l_mean_records : K.lookup f_mean_records = some ⟨oc_mean_records, od_mean_records, .func (PySem.W.fnOf "mean_records" "mean_records" (L2.defArgs s_mean_records) (L2.defBody s_mean_records) (L2.defScope s_mean_records) .none kV_mean_records dc_mean_records pm_mean_records an_mean_records cd_mean_records ct_mean_records), sl_mean_records⟩) (c_mean_records : PySem.W.codeIn K cd_mean_records "mean_records" = true) (k_mean_records : PySem.W.keepIn K (.ref f_mean_records) = true)
    {od_law_draws an_law_draws : Option Addr} {sl_law_draws : Array (Option Value)} {oc_law_draws kV_law_draws dc_law_draws pm_law_draws cd_law_draws ct_law_draws : Value}
    (a_law_draws : PySem.W.nsIn K mainGlobals "_law_draws" = some (some (.ref f_law_draws))) (l_law_draws : K.lookup f_law_draws = some ⟨oc_law_draws, od_law_draws, .func (PySem.W.fnOf "_law_draws" "_law_draws" (L2.defArgs s_law_draws) (L2.defBody s_law_draws) (L2.defScope s_law_draws) .none kV_law_draws dc_law_draws pm_law_draws an_law_draws cd_law_draws ct_law_draws), sl_law_draws⟩) (c_law_draws : PySem.W.codeIn K cd_law_draws "_law_draws" = true) (k_law_draws : PySem.W.keepIn K (.ref f_law_draws) = true)
    {od_law_take an_law_take : Option Addr} {sl_law_take : Array (Option Value)} {oc_law_take kV_law_take dc_law_take pm_law_take cd_law_take ct_law_take : Value}
    (a_law_take : PySem.W.nsIn K mainGlobals "_law_take" = some (some (.ref f_law_take))) (l_law_take : K.lookup f_law_take = some ⟨oc_law_take, od_law_take, .func (PySem.W.fnOf "_law_take" "_law_take" (L2.defArgs s_law_take) (L2.defBody s_law_take) (L2.defScope s_law_take) .none kV_law_take dc_law_take pm_law_take an_law_take cd_law_take ct_law_take), sl_law_take⟩) (c_law_take : PySem.W.codeIn K cd_law_take "_law_take" = true) (k_law_take : PySem.W.keepIn K (.ref f_law_take) = true)
    {od_law_same an_law_same : Option Addr} {sl_law_same : Array (Option Value)} {oc_law_same kV_law_same dc_law_same pm_law_same cd_law_same ct_law_same : Value}
    (a_law_same : PySem.W.nsIn K mainGlobals "_law_same" = some (some (.ref f_law_same))) (l_law_same : K.lookup f_law_same = some ⟨oc_law_same, od_law_same, .func (PySem.W.fnOf "_law_same" "_law_same" (L2.defArgs s_law_same) (L2.defBody s_law_same) (L2.defScope s_law_same) .none kV_law_same dc_law_same pm_law_same an_law_same cd_law_same ct_law_same), sl_law_same⟩) (c_law_same : PySem.W.codeIn K cd_law_same "_law_same" = true) (k_law_same : PySem.W.keepIn K (.ref f_law_same) = true)
    {od_law_shared an_law_shared : Option Addr} {sl_law_shared : Array (Option Value)} {oc_law_shared kV_law_shared dc_law_shared pm_law_shared cd_law_shared ct_law_shared : Value}
    (a_law_shared : PySem.W.nsIn K mainGlobals "_law_shared" = some (some (.ref f_law_shared))) (l_law_shared : K.lookup f_law_shared = some ⟨oc_law_shared, od_law_shared, .func (PySem.W.fnOf "_law_shared" "_law_shared" (L2.defArgs s_law_shared) (L2.defBody s_law_shared) (L2.defScope s_law_shared) .none kV_law_shared dc_law_shared pm_law_shared an_law_shared cd_law_shared ct_law_shared), sl_law_shared⟩) (c_law_shared : PySem.W.codeIn K cd_law_shared "_law_shared" = true) (k_law_shared : PySem.W.keepIn K (.ref f_law_shared) = true)
    {od_law_frac an_law_frac : Option Addr} {sl_law_frac : Array (Option Value)} {oc_law_frac kV_law_frac dc_law_frac pm_law_frac cd_law_frac ct_law_frac : Value}
    (a_law_frac : PySem.W.nsIn K mainGlobals "_law_frac" = some (some (.ref f_law_frac))) (l_law_frac : K.lookup f_law_frac = some ⟨oc_law_frac, od_law_frac, .func (PySem.W.fnOf "_law_frac" "_law_frac" (L2.defArgs s_law_frac) (L2.defBody s_law_frac) (L2.defScope s_law_frac) .none kV_law_frac dc_law_frac pm_law_frac an_law_frac cd_law_frac ct_law_frac), sl_law_frac⟩) (c_law_frac : PySem.W.codeIn K cd_law_frac "_law_frac" = true) (k_law_frac : PySem.W.keepIn K (.ref f_law_frac) = true)
    {od_law_plus an_law_plus : Option Addr} {sl_law_plus : Array (Option Value)} {oc_law_plus kV_law_plus dc_law_plus pm_law_plus cd_law_plus ct_law_plus : Value}
    (a_law_plus : PySem.W.nsIn K mainGlobals "_law_plus" = some (some (.ref f_law_plus))) (l_law_plus : K.lookup f_law_plus = some ⟨oc_law_plus, od_law_plus, .func (PySem.W.fnOf "_law_plus" "_law_plus" (L2.defArgs s_law_plus) (L2.defBody s_law_plus) (L2.defScope s_law_plus) .none kV_law_plus dc_law_plus pm_law_plus an_law_plus cd_law_plus ct_law_plus), sl_law_plus⟩) (c_law_plus : PySem.W.codeIn K cd_law_plus "_law_plus" = true) (k_law_plus : PySem.W.keepIn K (.ref f_law_plus) = true)
    {od_law_mul an_law_mul : Option Addr} {sl_law_mul : Array (Option Value)} {oc_law_mul kV_law_mul dc_law_mul pm_law_mul cd_law_mul ct_law_mul : Value}
    (a_law_mul : PySem.W.nsIn K mainGlobals "_law_mul" = some (some (.ref f_law_mul))) (l_law_mul : K.lookup f_law_mul = some ⟨oc_law_mul, od_law_mul, .func (PySem.W.fnOf "_law_mul" "_law_mul" (L2.defArgs s_law_mul) (L2.defBody s_law_mul) (L2.defScope s_law_mul) .none kV_law_mul dc_law_mul pm_law_mul an_law_mul cd_law_mul ct_law_mul), sl_law_mul⟩) (c_law_mul : PySem.W.codeIn K cd_law_mul "_law_mul" = true) (k_law_mul : PySem.W.keepIn K (.ref f_law_mul) = true)
    {od_law_is_less an_law_is_less : Option Addr} {sl_law_is_less : Array (Option Value)} {oc_law_is_less kV_law_is_less dc_law_is_less pm_law_is_less cd_law_is_less ct_law_is_less : Value}
    (a_law_is_less : PySem.W.nsIn K mainGlobals "_law_is_less" = some (some (.ref f_law_is_less))) (l_law_is_less : K.lookup f_law_is_less = some ⟨oc_law_is_less, od_law_is_less, .func (PySem.W.fnOf "_law_is_less" "_law_is_less" (L2.defArgs s_law_is_less) (L2.defBody s_law_is_less) (L2.defScope s_law_is_less) .none kV_law_is_less dc_law_is_less pm_law_is_less an_law_is_less cd_law_is_less ct_law_is_less), sl_law_is_less⟩) (c_law_is_less : PySem.W.codeIn K cd_law_is_less "_law_is_less" = true) (k_law_is_less : PySem.W.keepIn K (.ref f_law_is_less) = true)
    {od_law_all_orders an_law_all_orders : Option Addr} {sl_law_all_orders : Array (Option Value)} {oc_law_all_orders kV_law_all_orders dc_law_all_orders pm_law_all_orders cd_law_all_orders ct_law_all_orders : Value}
    (a_law_all_orders : PySem.W.nsIn K mainGlobals "_law_all_orders" = some (some (.ref f_law_all_orders))) (l_law_all_orders : K.lookup f_law_all_orders = some ⟨oc_law_all_orders, od_law_all_orders, .func (PySem.W.fnOf "_law_all_orders" "_law_all_orders" (L2.defArgs s_law_all_orders) (L2.defBody s_law_all_orders) (L2.defScope s_law_all_orders) .none kV_law_all_orders dc_law_all_orders pm_law_all_orders an_law_all_orders cd_law_all_orders ct_law_all_orders), sl_law_all_orders⟩) (c_law_all_orders : PySem.W.codeIn K cd_law_all_orders "_law_all_orders" = true) (k_law_all_orders : PySem.W.keepIn K (.ref f_law_all_orders) = true)
    {od_law_records an_law_records : Option Addr} {sl_law_records : Array (Option Value)} {oc_law_records kV_law_records dc_law_records pm_law_records cd_law_records ct_law_records : Value}
    (a_law_records : PySem.W.nsIn K mainGlobals "_law_records" = some (some (.ref f_law_records))) (l_law_records : K.lookup f_law_records = some ⟨oc_law_records, od_law_records, .func (PySem.W.fnOf "_law_records" "_law_records" (L2.defArgs s_law_records) (L2.defBody s_law_records) (L2.defScope s_law_records) .none kV_law_records dc_law_records pm_law_records an_law_records cd_law_records ct_law_records), sl_law_records⟩) (c_law_records : PySem.W.codeIn K cd_law_records "_law_records" = true) (k_law_records : PySem.W.keepIn K (.ref f_law_records) = true)
    {od_law_taken an_law_taken : Option Addr} {sl_law_taken : Array (Option Value)} {oc_law_taken kV_law_taken dc_law_taken pm_law_taken cd_law_taken ct_law_taken : Value}
    (a_law_taken : PySem.W.nsIn K mainGlobals "_law_taken" = some (some (.ref f_law_taken))) (l_law_taken : K.lookup f_law_taken = some ⟨oc_law_taken, od_law_taken, .func (PySem.W.fnOf "_law_taken" "_law_taken" (L2.defArgs s_law_taken) (L2.defBody s_law_taken) (L2.defScope s_law_taken) .none kV_law_taken dc_law_taken pm_law_taken an_law_taken cd_law_taken ct_law_taken), sl_law_taken⟩) (c_law_taken : PySem.W.codeIn K cd_law_taken "_law_taken" = true) (k_law_taken : PySem.W.keepIn K (.ref f_law_taken) = true)
    {od_law_chance an_law_chance : Option Addr} {sl_law_chance : Array (Option Value)} {oc_law_chance kV_law_chance dc_law_chance pm_law_chance cd_law_chance ct_law_chance : Value}
    (a_law_chance : PySem.W.nsIn K mainGlobals "_law_chance" = some (some (.ref f_law_chance))) (l_law_chance : K.lookup f_law_chance = some ⟨oc_law_chance, od_law_chance, .func (PySem.W.fnOf "_law_chance" "_law_chance" (L2.defArgs s_law_chance) (L2.defBody s_law_chance) (L2.defScope s_law_chance) .none kV_law_chance dc_law_chance pm_law_chance an_law_chance cd_law_chance ct_law_chance), sl_law_chance⟩) (c_law_chance : PySem.W.codeIn K cd_law_chance "_law_chance" = true) (k_law_chance : PySem.W.keepIn K (.ref f_law_chance) = true)
    {od_law_sum an_law_sum : Option Addr} {sl_law_sum : Array (Option Value)} {oc_law_sum kV_law_sum dc_law_sum pm_law_sum cd_law_sum ct_law_sum : Value}
    (a_law_sum : PySem.W.nsIn K mainGlobals "_law_sum" = some (some (.ref f_law_sum))) (l_law_sum : K.lookup f_law_sum = some ⟨oc_law_sum, od_law_sum, .func (PySem.W.fnOf "_law_sum" "_law_sum" (L2.defArgs s_law_sum) (L2.defBody s_law_sum) (L2.defScope s_law_sum) .none kV_law_sum dc_law_sum pm_law_sum an_law_sum cd_law_sum ct_law_sum), sl_law_sum⟩) (c_law_sum : PySem.W.codeIn K cd_law_sum "_law_sum" = true) (k_law_sum : PySem.W.keepIn K (.ref f_law_sum) = true)
    {od_law_order an_law_order : Option Addr} {sl_law_order : Array (Option Value)} {oc_law_order kV_law_order dc_law_order pm_law_order cd_law_order ct_law_order : Value}
    (a_law_order : PySem.W.nsIn K mainGlobals "_law_order" = some (some (.ref f_law_order))) (l_law_order : K.lookup f_law_order = some ⟨oc_law_order, od_law_order, .func (PySem.W.fnOf "_law_order" "_law_order" (L2.defArgs s_law_order) (L2.defBody s_law_order) (L2.defScope s_law_order) .none kV_law_order dc_law_order pm_law_order an_law_order cd_law_order ct_law_order), sl_law_order⟩) (c_law_order : PySem.W.codeIn K cd_law_order "_law_order" = true) (k_law_order : PySem.W.keepIn K (.ref f_law_order) = true)
    {od_law_by_last an_law_by_last : Option Addr} {sl_law_by_last : Array (Option Value)} {oc_law_by_last kV_law_by_last dc_law_by_last pm_law_by_last cd_law_by_last ct_law_by_last : Value}
    (a_law_by_last : PySem.W.nsIn K mainGlobals "_law_by_last" = some (some (.ref f_law_by_last))) (l_law_by_last : K.lookup f_law_by_last = some ⟨oc_law_by_last, od_law_by_last, .func (PySem.W.fnOf "_law_by_last" "_law_by_last" (L2.defArgs s_law_by_last) (L2.defBody s_law_by_last) (L2.defScope s_law_by_last) .none kV_law_by_last dc_law_by_last pm_law_by_last an_law_by_last cd_law_by_last ct_law_by_last), sl_law_by_last⟩) (c_law_by_last : PySem.W.codeIn K cd_law_by_last "_law_by_last" = true) (k_law_by_last : PySem.W.keepIn K (.ref f_law_by_last) = true)
    {od_law_few an_law_few : Option Addr} {sl_law_few : Array (Option Value)} {oc_law_few kV_law_few dc_law_few pm_law_few cd_law_few ct_law_few : Value}
    (a_law_few : PySem.W.nsIn K mainGlobals "_law_few" = some (some (.ref f_law_few))) (l_law_few : K.lookup f_law_few = some ⟨oc_law_few, od_law_few, .func (PySem.W.fnOf "_law_few" "_law_few" (L2.defArgs s_law_few) (L2.defBody s_law_few) (L2.defScope s_law_few) .none kV_law_few dc_law_few pm_law_few an_law_few cd_law_few ct_law_few), sl_law_few⟩) (c_law_few : PySem.W.codeIn K cd_law_few "_law_few" = true) (k_law_few : PySem.W.keepIn K (.ref f_law_few) = true)
    {od_law an_law : Option Addr} {sl_law : Array (Option Value)} {oc_law kV_law dc_law pm_law cd_law ct_law : Value}
    (a_law : PySem.W.nsIn K mainGlobals "law" = some (some (.ref f_law))) (l_law : K.lookup f_law = some ⟨oc_law, od_law, .func (PySem.W.fnOf "law" "law" (L2.defArgs s_law) (L2.defBody s_law) (L2.defScope s_law) .none kV_law dc_law pm_law an_law cd_law ct_law), sl_law⟩) (c_law : PySem.W.codeIn K cd_law "law" = true) (k_law : PySem.W.keepIn K (.ref f_law) = true)
    (z_gcd : PySem.W.nsIn K mainGlobals "gcd" = some (some (.builtin "math.gcd")))
    (z_range : PySem.W.nsIn K mainGlobals "range" = some none)
    (z_len : PySem.W.nsIn K mainGlobals "len" = some none)
    (z_all : PySem.W.nsIn K mainGlobals "all" = some none)
    (z_tuple : PySem.W.nsIn K mainGlobals "tuple" = some none)
    (z_sum : PySem.W.nsIn K mainGlobals "sum" = some none)
    (z_int : PySem.W.nsIn K mainGlobals "int" = some none)
    (z_list : PySem.W.nsIn K mainGlobals "list" = some none)
    (z_bool : PySem.W.nsIn K mainGlobals "bool" = some none)
    (z_isinstance : PySem.W.nsIn K mainGlobals "isinstance" = some none)
    (z_str : PySem.W.nsIn K mainGlobals "str" = some none)
    (z_abs : PySem.W.nsIn K mainGlobals "abs" = some none)
    (z_min : PySem.W.nsIn K mainGlobals "min" = some none)
    {t_NOTHING : Addr} {od_NOTHING : Option Addr} {its_NOTHING : Array Value} {n_NOTHING : Nat} {sl_NOTHING : Array (Option Value)} (a_NOTHING : PySem.W.nsIn K mainGlobals "NOTHING" = some (some (.ref t_NOTHING))) (l_NOTHING : K.lookup t_NOTHING = some ⟨.type "tuple", od_NOTHING, .seq its_NOTHING n_NOTHING, sl_NOTHING⟩) (w_NOTHING : L2.Vals ([0, 1].map L2.V.int) its_NOTHING.toList) (y_NOTHING : its_NOTHING.size ≤ sizeLine)
    : ∃ fd : FuncData, (∀ (s : Shared) (v : Value), BindsTo s fd ⟨[v], []⟩ [("script", v)]) ∧ ∀ base : Heap, K.In base → base.Ns mainGlobals mg → L2.FnOk l.prog w K mg base L2.CX0 6 fa fd ["script"] (spOf K 1 (sp_law)) := by
  have e := hfa.symm.trans (PySem.W.mg_of X G a_law)
  cases e
  have F_divisor := L2.fun_mk (st := s_divisor) l_divisor c_divisor k_divisor
  have m_divisor : mg "divisor" = some (.ref f_divisor) := PySem.W.mg_of X G a_divisor
  have F_fraction := L2.fun_mk (st := s_fraction) l_fraction c_fraction k_fraction
  have m_fraction : mg "fraction" = some (.ref f_fraction) := PySem.W.mg_of X G a_fraction
  have F_plus := L2.fun_mk (st := s_plus) l_plus c_plus k_plus
  have m_plus : mg "plus" = some (.ref f_plus) := PySem.W.mg_of X G a_plus
  have F_is_less := L2.fun_mk (st := s_is_less) l_is_less c_is_less k_is_less
  have m_is_less : mg "is_less" = some (.ref f_is_less) := PySem.W.mg_of X G a_is_less
  have F_chance_to_best := L2.fun_mk (st := s_chance_to_best) l_chance_to_best c_chance_to_best k_chance_to_best
  have m_chance_to_best : mg "chance_to_best" = some (.ref f_chance_to_best) := PySem.W.mg_of X G a_chance_to_best
  have F_best_pass := L2.fun_mk (st := s_best_pass) l_best_pass c_best_pass k_best_pass
  have m_best_pass : mg "best_pass" = some (.ref f_best_pass) := PySem.W.mg_of X G a_best_pass
  have F_taken := L2.fun_mk (st := s_taken) l_taken c_taken k_taken
  have m_taken : mg "taken" = some (.ref f_taken) := PySem.W.mg_of X G a_taken
  have F_records := L2.fun_mk (st := s_records) l_records c_records k_records
  have m_records : mg "records" = some (.ref f_records) := PySem.W.mg_of X G a_records
  have F_rows_by_records := L2.fun_mk (st := s_rows_by_records) l_rows_by_records c_rows_by_records k_rows_by_records
  have m_rows_by_records : mg "rows_by_records" = some (.ref f_rows_by_records) := PySem.W.mg_of X G a_rows_by_records
  have F_chance_of_records := L2.fun_mk (st := s_chance_of_records) l_chance_of_records c_chance_of_records k_chance_of_records
  have m_chance_of_records : mg "chance_of_records" = some (.ref f_chance_of_records) := PySem.W.mg_of X G a_chance_of_records
  have F_mean_records := L2.fun_mk (st := s_mean_records) l_mean_records c_mean_records k_mean_records
  have m_mean_records : mg "mean_records" = some (.ref f_mean_records) := PySem.W.mg_of X G a_mean_records
  have F_law_draws := L2.fun_mk (st := s_law_draws) l_law_draws c_law_draws k_law_draws
  have m_law_draws : mg "_law_draws" = some (.ref f_law_draws) := PySem.W.mg_of X G a_law_draws
  have F_law_take := L2.fun_mk (st := s_law_take) l_law_take c_law_take k_law_take
  have m_law_take : mg "_law_take" = some (.ref f_law_take) := PySem.W.mg_of X G a_law_take
  have F_law_same := L2.fun_mk (st := s_law_same) l_law_same c_law_same k_law_same
  have m_law_same : mg "_law_same" = some (.ref f_law_same) := PySem.W.mg_of X G a_law_same
  have F_law_shared := L2.fun_mk (st := s_law_shared) l_law_shared c_law_shared k_law_shared
  have m_law_shared : mg "_law_shared" = some (.ref f_law_shared) := PySem.W.mg_of X G a_law_shared
  have F_law_frac := L2.fun_mk (st := s_law_frac) l_law_frac c_law_frac k_law_frac
  have m_law_frac : mg "_law_frac" = some (.ref f_law_frac) := PySem.W.mg_of X G a_law_frac
  have F_law_plus := L2.fun_mk (st := s_law_plus) l_law_plus c_law_plus k_law_plus
  have m_law_plus : mg "_law_plus" = some (.ref f_law_plus) := PySem.W.mg_of X G a_law_plus
  have F_law_mul := L2.fun_mk (st := s_law_mul) l_law_mul c_law_mul k_law_mul
  have m_law_mul : mg "_law_mul" = some (.ref f_law_mul) := PySem.W.mg_of X G a_law_mul
  have F_law_is_less := L2.fun_mk (st := s_law_is_less) l_law_is_less c_law_is_less k_law_is_less
  have m_law_is_less : mg "_law_is_less" = some (.ref f_law_is_less) := PySem.W.mg_of X G a_law_is_less
  have F_law_all_orders := L2.fun_mk (st := s_law_all_orders) l_law_all_orders c_law_all_orders k_law_all_orders
  have m_law_all_orders : mg "_law_all_orders" = some (.ref f_law_all_orders) := PySem.W.mg_of X G a_law_all_orders
  have F_law_records := L2.fun_mk (st := s_law_records) l_law_records c_law_records k_law_records
  have m_law_records : mg "_law_records" = some (.ref f_law_records) := PySem.W.mg_of X G a_law_records
  have F_law_taken := L2.fun_mk (st := s_law_taken) l_law_taken c_law_taken k_law_taken
  have m_law_taken : mg "_law_taken" = some (.ref f_law_taken) := PySem.W.mg_of X G a_law_taken
  have F_law_chance := L2.fun_mk (st := s_law_chance) l_law_chance c_law_chance k_law_chance
  have m_law_chance : mg "_law_chance" = some (.ref f_law_chance) := PySem.W.mg_of X G a_law_chance
  have F_law_sum := L2.fun_mk (st := s_law_sum) l_law_sum c_law_sum k_law_sum
  have m_law_sum : mg "_law_sum" = some (.ref f_law_sum) := PySem.W.mg_of X G a_law_sum
  have F_law_order := L2.fun_mk (st := s_law_order) l_law_order c_law_order k_law_order
  have m_law_order : mg "_law_order" = some (.ref f_law_order) := PySem.W.mg_of X G a_law_order
  have F_law_by_last := L2.fun_mk (st := s_law_by_last) l_law_by_last c_law_by_last k_law_by_last
  have m_law_by_last : mg "_law_by_last" = some (.ref f_law_by_last) := PySem.W.mg_of X G a_law_by_last
  have F_law_few := L2.fun_mk (st := s_law_few) l_law_few c_law_few k_law_few
  have m_law_few : mg "_law_few" = some (.ref f_law_few) := PySem.W.mg_of X G a_law_few
  have F_law := L2.fun_mk (st := s_law) l_law c_law k_law
  have m_law : mg "law" = some (.ref _) := PySem.W.mg_of X G a_law
  have g_NOTHING := PySem.W.mg_of X G a_NOTHING
  have h_NOTHING := rep_ints (ns := [0, 1]) l_NOTHING y_NOTHING w_NOTHING
  have z_gcd := PySem.W.mg_of X G z_gcd
  have z_range := PySem.W.mg_none_of X G z_range
  have z_len := PySem.W.mg_none_of X G z_len
  have z_all := PySem.W.mg_none_of X G z_all
  have z_tuple := PySem.W.mg_none_of X G z_tuple
  have z_sum := PySem.W.mg_none_of X G z_sum
  have z_int := PySem.W.mg_none_of X G z_int
  have z_list := PySem.W.mg_none_of X G z_list
  have z_bool := PySem.W.mg_none_of X G z_bool
  have z_isinstance := PySem.W.mg_none_of X G z_isinstance
  have z_str := PySem.W.mg_none_of X G z_str
  have z_abs := PySem.W.mg_none_of X G z_abs
  have z_min := PySem.W.mg_none_of X G z_min
  refine ⟨PySem.W.fnOf "law" "law" (L2.defArgs s_law) (L2.defBody s_law) (L2.defScope s_law) .none kV_law dc_law pm_law an_law cd_law ct_law, fun s v => .of_eq rfl, fun base _ _ => ?_⟩
  have C_law_draws : Callee l.prog w K mg base "_law_draws" 1 2 (sp_draws) := ok_law_draws (k := 0) F_law_draws m_law_draws z_int z_len z_list z_range  body_law_draws
  have C_law_take : Callee l.prog w K mg base "_law_take" 1 2 (sp_take) := ok_law_take (k := 0) F_law_take m_law_take z_len z_int  body_law_take
  have C_law_all_orders : Callee l.prog w K mg base "_law_all_orders" 1 1 (sp_allO) := ok_law_all_orders (k := 0) F_law_all_orders m_law_all_orders z_range  body_law_all_orders
  have C_law_records : Callee l.prog w K mg base "_law_records" 1 1 (sp_lrecs) := ok_law_records (k := 0) F_law_records m_law_records z_len z_range z_tuple  body_law_records
  have C_law_taken : Callee l.prog w K mg base "_law_taken" 2 2 (sp_ltk) := ok_law_taken (k := 1) F_law_taken m_law_taken  C_law_records (by decide) body_law_taken
  have C_law_shared : Callee l.prog w K mg base "_law_shared" 1 2 (sp_shared) := ok_law_shared (k := 0) F_law_shared m_law_shared z_abs z_range z_int  body_law_shared
  have C_law_frac : Callee l.prog w K mg base "_law_frac" 2 2 (sp_frac) := ok_law_frac (k := 1) F_law_frac m_law_frac  C_law_shared (by decide) body_law_frac
  have C_divisor : Callee l.prog w K mg base "divisor" 1 2 (sp_gcd) := ok_divisor (k := 0) F_divisor m_divisor z_gcd  body_divisor
  have C_fraction : Callee l.prog w K mg base "fraction" 2 2 (sp_ratio) := ok_fraction (k := 1) F_fraction m_fraction  C_divisor (by decide) body_fraction
  have C_chance_to_best : Callee l.prog w K mg base "chance_to_best" 3 2 (sp_ctb) := ok_chance_to_best (k := 2) F_chance_to_best m_chance_to_best z_range C_fraction (by decide) body_chance_to_best
  have N_law_same : Callee l.prog w K mg base "_law_same" 0 2 spNo := callee_none F_law_same m_law_same (F_law_same.binds (ps := ["actual", "due"]) fun _ _ _ _ _ _ us hl => match us, hl with | [_, _], _ => rfl) (fun _ _ _ h => h)
  have C_law_same_0 : Callee l.prog w K mg base "_law_same" 1 2 (sp_same 0) := ok_law_same (k := 0) F_law_same m_law_same z_bool z_isinstance z_int z_str z_tuple z_len z_range N_law_same (by decide) (body_law_same _ 0 (by decide) (.inl rfl))
  have C_law_same_1 : Callee l.prog w K mg base "_law_same" 2 2 (sp_same 1) := ok_law_same (k := 1) F_law_same m_law_same z_bool z_isinstance z_int z_str z_tuple z_len z_range C_law_same_0 (by decide) (body_law_same _ 1 (by decide) (.inr ⟨_, rfl, rfl⟩))
  have C_law_same_2 : Callee l.prog w K mg base "_law_same" 3 2 (sp_same 2) := ok_law_same (k := 2) F_law_same m_law_same z_bool z_isinstance z_int z_str z_tuple z_len z_range C_law_same_1 (by decide) (body_law_same _ 2 (by decide) (.inr ⟨_, rfl, rfl⟩))
  have C_law_same : Callee l.prog w K mg base "_law_same" 4 2 (sp_same 3) := ok_law_same (k := 3) F_law_same m_law_same z_bool z_isinstance z_int z_str z_tuple z_len z_range C_law_same_2 (by decide) (body_law_same _ 3 (by decide) (.inr ⟨_, rfl, rfl⟩))
  have C_plus : Callee l.prog w K mg base "plus" 3 2 (sp_badd) := ok_plus (k := 2) F_plus m_plus  C_fraction (by decide) body_plus
  have C_is_less : Callee l.prog w K mg base "is_less" 1 2 (sp_less) := ok_is_less (k := 0) F_is_less m_is_less   body_is_less
  have C_best_pass : Callee l.prog w K mg base "best_pass" 4 1 (sp_bp) := ok_best_pass (k := 3) F_best_pass m_best_pass z_range g_NOTHING (show L2.RelV (.ref t_NOTHING) (.ref t_NOTHING) from rfl) h_NOTHING C_plus (by decide) C_is_less (by decide) body_best_pass
  have C_rows_by_records : Callee l.prog w K mg base "rows_by_records" 1 1 (sp_rows) := ok_rows_by_records (k := 0) F_rows_by_records m_rows_by_records z_range  body_rows_by_records
  have C_chance_of_records : Callee l.prog w K mg base "chance_of_records" 3 2 (sp_rec) := ok_chance_of_records (k := 2) F_chance_of_records m_chance_of_records z_sum g_NOTHING (show L2.RelV (.ref t_NOTHING) (.ref t_NOTHING) from rfl) h_NOTHING C_rows_by_records (by decide) C_fraction (by decide) body_chance_of_records
  have C_law_few : Callee l.prog w K mg base "_law_few" 5 1 (sp_few) := ok_law_few (k := 4) F_law_few m_law_few z_range z_len C_law_all_orders (by decide) C_law_taken (by decide) C_law_frac (by decide) C_chance_to_best (by decide) C_law_same (by decide) C_best_pass (by decide) C_law_records (by decide) C_chance_of_records (by decide) body_law_few
  have C_law_order : Callee l.prog w K mg base "_law_order" 2 2 (sp_order) := ok_law_order (k := 1) F_law_order m_law_order z_list z_range z_int z_len z_min z_tuple C_law_take (by decide) body_law_order
  have C_records : Callee l.prog w K mg base "records" 1 1 (sp_recs) := ok_records (k := 0) F_records m_records z_len z_range z_all z_tuple  body_records
  have C_taken : Callee l.prog w K mg base "taken" 1 2 (sp_tk) := ok_taken (k := 0) F_taken m_taken z_len z_range z_all  body_taken
  have C_law_plus : Callee l.prog w K mg base "_law_plus" 3 2 (sp_sadd) := ok_law_plus (k := 2) F_law_plus m_law_plus  C_law_frac (by decide) body_law_plus
  have C_law_mul : Callee l.prog w K mg base "_law_mul" 3 2 (sp_smul) := ok_law_mul (k := 2) F_law_mul m_law_mul  C_law_frac (by decide) body_law_mul
  have C_law_chance : Callee l.prog w K mg base "_law_chance" 4 2 (sp_lch) := ok_law_chance (k := 3) F_law_chance m_law_chance z_range C_law_plus (by decide) C_law_frac (by decide) C_law_mul (by decide) body_law_chance
  have C_law_is_less : Callee l.prog w K mg base "_law_is_less" 1 2 (sp_less) := ok_law_is_less (k := 0) F_law_is_less m_law_is_less   body_law_is_less
  have C_law_sum : Callee l.prog w K mg base "_law_sum" 1 2 (sp_sum) := ok_law_sum (k := 0) F_law_sum m_law_sum z_range  body_law_sum
  have C_law_by_last : Callee l.prog w K mg base "_law_by_last" 1 1 (sp_rows) := ok_law_by_last (k := 0) F_law_by_last m_law_by_last z_range z_len  body_law_by_last
  have C_mean_records : Callee l.prog w K mg base "mean_records" 4 1 (sp_mean) := ok_mean_records (k := 3) F_mean_records m_mean_records z_range g_NOTHING (show L2.RelV (.ref t_NOTHING) (.ref t_NOTHING) from rfl) h_NOTHING C_plus (by decide) body_mean_records
  exact ok_law (k := 5) F_law m_law z_int z_range z_len z_isinstance z_bool z_min z_sum C_law_draws (by decide) C_law_take (by decide) C_law_few (by decide) C_law_order (by decide) C_law_records (by decide) C_records (by decide) C_law_same (by decide) C_law_taken (by decide) C_taken (by decide) C_law_chance (by decide) C_law_is_less (by decide) C_best_pass (by decide) C_chance_to_best (by decide) C_law_sum (by decide) C_law_frac (by decide) C_law_by_last (by decide) C_chance_of_records (by decide) C_law_plus (by decide) C_mean_records (by decide) body_law
end K91
open PySem PySem.W PyProof.Rows in
set_option maxRecDepth 100000 in
set_option maxHeartbeats 0 in
theorem PySem.Challenge.cw_oddsweighed_k91_whole_best_of_many_holds : PySem.Challenge.rw_oddsweighed_k91_whole_best_of_many.Holds := by
  w_on; o_law; k_head; (case hw => w_witness2)
  k_fill
  refine L2.walk_of (l := PySem.Challenge.rw_oddsweighed_k91_whole_best_of_many) (n := 63) (k := 6) (x := "script") (CX := fun _ => L2.CX0) (sp := fun w => DL.spOf _ 1 (K91.sp_law)) rfl (by decide) rfl ⟨rfl, by decide, by decide⟩ (fun w h Y => PySem.W.kIn_of Y) ?F (fun _ _ a ns hl hO hS => DL.law_sp hO hS ⟨ns, rfl, hl, fun _ => rfl⟩) (fun _ _ _ _ _ h => h)
  case F =>
    intro w mg fa h KX G hmg
    refine' K91.all_mk KX G hmg ?a_divisor ?l_divisor ?c_divisor ?k_divisor ?a_fraction ?l_fraction ?c_fraction ?k_fraction ?a_plus ?l_plus ?c_plus ?k_plus ?a_is_less ?l_is_less ?c_is_less ?k_is_less ?a_chance_to_best ?l_chance_to_best ?c_chance_to_best ?k_chance_to_best ?a_best_pass ?l_best_pass ?c_best_pass ?k_best_pass ?a_taken ?l_taken ?c_taken ?k_taken ?a_records ?l_records ?c_records ?k_records ?a_rows_by_records ?l_rows_by_records ?c_rows_by_records ?k_rows_by_records ?a_chance_of_records ?l_chance_of_records ?c_chance_of_records ?k_chance_of_records ?a_mean_records ?l_mean_records ?c_mean_records ?k_mean_records ?a_law_draws ?l_law_draws ?c_law_draws ?k_law_draws ?a_law_take ?l_law_take ?c_law_take ?k_law_take ?a_law_same ?l_law_same ?c_law_same ?k_law_same ?a_law_shared ?l_law_shared ?c_law_shared ?k_law_shared ?a_law_frac ?l_law_frac ?c_law_frac ?k_law_frac ?a_law_plus ?l_law_plus ?c_law_plus ?k_law_plus ?a_law_mul ?l_law_mul ?c_law_mul ?k_law_mul ?a_law_is_less ?l_law_is_less ?c_law_is_less ?k_law_is_less ?a_law_all_orders ?l_law_all_orders ?c_law_all_orders ?k_law_all_orders ?a_law_records ?l_law_records ?c_law_records ?k_law_records ?a_law_taken ?l_law_taken ?c_law_taken ?k_law_taken ?a_law_chance ?l_law_chance ?c_law_chance ?k_law_chance ?a_law_sum ?l_law_sum ?c_law_sum ?k_law_sum ?a_law_order ?l_law_order ?c_law_order ?k_law_order ?a_law_by_last ?l_law_by_last ?c_law_by_last ?k_law_by_last ?a_law_few ?l_law_few ?c_law_few ?k_law_few ?a_law ?l_law ?c_law ?k_law ?z_gcd ?z_range ?z_len ?z_all ?z_tuple ?z_sum ?z_int ?z_list ?z_bool ?z_isinstance ?z_str ?z_abs ?z_min ?a_NOTHING ?l_NOTHING ?w_NOTHING ?y_NOTHING
    (case a_divisor => k_is)
    (case l_divisor => k_is)
    (case c_divisor => k_is)
    (case k_divisor => k_is)
    (case a_fraction => k_is)
    (case l_fraction => k_is)
    (case c_fraction => k_is)
    (case k_fraction => k_is)
    (case a_plus => k_is)
    (case l_plus => k_is)
    (case c_plus => k_is)
    (case k_plus => k_is)
    (case a_is_less => k_is)
    (case l_is_less => k_is)
    (case c_is_less => k_is)
    (case k_is_less => k_is)
    (case a_chance_to_best => k_is)
    (case l_chance_to_best => k_is)
    (case c_chance_to_best => k_is)
    (case k_chance_to_best => k_is)
    (case a_best_pass => k_is)
    (case l_best_pass => k_is)
    (case c_best_pass => k_is)
    (case k_best_pass => k_is)
    (case a_taken => k_is)
    (case l_taken => k_is)
    (case c_taken => k_is)
    (case k_taken => k_is)
    (case a_records => k_is)
    (case l_records => k_is)
    (case c_records => k_is)
    (case k_records => k_is)
    (case a_rows_by_records => k_is)
    (case l_rows_by_records => k_is)
    (case c_rows_by_records => k_is)
    (case k_rows_by_records => k_is)
    (case a_chance_of_records => k_is)
    (case l_chance_of_records => k_is)
    (case c_chance_of_records => k_is)
    (case k_chance_of_records => k_is)
    (case a_mean_records => k_is)
    (case l_mean_records => k_is)
    (case c_mean_records => k_is)
    (case k_mean_records => k_is)
    (case a_law_draws => k_is)
    (case l_law_draws => k_is)
    (case c_law_draws => k_is)
    (case k_law_draws => k_is)
    (case a_law_take => k_is)
    (case l_law_take => k_is)
    (case c_law_take => k_is)
    (case k_law_take => k_is)
    (case a_law_same => k_is)
    (case l_law_same => k_is)
    (case c_law_same => k_is)
    (case k_law_same => k_is)
    (case a_law_shared => k_is)
    (case l_law_shared => k_is)
    (case c_law_shared => k_is)
    (case k_law_shared => k_is)
    (case a_law_frac => k_is)
    (case l_law_frac => k_is)
    (case c_law_frac => k_is)
    (case k_law_frac => k_is)
    (case a_law_plus => k_is)
    (case l_law_plus => k_is)
    (case c_law_plus => k_is)
    (case k_law_plus => k_is)
    (case a_law_mul => k_is)
    (case l_law_mul => k_is)
    (case c_law_mul => k_is)
    (case k_law_mul => k_is)
    (case a_law_is_less => k_is)
    (case l_law_is_less => k_is)
    (case c_law_is_less => k_is)
    (case k_law_is_less => k_is)
    (case a_law_all_orders => k_is)
    (case l_law_all_orders => k_is)
    (case c_law_all_orders => k_is)
    (case k_law_all_orders => k_is)
    (case a_law_records => k_is)
    (case l_law_records => k_is)
    (case c_law_records => k_is)
    (case k_law_records => k_is)
    (case a_law_taken => k_is)
    (case l_law_taken => k_is)
    (case c_law_taken => k_is)
    (case k_law_taken => k_is)
    (case a_law_chance => k_is)
    (case l_law_chance => k_is)
    (case c_law_chance => k_is)
    (case k_law_chance => k_is)
    (case a_law_sum => k_is)
    (case l_law_sum => k_is)
    (case c_law_sum => k_is)
    (case k_law_sum => k_is)
    (case a_law_order => k_is)
    (case l_law_order => k_is)
    (case c_law_order => k_is)
    (case k_law_order => k_is)
    (case a_law_by_last => k_is)
    (case l_law_by_last => k_is)
    (case c_law_by_last => k_is)
    (case k_law_by_last => k_is)
    (case a_law_few => k_is)
    (case l_law_few => k_is)
    (case c_law_few => k_is)
    (case k_law_few => k_is)
    (case a_law => k_is)
    (case l_law => k_is)
    (case c_law => k_is)
    (case k_law => k_is)
    (case z_gcd => k_is)
    (case z_range => k_is)
    (case z_len => k_is)
    (case z_all => k_is)
    (case z_tuple => k_is)
    (case z_sum => k_is)
    (case z_int => k_is)
    (case z_list => k_is)
    (case z_bool => k_is)
    (case z_isinstance => k_is)
    (case z_str => k_is)
    (case z_abs => k_is)
    (case z_min => k_is)
    (case a_NOTHING => k_is)
    (case l_NOTHING => k_is)
    (case w_NOTHING => exact (.cons ⟨_, rfl⟩ (.cons ⟨_, rfl⟩ .nil)))
    (case y_NOTHING => decide)
