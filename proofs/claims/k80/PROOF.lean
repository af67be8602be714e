import PyProof.Rows.All
import PySem.Str
import PySem.PyData
import Wide.All
import OpenK.AllK
import Wide.FinOn
import HandS.ForMost
import HandS.Wide
import HandS.Gcd
import HandS.IsInst
import HandS.TupAny
import HandS.TupLe
import HandS.Style
import HandS.Flow
import HandS.Deep
import KE.SortData
import HandS.SortInts
import KE.DataMinMax
import KE.KTupSum
import HandS.Steps
import HandS.More
import HandS.WideBits
import HandS.SetFor
import HandS.Strs
import HandS.SetKeys
import HandS.Conv
import PyProof.TupleOfSeq
import HandS.DictComp
import HandS.Text
import HandS.Iter
import PyProof.StrOps2
import HandS.EndBits
import PySem.Challenge.RW_oddsweighed_k80_fair_parts_and_games_lef
set_option linter.all false
/-! DL0: plain data, a store of lists, and what a piece of a program asks of them (weakest preconditions by parts). No model in sight. -/
namespace DL
open PySem (Str)

/-- a value: tuples by value, a list of one's own by its place in the store, rol: a list that is only read -/
inductive D where
  | non | bl (b : Bool) | int (i : Int) | str (x : Str) | tup (xs : List D) | rol (xs : List D) | ref (n : Nat) | ty (n : String)

/-- a key of a dict: an int or a text -/
abbrev Ky := Int ⊕ Str
inductive O where
  | lst (xs : List D)
  | dK (kvs : List (Ky × D))
  | dT (kvs : List (List Ky × D))
  | fK (kvs : List (Ky × D))
  | fT (kvs : List (List Ky × D))

abbrev Sto := List O
abbrev Env := List (Option D)
abbrev VK := D → Sto → Prop
abbrev WE := Env → Sto → VK → Prop
abbrev WT := Env → Sto → (Bool → Sto → Prop) → Prop
abbrev WA := Env → Sto → (List D → Sto → Prop) → Prop
abbrev WG := D → Env → Sto → (Env → Sto → Prop) → Prop
abbrev WI := Env → Sto → (List D → (Sto → Prop) → Sto → Prop) → Prop
abbrev WP := Env → Sto → (Option Int → Sto → Prop) → Prop
structure Ends where
  nx : Env → Sto → Prop
  rt : VK
  bk : Env → Sto → Prop
  ct : Env → Sto → Prop
abbrev WS := Ends → Env → Sto → Prop
abbrev R1 := D → Sto → VK → Prop
abbrev R2 := D → D → Sto → VK → Prop
abbrev RL := List D → Sto → VK → Prop
abbrev RM := D → List D → Sto → VK → Prop
abbrev Spc := List D → Sto → VK → Prop

def szL : Nat := 16777216

/-! ### equality, order of plain data -/
mutual
def eqD : D → D → Bool
  | .non, .non => true
  | .bl a, .bl b => a == b
  | .bl a, .int j => (if a then 1 else 0) == j
  | .int i, .bl b => i == (if b then 1 else 0)
  | .int i, .int j => decide (i = j)
  | .str x, .str y => decide (x = y)
  | .tup xs, .tup ys => eqDs xs ys
  | _, _ => false
def eqDs : List D → List D → Bool
  | [], [] => true
  | x :: xs, y :: ys => eqD x y && eqDs xs ys
  | [], _ :: _ => false
  | _ :: _, [] => false
end
/-! without lists -/
mutual
def flat : D → Bool
  | .non | .bl _ | .int _ => true
  | .str x => x.cps.all (· < 0x110000)
  | .tup xs => flats xs
  | .rol _ | .ref _ | .ty _ => false
def flats : List D → Bool
  | [] => true
  | x :: xs => flat x && flats xs
end
mutual
def deep : D → Nat
  | .tup xs => deeps xs + 1
  | _ => 0
def deeps : List D → Nat
  | [] => 0
  | x :: xs => max (deep x) (deeps xs)
end
mutual
def toPy : D → PySem.PyData
  | .non => .none
  | .bl b => .bool b
  | .int i => .int i
  | .str x => .str x
  | .tup xs => .tuple (toPys xs)
  | .rol _ => .none
  | .ref _ => .none
  | .ty _ => .none
def toPys : List D → List PySem.PyData
  | [] => []
  | x :: xs => toPy x :: toPys xs
end
/-- intD all through, as tuples of one length or single -/
abbrev intD (ns : List Int) : List D := ns.map D.int

/-! ### the environment -/
@[reducible] def lk : Env → Nat → Option D
  | [], _ => none
  | x :: _, 0 => x
  | _ :: r, n + 1 => lk r n
@[reducible] def up : Env → Nat → Option D → Env
  | [], _, _ => []
  | _ :: r, 0, d => d :: r
  | x :: r, n + 1, d => x :: up r n d
@[reducible] def wipe (ρ : Env) : List Nat → Env
  | [] => ρ
  | i :: r => up (wipe ρ r) i none
def start (n : Nat) (ds : List D) : Env := ds.map some ++ List.replicate (n - ds.length) none

/-! ### expressions -/
@[reducible] def wVar (i : Nat) : WE := fun ρ S Q => match lk ρ i with
  | some d => Q d S
  | none => False
@[reducible] def wC (d : D) : WE := fun _ S Q => Q d S
@[reducible] def wOp (r : R2) (a b : WE) : WE := fun ρ S Q => a ρ S fun x S1 => b ρ S1 fun y S2 => r x y S2 Q
@[reducible] def wUn (r : R1) (a : WE) : WE := fun ρ S Q => a ρ S fun x S1 => r x S1 Q
@[reducible] def wNil : WA := fun _ S Q => Q [] S
@[reducible] def wCons (a : WE) (r : WA) : WA := fun ρ S Q => a ρ S fun x S1 => r ρ S1 fun xs S2 => Q (x :: xs) S2
@[reducible] def wTup (a : WA) : WE := fun ρ S Q => a ρ S fun xs S1 => xs.length ≤ szL ∧ Q (.tup xs) S1
@[reducible] def wLst (a : WA) : WE := fun ρ S Q => a ρ S fun xs S1 => xs.length ≤ szL ∧ Q (.ref S1.length) (S1 ++ [.lst xs])
@[reducible] def wCall (n : Nat) (sp : Spc) (a : WA) : WE := fun ρ S Q => a ρ S fun ds S1 => ds.length = n ∧ sp ds S1 Q
@[reducible] def wB (r : RL) (a : WA) : WE := fun ρ S Q => a ρ S fun ds S1 => r ds S1 Q
/-- a list there -/
@[reducible] def isL : D → Sto → Prop
  | .ref n, S => ∃ xs, S[n]? = some (.lst xs)
  | _, _ => False
/-- o.m(..), o a list of one's own -/
@[reducible] def wM (r : RM) (o : WE) (a : WA) : WE := fun ρ S Q => o ρ S fun x S1 => isL x S1 ∧ a ρ S1 fun ds S2 => r x ds S2 Q
@[reducible] def wM0 (r : RM) (o : WE) : WE := fun ρ S Q => o ρ S fun x S1 => isL x S1 ∧ r x [] S1 Q
@[reducible] def wPNo : WP := fun _ S Q => Q none S
@[reducible] def wPAt (a : WE) : WP := fun ρ S Q => a ρ S fun x S1 => match x with
  | .int i => Q (some i) S1
  | _ => False
@[reducible] def wSl (r : D → Option Int → Option Int → Sto → VK → Prop) (o : WE) (l u : WP) : WE := fun ρ S Q => o ρ S fun x S1 => l ρ S1 fun i S2 => u ρ S2 fun j S3 => r x i j S3 Q
/-! tests -/
@[reducible] def wtVal (a : WE) : WT := fun ρ S Q => a ρ S fun x S1 => match x with
  | .bl b => Q b S1
  | _ => False
@[reducible] def wtAnd (a b : WT) : WT := fun ρ S Q => a ρ S fun c S1 => if c = true then b ρ S1 Q else Q false S1
@[reducible] def wtOr (a b : WT) : WT := fun ρ S Q => a ρ S fun c S1 => if c = true then Q true S1 else b ρ S1 Q
@[reducible] def wtNot (a : WT) : WT := fun ρ S Q => a ρ S fun c S1 => Q (!c) S1
@[reducible] def wAnd (a b : WE) : WE := fun ρ S Q => a ρ S fun x S1 => match x with
  | .bl c => if c = true then b ρ S1 Q else Q (.bl false) S1
  | _ => False
@[reducible] def wOr (a b : WE) : WE := fun ρ S Q => a ρ S fun x S1 => match x with
  | .bl c => if c = true then Q (.bl true) S1 else b ρ S1 Q
  | _ => False
@[reducible] def wNot (a : WE) : WE := fun ρ S Q => a ρ S fun x S1 => match x with
  | .bl c => Q (.bl (!c)) S1
  | _ => False
@[reducible] def wIf (c : WT) (a b : WE) : WE := fun ρ S Q => c ρ S fun k S1 => if k = true then a ρ S1 Q else b ρ S1 Q
@[reducible] def wChain (r r' : R2) (a b c : WE) : WE := fun ρ S Q => a ρ S fun x S1 => b ρ S1 fun y S2 => r x y S2 fun z S3 => match z with
  | .bl k => if k = true then c ρ S3 fun u S4 => r' y u S4 Q else Q (.bl false) S3
  | _ => False

/-! ### what is walked -/
@[reducible] def wIt (a : WE) : WI := fun ρ S R => a ρ S fun x S1 => match x with
  | .tup xs => R xs (fun _ => True) S1
  | .rol xs => R xs (fun _ => True) S1
  | .ref n => match S1[n]? with
    | some (.lst xs) => R xs (fun S' => S'[n]? = some (.lst xs)) S1
    | _ => False
  | _ => False
/-- lo, lo + 1, .. below hi -/
def rangeD (lo hi : Int) : List D := (List.range (hi - lo).toNat).map fun (i : Nat) => D.int (lo + i)
def smallI (i : Int) : Prop := -(2 ^ 62) ≤ i ∧ i < 2 ^ 62
@[reducible] def wR1 (a : WE) : WI := fun ρ S R => a ρ S fun x S1 => match x with
  | .int j => smallI j ∧ R (rangeD 0 j) (fun _ => True) S1
  | _ => False
@[reducible] def wR2 (a b : WE) : WI := fun ρ S R => a ρ S fun x S1 => b ρ S1 fun y S2 => match x, y with
  | .int i, .int j => smallI i ∧ smallI j ∧ R (rangeD i j) (fun _ => True) S2
  | _, _ => False

/-! ### targets: a name, a tuple of names -/
@[reducible] def gN (i : Nat) : WG := fun d ρ S Q => Q (up ρ i (some d)) S
@[reducible] def gNs : List Nat → List D → Env → Option Env
  | [], [], ρ => some ρ
  | i :: r, d :: ds, ρ => gNs r ds (up ρ i (some d))
  | _, _, _ => none
@[reducible] def gT (is : List Nat) : WG := fun d ρ S Q => match d with
  | .tup ds => match gNs is ds ρ with
    | some ρ' => Q ρ' S
    | none => False
  | _ => False

/-! ### comprehensions: one clause, at most one test -/
@[reducible] def wtYes : WT := fun _ S Q => Q true S
/-- I: by the turn, what is made so far, the store; a step tells what it adds -/
def Lc (items : List D) (guard : Sto → Prop) (S1 : Sto) (step : D → Sto → (Option D → Sto → Prop) → Prop) (Q : VK) : Prop := items.length ≤ szL ∧ ∃ I : Nat → List D → Sto → Prop,
  I 0 [] S1 ∧ (∀ i acc S', I i acc S' → guard S') ∧
  (∀ i d acc S', items[i]? = some d → I i acc S' → step d S' fun o S2 => I (i + 1) (acc ++ o.toList) S2) ∧
  ∀ acc S', I items.length acc S' → Q (.ref S'.length) (S' ++ [.lst acc])
@[reducible] def wLc (wi : WI) (g : WG) (tt : WT) (te : WE) (vs : List Nat) : WE := fun ρ S Q => wi ρ S fun items guard S1 =>
  Lc items guard S1 (fun d S' R => g d (wipe ρ vs) S' fun ρ2 S2 => tt ρ2 S2 fun b S3 => if b = true then te ρ2 S3 fun y S4 => R (some y) S4 else R none S3) Q

/-! ### statements -/
@[reducible] def sNext : WS := fun E ρ S => E.nx ρ S
@[reducible] def sSeq (a b : WS) : WS := fun E ρ S => a { E with nx := b E } ρ S
@[reducible] def sBreak : WS := fun E ρ S => E.bk ρ S
@[reducible] def sCont : WS := fun E ρ S => E.ct ρ S
@[reducible] def sDrop (a : WE) : WS := fun E ρ S => a ρ S fun _ S1 => E.nx ρ S1
@[reducible] def sRet (a : WE) : WS := fun E ρ S => a ρ S E.rt
@[reducible] def sRetN : WS := fun E _ S => E.rt .non S
@[reducible] def sIf (c : WT) (a b : WS) : WS := fun E ρ S => c ρ S fun k S1 => if k = true then a E ρ S1 else b E ρ S1
@[reducible] def sNever : WS := fun _ _ _ => False
@[reducible] def sAsg (a : WE) (g : WG) : WS := fun E ρ S => a ρ S fun d S1 => g d ρ S1 E.nx
/-- a, b = x, y by names -/
@[reducible] def sPar (i j : Nat) (a b : WE) : WS := fun E ρ S => a ρ S fun x S1 => b ρ S1 fun y S2 => E.nx (up (up ρ i (some x)) j (some y)) S2
@[reducible] def sAug (i : Nat) (a : WE) (r : R2) : WS := fun E ρ S => match lk ρ i with
  | some x => a ρ S fun y S1 => r x y S1 fun z S2 => E.nx (up ρ i (some z)) S2
  | none => False
/-- o[i] = e -/
@[reducible] def sSub (r : D → D → D → Sto → (Sto → Prop) → Prop) (e o i : WE) : WS := fun E ρ S => e ρ S fun d S1 => o ρ S1 fun x S2 => i ρ S2 fun k S3 => r x k d S3 fun S4 => E.nx ρ S4
/-- o[i] op= e -/
@[reducible] def sAugSub (rg : R2) (rop : R2) (rs : D → D → D → Sto → (Sto → Prop) → Prop) (o i e : WE) : WS := fun E ρ S => o ρ S fun x S1 => i ρ S1 fun k S2 => rg x k S2 fun v S3 => e ρ S3 fun y S4 => rop v y S4 fun z S5 => rs x k z S5 fun S6 => E.nx ρ S6
/-- for: I by the turn -/
def Loop (items : List D) (guard : Sto → Prop) (step : D → Env → Sto → (Env → Sto → Prop) → Prop) (done : Env → Sto → Prop) (ρ : Env) (S : Sto) : Prop := ∃ I : Nat → Env → Sto → Prop,
  I 0 ρ S ∧ (∀ i ρ' S', I i ρ' S' → guard S') ∧ (∀ i d ρ' S', items[i]? = some d → I i ρ' S' → step d ρ' S' (I (i + 1))) ∧ ∀ ρ' S', I items.length ρ' S' → done ρ' S'
@[reducible] def sFor (wi : WI) (g : WG) (b : WS) : WS := fun E ρ S => wi ρ S fun items guard S1 =>
  Loop items guard (fun d ρ' S' N => g d ρ' S' fun ρ2 S2 => b { nx := N, rt := E.rt, bk := E.nx, ct := N } ρ2 S2) E.nx ρ S1
/-- while: I by a measure -/
@[reducible] def sWhile (c : WT) (b : WS) : WS := fun E ρ S => ∃ I : Nat → Env → Sto → Prop, (∃ m, I m ρ S) ∧
  ∀ m ρ' S', I m ρ' S' → c ρ' S' fun k S2 => if k = true then b { nx := fun ρ3 S3 => ∃ m', m' < m ∧ I m' ρ3 S3, rt := E.rt, bk := E.nx, ct := fun ρ3 S3 => ∃ m', m' < m ∧ I m' ρ3 S3 } ρ' S2 else E.nx ρ' S2
/-- a def's body keeps what is asked of it -/
def Body (n k : Nat) (w : WS) (sp : Spc) : Prop := ∀ ds S Q, ds.length = k → sp ds S Q → w { nx := fun _ S' => Q .non S', rt := Q, bk := fun _ _ => False, ct := fun _ _ => False } (start n ds) S

/-! ### operations by values -/
def MulOk (i j : Int) : Prop := (i.natAbs < 2 ^ 64 ∨ j.natAbs < 2 ^ 64) ∨ ∃ a b : Nat, i.natAbs < 2 ^ a ∧ j.natAbs < 2 ^ b ∧ a + b ≤ 134217728
def DivOk (j : Int) : Prop := j ≠ 0 ∧ j.natAbs < 2 ^ 9000
def PowOk (i j : Int) : Prop := 0 ≤ j ∧ j ≤ 1000000 ∧ i.natAbs < 2 ^ 64
def isLst (S : Sto) (n : Nat) (P : List D → Prop) : Prop := match S[n]? with
  | some (.lst xs) => P xs
  | _ => False
@[reducible] def rAdd : R2
  | .int i, .int j, S, Q => Q (.int (i + j)) S
  | .tup xs, .tup ys, S, Q => xs.length + ys.length ≤ szL ∧ Q (.tup (xs ++ ys)) S
  | .str x, .str y, S, Q => x.length + y.length ≤ szL ∧ Q (.str (x ++ y)) S
  | .ref m, .ref n, S, Q => isLst S m fun xs => isLst S n fun ys => xs.length + ys.length ≤ szL ∧ Q (.ref S.length) (S ++ [.lst (xs ++ ys)])
  | _, _, _, _ => False
@[reducible] def rSub : R2
  | .int i, .int j, S, Q => Q (.int (i - j)) S
  | _, _, _, _ => False
@[reducible] def rMul : R2
  | .int i, .int j, S, Q => MulOk i j ∧ Q (.int (i * j)) S
  | .ref m, .int k, S, Q => isLst S m fun xs => (-(2 ^ 63) ≤ k ∧ k < 2 ^ 63) ∧ xs.length * k.toNat ≤ szL ∧ Q (.ref S.length) (S ++ [.lst (List.replicate k.toNat xs).flatten])
  | _, _, _, _ => False
@[reducible] def rMul' : R2
  | .int i, .int j, S, Q => MulOk i j ∧ Q (.int (i * j)) S
  | _, _, _, _ => False
@[reducible] def rDiv : R2
  | .int i, .int j, S, Q => DivOk j ∧ Q (.int (i.fdiv j)) S
  | _, _, _, _ => False
@[reducible] def rMod : R2
  | .int i, .int j, S, Q => j ≠ 0 ∧ Q (.int (i.fmod j)) S
  | _, _, _, _ => False
@[reducible] def rPow : R2
  | .int i, .int j, S, Q => PowOk i j ∧ Q (.int (i ^ j.toNat)) S
  | _, _, _, _ => False
@[reducible] def rNeg : R1
  | .int i, S, Q => Q (.int (-i)) S
  | _, _, _ => False
@[reducible] def rCmp (f : Int → Int → Bool) : R2
  | .int i, .int j, S, Q => Q (.bl (f i j)) S
  | _, _, _, _ => False
abbrev rLt : R2 := rCmp fun i j => decide (i < j)
abbrev rLe : R2 := rCmp fun i j => decide (i ≤ j)
abbrev rGt : R2 := rCmp fun i j => decide (j < i)
abbrev rGe : R2 := rCmp fun i j => decide (j ≤ i)
@[reducible] def rEq : R2 := fun x y S Q => (flat x = true ∧ flat y = true ∧ deep x ≤ 64 ∧ deep y ≤ 64) ∧ Q (.bl (eqD x y)) S
@[reducible] def rNe : R2 := fun x y S Q => (flat x = true ∧ flat y = true ∧ deep x ≤ 64 ∧ deep y ≤ 64) ∧ Q (.bl (!eqD x y)) S
def isNon : D → Bool
  | .non => true
  | _ => false
@[reducible] def rIs : R2
  | x, .non, S, Q => Q (.bl (isNon x)) S
  | .bl a, .bl b, S, Q => Q (.bl (decide (a = b))) S
  | _, _, _, _ => False
@[reducible] def rIsNot : R2
  | x, .non, S, Q => Q (.bl (!isNon x)) S
  | .bl a, .bl b, S, Q => Q (.bl (!decide (a = b))) S
  | _, _, _, _ => False
/-- place i, from the end if negative -/
def ixZ (n : Nat) (i : Int) : Option Nat := if 0 ≤ i then (if i < n then some i.toNat else none) else if -(n : Int) ≤ i then some (i + n).toNat else none
def atZ {α : Type} (xs : List α) (i : Int) : Option α := (ixZ xs.length i).bind fun j => xs[j]?
@[reducible] def rIx : R2
  | .tup xs, .int i, S, Q => ∃ d, atZ xs i = some d ∧ Q d S
  | .rol xs, .int i, S, Q => ∃ d, atZ xs i = some d ∧ Q d S
  | .ref n, .int i, S, Q => isLst S n fun xs => ∃ d, atZ xs i = some d ∧ Q d S
  | .str z, .int i, S, Q => z.length ≤ szL ∧ ∃ c, atZ z.cps.toList i = some c ∧ Q (.str ⟨#[c]⟩) S
  | _, _, _, _ => False
def sIx (n d : Nat) : Option Int → Nat
  | none => d
  | some i => if i < 0 then (i + n).toNat else min i.toNat n
def cut {α : Type} (xs : List α) (lo hi : Option Int) : List α := (xs.drop (sIx xs.length 0 lo)).take (sIx xs.length xs.length hi - sIx xs.length 0 lo)
@[reducible] def rSl : D → Option Int → Option Int → Sto → VK → Prop
  | .tup xs, lo, hi, S, Q => Q (.tup (cut xs lo hi)) S
  | .ref n, lo, hi, S, Q => isLst S n fun xs => Q (.ref S.length) (S ++ [.lst (cut xs lo hi)])
  | _, _, _, _, _ => False
@[reducible] def rRev : R1
  | .tup xs, S, Q => Q (.tup xs.reverse) S
  | .ref n, S, Q => isLst S n fun xs => Q (.ref S.length) (S ++ [.lst xs.reverse])
  | _, _, _ => False
/-- plain things, for in -/
def flat0 : D → Bool
  | .non | .bl _ | .int _ | .str _ => true
  | _ => false
@[reducible] def rIn (neg : Bool) : R2
  | x, .tup ys, S, Q => (flat0 x = true ∧ ys.all flat0 = true) ∧ Q (.bl (if neg then !ys.any fun y => eqD y x else ys.any fun y => eqD y x)) S
  | x, .ref n, S, Q => isLst S n fun ys => (flat x = true ∧ flats ys = true ∧ deep x ≤ 63 ∧ deeps ys ≤ 63) ∧ Q (.bl (if neg then !ys.any fun y => eqD y x else ys.any fun y => eqD y x)) S
  | _, _, _, _ => False
/-! built-ins -/
@[reducible] def rLen : RL
  | [.tup xs], S, Q => Q (.int xs.length) S
  | [.rol xs], S, Q => Q (.int xs.length) S
  | [.str z], S, Q => z.length ≤ szL ∧ Q (.int z.length) S
  | [.ref n], S, Q => isLst S n fun xs => Q (.int xs.length) S
  | _, _, _ => False
@[reducible] def rAbs : RL
  | [.int i], S, Q => Q (.int i.natAbs) S
  | _, _, _ => False
@[reducible] def rInt : RL
  | [.int i], S, Q => Q (.int i) S
  | [.bl b], S, Q => Q (.int (if b = true then 1 else 0)) S
  | _, _, _ => False
@[reducible] def rMax2 : RL
  | [.int i, .int j], S, Q => Q (.int (max i j)) S
  | _, _, _ => False
@[reducible] def rMin2 : RL
  | [.int i, .int j], S, Q => Q (.int (min i j)) S
  | _, _, _ => False
@[reducible] def rList : RL
  | [.tup xs], S, Q => Q (.ref S.length) (S ++ [.lst xs])
  | [.rol xs], S, Q => Q (.ref S.length) (S ++ [.lst xs])
  | [.ref n], S, Q => isLst S n fun xs => Q (.ref S.length) (S ++ [.lst xs])
  | _, _, _ => False
@[reducible] def rTuple : RL
  | [.tup xs], S, Q => Q (.tup xs) S
  | [.rol xs], S, Q => Q (.tup xs) S
  | [.ref n], S, Q => isLst S n fun xs => Q (.tup xs) S
  | _, _, _ => False
/-- intD all through -/
def intsOf : List D → Option (List Int)
  | [] => some []
  | .int i :: r => (intsOf r).map (i :: ·)
  | _ => none
def bsOf : List D → Option (List Bool)
  | [] => some []
  | .bl i :: r => (bsOf r).map (i :: ·)
  | _ => none
/-- the list behind a list of one's own or a tuple -/
def itemsAt : D → Sto → Option (List D)
  | .tup xs, _ => some xs
  | .ref n, S => match S[n]? with
    | some (.lst xs) => some xs
    | _ => none
  | _, _ => none
@[reducible] def withInts (d : D) (S : Sto) (P : List Int → Prop) : Prop := ∃ ns, itemsAt d S = some (intD ns) ∧ P ns
@[reducible] def rSum : RL
  | [d], S, Q => withInts d S fun ns => Q (.int ns.sum) S
  | _, _, _ => False
@[reducible] def rMax : RL
  | [d], S, Q => withInts d S fun ns => 0 < ns.length ∧ ∀ m, m ∈ ns → (∀ y, y ∈ ns → y ≤ m) → Q (.int m) S
  | _, _, _ => False
@[reducible] def rMin : RL
  | [d], S, Q => withInts d S fun ns => 0 < ns.length ∧ ∀ m, m ∈ ns → (∀ y, y ∈ ns → m ≤ y) → Q (.int m) S
  | _, _, _ => False
@[reducible] def rAll : RL
  | [.ref n], S, Q => ∃ bs : List Bool, S[n]? = some (.lst (bs.map .bl)) ∧ Q (.bl (bs.all id)) S
  | _, _, _ => False
@[reducible] def rAny : RL
  | [.ref n], S, Q => ∃ bs : List Bool, S[n]? = some (.lst (bs.map .bl)) ∧ Q (.bl (bs.any id)) S
  | _, _, _ => False
@[reducible] def rGcd : RL
  | [.int a, .int b], S, Q => Q (.int (Nat.gcd a.natAbs b.natAbs : Nat)) S
  | _, _, _ => False
/-- isinstance(x, T): T one of bool, int, str, tuple, list -/
def isT : D → String → Option Bool
  | .non, t => if t ∈ ["bool", "int", "str", "tuple", "list"] then some false else none
  | .bl _, t => if t ∈ ["bool", "int"] then some true else if t ∈ ["str", "tuple", "list"] then some false else none
  | .int _, t => if t = "int" then some true else if t ∈ ["bool", "str", "tuple", "list"] then some false else none
  | .str _, t => if t = "str" then some true else if t ∈ ["bool", "int", "tuple", "list"] then some false else none
  | .tup _, t => if t = "tuple" then some true else if t ∈ ["bool", "int", "str", "list"] then some false else none
  | _, _ => none
@[reducible] def rIsi : RL
  | [d, .ty t], S, Q => ∃ b, isT d t = some b ∧ Q (.bl b) S
  | _, _, _ => False
/-! sorting -/
mutual
def ltD : D → D → Bool
  | .int i, .int j => decide (i < j)
  | .str x, .str y => decide (x.cps.toList < y.cps.toList)
  | .tup xs, .tup ys => ltDs xs ys
  | _, _ => false
def ltDs : List D → List D → Bool
  | [], [] => false
  | [], _ :: _ => true
  | _ :: _, [] => false
  | x :: xs, y :: ys => if eqD x y = true then ltDs xs ys else ltD x y
end
mutual
def akin : D → D → Bool
  | .int _, .int _ => true
  | .str _, .str _ => true
  | .tup xs, .tup ys => akins xs ys
  | _, _ => false
def akins : List D → List D → Bool
  | x :: xs, y :: ys => akin x y && akins xs ys
  | _, _ => true
end
/-- all ints, all texts, or all tuples with an item -/
def sortOk (xs : List D) : Prop := flats xs = true ∧ deeps xs ≤ 60 ∧ (∀ a ∈ xs, ∀ b ∈ xs, akin a b = true) ∧ ((∀ a ∈ xs, ∃ x r, a = .tup (x :: r)) ∨ ∀ a ∈ xs, a ≠ .non ∧ ∀ ys, a ≠ .tup ys)
@[reducible] def rSorted : RL
  | [.ref n], S, Q => isLst S n fun xs => sortOk xs ∧ ∀ ys, ys.Perm xs → ys.Pairwise (fun a b => ltD b a = false) → Q (.ref S.length) (S ++ [.lst ys])
  | _, _, _ => False
/-- sorted(set(a)) of ints -/
@[reducible] def wSortedSet (a : WE) : WE := fun ρ S Q => a ρ S fun d S1 => withInts d S1 fun ns => ns.length < 60 ∧ ∀ ms : List Int, ms.Pairwise (· < ·) → (∀ k, k ∈ ms ↔ k ∈ ns) → Q (.ref S1.length) (S1 ++ [.lst (intD ms)])
/-! methods of lists -/
@[reducible] def rAppend : RM
  | .ref n, [d], S, Q => isLst S n fun xs => xs.length < szL ∧ Q .non (S.set n (.lst (xs ++ [d])))
  | _, _, _, _ => False
@[reducible] def rPop : RM
  | .ref n, [], S, Q => isLst S n fun xs => ∃ d, xs[xs.length - 1]? = some d ∧ Q d (S.set n (.lst xs.dropLast))
  | _, _, _, _ => False
@[reducible] def rPopAt : RM
  | .ref n, [.int i], S, Q => isLst S n fun xs => (-(2 ^ 63) ≤ i ∧ i < 2 ^ 63) ∧ ∃ j d, ixZ xs.length i = some j ∧ xs[j]? = some d ∧ Q d (S.set n (.lst (xs.eraseIdx j)))
  | _, _, _, _ => False
@[reducible] def rReverse : RM
  | .ref n, [], S, Q => isLst S n fun xs => Q .non (S.set n (.lst xs.reverse))
  | _, _, _, _ => False
@[reducible] def rInsert : RM
  | .ref n, [.int i, d], S, Q => isLst S n fun xs => xs.length < szL ∧ (0 ≤ i ∧ i < 2 ^ 63) ∧ Q .non (S.set n (.lst (xs.take i.toNat ++ [d] ++ xs.drop i.toNat)))
  | _, _, _, _ => False
/-- o[i] = d -/
@[reducible] def rPut : D → D → D → Sto → (Sto → Prop) → Prop
  | .ref n, .int i, d, S, Q => isLst S n fun xs => ∃ j, ixZ xs.length i = some j ∧ Q (S.set n (.lst (xs.set j d)))
  | _, _, _, _, _ => False
end DL
set_option Elab.async false
set_option linter.all false
set_option maxRecDepth 100000
set_option maxHeartbeats 4000000
/-! DL1: the parts of DL0 hold of the model, rule by rule. -/
namespace DL
open PySem PySem.Spec
open L2 (V Hp HO St TE TT TA TS TG TI TO PE PT PW PA PS PSs PG PI PO Cx Inv RelV Vals SqL SqT Rd upd upd_same upd_ne ne_of ne_of_none OpR UnR CallR MtR IxR SlR It thn)

/-! ### how plain data lies in the heap -/
/-- a list that is only read -/
def RoL (K : PySem.W.Frag) (H : Hp) (a : Addr) (vs : List V) : Prop := (∃ o, H a = some (.frz o (.lst vs))) ∨
    ∃ (o : Obj) (its : Array Value) (n : Nat), K.lookup a = some o ∧ o.cls = .type "list" ∧ o.dict = none ∧ o.data = .seq its n ∧ its.size ≤ sizeLine ∧ Vals vs its.toList
theorem RoL.seq {K : PySem.W.Frag} {H : Hp} {a : Addr} {vs : List V} (h : RoL K H a vs) : SqL K H a vs := by
  rcases h with h | h
  · exact .inl (.inr h)
  · exact .inr h
/-- whether tuples of the module's own (constants) may be about -/
def cst : Bool := false
/-- a tuple that we made, or a constant one -/
def SqK (K : PySem.W.Frag) (H : Hp) (a : Addr) (vs : List V) : Prop := H a = some (.tup vs) ∨ (cst = true ∧ SqT K H a vs)
theorem SqK.sqT {K : PySem.W.Frag} {H : Hp} {a : Addr} {vs : List V} (h : SqK K H a vs) : SqT K H a vs := by
  rcases h with h | h
  · exact L2.SqT.of h
  · exact h.2
/-- what may change -/
def mutO : HO → Bool
  | .lst _ | .dK _ | .dT _ => true
  | _ => false
mutual
def Rep (K : PySem.W.Frag) (H : Hp) (m : List Addr) : D → V → Prop
  | .non, v => v = .non
  | .bl b, v => v = .bl b
  | .int i, v => v = .int i
  | .str x, v => v = .str x
  | .ty n, v => v = .ty n
  | .ref n, v => ∃ a, m[n]? = some a ∧ v = .ref a
  | .tup ds, v => ∃ a vs, v = .ref a ∧ SqK K H a vs ∧ Reps K H m ds vs
  | .rol ds, v => ∃ a vs, v = .ref a ∧ RoL K H a vs ∧ Reps K H m ds vs
def Reps (K : PySem.W.Frag) (H : Hp) (m : List Addr) : List D → List V → Prop
  | [], vs => vs = []
  | d :: ds, vs => ∃ v r, vs = v :: r ∧ Rep K H m d v ∧ Reps K H m ds r
end
/-- from one heap to a later one: what is not ours stands, what is ours may have grown -/
structure Ext (m : List Addr) (H : Hp) (m' : List Addr) (H' : Hp) : Prop where
  pre : ∀ (n : Nat) (a : Addr), m[n]? = some a → m'[n]? = some a
  keep : ∀ (b : Addr) (o : HO), H b = some o → b ∉ m → H' b = some o
  new : ∀ b : Addr, b ∈ m' → b ∈ m ∨ H b = none
  lst : ∀ (b : Addr) (o : HO), H b = some o → mutO o = false → H' b = some o
theorem Ext.refl (m : List Addr) (H : Hp) : Ext m H m H := ⟨fun _ _ h => h, fun _ _ h _ => h, fun _ h => .inl h, fun _ _ h _ => h⟩
theorem Ext.trans {m m1 m2 : List Addr} {H H1 H2 : Hp} (a : Ext m H m1 H1) (b : Ext m1 H1 m2 H2) : Ext m H m2 H2 where
  pre := fun n x h => b.pre n x (a.pre n x h)
  keep := fun c o h hn => b.keep c o (a.keep c o h hn) fun z => by
    rcases a.new c z with z | z
    · exact hn z
    · rw [z] at h; cases h
  new := fun c h => by
    rcases b.new c h with z | z
    · exact a.new c z
    · by_cases hc : c ∈ m
      · exact .inl hc
      · refine .inr ?_
        cases e : H c with
        | none => rfl
        | some o => rw [a.keep c o e hc] at z; cases z
  lst := fun c o h hn => b.lst c o (a.lst c o h hn) hn
theorem Ext.sqT {m m' : List Addr} {H H' : Hp} (e : Ext m H m' H') {K : PySem.W.Frag} {a : Addr} {vs : List V} (h : SqT K H a vs) : SqT K H' a vs := by
  rcases h with (h | ⟨o, h⟩) | h
  · exact .inl (.inl (e.lst _ _ h rfl))
  · exact .inl (.inr ⟨o, e.lst _ _ h rfl⟩)
  · exact .inr h
theorem Ext.sqK {m m' : List Addr} {H H' : Hp} (e : Ext m H m' H') {K : PySem.W.Frag} {a : Addr} {vs : List V} (h : SqK K H a vs) : SqK K H' a vs := by
  rcases h with h | ⟨h1, h2⟩
  · exact .inl (e.lst _ _ h rfl)
  · exact .inr ⟨h1, e.sqT h2⟩
theorem Ext.ro {m m' : List Addr} {H H' : Hp} (e : Ext m H m' H') {K : PySem.W.Frag} {a : Addr} {vs : List V} (h : RoL K H a vs) : RoL K H' a vs := by
  rcases h with ⟨o, h⟩ | h
  · exact .inl ⟨o, e.lst _ _ h rfl⟩
  · exact .inr h
section
variable {K : PySem.W.Frag} {m m' m1 : List Addr} {H H' H1 : Hp} {S S' : Sto}
mutual
theorem Rep.ext (e : Ext m H m' H') : ∀ (d : D) (v : V), Rep K H m d v → Rep K H' m' d v
  | .non, _, h => h
  | .bl _, _, h => h
  | .int _, _, h => h
  | .str _, _, h => h
  | .ty _, _, h => h
  | .ref _, _, ⟨a, h1, h2⟩ => ⟨a, e.pre _ _ h1, h2⟩
  | .tup ds, _, ⟨a, vs, h1, h2, h3⟩ => ⟨a, vs, h1, e.sqK h2, Reps.ext e ds vs h3⟩
  | .rol ds, _, ⟨a, vs, h1, h2, h3⟩ => ⟨a, vs, h1, e.ro h2, Reps.ext e ds vs h3⟩
theorem Reps.ext (e : Ext m H m' H') : ∀ (ds : List D) (vs : List V), Reps K H m ds vs → Reps K H' m' ds vs
  | [], _, h => h
  | d :: ds, _, ⟨v, r, h1, h2, h3⟩ => ⟨v, r, h1, Rep.ext e d v h2, Reps.ext e ds r h3⟩
end
theorem Reps.len : ∀ {ds : List D} {vs : List V}, Reps K H m ds vs → vs.length = ds.length
  | [], _, h => by rw [show _ = ([] : List V) from h]; rfl
  | d :: ds, _, ⟨v, r, h1, h2, h3⟩ => by rw [h1, List.length_cons, List.length_cons, Reps.len h3]
theorem Reps.get : ∀ {ds : List D} {vs : List V}, Reps K H m ds vs → ∀ (i : Nat) (d : D), ds[i]? = some d → ∃ v, vs[i]? = some v ∧ Rep K H m d v
  | [], _, h, i, d, e => by simp at e
  | d :: ds, _, ⟨v, r, h1, h2, h3⟩, 0, d', e => by
    simp at e
    subst e
    exact ⟨v, by rw [h1]; rfl, h2⟩
  | d :: ds, _, ⟨v, r, h1, h2, h3⟩, i + 1, d', e => by
    obtain ⟨w, e1, e2⟩ := Reps.get h3 i d' (by simpa using e)
    exact ⟨w, by rw [h1]; simpa using e1, e2⟩
theorem Reps.get' : ∀ {ds : List D} {vs : List V}, Reps K H m ds vs → ∀ (i : Nat) (v : V), vs[i]? = some v → ∃ d, ds[i]? = some d ∧ Rep K H m d v
  | [], _, h, i, d, e => by
    rw [show _ = ([] : List V) from h] at e
    simp at e
  | d :: ds, _, ⟨v, r, h1, h2, h3⟩, 0, d', e => by
    rw [h1] at e
    simp at e
    subst e
    exact ⟨d, rfl, h2⟩
  | d :: ds, _, ⟨v, r, h1, h2, h3⟩, i + 1, d', e => by
    rw [h1] at e
    obtain ⟨w, e1, e2⟩ := Reps.get' h3 i d' (by simpa using e)
    exact ⟨w, by simpa using e1, e2⟩
theorem Reps.app : ∀ {ds es : List D} {vs us : List V}, Reps K H m ds vs → Reps K H m es us → Reps K H m (ds ++ es) (vs ++ us)
  | [], _, _, _, h, q => by rw [show _ = ([] : List V) from h]; exact q
  | d :: ds, _, _, _, ⟨v, r, h1, h2, h3⟩, q => ⟨v, r ++ _, by rw [h1]; rfl, h2, Reps.app h3 q⟩
theorem Reps.one {d : D} {v : V} (h : Rep K H m d v) : Reps K H m [d] [v] := ⟨v, [], rfl, h, rfl⟩
theorem Reps.drop : ∀ {ds : List D} {vs : List V} (n : Nat), Reps K H m ds vs → Reps K H m (ds.drop n) (vs.drop n)
  | _, _, 0, h => h
  | [], _, n + 1, h => by rw [show _ = ([] : List V) from h]; rfl
  | d :: ds, _, n + 1, ⟨v, r, h1, h2, h3⟩ => by rw [h1]; exact Reps.drop n h3
theorem Reps.take : ∀ {ds : List D} {vs : List V} (n : Nat), Reps K H m ds vs → Reps K H m (ds.take n) (vs.take n)
  | _, _, 0, h => rfl
  | [], _, n + 1, h => by rw [show _ = ([] : List V) from h]; rfl
  | d :: ds, _, n + 1, ⟨v, r, h1, h2, h3⟩ => by rw [h1]; exact ⟨v, _, rfl, h2, Reps.take n h3⟩
theorem Reps.rev : ∀ {ds : List D} {vs : List V}, Reps K H m ds vs → Reps K H m ds.reverse vs.reverse
  | [], _, h => by rw [show _ = ([] : List V) from h]; rfl
  | d :: ds, _, ⟨v, r, h1, h2, h3⟩ => by
    rw [h1, List.reverse_cons, List.reverse_cons]
    exact Reps.app (Reps.rev h3) (Reps.one h2)
theorem Reps.set : ∀ {ds : List D} {vs : List V} {d : D} {v : V} (i : Nat), Reps K H m ds vs → Rep K H m d v → Reps K H m (ds.set i d) (vs.set i v)
  | [], _, _, _, i, h, q => by rw [show _ = ([] : List V) from h]; rfl
  | d :: ds, _, _, _, 0, ⟨v, r, h1, h2, h3⟩, q => by rw [h1]; exact ⟨_, _, rfl, q, h3⟩
  | d :: ds, _, _, _, i + 1, ⟨v, r, h1, h2, h3⟩, q => by rw [h1]; exact ⟨_, _, rfl, h2, Reps.set i h3 q⟩
theorem Reps.erase : ∀ {ds : List D} {vs : List V} (i : Nat), Reps K H m ds vs → Reps K H m (ds.eraseIdx i) (vs.eraseIdx i)
  | [], _, i, h => by rw [show _ = ([] : List V) from h]; cases i <;> rfl
  | d :: ds, _, 0, ⟨v, r, h1, h2, h3⟩ => by rw [h1]; exact h3
  | d :: ds, _, i + 1, ⟨v, r, h1, h2, h3⟩ => by rw [h1]; exact ⟨_, _, rfl, h2, Reps.erase i h3⟩
theorem Reps.dropLast {ds : List D} {vs : List V} (h : Reps K H m ds vs) : Reps K H m ds.dropLast vs.dropLast := by
  rw [List.dropLast_eq_take, List.dropLast_eq_take, h.len]
  exact h.take _
theorem Reps.rep {ds : List D} {vs : List V} (h : Reps K H m ds vs) : ∀ k : Nat, Reps K H m (List.replicate k ds).flatten (List.replicate k vs).flatten
  | 0 => rfl
  | k + 1 => by
    rw [List.replicate_succ, List.replicate_succ, List.flatten_cons, List.flatten_cons]
    exact Reps.app h (Reps.rep h k)
theorem Reps.ints : ∀ {ns : List Int} {vs : List V}, Reps K H m (intD ns) vs → vs = ns.map V.int
  | [], _, h => h
  | n :: ns, _, ⟨v, r, h1, h2, h3⟩ => by rw [h1, show v = V.int n from h2, Reps.ints h3]; rfl
theorem Reps.bls : ∀ {ns : List Bool} {vs : List V}, Reps K H m (ns.map D.bl) vs → vs = ns.map V.bl
  | [], _, h => h
  | n :: ns, _, ⟨v, r, h1, h2, h3⟩ => by rw [h1, show v = V.bl n from h2, Reps.bls h3]; rfl
theorem Reps.of_ints : ∀ {ns : List Int}, Reps K H m (DL.intD ns) (ns.map V.int)
  | [] => rfl
  | n :: ns => ⟨_, _, rfl, rfl, Reps.of_ints⟩

/-- one object of the store -/
def RepO (K : PySem.W.Frag) (H : Hp) (m : List Addr) : O → Addr → Prop
  | .lst ds, a => ∃ vs, H a = some (.lst vs) ∧ Reps K H m ds vs
  | .dK kvs, a => ∃ ks : List (L2.Key × V), H a = some (.dK ks) ∧ ks.map (·.1) = kvs.map (·.1) ∧ Reps K H m (kvs.map (·.2)) (ks.map (·.2))
  | .dT kvs, a => ∃ ks : List (List L2.Key × V), H a = some (.dT ks) ∧ ks.map (·.1) = kvs.map (·.1) ∧ Reps K H m (kvs.map (·.2)) (ks.map (·.2))
  | .fK kvs, a => ∃ (od : Obj) (ks : List (L2.Key × V)), H a = some (.frz od (.dK ks)) ∧ ks.map (·.1) = kvs.map (·.1) ∧ Reps K H m (kvs.map (·.2)) (ks.map (·.2))
  | .fT kvs, a => ∃ (od : Obj) (ks : List (List L2.Key × V)), H a = some (.frz od (.dT ks)) ∧ ks.map (·.1) = kvs.map (·.1) ∧ Reps K H m (kvs.map (·.2)) (ks.map (·.2))
/-- what may be written -/
def isMut : O → Bool
  | .lst _ | .dK _ | .dT _ => true
  | .fK _ | .fT _ => false
structure RepS (K : PySem.W.Frag) (H : Hp) (m : List Addr) (S : Sto) : Prop where
  len : m.length = S.length
  nd : ∀ (i j : Nat) (a : Addr), m[i]? = some a → m[j]? = some a → i = j
  obj : ∀ (n : Nat) (o : O), S[n]? = some o → ∃ a, m[n]? = some a ∧ RepO K H m o a
theorem RepS.lst (h : RepS K H m S) {n : Nat} {ds : List D} (e : S[n]? = some (.lst ds)) : ∃ a vs, m[n]? = some a ∧ H a = some (.lst vs) ∧ Reps K H m ds vs := by
  obtain ⟨a, h1, vs, h2, h3⟩ := h.obj n _ e
  exact ⟨a, vs, h1, h2, h3⟩
theorem RepO.ext {o : O} {a : Addr} (e : Ext m H m' H') (r : RepO K H m o a) (hk : H' a = H a) : RepO K H' m' o a := by
  cases o with
  | lst ds => obtain ⟨vs, h1, h2⟩ := r; exact ⟨vs, hk.trans h1, Reps.ext e _ _ h2⟩
  | dK ds => obtain ⟨vs, h1, h2, h3⟩ := r; exact ⟨vs, hk.trans h1, h2, Reps.ext e _ _ h3⟩
  | dT ds => obtain ⟨vs, h1, h2, h3⟩ := r; exact ⟨vs, hk.trans h1, h2, Reps.ext e _ _ h3⟩
  | fK ds => obtain ⟨od, vs, h1, h2, h3⟩ := r; exact ⟨od, vs, hk.trans h1, h2, Reps.ext e _ _ h3⟩
  | fT ds => obtain ⟨od, vs, h1, h2, h3⟩ := r; exact ⟨od, vs, hk.trans h1, h2, Reps.ext e _ _ h3⟩
theorem RepO.mut {o : O} {a : Addr} (r : RepO K H m o a) (hm : isMut o = true) : ∃ u, H a = some u ∧ mutO u = true := by
  cases o with
  | lst ds => obtain ⟨vs, h1, h2⟩ := r; exact ⟨_, h1, rfl⟩
  | dK ds => obtain ⟨vs, h1, h2, h3⟩ := r; exact ⟨_, h1, rfl⟩
  | dT ds => obtain ⟨vs, h1, h2, h3⟩ := r; exact ⟨_, h1, rfl⟩
  | fK ds => cases hm
  | fT ds => cases hm
theorem RepO.ex {o : O} {a : Addr} (r : RepO K H m o a) : ∃ u, H a = some u := by
  cases o with
  | lst ds => obtain ⟨vs, h1, h2⟩ := r; exact ⟨_, h1⟩
  | dK ds => obtain ⟨vs, h1, h2, h3⟩ := r; exact ⟨_, h1⟩
  | dT ds => obtain ⟨vs, h1, h2, h3⟩ := r; exact ⟨_, h1⟩
  | fK ds => obtain ⟨od, vs, h1, h2, h3⟩ := r; exact ⟨_, h1⟩
  | fT ds => obtain ⟨od, vs, h1, h2, h3⟩ := r; exact ⟨_, h1⟩
theorem RepS.mem (h : RepS K H m S) {b : Addr} (hb : b ∈ m) : ∃ u, H b = some u := by
  obtain ⟨n, hn, e⟩ := List.getElem_of_mem hb
  have e' : m[n]? = some b := by rw [List.getElem?_eq_getElem hn, e]
  have hs : n < S.length := by rw [← h.len]; exact hn
  obtain ⟨a, h1, h2⟩ := h.obj n S[n] (List.getElem?_eq_getElem hs)
  rw [e'] at h1
  cases h1
  exact h2.ex
theorem RepS.notin (h : RepS K H m S) {p : Addr} (hp : H p = none) : p ∉ m := fun z => by
  obtain ⟨vs, e⟩ := h.mem z
  rw [hp] at e; cases e
/-- a new thing that is not a list of ours -/
theorem Ext.fresh (hp : H p = none) (o : HO) : Ext m H m (upd H p o) where
  pre := fun _ _ h => h
  keep := fun b u h _ => by rw [upd_ne (ne_of_none h hp)]; exact h
  new := fun _ h => .inl h
  lst := fun b u h _ => by rw [upd_ne (ne_of_none h hp)]; exact h
theorem Ext.pushed (hp : H p = none) (o : HO) : Ext m H (m ++ [p]) (upd H p o) where
  pre := fun n a h => by
    rw [List.getElem?_append_left]
    · exact h
    · exact (List.getElem?_eq_some_iff.mp h).1
  keep := fun b u h _ => by rw [upd_ne (ne_of_none h hp)]; exact h
  new := fun b h => by
    rcases List.mem_append.mp h with z | z
    · exact .inl z
    · refine .inr ?_
      rw [List.mem_singleton.mp z]
      exact hp
  lst := fun b u h _ => by rw [upd_ne (ne_of_none h hp)]; exact h
theorem Ext.wrote {a : Addr} {o o' : HO} (ha : a ∈ m) (h : H a = some o) (mo : mutO o = true) : Ext m H m (upd H a o') where
  pre := fun _ _ h => h
  keep := fun b u q hn => by
    rw [upd_ne (a := a) (b := b) (fun z => hn (by rw [z]; exact ha))]
    exact q
  new := fun _ h => .inl h
  lst := fun b u q hl => by
    have hne : b ≠ a := fun z => by
      rw [z, h] at q
      rw [← Option.some.inj q, mo] at hl
      cases hl
    rw [upd_ne hne]
    exact q
theorem RepS.fresh (h : RepS K H m S) (hp : H p = none) (o : HO) : RepS K (upd H p o) m S where
  len := h.len
  nd := h.nd
  obj := fun n u e => by
    obtain ⟨a, h1, h2⟩ := h.obj n u e
    obtain ⟨w, h3⟩ := h2.ex
    exact ⟨a, h1, h2.ext (Ext.fresh hp o) (by rw [upd_ne (ne_of_none h3 hp)])⟩
theorem RepS.pushO (h : RepS K H m S) (hp : H p = none) {o : O} {ob : HO} (r : ∀ H', H' = upd H p ob → RepO K H' (m ++ [p]) o p) : RepS K (upd H p ob) (m ++ [p]) (S ++ [o]) where
  len := by rw [List.length_append, List.length_append, h.len]; rfl
  nd := fun i j a h1 h2 => by
    have hn := h.notin hp
    have pos : ∀ (i : Nat) (a : Addr), (m ++ [p])[i]? = some a → (m[i]? = some a ∧ a ≠ p) ∨ (i = m.length ∧ a = p) := fun i a e => by
      by_cases hi : i < m.length
      · rw [List.getElem?_append_left hi] at e
        exact .inl ⟨e, fun z => hn (z ▸ List.mem_of_getElem? e)⟩
      · have hi' := (List.getElem?_eq_some_iff.mp e).1
        rw [List.length_append] at hi'
        have : i = m.length := by simp at hi'; omega
        subst this
        simp at e
        exact .inr ⟨rfl, e.symm⟩
    rcases pos i a h1 with ⟨e1, n1⟩ | ⟨e1, n1⟩ <;> rcases pos j a h2 with ⟨e2, n2⟩ | ⟨e2, n2⟩
    · exact h.nd i j a e1 e2
    · exact absurd n2 n1
    · exact absurd n1 n2
    · rw [e1, e2]
  obj := fun n u e => by
    by_cases hn : n < S.length
    · rw [List.getElem?_append_left hn] at e
      obtain ⟨a, h1, h2⟩ := h.obj n u e
      obtain ⟨w, h3⟩ := h2.ex
      exact ⟨a, (Ext.pushed (m := m) hp ob).pre _ _ h1, h2.ext (Ext.pushed hp ob) (by rw [upd_ne (ne_of_none h3 hp)])⟩
    · have hi' := (List.getElem?_eq_some_iff.mp e).1
      rw [List.length_append] at hi'
      have : n = S.length := by simp at hi'; omega
      subst this
      simp at e
      subst e
      exact ⟨p, by rw [← h.len]; simp, r _ rfl⟩
theorem RepS.push (h : RepS K H m S) (hp : H p = none) {ds : List D} {vs : List V} (r : Reps K H m ds vs) : RepS K (upd H p (.lst vs)) (m ++ [p]) (S ++ [.lst ds]) :=
  h.pushO hp fun H' e => ⟨vs, by rw [e, upd_same], by rw [e]; exact Reps.ext (Ext.pushed hp _) _ _ r⟩
theorem RepS.setO (h : RepS K H m S) {n : Nat} {a : Addr} {o o' : O} {ob : HO} (hm : isMut o = true) (e : S[n]? = some o) (ha : m[n]? = some a) (r : ∀ H', H' = upd H a ob → Ext m H m H' → RepO K H' m o' a) :
    RepS K (upd H a ob) m (S.set n o') := by
  obtain ⟨a', h1, h2⟩ := h.obj n o e
  rw [ha] at h1
  cases h1
  obtain ⟨w, h3, h4⟩ := h2.mut hm
  have ext : Ext m H m (upd H a ob) := Ext.wrote (List.mem_of_getElem? ha) h3 h4
  have hn : n < S.length := (List.getElem?_eq_some_iff.mp e).1
  refine ⟨by rw [List.length_set]; exact h.len, h.nd, fun i u q => ?_⟩
  by_cases hi : i = n
  · subst hi
    rw [List.getElem?_set_self hn] at q
    cases q
    exact ⟨a, ha, r _ rfl ext⟩
  · rw [List.getElem?_set_ne (Ne.symm hi)] at q
    obtain ⟨b, g1, g2⟩ := h.obj i u q
    have hne : b ≠ a := fun z => hi (h.nd i n a (by rw [← z]; exact g1) ha)
    exact ⟨b, g1, g2.ext ext (by rw [upd_ne hne])⟩
theorem RepS.set (h : RepS K H m S) {n : Nat} {a : Addr} {ds ds' : List D} {vs' : List V} (e : S[n]? = some (.lst ds)) (ha : m[n]? = some a) (r : Reps K H m ds' vs') :
    RepS K (upd H a (.lst vs')) m (S.set n (.lst ds')) := h.setO rfl e ha fun H' eH ext => ⟨vs', by rw [eH, upd_same], Reps.ext ext _ _ r⟩

/-! ### slots -/
structure RepE (K : PySem.W.Frag) (H : Hp) (m : List Addr) (ρ : Env) (σ : St) : Prop where
  len : ρ.length = σ.length
  get : ∀ (i : Nat) (d : D), lk ρ i = some d → ∃ v, σ[i]? = some (some v) ∧ Rep K H m d v
theorem RepE.ext {ρ : Env} {σ : St} (r : RepE K H m ρ σ) (e : Ext m H m' H') : RepE K H' m' ρ σ := ⟨r.len, fun i d h => let ⟨v, h1, h2⟩ := r.get i d h; ⟨v, h1, Rep.ext e _ _ h2⟩⟩
theorem lk_up : ∀ (ρ : Env) (i j : Nat) (d : Option D), lk (up ρ i d) j = if j = i ∧ i < ρ.length then d else lk ρ j
  | [], i, j, d => by simp [up, lk]
  | x :: r, 0, 0, d => by simp [up, lk]
  | x :: r, 0, j + 1, d => by simp [up, lk]
  | x :: r, i + 1, 0, d => by simp [up, lk]
  | x :: r, i + 1, j + 1, d => by simp [up, lk, lk_up r i j d]
theorem up_len : ∀ (ρ : Env) (i : Nat) (d : Option D), (up ρ i d).length = ρ.length
  | [], _, _ => rfl
  | x :: r, 0, _ => rfl
  | x :: r, i + 1, d => by simp [up, up_len r i d]
theorem RepE.set {ρ : Env} {σ : St} (r : RepE K H m ρ σ) {d : D} {v : V} (q : Rep K H m d v) (i : Nat) : RepE K H m (up ρ i (some d)) (σ.set i (some v)) := by
  refine ⟨by rw [up_len, List.length_set]; exact r.len, fun j e h => ?_⟩
  rw [lk_up] at h
  by_cases hj : j = i ∧ i < ρ.length
  · rw [if_pos hj] at h
    cases h
    obtain ⟨rfl, hl⟩ := hj
    exact ⟨v, by rw [List.getElem?_set_self (by rw [← r.len]; exact hl)], q⟩
  · rw [if_neg hj] at h
    obtain ⟨w, h1, h2⟩ := r.get j e h
    refine ⟨w, ?_, h2⟩
    have hlt := (List.getElem?_eq_some_iff.mp h1).1
    by_cases hji : j = i
    · exact absurd ⟨hji, by rw [r.len, ← hji]; exact hlt⟩ hj
    · rw [List.getElem?_set_ne (Ne.symm hji)]
      exact h1
theorem RepE.drop1 {ρ : Env} {σ : St} (r : RepE K H m ρ σ) (i : Nat) : RepE K H m (up ρ i none) (σ.set i none) := by
  refine ⟨by rw [up_len, List.length_set]; exact r.len, fun j e h => ?_⟩
  rw [lk_up] at h
  by_cases hj : j = i ∧ i < ρ.length
  · rw [if_pos hj] at h; cases h
  · rw [if_neg hj] at h
    obtain ⟨w, h1, h2⟩ := r.get j e h
    have hlt := (List.getElem?_eq_some_iff.mp h1).1
    refine ⟨w, ?_, h2⟩
    by_cases hji : j = i
    · exact absurd ⟨hji, by rw [r.len, ← hji]; exact hlt⟩ hj
    · rw [List.getElem?_set_ne (Ne.symm hji)]
      exact h1
end
section
variable {K : PySem.W.Frag} {m m' m1 : List Addr} {H H' H1 : Hp} {S S' : Sto}
/-- places stay, all but lists stay -/
structure Ex0 (m : List Addr) (H : Hp) (m' : List Addr) (H' : Hp) : Prop where
  pre : ∀ (n : Nat) (a : Addr), m[n]? = some a → m'[n]? = some a
  lst : ∀ (b : Addr) (o : HO), H b = some o → mutO o = false → H' b = some o
theorem Ex0.sqT (e : Ex0 m H m' H') {a : Addr} {vs : List V} (h : SqT K H a vs) : SqT K H' a vs := by
  rcases h with (h | ⟨o, h⟩) | h
  · exact .inl (.inl (e.lst _ _ h rfl))
  · exact .inl (.inr ⟨o, e.lst _ _ h rfl⟩)
  · exact .inr h
theorem Ex0.sqK (e : Ex0 m H m' H') {a : Addr} {vs : List V} (h : SqK K H a vs) : SqK K H' a vs := by
  rcases h with h | ⟨h1, h2⟩
  · exact .inl (e.lst _ _ h rfl)
  · exact .inr ⟨h1, e.sqT h2⟩
theorem Ex0.ro (e : Ex0 m H m' H') {a : Addr} {vs : List V} (h : RoL K H a vs) : RoL K H' a vs := by
  rcases h with ⟨o, h⟩ | h
  · exact .inl ⟨o, e.lst _ _ h rfl⟩
  · exact .inr h
mutual
theorem Rep.ext0 (e : Ex0 m H m' H') : ∀ (d : D) (v : V), Rep K H m d v → Rep K H' m' d v
  | .non, _, h => h
  | .bl _, _, h => h
  | .int _, _, h => h
  | .str _, _, h => h
  | .ty _, _, h => h
  | .ref _, _, ⟨a, h1, h2⟩ => ⟨a, e.pre _ _ h1, h2⟩
  | .tup ds, _, ⟨a, vs, h1, h2, h3⟩ => ⟨a, vs, h1, e.sqK h2, Reps.ext0 e ds vs h3⟩
  | .rol ds, _, ⟨a, vs, h1, h2, h3⟩ => ⟨a, vs, h1, e.ro h2, Reps.ext0 e ds vs h3⟩
theorem Reps.ext0 (e : Ex0 m H m' H') : ∀ (ds : List D) (vs : List V), Reps K H m ds vs → Reps K H' m' ds vs
  | [], _, h => h
  | d :: ds, _, ⟨v, r, h1, h2, h3⟩ => ⟨v, r, h1, Rep.ext0 e d v h2, Reps.ext0 e ds r h3⟩
end
theorem Ext.ex0 (e : Ext m H m' H') : Ex0 m H m' H' := ⟨e.pre, e.lst⟩
end
end DL
set_option Elab.async false
set_option linter.all false
set_option maxRecDepth 100000
set_option maxHeartbeats 4000000
/-! DL2: the parts as rules of the layer: tests, calls, displays, blocks, loops, comprehensions. -/
namespace DL
open PySem PySem.Spec
open L2 (V Hp HO St TE TT TA TS TG TI TO PE PT PW PA PS PSs PG PI PO Cx Inv RelV Vals SqL SqT Rd upd upd_same upd_ne ne_of ne_of_none OpR UnR CallR MtR IxR SlR It thn)

/-! ### from a part to the layer's reading -/
abbrev Kont (K : PySem.W.Frag) (m : List Addr) (H : Hp) (R : D → Sto → Prop) (Q : V → Hp → Prop) : Prop :=
  ∀ v d H' S' m', Ext m H m' H' → RepS K H' m' S' → Rep K H' m' d v → R d S' → Q v H'
def teOf (K : PySem.W.Frag) (w : WE) : TE := fun σ H Q => ∃ ρ S m R, RepE K H m ρ σ ∧ RepS K H m S ∧ w ρ S R ∧ Kont K m H R Q
def ttOf (K : PySem.W.Frag) (w : WT) : TT := fun σ H Q => ∃ ρ S m R, RepE K H m ρ σ ∧ RepS K H m S ∧ w ρ S R ∧ ∀ b H' S' m', Ext m H m' H' → RepS K H' m' S' → R b S' → Q b H'
def taOf (K : PySem.W.Frag) (w : WA) : TA := fun σ H Q => ∃ ρ S m R, RepE K H m ρ σ ∧ RepS K H m S ∧ w ρ S R ∧ ∀ vs ds H' S' m', Ext m H m' H' → RepS K H' m' S' → Reps K H' m' ds vs → R ds S' → Q vs H'
def toOf (K : PySem.W.Frag) (w : WP) : TO := fun σ H Q => ∃ ρ S m R, RepE K H m ρ σ ∧ RepS K H m S ∧ w ρ S R ∧ ∀ b H' S' m', Ext m H m' H' → RepS K H' m' S' → R b S' → Q b H'
/-- slots but those at vs as they were -/
def tgOf (K : PySem.W.Frag) (vs : List Nat) (g : WG) : TG := fun v σ H Q => ∃ d ρ S m R, RepE K H m ρ σ ∧ RepS K H m S ∧ Rep K H m d v ∧ g d ρ S R ∧
  ∀ σ' ρ' S' m' H', L2.wipe σ' vs = L2.wipe σ vs → Ext m H m' H' → RepS K H' m' S' → RepE K H' m' ρ' σ' → R ρ' S' → Q σ' H'
def tsOf (K : PySem.W.Frag) (w : WS) : TS := fun D σ H => ∃ ρ S m E, RepE K H m ρ σ ∧ RepS K H m S ∧ w E ρ S ∧
  (∀ σ' ρ' H' S' m', Ext m H m' H' → RepS K H' m' S' → RepE K H' m' ρ' σ' → E.nx ρ' S' → D.nx σ' H') ∧ Kont K m H E.rt D.rt ∧
  (∀ σ' ρ' H' S' m', Ext m H m' H' → RepS K H' m' S' → RepE K H' m' ρ' σ' → E.bk ρ' S' → D.bk σ' H') ∧
  (∀ σ' ρ' H' S' m', Ext m H m' H' → RepS K H' m' S' → RepE K H' m' ρ' σ' → E.ct ρ' S' → D.ct σ' H')
/-- the items that an iterator yields -/
def Yields (K : PySem.W.Frag) (J : It) (items : List D) (guard : Sto → Prop) (m0 : List Addr) (H0 : Hp) : Prop :=
  ∀ m H S, Ex0 m0 H0 m H → RepS K H m S → guard S → (∀ (i : Nat) (d : D), items[i]? = some d → J.go i H ∧ ∀ x H', J.yld i H x H' → ∃ m', Ext m H m' H' ∧ RepS K H' m' S ∧ Rep K H' m' d x) ∧ (∀ i : Nat, items.length ≤ i → J.stop i H)
def tiOf (K : PySem.W.Frag) (w : WI) : TI := fun σ H R => ∃ ρ S m Rd, RepE K H m ρ σ ∧ RepS K H m S ∧ w ρ S Rd ∧
  ∀ J items guard S' m' H', Ext m H m' H' → RepS K H' m' S' → Yields K J items guard m' H' → Rd items guard S' → R J H'
def r2Of (K : PySem.W.Frag) (r : R2) : L2.R2 := fun x y H Q => ∃ m S dx dy R, RepS K H m S ∧ Rep K H m dx x ∧ Rep K H m dy y ∧ r dx dy S R ∧ Kont K m H R Q
def r1Of (K : PySem.W.Frag) (r : R1) : V → Hp → L2.VK → Prop := fun x H Q => ∃ m S dx R, RepS K H m S ∧ Rep K H m dx x ∧ r dx S R ∧ Kont K m H R Q
def rlOf (K : PySem.W.Frag) (r : RL) : List V → Hp → L2.VK → Prop := fun xs H Q => ∃ m S ds R, RepS K H m S ∧ Reps K H m ds xs ∧ r ds S R ∧ Kont K m H R Q
def rmOf (K : PySem.W.Frag) (r : RM) : V → List V → Hp → L2.VK → Prop := fun x xs H Q => ∃ m S dx ds R, RepS K H m S ∧ Rep K H m dx x ∧ Reps K H m ds xs ∧ r dx ds S R ∧ Kont K m H R Q
def rsOf (K : PySem.W.Frag) (r : D → Option Int → Option Int → Sto → VK → Prop) : V → Option Int → Option Int → Hp → L2.VK → Prop := fun x lo hi H Q => ∃ m S dx R, RepS K H m S ∧ Rep K H m dx x ∧ r dx lo hi S R ∧ Kont K m H R Q
/-- a def's promise -/
def spOf (K : PySem.W.Frag) (n : Nat) (sp : Spc) : L2.Sp := fun vs H Q _ => ∃ m S ds R, RepS K H m S ∧ Reps K H m ds vs ∧ ds.length = n ∧ sp ds S R ∧ Kont K m H R Q

theorem Kont.ext {K : PySem.W.Frag} {m m1 : List Addr} {H H1 : Hp} {R : D → Sto → Prop} {Q : V → Hp → Prop} (k : Kont K m H R Q) (e : Ext m H m1 H1) : Kont K m1 H1 R Q :=
  fun v d H' S' m' e' s r q => k v d H' S' m' (e.trans e') s r q

section
variable {X : Cx} {e : Expr} {es : List Expr} {a b c : Expr} {pos : Pos}
theorem peI {t t' : TE} (h : PE X e t) (hi : ∀ σ H Q, t' σ H Q → t σ H Q) : PE X e t' := ⟨fun pins s σ H Q I q => h.run pins s σ H Q I (hi _ _ _ q)⟩
theorem ptI {t t' : TT} (h : PT X e t) (hi : ∀ σ H Q, t' σ H Q → t σ H Q) : PT X e t' := ⟨fun pins s σ H Q I q => h.run pins s σ H Q I (hi _ _ _ q)⟩
theorem pwI {t t' : TT} (h : PW X e t) (hi : ∀ σ H Q, t' σ H Q → t σ H Q) : PW X e t' := ⟨fun wh pins s σ H Q I q => h.run wh pins s σ H Q I (hi _ _ _ q)⟩
theorem paI {t t' : TA} (h : PA X es t) (hi : ∀ σ H Q, t' σ H Q → t σ H Q) : PA X es t' := ⟨fun p pins s σ H Q I q => h.run p pins s σ H Q I (hi _ _ _ q)⟩
theorem psI {st : Stmt} {t t' : TS} (h : PS X st t) (hi : ∀ D σ H, t' D σ H → t D σ H) : PS X st t' := ⟨fun pins s σ H D I q => h.run pins s σ H D I (hi _ _ _ q)⟩
theorem pssI {st : List Stmt} {t t' : TS} (h : PSs X st t) (hi : ∀ D σ H, t' D σ H → t D σ H) : PSs X st t' := ⟨fun pins s σ H D I q => h.run pins s σ H D I (hi _ _ _ q)⟩
theorem pgI {tg : Expr} {t t' : TG} (h : PG X tg t) (hi : ∀ v σ H Q, t' v σ H Q → t v σ H Q) : PG X tg t' := ⟨fun pins s σ H v u Q I r q => h.run pins s σ H v u Q I r (hi _ _ _ _ q)⟩
theorem piI {tg it : Expr} {t t' : TI} (h : PI X tg it t) (hi : ∀ σ H Q, t' σ H Q → t σ H Q) : PI X tg it t' := ⟨fun pins s σ H R I q => h.run pins s σ H R I (hi _ _ _ q)⟩

variable {wa wb wc : WE}
/-- the first part's end, the second part begun -/
theorem and2 {K : PySem.W.Frag} {σ : St} {H : Hp} {ρ : Env} {S : Sto} {m : List Addr} {R : D → D → Sto → Prop} {T : V → V → Hp → Prop} (hE : RepE K H m ρ σ) (hS : RepS K H m S)
    (h : wa ρ S fun x S1 => wb ρ S1 fun y S2 => R x y S2)
    (k : ∀ m2 H2 S2 v u x y, Ext m H m2 H2 → RepS K H2 m2 S2 → Rep K H2 m2 x v → Rep K H2 m2 y u → R x y S2 → T v u H2) :
    teOf K wa σ H fun v H1 => teOf K wb σ H1 fun u H2 => T v u H2 :=
  ⟨ρ, S, m, _, hE, hS, h, fun v x H1 S1 m1 e1 s1 r1 q1 => ⟨ρ, S1, m1, _, hE.ext e1, s1, q1, fun u y H2 S2 m2 e2 s2 r2 q2 => k m2 H2 S2 v u x y (e1.trans e2) s2 (Rep.ext e2 _ _ r1) r2 q2⟩⟩

/-! ### names, constants -/
theorem d_var (i : Nat) {x : Str} (hN : X.N[i]? = some x := by rfl) (hv : L2.Vis X.env.scope x := by first | exact Or.inl rfl | exact Or.inr (Or.inl rfl) | exact Or.inr (Or.inr rfl)) (hd : (x == ("__debug__" : Str)) = false := by decide)
    (hcd : (x == ("__classdict__" : Str)) = false := by decide) : PE X (.Name x pos) (teOf X.K (wVar i)) := peI (L2.pe_var (i := i) hN hv hd hcd) fun σ H Q ⟨ρ, S, m, R, hE, hS, h, k⟩ => by
  unfold wVar at h
  cases e : lk ρ i with
  | none => rw [e] at h; exact h.elim
  | some d =>
    rw [e] at h
    obtain ⟨v, h1, h2⟩ := hE.get i d e
    exact ⟨v, h1, k v d H S m (Ext.refl _ _) hS h2 h⟩
theorem d_int {i j} : PE X (.Constant (.int i) j pos) (teOf X.K (wC (.int i))) := peI L2.pe_int fun σ H Q ⟨ρ, S, m, R, hE, hS, h, k⟩ => k _ (.int i) H S m (Ext.refl _ _) hS rfl h
theorem d_bl {b j} : PE X (.Constant (.bool b) j pos) (teOf X.K (wC (.bl b))) := peI L2.pe_bl fun σ H Q ⟨ρ, S, m, R, hE, hS, h, k⟩ => k _ (.bl b) H S m (Ext.refl _ _) hS rfl h
theorem d_non {j} : PE X (.Constant .none j pos) (teOf X.K (wC .non)) := peI L2.pe_non fun σ H Q ⟨ρ, S, m, R, hE, hS, h, k⟩ => k _ .non H S m (Ext.refl _ _) hS rfl h
theorem d_str {x j} : PE X (.Constant (.str x) j pos) (teOf X.K (wC (.str x))) := peI L2.pe_str fun σ H Q ⟨ρ, S, m, R, hE, hS, h, k⟩ => k _ (.str x) H S m (Ext.refl _ _) hS rfl h
/-- a built-in type as a value -/
theorem d_ty {x : Str} {n : String} (hg : L2.Gl X x) (hm : X.mg x = none) (hv : bootBuiltins x = some (.type n)) (hn : x ≠ "__name__" := by decide) (hd : (x == ("__debug__" : Str)) = false := by decide) : PE X (.Name x pos) (teOf X.K (wC (.ty n))) :=
  peI (L2.pe_bltn (v := .ty n) hg hm hv rfl hn hd) fun σ H Q ⟨ρ, S, m, R, hE, hS, h, k⟩ => k _ (.ty n) H S m (Ext.refl _ _) hS rfl h
/-- a constant of the module -/
theorem d_glob {x : Str} {v : V} {u : Value} {d : D} (hg : L2.Gl X x) (hm : X.mg x = some u) (r : RelV v u) (hr : ∀ H m, Rep X.K H m d v) (hd : (x == ("__debug__" : Str)) = false := by decide) : PE X (.Name x pos) (teOf X.K (wC d)) :=
  peI (L2.pe_glob hg hm r hd) fun σ H Q ⟨ρ, S, m, R, hE, hS, h, k⟩ => k _ _ H S m (Ext.refl _ _) hS (hr H m) h

/-! ### operators -/
theorem d_op {op : Operator} {r : R2} (ho : OpR X (binaryOp op) (r2Of X.K r)) (ha : PE X a (teOf X.K wa)) (hb : PE X b (teOf X.K wb)) : PE X (.BinOp a op b pos) (teOf X.K (wOp r wa wb)) :=
  peI (L2.pe_op ho ha hb) fun σ H Q ⟨ρ, S, m, R, hE, hS, h, k⟩ => and2 hE hS h fun m2 H2 S2 v u x y e s rx ry q => ⟨m2, S2, x, y, R, s, rx, ry, q, k.ext e⟩
theorem d_un {op : UnaryOp} {r : R1} (ho : UnR X (unaryOp op) (r1Of X.K r)) (ha : PE X a (teOf X.K wa)) : PE X (.UnaryOp op a pos) (teOf X.K (wUn r wa)) :=
  peI (L2.pe_un ho ha) fun σ H Q ⟨ρ, S, m, R, hE, hS, h, k⟩ => ⟨ρ, S, m, _, hE, hS, h, fun v x H1 S1 m1 e1 s1 r1 q1 => ⟨m1, S1, x, R, s1, r1, q1, k.ext e1⟩⟩
theorem d_cmp {op : CmpOp} {r : R2} (ho : OpR X (compareOp op) (r2Of X.K r)) (ha : PE X a (teOf X.K wa)) (hb : PE X b (teOf X.K wb)) (hm : behindInMarks op b = false := by first | exact L2.nobehind _ (by decide) (by decide) | rfl) : PE X (.Compare a [op] [b] pos) (teOf X.K (wOp r wa wb)) :=
  peI (L2.pe_cmpR ho ha hb hm) fun σ H Q ⟨ρ, S, m, R, hE, hS, h, k⟩ => and2 hE hS h fun m2 H2 S2 v u x y e s rx ry q => ⟨m2, S2, x, y, R, s, rx, ry, q, k.ext e⟩
theorem d_ix {r : R2} (ho : IxR X (r2Of X.K r)) (ha : PE X a (teOf X.K wa)) (hb : PE X b (teOf X.K wb)) (hs : L2.PlainIx b := by intro _ _; rfl) : PE X (.Subscript a b pos) (teOf X.K (wOp r wa wb)) :=
  peI (L2.pe_ix ho ha hb hs) fun σ H Q ⟨ρ, S, m, R, hE, hS, h, k⟩ => and2 hE hS h fun m2 H2 S2 v u x y e s rx ry q => ⟨m2, S2, x, y, R, s, rx, ry, q, k.ext e⟩
theorem d_chain {op op' : CmpOp} {r r' : R2} (ho : OpR X (compareOp op) (r2Of X.K r)) (ho' : OpR X (compareOp op') (r2Of X.K r')) (ha : PE X a (teOf X.K wa)) (hb : PE X b (teOf X.K wb)) (hc : PE X c (teOf X.K wc)) (hm : lastMarks [op, op'] [b, c] = false := by rfl) :
    PE X (.Compare a [op, op'] [b, c] pos) (teOf X.K (wChain r r' wa wb wc)) :=
  peI (L2.pe_chain ho ho' ha hb hc (hm := hm)) fun σ H Q ⟨ρ, S, m, R, hE, hS, h, k⟩ => and2 hE hS h fun m2 H2 S2 v u x y e s rx ry q => ⟨m2, S2, x, y, _, s, rx, ry, q, fun z d H3 S3 m3 e3 s3 r3 q3 => by
    cases d with
    | bl kk =>
      refine ⟨kk, r3, ?_⟩
      have q3 : if kk = true then wc ρ S3 fun u S4 => r' y u S4 R else R (.bl false) S3 := q3
      by_cases hk : kk = true
      · rw [if_pos hk] at q3 ⊢
        exact ⟨ρ, S3, m3, _, hE.ext (e.trans e3), s3, q3, fun w d4 H4 S4 m4 e4 s4 r4 q4 => ⟨m4, S4, y, d4, R, s4, Rep.ext (e3.trans e4) _ _ ry, r4, q4, k.ext (e.trans (e3.trans e4))⟩⟩
      · rw [if_neg hk] at q3 ⊢
        exact k _ (.bl false) H3 S3 m3 (e.trans e3) s3 rfl q3
    | _ => exact (show False from q3).elim⟩

/-! ### tests -/
theorem dt_val (h : PE X e (teOf X.K wa)) (he : ∀ whole, isTrue e X.env whole = (do let v ← whole; standAt e.pos; holding [v] (truthy v)) := by intro _; rfl) : PT X e (ttOf X.K (wtVal wa)) :=
  ptI (L2.pt_val h he) fun σ H Q ⟨ρ, S, m, R, hE, hS, h, k⟩ => ⟨ρ, S, m, _, hE, hS, h, fun v d H' S' m' e s r q => by
    cases d with
    | bl b => exact ⟨b, r, k b H' S' m' e s q⟩
    | _ => exact (show False from q).elim⟩
theorem dt_cmp {op : CmpOp} {r : R2} (ho : OpR X (compareOp op) (r2Of X.K r)) (ha : PE X a (teOf X.K wa)) (hb : PE X b (teOf X.K wb)) (hm : behindInMarks op b = false := by first | exact L2.nobehind _ (by decide) (by decide) | rfl) : PT X (.Compare a [op] [b] pos) (ttOf X.K (wtVal (wOp r wa wb))) :=
  ptI (L2.pt_cmpR ho ha hb hm) fun σ H Q ⟨ρ, S, m, R, hE, hS, h, k⟩ => and2 hE hS h fun m2 H2 S2 v u x y e s rx ry q => ⟨m2, S2, x, y, _, s, rx, ry, q, fun z d H3 S3 m3 e3 s3 r3 q3 => by
    cases d with
    | bl kk => exact ⟨kk, r3, k kk H3 S3 m3 (e.trans e3) s3 q3⟩
    | _ => exact (show False from q3).elim⟩
theorem dt_chain {op op' : CmpOp} {r r' : R2} (ho : OpR X (compareOp op) (r2Of X.K r)) (ho' : OpR X (compareOp op') (r2Of X.K r')) (ha : PE X a (teOf X.K wa)) (hb : PE X b (teOf X.K wb)) (hc : PE X c (teOf X.K wc)) (hm : lastMarks [op, op'] [b, c] = false := by rfl) :
    PT X (.Compare a [op, op'] [b, c] pos) (ttOf X.K (wtVal (wChain r r' wa wb wc))) :=
  ptI (L2.pt_chain ho ho' ha hb hc (hm := hm)) fun σ H Q ⟨ρ, S, m, R, hE, hS, h, k⟩ => and2 hE hS h fun m2 H2 S2 v u x y e s rx ry q => ⟨m2, S2, x, y, _, s, rx, ry, q, fun z d H3 S3 m3 e3 s3 r3 q3 => by
    cases d with
    | bl kk =>
      refine ⟨kk, r3, ?_⟩
      have q3 : if kk = true then wc ρ S3 fun u S4 => r' y u S4 _ else _ := q3
      by_cases hk : kk = true
      · rw [if_pos hk] at q3 ⊢
        exact ⟨ρ, S3, m3, _, hE.ext (e.trans e3), s3, q3, fun w d4 H4 S4 m4 e4 s4 r4 q4 => ⟨m4, S4, y, d4, _, s4, Rep.ext (e3.trans e4) _ _ ry, r4, q4, fun v5 d5 H5 S5 m5 e5 s5 r5 q5 => by
          cases d5 with
          | bl k5 => exact ⟨k5, r5, k k5 H5 S5 m5 (e.trans (e3.trans (e4.trans e5))) s5 q5⟩
          | _ => exact (show False from q5).elim⟩⟩
      · rw [if_neg hk] at q3 ⊢
        exact ⟨false, rfl, k false H3 S3 m3 (e.trans e3) s3 q3⟩
    | _ => exact (show False from q3).elim⟩
variable {ta tb : WT} {rest : List Expr}
theorem dt_not (ha : PT X a (ttOf X.K ta)) : PT X (.UnaryOp .Not a pos) (ttOf X.K (wtNot ta)) :=
  ptI (L2.pt_not ha) fun σ H Q ⟨ρ, S, m, R, hE, hS, h, k⟩ => ⟨ρ, S, m, _, hE, hS, h, fun b H' S' m' e s q => k _ H' S' m' e s q⟩
theorem dw_and1 (ha : PT X a (ttOf X.K ta)) : PW X (.BoolOp .And [a] pos) (ttOf X.K ta) := L2.pw_and1 ha
theorem dw_or1 (ha : PT X a (ttOf X.K ta)) : PW X (.BoolOp .Or [a] pos) (ttOf X.K ta) := L2.pw_or1 ha
theorem dw_and (ha : PT X a (ttOf X.K ta)) (hb : PW X (.BoolOp .And (b :: rest) pos) (ttOf X.K tb)) : PW X (.BoolOp .And (a :: b :: rest) pos) (ttOf X.K (wtAnd ta tb)) :=
  pwI (L2.pw_and ha hb) fun σ H Q ⟨ρ, S, m, R, hE, hS, h, k⟩ => ⟨ρ, S, m, _, hE, hS, h, fun b H' S' m' e s q => by
    have q : if b = true then tb ρ S' R else R false S' := q
    show if b = true then ttOf X.K tb σ H' Q else Q false H'
    by_cases hb : b = true
    · rw [if_pos hb] at q ⊢
      exact ⟨ρ, S', m', R, hE.ext e, s, q, fun b2 H2 S2 m2 e2 s2 q2 => k b2 H2 S2 m2 (e.trans e2) s2 q2⟩
    · rw [if_neg hb] at q ⊢
      exact k _ H' S' m' e s q⟩
theorem dw_or (ha : PT X a (ttOf X.K ta)) (hb : PW X (.BoolOp .Or (b :: rest) pos) (ttOf X.K tb)) : PW X (.BoolOp .Or (a :: b :: rest) pos) (ttOf X.K (wtOr ta tb)) :=
  pwI (L2.pw_or ha hb) fun σ H Q ⟨ρ, S, m, R, hE, hS, h, k⟩ => ⟨ρ, S, m, _, hE, hS, h, fun b H' S' m' e s q => by
    have q : if b = true then R true S' else tb ρ S' R := q
    show if b = true then Q true H' else ttOf X.K tb σ H' Q
    by_cases hb : b = true
    · rw [if_pos hb] at q ⊢
      exact k _ H' S' m' e s q
    · rw [if_neg hb] at q ⊢
      exact ⟨ρ, S', m', R, hE.ext e, s, q, fun b2 H2 S2 m2 e2 s2 q2 => k b2 H2 S2 m2 (e.trans e2) s2 q2⟩⟩
/-! as values -/
theorem d_one {op} (h : PE X a (teOf X.K wa)) : PE X (.BoolOp op [a] pos) (teOf X.K wa) := L2.pe_one h
theorem d_and (ha : PE X a (teOf X.K wa)) (hb : PE X (.BoolOp .And (b :: rest) pos) (teOf X.K wb)) : PE X (.BoolOp .And (a :: b :: rest) pos) (teOf X.K (wAnd wa wb)) :=
  peI (L2.pe_and ha hb) fun σ H Q ⟨ρ, S, m, R, hE, hS, h, k⟩ => ⟨ρ, S, m, _, hE, hS, h, fun v d H' S' m' e s r q => by
    cases d with
    | bl c =>
      refine ⟨c, r, ?_⟩
      have q : if c = true then wb ρ S' R else R (.bl false) S' := q
      by_cases hb : c = true
      · rw [if_pos hb] at q ⊢
        exact ⟨ρ, S', m', R, hE.ext e, s, q, k.ext e⟩
      · rw [if_neg hb] at q ⊢
        exact k _ (.bl false) H' S' m' e s rfl q
    | _ => exact (show False from q).elim⟩
theorem d_or (ha : PE X a (teOf X.K wa)) (hb : PE X (.BoolOp .Or (b :: rest) pos) (teOf X.K wb)) : PE X (.BoolOp .Or (a :: b :: rest) pos) (teOf X.K (wOr wa wb)) :=
  peI (L2.pe_or ha hb) fun σ H Q ⟨ρ, S, m, R, hE, hS, h, k⟩ => ⟨ρ, S, m, _, hE, hS, h, fun v d H' S' m' e s r q => by
    cases d with
    | bl c =>
      refine ⟨c, r, ?_⟩
      have q : if c = true then R (.bl true) S' else wb ρ S' R := q
      by_cases hb : c = true
      · rw [if_pos hb] at q ⊢
        exact k _ (.bl true) H' S' m' e s rfl q
      · rw [if_neg hb] at q ⊢
        exact ⟨ρ, S', m', R, hE.ext e, s, q, k.ext e⟩
    | _ => exact (show False from q).elim⟩
theorem d_not (ha : PE X a (teOf X.K wa)) : PE X (.UnaryOp .Not a pos) (teOf X.K (wNot wa)) :=
  peI (L2.pe_not ha) fun σ H Q ⟨ρ, S, m, R, hE, hS, h, k⟩ => ⟨ρ, S, m, _, hE, hS, h, fun v d H' S' m' e s r q => by
    cases d with
    | bl c => exact ⟨c, r, k _ (.bl (!c)) H' S' m' e s rfl q⟩
    | _ => exact (show False from q).elim⟩
theorem d_if (hc : PT X c (ttOf X.K ta)) (ha : PE X a (teOf X.K wa)) (hb : PE X b (teOf X.K wb)) : PE X (.IfExp c a b pos) (teOf X.K (wIf ta wa wb)) :=
  peI (L2.pe_ifExp hc ha hb) fun σ H Q ⟨ρ, S, m, R, hE, hS, h, k⟩ => ⟨ρ, S, m, _, hE, hS, h, fun c H' S' m' e s q => by
    have q : if c = true then wa ρ S' R else wb ρ S' R := q
    show if c = true then teOf X.K wa σ H' Q else teOf X.K wb σ H' Q
    by_cases hb : c = true
    · rw [if_pos hb] at q ⊢
      exact ⟨ρ, S', m', R, hE.ext e, s, q, k.ext e⟩
    · rw [if_neg hb] at q ⊢
      exact ⟨ρ, S', m', R, hE.ext e, s, q, k.ext e⟩⟩

/-! ### displays, calls -/
variable {va : WA}
theorem da_nil : PA X [] (taOf X.K wNil) := paI L2.pa_nil fun σ H Q ⟨ρ, S, m, R, hE, hS, h, k⟩ => k [] [] H S m (Ext.refl _ _) hS rfl h
theorem da_cons (ha : PE X e (teOf X.K wa)) (hr : PA X es (taOf X.K va)) (hs : starEach (e :: es) X.env = (false, eval e X.env) :: starEach es X.env := by rfl) : PA X (e :: es) (taOf X.K (wCons wa va)) :=
  paI (L2.pa_cons ha hr hs) fun σ H Q ⟨ρ, S, m, R, hE, hS, h, k⟩ => ⟨ρ, S, m, _, hE, hS, h, fun v x H1 S1 m1 e1 s1 r1 q1 => ⟨ρ, S1, m1, _, hE.ext e1, s1, q1, fun vs xs H2 S2 m2 e2 s2 r2 q2 =>
    k (v :: vs) (x :: xs) H2 S2 m2 (e1.trans e2) s2 ⟨_, _, rfl, Rep.ext e2 _ _ r1, r2⟩ q2⟩⟩
theorem d_tup {x1} (h : PA X es (taOf X.K va)) : PE X (.Tuple es x1 pos) (teOf X.K (wTup va)) :=
  peI (L2.pe_tup h) fun σ H Q ⟨ρ, S, m, R, hE, hS, h, k⟩ => ⟨ρ, S, m, _, hE, hS, h, fun vs ds H1 S1 m1 e1 s1 r1 ⟨z, q1⟩ => ⟨by rw [r1.len]; exact z, fun p hp =>
    k _ (.tup ds) _ S1 m1 (e1.trans (Ext.fresh hp _)) (s1.fresh hp _) ⟨p, vs, rfl, .inl upd_same, Reps.ext (Ext.fresh hp _) _ _ r1⟩ q1⟩⟩
theorem d_lst (h : PA X es (taOf X.K va)) : PE X (.List es pos) (teOf X.K (wLst va)) :=
  peI (L2.pe_lst h) fun σ H Q ⟨ρ, S, m, R, hE, hS, h, k⟩ => ⟨ρ, S, m, _, hE, hS, h, fun vs ds H1 S1 m1 e1 s1 r1 ⟨z, q1⟩ => ⟨by rw [r1.len]; exact z, fun p hp =>
    k _ (.ref S1.length) _ _ (m1 ++ [p]) (e1.trans (Ext.pushed hp _)) (s1.push hp r1) ⟨p, by rw [← s1.len]; simp, rfl⟩ q1⟩⟩
theorem d_call {n kk : Nat} {f : Addr} {fd : FuncData} {ps : List Str} {sp : Spc} {x : Str} {p : Pos} (F : L2.FnOk X.prog X.w X.K X.mg X.base L2.CX0 kk f fd ps (spOf X.K n sp)) (hr : L2.Room kk X.A) (hg : L2.Gl X x) (hm : X.mg x = some (.ref f))
    (hk : PySem.W.keepIn X.K (.ref f) = true) (hb : L2.Binds X.K fd ps []) (ha : PA X (e :: es) (taOf X.K va)) (hd : (x == ("__debug__" : Str)) = false := by decide)
    (he : starEach (e :: es) X.env = (false, eval e X.env) :: starEach es X.env := by rfl) (hpl : (backTo pos (starEach es X.env)).any (·.1) = false := by rfl) :
    PE X (.Call (.Name x p) (e :: es) [] pos) (teOf X.K (wCall n sp va)) :=
  peI (L2.pe_call (dvs := []) (ds := []) (E := L2.E0) F hr hg hm hk hb .nil L2.pass0 ha hd he hpl) fun σ H Q ⟨ρ, S, m, R, hE, hS, h, k⟩ => ⟨ρ, S, m, _, hE, hS, h, fun vs ds H1 S1 m1 e1 s1 r1 ⟨z, q1⟩ =>
    ⟨m1, S1, ds, R, s1, by rw [List.append_nil]; exact r1, z, q1, k.ext e1⟩⟩
theorem d_callB {id : String} {r : RL} {x : Str} {p : Pos} (hc : CallR X (.builtin id) (rlOf X.K r)) (hg : L2.Gl X x) (hm : X.mg x = none) (hv : bootBuiltins x = some (.builtin id)) (ha : PA X (e :: es) (taOf X.K va)) (hn : x ≠ "__name__" := by decide) (hdb : (x == ("__debug__" : Str)) = false := by decide)
    (he : starEach (e :: es) X.env = (false, eval e X.env) :: starEach es X.env := by rfl) (hpl : (backTo pos (starEach es X.env)).any (·.1) = false := by rfl) : PE X (.Call (.Name x p) (e :: es) [] pos) (teOf X.K (wB r va)) :=
  peI (L2.pe_callB hc hg hm hv ha hn hdb he hpl) fun σ H Q ⟨ρ, S, m, R, hE, hS, h, k⟩ => ⟨ρ, S, m, _, hE, hS, h, fun vs ds H1 S1 m1 e1 s1 r1 q1 => ⟨m1, S1, ds, R, s1, r1, q1, k.ext e1⟩⟩
theorem d_callT {id : String} {r : RL} {x : Str} {p : Pos} (hc : CallR X (.type id) (rlOf X.K r)) (hg : L2.Gl X x) (hm : X.mg x = none) (hv : bootBuiltins x = some (.type id)) (ha : PA X (e :: es) (taOf X.K va)) (hn : x ≠ "__name__" := by decide) (hdb : (x == ("__debug__" : Str)) = false := by decide)
    (he : starEach (e :: es) X.env = (false, eval e X.env) :: starEach es X.env := by rfl) (hpl : (backTo pos (starEach es X.env)).any (·.1) = false := by rfl) : PE X (.Call (.Name x p) (e :: es) [] pos) (teOf X.K (wB r va)) :=
  peI (L2.pe_callTy hc hg hm hv ha hn hdb he hpl) fun σ H Q ⟨ρ, S, m, R, hE, hS, h, k⟩ => ⟨ρ, S, m, _, hE, hS, h, fun vs ds H1 S1 m1 e1 s1 r1 q1 => ⟨m1, S1, ds, R, s1, r1, q1, k.ext e1⟩⟩
/-- a name of the module that holds a built-in function (math.gcd) -/
theorem d_callF {id : String} {r : RL} {x : Str} {p : Pos} (hc : CallR X (.builtin id) (rlOf X.K r)) (hg : L2.Gl X x) (hm : X.mg x = some (.builtin id)) (ha : PA X (e :: es) (taOf X.K va)) (hdb : (x == ("__debug__" : Str)) = false := by decide)
    (he : starEach (e :: es) X.env = (false, eval e X.env) :: starEach es X.env := by rfl) (hpl : (backTo pos (starEach es X.env)).any (·.1) = false := by rfl) : PE X (.Call (.Name x p) (e :: es) [] pos) (teOf X.K (wB r va)) :=
  peI (L2.pe_callBfun hc hg hm ha hdb he hpl) fun σ H Q ⟨ρ, S, m, R, hE, hS, h, k⟩ => ⟨ρ, S, m, _, hE, hS, h, fun vs ds H1 S1 m1 e1 s1 r1 q1 => ⟨m1, S1, ds, R, s1, r1, q1, k.ext e1⟩⟩
theorem isL_ty {K : PySem.W.Frag} {H : Hp} {m : List Addr} {S : Sto} {x : D} {v : V} (s : RepS K H m S) (r : Rep K H m x v) (h : isL x S) : L2.tyV K "list" v H := by
  cases x with
  | ref n =>
    obtain ⟨xs, h⟩ := h
    obtain ⟨a, vs, h1, h2, h3⟩ := s.lst h
    obtain ⟨b, g1, rfl⟩ := r
    rw [h1] at g1
    cases g1
    exact .inl ⟨rfl, vs, L2.SqL.of h2⟩
  | _ => exact (show False from h).elim
variable {o : Expr} {wo : WE}
theorem d_m {name : Str} {id : String} {r : RM} {apos cpos : Pos} (slot : Slot "list" name id) (hty : typeOf (.builtin id) = pure (.type "method_descriptor")) (hm : MtR X id (rmOf X.K r)) (ho : PE X o (teOf X.K wo)) (ha : PA X (e :: es) (taOf X.K va))
    (hbase : attributeBase o name X.env (eval o X.env) = eval o X.env := by rfl)
    (hfew : ((backTo cpos (starEach (e :: es) X.env)).all (fun x => !x.1) && (backToKw cpos (keywordEach [] X.env)).all (fun x => x.1.isSome)
      && decide ((e :: es).length + ([] : List Keyword).length + (if ([] : List Keyword).isEmpty then 0 else 1) < 30)) = true := by rfl)
    (hline : (apos.endLine == cpos.line) = true := by rfl) (hs : starEach (e :: es) X.env = (false, eval e X.env) :: starEach es X.env := by rfl) (hplain : (backTo cpos (starEach es X.env)).any (·.1) = false := by rfl) :
    PE X (.Call (.Attribute o name apos) (e :: es) [] cpos) (teOf X.K (wM r wo va)) :=
  peI (L2.pe_bm PySem.F.plainAttrs_list slot hty hm ho ha hbase hfew hline hs hplain) fun σ H Q ⟨ρ, S, m, R, hE, hS, h, k⟩ => ⟨ρ, S, m, _, hE, hS, h, fun v x H1 S1 m1 e1 s1 r1 ⟨z, q1⟩ =>
    ⟨isL_ty s1 r1 z, ρ, S1, m1, _, hE.ext e1, s1, q1, fun vs ds H2 S2 m2 e2 s2 r2 q2 => ⟨m2, S2, x, ds, R, s2, Rep.ext e2 _ _ r1, r2, q2, k.ext (e1.trans e2)⟩⟩⟩
theorem d_m0 {name : Str} {id : String} {r : RM} {apos cpos : Pos} (slot : Slot "list" name id) (hty : typeOf (.builtin id) = pure (.type "method_descriptor")) (hm : MtR X id (rmOf X.K r)) (ho : PE X o (teOf X.K wo))
    (hbase : attributeBase o name X.env (eval o X.env) = eval o X.env := by rfl) (hline : (apos.endLine == cpos.line) = true := by rfl) :
    PE X (.Call (.Attribute o name apos) [] [] cpos) (teOf X.K (wM0 r wo)) :=
  peI (L2.pe_bm0 PySem.F.plainAttrs_list slot hty hm ho hbase hline) fun σ H Q ⟨ρ, S, m, R, hE, hS, h, k⟩ => ⟨ρ, S, m, _, hE, hS, h, fun v x H1 S1 m1 e1 s1 r1 ⟨z, q1⟩ =>
    ⟨isL_ty s1 r1 z, m1, S1, x, [], R, s1, r1, rfl, q1, k.ext e1⟩⟩
/-! slices -/
theorem dp_no : PO X none (toOf X.K wPNo) := ⟨fun pins s σ H Q I ⟨ρ, S, m, R, hE, hS, h, k⟩ => L2.po_none.run pins s σ H Q I (k none H S m (Ext.refl _ _) hS h)⟩
theorem dp_at (h : PE X e (teOf X.K wa)) : PO X (some e) (toOf X.K (wPAt wa)) := ⟨fun pins s σ H Q I ⟨ρ, S, m, R, hE, hS, hw, k⟩ => (L2.po_some h).run pins s σ H Q I ⟨ρ, S, m, _, hE, hS, hw, fun v d H1 S1 m1 e1 s1 r1 q1 => by
    cases d with
    | int i => exact ⟨i, r1, k _ H1 S1 m1 e1 s1 q1⟩
    | _ => exact (show False from q1).elim⟩⟩
theorem d_sl {r : D → Option Int → Option Int → Sto → VK → Prop} {lo hi : Option Expr} {wl wh : WP} {p2 : Pos} (hr : SlR X (rsOf X.K r)) (ho : PE X o (teOf X.K wo)) (hl : PO X lo (toOf X.K wl)) (hh : PO X hi (toOf X.K wh)) :
    PE X (.Subscript o (.Slice lo hi none p2) pos) (teOf X.K (wSl r wo wl wh)) :=
  peI (L2.pe_slice hr ho hl hh) fun σ H Q ⟨ρ, S, m, R, hE, hS, h, k⟩ => ⟨ρ, S, m, _, hE, hS, h, fun v x H1 S1 m1 e1 s1 r1 q1 => ⟨ρ, S1, m1, _, hE.ext e1, s1, q1, fun i H2 S2 m2 e2 s2 q2 => ⟨ρ, S2, m2, _, hE.ext (e1.trans e2), s2, q2, fun j H3 S3 m3 e3 s3 q3 =>
    ⟨m3, S3, x, R, s3, Rep.ext (e2.trans e3) _ _ r1, q3, k.ext (e1.trans (e2.trans e3))⟩⟩⟩⟩
end
end DL
set_option Elab.async false
set_option linter.all false
set_option maxRecDepth 100000
set_option maxHeartbeats 4000000
/-! DL3: what is walked, targets, statements, loops, comprehensions, defs. -/
namespace DL
open PySem PySem.Spec
open L2 (V Hp HO St TE TT TA TS TG TI TO PE PT PW PA PS PSs PG PI PO Cx Inv RelV Vals SqL SqT Rd upd upd_same upd_ne ne_of ne_of_none OpR UnR CallR MtR IxR SlR It thn)

/-! ### what is walked -/
theorem yields_list {K : PySem.W.Frag} {m : List Addr} {H : Hp} {S : Sto} {n : Nat} {a : Addr} {xs : List D} (ha : m[n]? = some a) : Yields K (L2.Itl K a) xs (fun S' => S'[n]? = some (.lst xs)) m H := by
  intro m1 H1 S1 e s g
  obtain ⟨b, vs, h1, h2, h3⟩ := s.lst g
  have hb := e.pre n a ha
  rw [h1] at hb
  cases hb
  refine ⟨fun i d hd => ?_, fun i hi => ⟨vs, SqL.of h2, by rw [h3.len]; exact hi⟩⟩
  obtain ⟨v, g1, g2⟩ := h3.get i d hd
  exact ⟨⟨vs, v, SqL.of h2, g1⟩, fun x H' ⟨q1, q2⟩ => by
    subst q1
    have ex := q2 vs (SqL.of h2)
    rw [g1] at ex
    cases ex
    exact ⟨m1, Ext.refl _ _, s, g2⟩⟩
theorem yields_tup {K : PySem.W.Frag} {m : List Addr} {H : Hp} {a : Addr} {xs : List D} {vs : List V} (hT : SqT K H a vs) (r : Reps K H m xs vs) : Yields K (L2.Itt K a) xs (fun _ => True) m H := by
  intro m1 H1 S1 e s g
  have h3 := Reps.ext0 e _ _ r
  refine ⟨fun i d hd => ?_, fun i hi => ⟨vs, e.sqT hT, by rw [h3.len]; exact hi⟩⟩
  obtain ⟨v, g1, g2⟩ := h3.get i d hd
  exact ⟨⟨vs, v, e.sqT hT, g1⟩, fun x H' ⟨q1, q2⟩ => by
    subst q1
    have ex := q2 vs (e.sqT hT)
    rw [g1] at ex
    cases ex
    exact ⟨m1, Ext.refl _ _, s, g2⟩⟩
theorem yields_rol {K : PySem.W.Frag} {m : List Addr} {H : Hp} {a : Addr} {xs : List D} {vs : List V} (hT : RoL K H a vs) (r : Reps K H m xs vs) : Yields K (L2.Itl K a) xs (fun _ => True) m H := by
  intro m1 H1 S1 e s g
  have h3 := Reps.ext0 e _ _ r
  refine ⟨fun i d hd => ?_, fun i hi => ⟨vs, (e.ro hT).seq, by rw [h3.len]; exact hi⟩⟩
  obtain ⟨v, g1, g2⟩ := h3.get i d hd
  exact ⟨⟨vs, v, (e.ro hT).seq, g1⟩, fun x H' ⟨q1, q2⟩ => by
    subst q1
    have ex := q2 vs (e.ro hT).seq
    rw [g1] at ex
    cases ex
    exact ⟨m1, Ext.refl _ _, s, g2⟩⟩
theorem rangeD_getM {lo hi : Int} {i : Nat} {d : D} (h : (rangeD lo hi)[i]? = some d) : i < (hi - lo).toNat ∧ d = .int (lo + i) := by
  unfold rangeD at h
  rw [List.getElem?_map] at h
  by_cases hi : i < (hi - lo).toNat
  · rw [List.getElem?_range hi] at h
    exact ⟨hi, (Option.some.inj h).symm⟩
  · rw [List.getElem?_eq_none (by simpa using hi)] at h
    cases h
theorem rangeD_lenM (lo hi : Int) : (rangeD lo hi).length = (hi - lo).toNat := by simp [rangeD]
theorem yields_rng {K : PySem.W.Frag} {m : List Addr} {H : Hp} {lo hi : Int} : Yields K (L2.Itr lo (hi - lo).toNat) (rangeD lo hi) (fun _ => True) m H := by
  intro m1 H1 S1 e s g
  refine ⟨fun i d hd => ?_, fun i hi => by rw [rangeD_lenM] at hi; exact hi⟩
  obtain ⟨h1, h2⟩ := rangeD_getM hd
  exact ⟨h1, fun x H' ⟨q1, q2⟩ => ⟨m1, by rw [q1]; exact Ext.refl _ _, by rw [q1]; exact s, by rw [q2, h2]; rfl⟩⟩
section
variable {X : Cx} {tg : Expr} {wa wb : WE} {a b : Expr} {p pos : Pos}
theorem di_it {l : Expr} (hl : PE X l (teOf X.K wa)) : PI X tg l (tiOf X.K (wIt wa)) := by
  refine ⟨fun pins s σ H R I ⟨ρ, S, m, Rd, hE, hS, hw, k⟩ => ?_⟩
  refine thn (hl.run pins s σ H (fun v H1 => ∃ d S1 m1, Ext m H m1 H1 ∧ RepS X.K H1 m1 S1 ∧ Rep X.K H1 m1 d v ∧ (match d with
    | .tup xs => Rd xs (fun _ => True) S1
    | .rol xs => Rd xs (fun _ => True) S1
    | .ref n => match S1[n]? with
      | some (.lst xs) => Rd xs (fun S' => S'[n]? = some (.lst xs)) S1
      | _ => False
    | _ => False)) I ⟨ρ, S, m, _, hE, hS, hw, fun v d H1 S1 m1 e1 s1 r1 q1 => ⟨d, S1, m1, e1, s1, r1, q1⟩⟩) fun u s1 ⟨v, H1, I1, ru, d, S1, m1, e1, hs, rd, q⟩ => ?_
  have new : ∀ b ∈ [s1.heap.objs.size], L2.FpOk X pins H1 b := fun b hb => by
    rw [List.mem_singleton.mp hb]
    exact I1.fpOk (Nat.le_refl _) (I1.hok.fresh (Nat.le_refl _))
  cases d with
  | tup xs =>
    obtain ⟨a, vs, rfl, hT, rs⟩ := rd
    cases ru
    obtain ⟨its, rv, pt, _⟩ := I1.tuple hT.sqT
    refine wpAny_pyIter_tuple (show s1.heap.IsTuple a its.toArray from pt) ?_
    exact ⟨_, [s1.heap.objs.size], _, _, H1, rfl, I1.kept (t' := s1.toks) fun _ _ e => Heap.get?_push_of_some _ e, L2.turn_tuple a _, ⟨_, Heap.get?_push_size _ rfl, rfl, rfl⟩, new, k _ _ _ _ _ _ e1 hs (yields_tup hT.sqT rs) q⟩
  | rol xs =>
    obtain ⟨a, vs, rfl, hT, rs⟩ := rd
    cases ru
    obtain ⟨its, rv, pl, _⟩ := I1.list hT.seq
    refine wpAny_pyIter_list pl.isList ?_
    exact ⟨_, [s1.heap.objs.size], _, _, H1, rfl, I1.kept (t' := s1.toks) fun _ _ e => Heap.get?_push_of_some _ e, L2.turn_list a _, ⟨_, Heap.get?_push_size _ rfl, rfl, rfl⟩, new, k _ _ _ _ _ _ e1 hs (yields_rol hT rs) q⟩
  | ref n =>
    obtain ⟨a, ha, rfl⟩ := rd
    have q : (match S1[n]? with
      | some (.lst xs) => Rd xs (fun S' => S'[n]? = some (.lst xs)) S1
      | _ => False) := q
    split at q
    · rename_i xs hx
      obtain ⟨b, vs, h1, h2, h3⟩ := hs.lst hx
      rw [ha] at h1
      cases h1
      cases ru
      obtain ⟨its, rv, pl, _⟩ := I1.list (SqL.of h2)
      refine wpAny_pyIter_list pl.isList ?_
      exact ⟨_, [s1.heap.objs.size], _, _, H1, rfl, I1.kept (t' := s1.toks) fun _ _ e => Heap.get?_push_of_some _ e, L2.turn_list a _, ⟨_, Heap.get?_push_size _ rfl, rfl, rfl⟩, new, k _ _ _ _ _ _ e1 hs (yields_list (S := S1) ha) q⟩
    · exact q.elim
  | _ => exact (show False from q).elim
theorem di_r1 (hg : L2.Gl X "range") (hm : X.mg "range" = none) (ha : PE X a (teOf X.K wa)) (h1 : starEach [a] X.env = [(false, eval a X.env)] := by rfl) : PI X tg (.Call (.Name "range" p) [a] [] pos) (tiOf X.K (wR1 wa)) :=
  piI (L2.pi_range1 hg hm (da_cons ha da_nil h1) h1) fun σ H Q ⟨ρ, S, m, R, hE, hS, h, k⟩ => ⟨ρ, S, m, fun ds S1 => match ds with
    | [.int j] => smallI j ∧ R (rangeD 0 j) (fun _ => True) S1
    | _ => False, hE, hS, (by
      show wa ρ S _
      refine cast (congrArg (wa ρ S) ?_) h
      funext x S1
      cases x <;> rfl), fun vs ds H' S' m' e s r q => by
      match ds, q, r with
      | [.int j], ⟨⟨q1, q2⟩, q3⟩, ⟨v, r', hv, rv, rn⟩ =>
        rw [show r' = [] from rn] at hv
        refine ⟨j, by rw [hv, show v = V.int j from rv], q1, q2, ?_⟩
        have y := yields_rng (K := X.K) (m := m') (H := H') (lo := 0) (hi := j)
        rw [show j - 0 = j by omega] at y
        exact k _ _ _ _ _ _ e s y q3⟩
theorem di_r2 (hg : L2.Gl X "range") (hm : X.mg "range" = none) (ha : PE X a (teOf X.K wa)) (hb : PE X b (teOf X.K wb)) (h1 : starEach [a, b] X.env = [(false, eval a X.env), (false, eval b X.env)] := by rfl) (h2 : starEach [b] X.env = [(false, eval b X.env)] := by rfl) : PI X tg (.Call (.Name "range" p) [a, b] [] pos) (tiOf X.K (wR2 wa wb)) :=
  piI (L2.pi_range2 hg hm (da_cons ha (da_cons hb da_nil h2) (by rw [h1, h2])) h1 h2) fun σ H Q ⟨ρ, S, m, R, hE, hS, h, k⟩ => ⟨ρ, S, m, fun ds S1 => match ds with
    | [.int i, .int j] => smallI i ∧ smallI j ∧ R (rangeD i j) (fun _ => True) S1
    | _ => False, hE, hS, (by
      show wa ρ S _
      refine cast (congrArg (wa ρ S) ?_) h
      funext x S1
      show wb ρ S1 _ = wb ρ S1 _
      refine congrArg (wb ρ S1) ?_
      funext y S2
      cases x <;> cases y <;> rfl), fun vs ds H' S' m' e s r q => by
      match ds, q, r with
      | [.int i, .int j], ⟨⟨q1, q2⟩, ⟨q3, q4⟩, q5⟩, ⟨v, r', hv, rv, ⟨v2, r2, hv2, rv2, rn⟩⟩ =>
        rw [show r2 = [] from rn] at hv2
        rw [hv2] at hv
        exact ⟨i, j, by rw [hv, show v = V.int i from rv, show v2 = V.int j from rv2], ⟨q1, q2, q3, q4⟩, k _ _ _ _ _ _ e s yields_rng q5⟩⟩

/-! ### targets -/
theorem wipe_get (σ : St) : ∀ (vs : List Nat) (j : Nat), (L2.wipe σ vs)[j]? = if j ∈ vs then (if j < σ.length then some none else none) else σ[j]?
  | [], j => by simp [L2.wipe]
  | v :: vs, j => by
    unfold L2.wipe
    by_cases h : j = v
    · subst h
      rw [List.getElem?_set]
      simp [L2.wipe_length]
    · rw [List.getElem?_set_ne (Ne.symm h), wipe_get σ vs j]
      simp [h]
theorem wipe_set {σ : St} {i : Nat} {x : Option V} {vs : List Nat} (h : i ∈ vs) : L2.wipe (σ.set i x) vs = L2.wipe σ vs := by
  apply List.ext_getElem?
  intro j
  rw [wipe_get, wipe_get, List.length_set]
  by_cases hj : j ∈ vs
  · rw [if_pos hj, if_pos hj]
  · rw [if_neg hj, if_neg hj, List.getElem?_set_ne]
    intro z
    exact hj (z ▸ h)
theorem RepE.wipe {K : PySem.W.Frag} {H : Hp} {m : List Addr} {ρ : Env} {σ : St} (r : RepE K H m ρ σ) : ∀ vs : List Nat, RepE K H m (wipe ρ vs) (L2.wipe σ vs)
  | [] => r
  | v :: vs => (RepE.wipe r vs).drop1 v
theorem dg_name (i : Nat) {x : Str} (hN : X.N.Nodup) (hi : X.N[i]? = some x := by rfl) (hx : L2.Loc X.env.scope x := by first | exact Or.inl rfl | exact Or.inr rfl) (hf : X.fn x = true ∨ X.env.scope.names.lookup x = some .local := by first | exact .inl rfl | exact .inr rfl | assumption) : PG X (.Name x pos) (tgOf X.K [i] (gN i)) :=
  pgI (L2.pg_name hN hi hx hf) fun v σ H Q ⟨d, ρ, S, m, R, hE, hS, r, h, k⟩ => k _ _ _ _ _ (wipe_set (List.mem_singleton.mpr rfl)) (Ext.refl _ _) hS (hE.set r i) h
/-- several names -/
inductive Gs (X : Cx) : List Expr → List Nat → Prop where
  | nil : Gs X [] []
  | cons {e : Expr} {es : List Expr} {i : Nat} {is : List Nat} : PG X e (L2.gName i) → (assignEach (e :: es) X.env).map (·.2) = assign e X.env :: (assignEach es X.env).map (·.2) → Gs X es is → Gs X (e :: es) (i :: is)
theorem dgs_one (i : Nat) {x : Str} {es : List Expr} {is : List Nat} (hN : X.N.Nodup) (r : Gs X es is) (hi : X.N[i]? = some x := by rfl) (hx : L2.Loc X.env.scope x := by first | exact Or.inl rfl | exact Or.inr rfl) (hf : X.fn x = true ∨ X.env.scope.names.lookup x = some .local := by first | exact .inl rfl | exact .inr rfl | assumption)
    (hs : (assignEach (.Name x pos :: es) X.env).map (·.2) = assign (.Name x pos) X.env :: (assignEach es X.env).map (·.2) := by rfl) : Gs X (.Name x pos :: es) (i :: is) := .cons (L2.pg_name hN hi hx hf) hs r
/-- the layer's reading of several names -/
def tgs : List Nat → L2.TGs
  | [] => L2.gNil
  | i :: is => L2.gCons (L2.gName i) (tgs is)
theorem pgs_of {es : List Expr} {is : List Nat} (g : Gs X es is) : L2.PGs X es (tgs is) := by
  induction g with
  | nil => exact L2.pgs_nil
  | cons h hs _ ih => exact L2.pgs_cons h ih hs
theorem tgs_run {K : PySem.W.Frag} {H : Hp} {m : List Addr} {vs0 : List Nat} : ∀ (is : List Nat) (ds : List D) (vs : List V) (ρ ρ' : Env) (σ : St) (Q : St → Hp → Prop), Reps K H m ds vs → RepE K H m ρ σ → gNs is ds ρ = some ρ' → (∀ i ∈ is, i ∈ vs0) →
    (∀ σ', L2.wipe σ' vs0 = L2.wipe σ vs0 → RepE K H m ρ' σ' → Q σ' H) → tgs is vs σ H Q
  | [], [], vs, ρ, ρ', σ, Q, r, hE, h, _, k => by
    have h : some ρ = some ρ' := h
    cases h
    exact ⟨r, k σ rfl hE⟩
  | i :: is, d :: ds, vs, ρ, ρ', σ, Q, ⟨v, rr, hv, r1, r2⟩, hE, h, hi, k =>
    ⟨v, rr, hv, tgs_run is ds rr (up ρ i (some d)) ρ' (σ.set i (some v)) Q r2 (hE.set r1 i) h (fun j hj => hi j (List.mem_cons_of_mem _ hj)) fun σ' w e => k σ' (by rw [w, wipe_set (hi i List.mem_cons_self)]) e⟩
  | [], d :: ds, _, _, _, _, _, _, _, h, _, _ => by cases (show (none : Option Env) = some _ from h)
  | i :: is, [], _, _, _, _, _, _, _, h, _, _ => by cases (show (none : Option Env) = some _ from h)
theorem gNs_len : ∀ (is : List Nat) (ds : List D) (ρ ρ' : Env), gNs is ds ρ = some ρ' → ds.length = is.length
  | [], [], _, _, _ => rfl
  | _ :: is, _ :: ds, ρ, ρ', h => by rw [List.length_cons, List.length_cons, gNs_len is ds _ ρ' h]
  | [], _ :: _, _, _, h => by cases (show (none : Option Env) = some _ from h)
  | _ :: _, [], _, _, h => by cases (show (none : Option Env) = some _ from h)
theorem dg_tup {es : List Expr} {k : Nat} {is : List Nat} (hc : X.calm = true) (g : Gs X es is) (hn : (assignEach es X.env).length = is.length := by rfl) (hst : (assignEach es X.env).findIdx? (·.1) = none := by rfl) : PG X (.Tuple es k pos) (tgOf X.K is (gT is)) :=
  pgI (L2.pg_tup hc (pgs_of g) hn hst) fun v σ H Q ⟨d, ρ, S, m, R, hE, hS, r, h, kk⟩ => by
    cases d with
    | tup ds =>
      obtain ⟨a, vs, rfl, hT, rs⟩ := r
      have h : (match gNs is ds ρ with
        | some ρ' => R ρ' S
        | none => False) := h
      split at h
      · rename_i ρ' hg
        exact ⟨a, vs, rfl, hT.sqT, by rw [rs.len, gNs_len _ _ _ _ hg], tgs_run is ds vs ρ ρ' σ Q rs hE hg (fun _ h => h) fun σ' w e => kk σ' ρ' S m H w (Ext.refl _ _) hS e h⟩
      · exact h.elim
    | _ => exact (show False from h).elim

/-! ### statements -/
variable {e : Expr} {st : Stmt} {rest : List Stmt} {ws wu : WS}
theorem dss_nil : PSs X [] (tsOf X.K sNext) := pssI L2.pss_nil fun D σ H ⟨ρ, S, m, E, hE, hS, h, k, _⟩ => k σ ρ H S m (Ext.refl _ _) hS hE h
theorem dss_cons (h1 : PS X st (tsOf X.K ws)) (h2 : PSs X rest (tsOf X.K wu)) : PSs X (st :: rest) (tsOf X.K (sSeq ws wu)) :=
  pssI (L2.pss_cons h1 h2) fun D σ H ⟨ρ, S, m, E, hE, hS, h, k1, k2, k3, k4⟩ => ⟨ρ, S, m, { E with nx := wu E }, hE, hS, h, fun σ' ρ' H' S' m' e s r q =>
    ⟨ρ', S', m', E, r, s, q, fun σ2 ρ2 H2 S2 m2 e2 s2 r2 q2 => k1 σ2 ρ2 H2 S2 m2 (e.trans e2) s2 r2 q2, k2.ext e, fun σ2 ρ2 H2 S2 m2 e2 s2 r2 q2 => k3 σ2 ρ2 H2 S2 m2 (e.trans e2) s2 r2 q2, fun σ2 ρ2 H2 S2 m2 e2 s2 r2 q2 => k4 σ2 ρ2 H2 S2 m2 (e.trans e2) s2 r2 q2⟩, k2, k3, k4⟩
theorem dss_one (h1 : PS X st (tsOf X.K ws)) : PSs X [st] (tsOf X.K ws) := L2.pss_one h1
theorem ds_pass : PS X (.Pass pos) (tsOf X.K sNext) := psI L2.ps_pass fun D σ H ⟨ρ, S, m, E, hE, hS, h, k, _⟩ => k σ ρ H S m (Ext.refl _ _) hS hE h
theorem ds_break : PS X (.Break pos) (tsOf X.K sBreak) := psI L2.ps_break fun D σ H ⟨ρ, S, m, E, hE, hS, h, _, _, k, _⟩ => k σ ρ H S m (Ext.refl _ _) hS hE h
theorem ds_continue : PS X (.Continue pos) (tsOf X.K sCont) := psI L2.ps_continue fun D σ H ⟨ρ, S, m, E, hE, hS, h, _, _, _, k⟩ => k σ ρ H S m (Ext.refl _ _) hS hE h
theorem ds_expr (he : PE X e (teOf X.K wa)) (hs : swapsWith e none pos.line X.env = pure false := by rfl) : PS X (.Expr e pos) (tsOf X.K (sDrop wa)) :=
  psI (L2.ps_expr he hs) fun D σ H ⟨ρ, S, m, E, hE, hS, h, k, _⟩ => ⟨ρ, S, m, _, hE, hS, h, fun v d H1 S1 m1 e1 s1 r1 q1 => k σ ρ H1 S1 m1 e1 s1 (hE.ext e1) q1⟩
theorem ds_ret (he : PE X e (teOf X.K wa)) : PS X (.Return (some e) pos) (tsOf X.K (sRet wa)) :=
  psI (L2.ps_ret he) fun D σ H ⟨ρ, S, m, E, hE, hS, h, _, k, _⟩ => ⟨ρ, S, m, E.rt, hE, hS, h, k⟩
theorem ds_retN : PS X (.Return none pos) (tsOf X.K sRetN) :=
  psI L2.ps_retN fun D σ H ⟨ρ, S, m, E, hE, hS, h, _, k, _⟩ => k _ .non H S m (Ext.refl _ _) hS rfl h
theorem ds_if {c : Expr} {a b : List Stmt} {tc : WT} (hc : PT X c (ttOf X.K tc)) (ha : PSs X a (tsOf X.K ws)) (hb : PSs X b (tsOf X.K wu)) : PS X (.If c a b pos) (tsOf X.K (sIf tc ws wu)) :=
  psI (L2.ps_if hc ha hb) fun D σ H ⟨ρ, S, m, E, hE, hS, h, k1, k2, k3, k4⟩ => ⟨ρ, S, m, _, hE, hS, h, fun c H1 S1 m1 e1 s1 q => by
    have q : if c = true then ws E ρ S1 else wu E ρ S1 := q
    have go : ∀ w : WS, w E ρ S1 → tsOf X.K w D σ H1 := fun w q => ⟨ρ, S1, m1, E, hE.ext e1, s1, q, fun σ2 ρ2 H2 S2 m2 e2 s2 r2 q2 => k1 σ2 ρ2 H2 S2 m2 (e1.trans e2) s2 r2 q2, k2.ext e1, fun σ2 ρ2 H2 S2 m2 e2 s2 r2 q2 => k3 σ2 ρ2 H2 S2 m2 (e1.trans e2) s2 r2 q2, fun σ2 ρ2 H2 S2 m2 e2 s2 r2 q2 => k4 σ2 ρ2 H2 S2 m2 (e1.trans e2) s2 r2 q2⟩
    show if c = true then tsOf X.K ws D σ H1 else tsOf X.K wu D σ H1
    by_cases hb : c = true
    · rw [if_pos hb] at q ⊢
      exact go _ q
    · rw [if_neg hb] at q ⊢
      exact go _ q⟩
theorem ds_never : PS X st (tsOf X.K sNever) := psI L2.ps_never fun D σ H ⟨ρ, S, m, E, hE, hS, h, _⟩ => h
theorem dss_never {sts : List Stmt} : PSs X sts (tsOf X.K sNever) := pssI L2.pss_never fun D σ H ⟨ρ, S, m, E, hE, hS, h, _⟩ => h
theorem ds_asg {tg : Expr} {vs : List Nat} {g : WG} (he : PE X e (teOf X.K wa)) (hg : PG X tg (tgOf X.K vs g)) (hs : swapsWithSole [tg] e pos.line X.env = pure false := by rfl) (hw : swappedStores [tg] e X.env = pure none := by rfl)
    (h1 : (assignEach [tg] X.env).map (·.2) = [assign tg X.env] := by rfl) : PS X (.Assign [tg] e pos) (tsOf X.K (sAsg wa g)) :=
  psI (L2.ps_asg he hg hs hw h1) fun D σ H ⟨ρ, S, m, E, hE, hS, h, k, _⟩ => ⟨ρ, S, m, _, hE, hS, h, fun v d H1 S1 m1 e1 s1 r1 q1 => ⟨d, ρ, S1, m1, E.nx, hE.ext e1, s1, r1, q1, fun σ' ρ' S' m' H' _ e2 s2 r2 q2 => k σ' ρ' H' S' m' (e1.trans e2) s2 r2 q2⟩⟩
theorem ds_set (i : Nat) {x : Str} {pos' : Pos} (hN : X.N.Nodup) (he : PE X e (teOf X.K wa)) (hi : X.N[i]? = some x := by rfl) (hx : L2.Loc X.env.scope x := by first | exact Or.inl rfl | exact Or.inr rfl) (hs : swapsWith e (some (.Name x pos')) pos.line X.env = pure false := by rfl)
    (hf : X.fn x = true ∨ X.env.scope.names.lookup x = some .local := by first | exact .inl rfl | exact .inr rfl | assumption) : PS X (.Assign [.Name x pos'] e pos) (tsOf X.K (sAsg wa (gN i))) :=
  psI (L2.ps_set hN hi hx he hs hf) fun D σ H ⟨ρ, S, m, E, hE, hS, h, k, _⟩ => ⟨ρ, S, m, _, hE, hS, h, fun v d H1 S1 m1 e1 s1 r1 q1 => k _ _ H1 S1 m1 e1 s1 ((hE.ext e1).set r1 i) q1⟩
theorem ds_par (i j : Nat) {x y : Str} {px py pt : Pos} {kt k2 pt2} (hc : X.calm = true) (hN : X.N.Nodup) (ha : PE X a (teOf X.K wa)) (hb : PE X b (teOf X.K wb)) (hi : X.N[i]? = some x := by rfl) (hj : X.N[j]? = some y := by rfl) (hij : i ≠ j := by decide)
    (hx : X.env.scope.names.lookup x = some .local := by rfl) (hy : X.env.scope.names.lookup y = some .local := by rfl)
    (hw : swappedStores [.Tuple [.Name x px, .Name y py] kt pt] (.Tuple [a, b] k2 pt2) X.env = pure (some [x, y]) := by rfl)
    (hs : swapsWithSole [.Tuple [.Name x px, .Name y py] kt pt] (.Tuple [a, b] k2 pt2) pos.line X.env = pure false := by rfl)
    (e1 : starEach [a, b] X.env = (false, eval a X.env) :: starEach [b] X.env := by rfl) (e2 : starEach [b] X.env = (false, eval b X.env) :: starEach [] X.env := by rfl) :
    PS X (.Assign [.Tuple [.Name x px, .Name y py] kt pt] (.Tuple [a, b] k2 pt2) pos) (tsOf X.K (sPar i j wa wb)) :=
  psI (L2.ps_par hc hN hi hj hij hx hy (da_cons ha (da_cons hb da_nil e2) e1) hw hs) fun D σ H ⟨ρ, S, m, E, hE, hS, h, k, _⟩ =>
    ⟨ρ, S, m, fun ds S2 => match ds with
      | [d, d2] => E.nx (up (up ρ i (some d)) j (some d2)) S2
      | _ => False, hE, hS, h, fun vs ds H2 S2 m2 e s r q => by
      match ds, q, r with
      | [d, d2], q, ⟨v, r', hv, rv, ⟨v2, r2, hv2, rv2, rn⟩⟩ =>
        rw [show r2 = [] from rn] at hv2
        rw [hv2] at hv
        exact ⟨v, v2, hv, k _ _ H2 S2 m2 e s (((hE.ext e).set rv i).set rv2 j) q⟩⟩
theorem ds_aug (i : Nat) {x : Str} {op : Operator} {r : R2} {pos' : Pos} (hN : X.N.Nodup) (ho : OpR X (inplaceOp op) (r2Of X.K r)) (he : PE X e (teOf X.K wa)) (hi : X.N[i]? = some x := by rfl) (hx : L2.Loc X.env.scope x := by first | exact Or.inl rfl | exact Or.inr rfl)
    (hf : X.fn x = true ∨ X.env.scope.names.lookup x = some .local := by first | exact .inl rfl | exact .inr rfl | assumption) : PS X (.AugAssign (.Name x pos') op e pos) (tsOf X.K (sAug i wa r)) :=
  psI (L2.ps_aug hN hi hx he ho hf) fun D σ H ⟨ρ, S, m, E, hE, hS, h, k, _⟩ => by
    unfold sAug at h
    cases el : lk ρ i with
    | none => rw [el] at h; exact h.elim
    | some d =>
      rw [el] at h
      obtain ⟨v, h1, h2⟩ := hE.get i d el
      exact ⟨v, h1, ρ, S, m, _, hE, hS, h, fun u y H1 S1 m1 e1 s1 r1 q1 => ⟨m1, S1, d, y, _, s1, Rep.ext e1 _ _ h2, r1, q1, fun w z H2 S2 m2 e2 s2 r2 q2 => k _ _ H2 S2 m2 (e1.trans e2) s2 ((hE.ext (e1.trans e2)).set r2 i) q2⟩⟩
def rpOf (K : PySem.W.Frag) (r : D → D → D → Sto → (Sto → Prop) → Prop) : V → V → V → Hp → (Hp → Prop) → Prop := fun o i v H Q => ∃ m S x k d R, RepS K H m S ∧ Rep K H m x o ∧ Rep K H m k i ∧ Rep K H m d v ∧ r x k d S R ∧
  ∀ H' S' m', Ext m H m' H' → RepS K H' m' S' → R S' → Q H'
theorem ds_sub {o i : Expr} {wo wi : WE} {r : D → D → D → Sto → (Sto → Prop) → Prop} {spos : Pos} (hp : L2.PSet X (rpOf X.K r)) (he : PE X e (teOf X.K wa)) (ho : PE X o (teOf X.K wo)) (hi : PE X i (teOf X.K wi))
    (ha : ∀ v, assign (.Subscript o i spos) X.env v = (do
      let ov ← holding [v] (eval o X.env)
      let iv ← holding [v, ov] (eval i X.env)
      standAt spos
      holding [v, ov, iv] (setItem ov iv v)
      release [v, ov, iv] []) := by intro _; rfl)
    (hs : swapsWithSole [.Subscript o i spos] e pos.line X.env = pure false := by rfl) (hw : swappedStores [.Subscript o i spos] e X.env = pure none := by rfl)
    (h1 : (assignEach [.Subscript o i spos] X.env).map (·.2) = [assign (.Subscript o i spos) X.env] := by rfl) : PS X (.Assign [.Subscript o i spos] e pos) (tsOf X.K (sSub r wa wo wi)) :=
  psI (L2.ps_asg he (L2.pg_sub ho hi hp ha) hs hw h1) fun D σ H ⟨ρ, S, m, E, hE, hS, h, k, _⟩ => ⟨ρ, S, m, _, hE, hS, h, fun v d H1 S1 m1 e1 s1 r1 q1 => ⟨ρ, S1, m1, _, hE.ext e1, s1, q1, fun v2 x H2 S2 m2 e2 s2 r2 q2 =>
    ⟨ρ, S2, m2, _, hE.ext (e1.trans e2), s2, q2, fun v3 j H3 S3 m3 e3 s3 r3 q3 => ⟨m3, S3, x, j, d, _, s3, Rep.ext e3 _ _ r2, r3, Rep.ext (e2.trans e3) _ _ r1, q3, fun H4 S4 m4 e4 s4 q4 =>
      k σ ρ H4 S4 m4 (e1.trans (e2.trans (e3.trans e4))) s4 (hE.ext (e1.trans (e2.trans (e3.trans e4)))) q4⟩⟩⟩⟩
def rgOf (K : PySem.W.Frag) (r : R2) : V → V → Hp → L2.VK → Prop := r2Of K r
theorem ds_augSub {o i : Expr} {wo wi : WE} {rg ro : R2} {rs : D → D → D → Sto → (Sto → Prop) → Prop} {op : Operator} {spos : Pos} (hg : L2.PGet X (r2Of X.K rg)) (hop : OpR X (inplaceOp op) (r2Of X.K ro)) (hp : L2.PSet X (rpOf X.K rs))
    (ho : PE X o (teOf X.K wo)) (hi : PE X i (teOf X.K wi)) (he : PE X e (teOf X.K wa))
    (ha : ∀ ov iv new, augStore i ov iv new = (do holding [new, ov, iv] (setItem ov iv new); release [new, ov, iv] []; pure .next) := by intros; rfl) :
    PS X (.AugAssign (.Subscript o i spos) op e pos) (tsOf X.K (sAugSub rg ro rs wo wi wa)) :=
  psI (L2.ps_augS ho hi hg he hop hp ha) fun D σ H ⟨ρ, S, m, E, hE, hS, h, k, _⟩ => ⟨ρ, S, m, _, hE, hS, h, fun v x H1 S1 m1 e1 s1 r1 q1 => ⟨ρ, S1, m1, _, hE.ext e1, s1, q1, fun v2 j H2 S2 m2 e2 s2 r2 q2 =>
    ⟨m2, S2, x, j, _, s2, Rep.ext e2 _ _ r1, r2, q2, fun v3 z H3 S3 m3 e3 s3 r3 q3 => ⟨ρ, S3, m3, _, hE.ext (e1.trans (e2.trans e3)), s3, q3, fun v4 y H4 S4 m4 e4 s4 r4 q4 => ⟨m4, S4, z, y, _, s4, Rep.ext e4 _ _ r3, r4, q4, fun v5 u H5 S5 m5 e5 s5 r5 q5 =>
      ⟨m5, S5, x, j, u, _, s5, Rep.ext (e2.trans (e3.trans (e4.trans e5))) _ _ r1, Rep.ext (e3.trans (e4.trans e5)) _ _ r2, r5, q5, fun H6 S6 m6 e6 s6 q6 =>
        k σ ρ H6 S6 m6 (e1.trans (e2.trans (e3.trans (e4.trans (e5.trans e6))))) s6 (hE.ext (e1.trans (e2.trans (e3.trans (e4.trans (e5.trans e6)))))) q6⟩⟩⟩⟩⟩⟩

/-! ### loops -/
theorem ds_for {iter : Expr} {body : List Stmt} {wi : WI} {vs : List Nat} {g : WG} (hc : X.calm = true) (hp : PassesOwn (model X.prog X.w) X.A X.env X.xe) (hi : PI X tg iter (tiOf X.K wi)) (hg : PG X tg (tgOf X.K vs g)) (hb : PSs X body (tsOf X.K ws))
    (hs : ∀ x, foldedSetIterable iter X.env x = pure x := by intro _; rfl) : PS X (.For tg iter body [] pos) (tsOf X.K (sFor wi g ws)) :=
  psI (L2.ps_for hp hc hi hg hb hs) fun D σ H ⟨ρ, S, m, E, hE, hS, h, k1, k2, k3, k4⟩ => ⟨ρ, S, m, _, hE, hS, h, fun J items guard S1 m1 H1 e1 s1 y ⟨I, i0, ig, it, ie⟩ => by
    refine ⟨fun i n σ' H' => n = items.length - i ∧ ∃ ρ' S' m', Ext m1 H1 m' H' ∧ RepS X.K H' m' S' ∧ RepE X.K H' m' ρ' σ' ∧ I i ρ' S' ∧ i ≤ items.length, ⟨_, rfl, ρ, S1, m1, Ext.refl _ _, s1, hE.ext e1, i0, Nat.zero_le _⟩, ?_⟩
    rintro i n σ2 H2 ⟨hn, ρ2, S2, m2, e2, s2, r2, hI, hle⟩
    obtain ⟨yg, ys⟩ := y m2 H2 S2 e2.ex0 s2 (ig _ _ _ hI)
    by_cases hlt : i < items.length
    · obtain ⟨go, yd⟩ := yg i items[i] (List.getElem?_eq_getElem hlt)
      refine .inr ⟨go, fun σ' H' => ∃ ρ' S' m', Ext m1 H1 m' H' ∧ RepS X.K H' m' S' ∧ RepE X.K H' m' ρ' σ' ∧ I (i + 1) ρ' S', fun σ' H' ⟨ρ', S', m', e', s', r', hI'⟩ => ⟨_, by omega, rfl, ρ', S', m', e', s', r', hI', hlt⟩, fun x H' hy => ?_⟩
      obtain ⟨m3, e3, s3, rx⟩ := yd x H' hy
      refine ⟨items[i], ρ2, S2, m3, _, r2.ext e3, s3, rx, it i _ ρ2 S2 (List.getElem?_eq_getElem hlt) hI, fun σ4 ρ4 S4 m4 H4 _ e4 s4 r4 q4 => ⟨ρ4, S4, m4, _, r4, s4, q4, fun σ5 ρ5 H5 S5 m5 e5 s5 r5 q5 => ⟨ρ5, S5, m5, e2.trans (e3.trans (e4.trans e5)), s5, r5, q5⟩,
        (k2.ext (e1.trans (e2.trans (e3.trans e4)))), fun σ5 ρ5 H5 S5 m5 e5 s5 r5 q5 => k1 σ5 ρ5 H5 S5 m5 (e1.trans (e2.trans (e3.trans (e4.trans e5)))) s5 r5 q5, fun σ5 ρ5 H5 S5 m5 e5 s5 r5 q5 => ⟨ρ5, S5, m5, e2.trans (e3.trans (e4.trans e5)), s5, r5, q5⟩⟩⟩
    · have ei : i = items.length := by omega
      subst ei
      exact .inl ⟨ys _ (Nat.le_refl _), k1 σ2 ρ2 H2 S2 m2 (e1.trans e2) s2 r2 (ie _ _ hI)⟩⟩
theorem ds_while {c : Expr} {body : List Stmt} {tc : WT} (hp : PassesOwn (model X.prog X.w) X.A X.env X.xe) (hc : PT X c (ttOf X.K tc)) (hb : PSs X body (tsOf X.K ws)) : PS X (.While c body [] pos) (tsOf X.K (sWhile tc ws)) :=
  psI (L2.ps_while hp hc hb) fun D σ H ⟨ρ, S, m, E, hE, hS, ⟨I, ⟨n0, i0⟩, it⟩, k1, k2, k3, k4⟩ => by
    refine ⟨fun n σ' H' => ∃ ρ' S' m', Ext m H m' H' ∧ RepS X.K H' m' S' ∧ RepE X.K H' m' ρ' σ' ∧ I n ρ' S', ⟨n0, ρ, S, m, Ext.refl _ _, hS, hE, i0⟩, ?_⟩
    rintro n σ2 H2 ⟨ρ2, S2, m2, e2, s2, r2, hI⟩
    refine ⟨ρ2, S2, m2, _, r2, s2, it n ρ2 S2 hI, fun b H3 S3 m3 e3 s3 q => ?_⟩
    by_cases hbt : b = true
    · rw [if_pos hbt] at q ⊢
      refine ⟨fun σ' H' => ∃ n', n' < n ∧ ∃ ρ' S' m', Ext m H m' H' ∧ RepS X.K H' m' S' ∧ RepE X.K H' m' ρ' σ' ∧ I n' ρ' S', fun σ' H' h => h, ρ2, S3, m3, _, r2.ext e3, s3, q, fun σ5 ρ5 H5 S5 m5 e5 s5 r5 ⟨n', hn, q5⟩ => ⟨n', hn, ρ5, S5, m5, e2.trans (e3.trans e5), s5, r5, q5⟩,
        k2.ext (e2.trans e3), fun σ5 ρ5 H5 S5 m5 e5 s5 r5 q5 => k1 σ5 ρ5 H5 S5 m5 (e2.trans (e3.trans e5)) s5 r5 q5, fun σ5 ρ5 H5 S5 m5 e5 s5 r5 ⟨n', hn, q5⟩ => ⟨n', hn, ρ5, S5, m5, e2.trans (e3.trans e5), s5, r5, q5⟩⟩
    · rw [if_neg hbt] at q ⊢
      exact k1 σ2 ρ2 H3 S3 m3 (e2.trans e3) s3 (r2.ext e3) q
end
end DL
set_option Elab.async false
set_option linter.all false
set_option maxRecDepth 100000
set_option maxHeartbeats 4000000
/-! DL4: comprehensions, defs, the script. -/
namespace DL
open PySem PySem.Spec
open L2 (V Hp HO St TE TT TA TS TG TI TO PE PT PW PA PS PSs PG PI PO Cx Inv RelV Vals SqL SqT Rd upd upd_same upd_ne ne_of ne_of_none OpR UnR CallR MtR IxR SlR It thn)
section
variable {K : PySem.W.Frag} {m m' m1 : List Addr} {H H' H1 : Hp} {S S' : Sto}
/-- a list beside the store is written -/
theorem Ex0.side {a : Addr} {vs us : List V} (h : H a = some (.lst vs)) : Ex0 m H m (upd H a (.lst us)) where
  pre := fun _ _ h => h
  lst := fun b o q hl => by
    have hne : b ≠ a := fun z => by
      rw [z, h] at q
      rw [← Option.some.inj q] at hl
      cases hl
    rw [upd_ne hne]
    exact q
theorem RepO.ext0 {o : O} {a : Addr} (e : Ex0 m H m' H') (r : RepO K H m o a) (hk : H' a = H a) : RepO K H' m' o a := by
  cases o with
  | lst ds => obtain ⟨vs, h1, h2⟩ := r; exact ⟨vs, hk.trans h1, Reps.ext0 e _ _ h2⟩
  | dK ds => obtain ⟨vs, h1, h2, h3⟩ := r; exact ⟨vs, hk.trans h1, h2, Reps.ext0 e _ _ h3⟩
  | dT ds => obtain ⟨vs, h1, h2, h3⟩ := r; exact ⟨vs, hk.trans h1, h2, Reps.ext0 e _ _ h3⟩
  | fK ds => obtain ⟨od, vs, h1, h2, h3⟩ := r; exact ⟨od, vs, hk.trans h1, h2, Reps.ext0 e _ _ h3⟩
  | fT ds => obtain ⟨od, vs, h1, h2, h3⟩ := r; exact ⟨od, vs, hk.trans h1, h2, Reps.ext0 e _ _ h3⟩
theorem RepS.side {a : Addr} {vs us : List V} (s : RepS K H m S) (h : H a = some (.lst vs)) (hn : a ∉ m) : RepS K (upd H a (.lst us)) m S where
  len := s.len
  nd := s.nd
  obj := fun n o e => by
    obtain ⟨b, h1, h2⟩ := s.obj n o e
    have hne : b ≠ a := fun z => hn (by rw [← z]; exact List.mem_of_getElem? h1)
    exact ⟨b, h1, h2.ext0 (Ex0.side h) (by rw [upd_ne hne])⟩
theorem Ext.side {a : Addr} {o : HO} (e : Ext m H m' H') (h : H a = none) (hn : a ∉ m') : Ext m H m' (upd H' a o) where
  pre := e.pre
  keep := fun b u q hb => by rw [upd_ne (ne_of_none q h)]; exact e.keep b u q hb
  new := e.new
  lst := fun b u q hl => by rw [upd_ne (ne_of_none q h)]; exact e.lst b u q hl
/-- a list beside the store stands -/
theorem Ext.own {a : Addr} {o : HO} (e : Ext m H m' H') (h : H a = some o) (hn : a ∉ m) : H' a = some o ∧ a ∉ m' :=
  ⟨e.keep a o h hn, fun z => by
    rcases e.new a z with q | q
    · exact hn q
    · rw [h] at q; cases q⟩
theorem Ext.adopt {a : Addr} (e : Ext m H m' H') (h : H a = none) : Ext m H (m' ++ [a]) H' where
  pre := fun n b q => by
    have z := e.pre n b q
    rw [List.getElem?_append_left (List.getElem?_eq_some_iff.mp z).1]
    exact z
  keep := e.keep
  new := fun b hb => by
    rcases List.mem_append.mp hb with z | z
    · exact e.new b z
    · rw [List.mem_singleton.mp z]; exact .inr h
  lst := e.lst
theorem RepS.adopt {a : Addr} {ds : List D} {vs : List V} (s : RepS K H m S) (h : H a = some (.lst vs)) (hn : a ∉ m) (r : Reps K H m ds vs) : RepS K H (m ++ [a]) (S ++ [.lst ds]) where
  len := by rw [List.length_append, List.length_append, s.len]; rfl
  nd := fun i j b h1 h2 => by
    have pos : ∀ (i : Nat) (b : Addr), (m ++ [a])[i]? = some b → (m[i]? = some b ∧ b ≠ a) ∨ (i = m.length ∧ b = a) := fun i b e => by
      by_cases hi : i < m.length
      · rw [List.getElem?_append_left hi] at e
        exact .inl ⟨e, fun z => hn (by rw [← z]; exact List.mem_of_getElem? e)⟩
      · have hi' := (List.getElem?_eq_some_iff.mp e).1
        rw [List.length_append] at hi'
        have : i = m.length := by simp at hi'; omega
        subst this
        simp at e
        exact .inr ⟨rfl, e.symm⟩
    rcases pos i b h1 with ⟨e1, n1⟩ | ⟨e1, n1⟩ <;> rcases pos j b h2 with ⟨e2, n2⟩ | ⟨e2, n2⟩
    · exact s.nd i j b e1 e2
    · exact absurd n2 n1
    · exact absurd n1 n2
    · rw [e1, e2]
  obj := fun n u e => by
    have ex : Ex0 m H (m ++ [a]) H := ⟨fun n b q => by rw [List.getElem?_append_left (List.getElem?_eq_some_iff.mp q).1]; exact q, fun _ _ q _ => q⟩
    by_cases hl : n < S.length
    · rw [List.getElem?_append_left hl] at e
      obtain ⟨b, h1, h2⟩ := s.obj n u e
      exact ⟨b, ex.pre _ _ h1, h2.ext0 ex rfl⟩
    · have hi' := (List.getElem?_eq_some_iff.mp e).1
      rw [List.length_append] at hi'
      have : n = S.length := by simp at hi'; omega
      subst this
      simp at e
      subst e
      exact ⟨a, by rw [← s.len]; simp, vs, h, Reps.ext0 ex _ _ r⟩
end
theorem wipe_idem (σ : St) (vs : List Nat) : L2.wipe (L2.wipe σ vs) vs = L2.wipe σ vs := by
  apply List.ext_getElem?
  intro j
  rw [wipe_get, wipe_get, L2.wipe_length]
  by_cases hj : j ∈ vs
  · rw [if_pos hj, if_pos hj]
  · rw [if_neg hj, if_neg hj]
theorem szL_eq : szL = sizeLine := by rfl
section
variable {X : Cx}
theorem dts_nil : L2.PTs X [] (ttOf X.K wtYes) := ⟨fun pins s σ H Q I ⟨ρ, S, m, R, hE, hS, h, k⟩ => L2.pts_nil.run pins s σ H Q I (k true H S m (Ext.refl _ _) hS h)⟩
theorem dts_one {c : Expr} {t : WT} (h : PT X c (ttOf X.K t)) : L2.PTs X [c] (ttOf X.K t) := L2.pts_one h
theorem lc_read {wi : WI} {g : WG} {tt : WT} {te : WE} {vs : List Nat} (K : PySem.W.Frag) (σ : St) (H : Hp) (Q : L2.VK) (h : teOf K (wLc wi g tt te vs) σ H Q) : L2.tLc (tiOf K wi) (tgOf K vs g) (ttOf K tt) (teOf K te) vs σ H Q := by
  obtain ⟨ρ, S, m, R, hE, hS, h, k⟩ := h
  refine ⟨ρ, S, m, _, hE, hS, h, fun J items guard S1 m1 H1 e1 s1 y ⟨hz, I, i0, ig, it, ie⟩ D hD => ?_⟩
  have nD := s1.notin hD
  refine ⟨fun i n H' => n = items.length - i ∧ ∃ S' m' acc av, Ext m1 H1 m' H' ∧ RepS K H' m' S' ∧ D ∉ m' ∧ H' D = some (.lst av) ∧ Reps K H' m' acc av ∧ acc.length ≤ i ∧ I i acc S' ∧ i ≤ items.length,
    ⟨_, rfl, S1, m1, [], [], Ext.fresh hD _, s1.fresh hD _, nD, upd_same, rfl, Nat.le_refl _, i0, Nat.zero_le _⟩, ?_⟩
  rintro i n H2 ⟨hn, S2, m2, acc, av, e2, s2, n2, a2, r2, hl, hI, hle⟩
  obtain ⟨yg, ys⟩ := y m2 H2 S2 e2.ex0 s2 (ig _ _ _ hI)
  by_cases hlt : i < items.length
  · obtain ⟨go, yd⟩ := yg i items[i] (List.getElem?_eq_getElem hlt)
    refine .inr ⟨go, fun H' => ∃ S' m' acc av, Ext m1 H1 m' H' ∧ RepS K H' m' S' ∧ D ∉ m' ∧ H' D = some (.lst av) ∧ Reps K H' m' acc av ∧ acc.length ≤ i + 1 ∧ I (i + 1) acc S', fun H' ⟨S', m', acc', av', q1, q2, q3, q4, q5, q6, q7⟩ => ⟨_, by omega, rfl, S', m', acc', av', q1, q2, q3, q4, q5, q6, q7, hlt⟩, fun x H' hy => ?_⟩
    obtain ⟨m3, e3, s3, rx⟩ := yd x H' hy
    obtain ⟨a3, n3⟩ := e3.own a2 n2
    refine ⟨items[i], wipe ρ vs, S2, m3, _, (hE.ext (e1.trans (e2.trans e3))).wipe vs, s3, rx, it i _ acc S2 (List.getElem?_eq_getElem hlt) hI, fun σ4 ρ4 S4 m4 H4 w4 e4 s4 r4 q4 => ⟨by rw [w4, wipe_idem], ρ4, S4, m4, _, r4, s4, q4, fun b H5 S5 m5 e5 s5 q5 => ?_⟩⟩
    obtain ⟨a4, n4⟩ := e4.own a3 n3
    obtain ⟨a5, n5⟩ := e5.own a4 n4
    by_cases hb : b = true
    · rw [if_pos hb] at q5 ⊢
      refine ⟨ρ4, S5, m5, _, r4.ext e5, s5, q5, fun v d H6 S6 m6 e6 s6 r6 q6 => ?_⟩
      obtain ⟨a6, n6⟩ := e6.own a5 n5
      have racc := Reps.ext (e3.trans (e4.trans (e5.trans e6))) _ _ r2
      refine ⟨av, a6, by rw [racc.len, ← szL_eq]; omega, S6, m6, acc ++ [d], av ++ [v], (e2.trans (e3.trans (e4.trans (e5.trans e6)))).side hD n6, s6.side a6 n6, n6, upd_same, ?_, by rw [List.length_append]; simp; omega, q6⟩
      exact Reps.app (Reps.ext0 (Ex0.side a6) _ _ racc) (Reps.one (Rep.ext0 (Ex0.side a6) _ _ r6))
    · rw [if_neg hb] at q5 ⊢
      exact ⟨S5, m5, acc, av, e2.trans (e3.trans (e4.trans e5)), s5, n5, a5, Reps.ext (e3.trans (e4.trans e5)) _ _ r2, by omega, by simpa using q5⟩
  · have ei : i = items.length := by omega
    subst ei
    refine .inl ⟨ys _ (Nat.le_refl _), k _ (.ref S2.length) H2 (S2 ++ [.lst acc]) (m2 ++ [D]) (e1.trans (e2.adopt hD)) (s2.adopt a2 n2 r2) ⟨D, by rw [← s2.len]; simp, rfl⟩ (ie _ _ hI)⟩
theorem d_lc {elt tg iter : Expr} {ifs : List Expr} {scope : Scope} {own : List (Str × Nat)} {pos : Pos} {wi : WI} {g : WG} {tt : WT} {te : WE} (hc : X.calm = true) (hN : X.N.Nodup) (hi : PI X tg iter (tiOf X.K wi)) (ok : L2.BlkOk X.N X.env.scope scope own)
    (hg : ∀ (s : Shared) (H : Hp) (C : Addr) (cl : List (Str × Addr)) (fp : List Addr), PG (X.blk s H scope (compEnvC scope cl C X.env) fp) tg (tgOf X.K (own.map (·.2)) g))
    (ht : ∀ (s : Shared) (H : Hp) (C : Addr) (cl : List (Str × Addr)) (fp : List Addr), L2.PTs (X.blk s H scope (compEnvC scope cl C X.env) fp) ifs (ttOf X.K tt))
    (he : ∀ (s : Shared) (H : Hp) (C : Addr) (cl : List (Str × Addr)) (fp : List Addr), PE (X.blk s H scope (compEnvC scope cl C X.env) fp) elt (teOf X.K te)) (hs : ∀ x, foldedSetIterable iter X.env x = pure x := by intro _; rfl) :
    PE X (.ListComp elt [⟨tg, iter, ifs, 0⟩] scope pos) (teOf X.K (wLc wi g tt te (own.map (·.2)))) :=
  peI (L2.pe_lc hc hN hi ok hg ht he hs) fun σ H Q h => lc_read X.K σ H Q h
/-- name = [..] on one line, the name a local -/
theorem ds_setLc (i : Nat) {y : Str} {py : Pos} {elt tg iter : Expr} {ifs : List Expr} {scope : Scope} {own : List (Str × Nat)} {pos spos : Pos} {wi : WI} {g : WG} {tt : WT} {te : WE} (hc : X.calm = true) (hN : X.N.Nodup) (hi : PI X tg iter (tiOf X.K wi)) (ok : L2.BlkOk X.N X.env.scope scope own)
    (hg : ∀ (s : Shared) (H : Hp) (C : Addr) (cl : List (Str × Addr)) (fp : List Addr), PG (X.blk s H scope (compEnvC scope cl C X.env) fp) tg (tgOf X.K (own.map (·.2)) g))
    (ht : ∀ (s : Shared) (H : Hp) (C : Addr) (cl : List (Str × Addr)) (fp : List Addr), L2.PTs (X.blk s H scope (compEnvC scope cl C X.env) fp) ifs (ttOf X.K tt))
    (he : ∀ (s : Shared) (H : Hp) (C : Addr) (cl : List (Str × Addr)) (fp : List Addr), PE (X.blk s H scope (compEnvC scope cl C X.env) fp) elt (teOf X.K te))
    (hsw : swapsWith (.ListComp elt [⟨tg, iter, ifs, 0⟩] scope pos) (some (.Name y py)) spos.line X.env = pure true) (hy : X.N[i]? = some y := by rfl) (hyl : X.env.scope.names.lookup y = some .local := by rfl)
    (hs : ∀ x, foldedSetIterable iter X.env x = pure x := by intro _; rfl) :
    PS X (.Assign [.Name y py] (.ListComp elt [⟨tg, iter, ifs, 0⟩] scope pos) spos) (tsOf X.K (sAsg (wLc wi g tt te (own.map (·.2))) (gN i))) :=
  psI (L2.ps_setLc hc hN hy hyl hsw hi ok hg ht he hs) fun Dd σ H ⟨ρ, S, m, E, hE, hS, h, k, _⟩ => lc_read X.K σ H _ ⟨ρ, S, m, _, hE, hS, h, fun v d H1 S1 m1 e1 s1 r1 q1 => k _ _ H1 S1 m1 e1 s1 ((hE.ext e1).set r1 i) q1⟩
end

/-! ### defs -/
theorem lk_start : ∀ (ds : List D) (n i : Nat) (d : D), lk (ds.map some ++ List.replicate n none) i = some d → ds[i]? = some d
  | [], n, i, d, h => by
    exfalso
    rw [List.map_nil, List.nil_append] at h
    induction n generalizing i with
    | zero => cases (show (none : Option D) = some d from h)
    | succ n ih =>
      rw [List.replicate_succ] at h
      cases i with
      | zero => cases (show (none : Option D) = some d from h)
      | succ i => exact ih i h
  | x :: ds, n, 0, d, h => by
    have h : some x = some d := h
    cases h
    rfl
  | x :: ds, n, i + 1, d, h => by
    have := lk_start ds n i d h
    simpa using this
theorem rep_start {K : PySem.W.Frag} {H : Hp} {m : List Addr} {ds : List D} {vs : List V} {N : List Str} (r : Reps K H m ds vs) : RepE K H m (start N.length ds) (L2.start N vs) := by
  refine ⟨by simp [start, L2.start, r.len], fun i d h => ?_⟩
  obtain ⟨v, h1, h2⟩ := r.get i d (lk_start _ _ _ _ h)
  refine ⟨v, ?_, h2⟩
  unfold L2.start
  rw [List.getElem?_append_left (by rw [List.length_map]; exact (List.getElem?_eq_some_iff.mp h1).1), List.getElem?_map, h1]
  rfl
section
variable {P : Program} {w : World} {K : PySem.W.Frag} {mg : Str → Option Value} {base : Heap}
/-- THE RULE for a def -/
theorem fn_body {x qual : Str} {st : Stmt} {f : Addr} {fd : FuncData} {N ps : List Str} {k n a : Nat} {sp : Spc} {ws : WS} (F : L2.Fun K x qual st f fd) (Sc : L2.FnScope N ps (L2.defScope st)) (hn : N.length = n) (ha : ps.length = a)
    (hw : ∀ (cdv : Value) (A : Around) (outer : List PySem.Env) (s : Shared) (H : Hp) (E : L2.XK), L2.Room k (A.deeper (PyProof.Rows.envOfC qual (L2.defScope st) s.heap.objs.size f cdv)) →
      PSs (L2.cxOf L2.CX0 P w K mg base N qual (L2.defScope st) f cdv A outer s H E).nox (L2.defBody st) (tsOf K ws)) (hb : Body n a ws sp) : L2.FnOk P w K mg base L2.CX0 (k + 1) f fd ps (spOf K a sp) := by
  refine F.ok Sc (fun vs H Q E ⟨m, S, ds, R, s, r, l, _⟩ => by rw [r.len, l, ha]) (fun cdv A outer s H vs Q E hr ⟨m, S, ds, R, hS, r, l, h, kk⟩ => ⟨_, hw cdv A outer s H E hr, ?_⟩)
  refine ⟨start N.length ds, S, m, { nx := fun _ S' => R .non S', rt := R, bk := fun _ _ => False, ct := fun _ _ => False }, rep_start r, hS, ?_, fun σ' ρ' H' S' m' e s r q => kk .non .non H' S' m' e s rfl q, kk, fun σ' ρ' H' S' m' e s r q => q.elim, fun σ' ρ' H' S' m' e s r q => q.elim⟩
  rw [hn]
  exact hb ds S R l h
/-- a law's promise from that of its def -/
theorem law_sp {sp : Spc} {H : Hp} {a : Addr} {ns : List Int} (hO : L2.Only H) (hS : SqL K H a (ns.map V.int)) (h : sp [.rol (intD ns)] [] fun d _ => d = .bl true) : spOf K 1 sp [.ref a] H (fun v _ => v = .bl true) fun _ _ _ => False := by
  refine ⟨[], [], [.rol (intD ns)], _, ⟨rfl, fun i j a h => by simp at h, fun n o h => by simp at h⟩, ⟨_, [], rfl, ⟨a, _, rfl, ?_, Reps.of_ints⟩, rfl⟩, rfl, h, fun v d H' S' m' e s r q => ?_⟩
  · rcases hS with (h | h) | h
    · rcases hO a with z | ⟨o, xs, z⟩
      · rw [h] at z; cases z
      · rw [h] at z; cases z
    · exact .inl h
    · exact .inr h
  · rw [q] at r
    exact r
end
end DL
set_option Elab.async false
set_option linter.all false
set_option maxRecDepth 100000
set_option maxHeartbeats 4000000
/-! DL5: operations by values. -/
namespace DL
open PySem PySem.Spec
open L2 (V Hp HO St TE TT TA TS TG TI TO PE PT PW PA PS PSs PG PI PO Cx Inv RelV Vals SqL SqT Rd upd upd_same upd_ne ne_of ne_of_none OpR UnR CallR MtR IxR SlR It thn)
section
variable {X : Cx}
/-- a rule between values, from one by the layer -/
theorem r2I {f : Value → Value → Sem Value} {r : L2.R2} {q : R2} (h : OpR X f r) (hi : ∀ x y H Q, r2Of X.K q x y H Q → r x y H Q) : OpR X f (r2Of X.K q) := fun pins s σ H x y v u Q I rx ry hq => h pins s σ H x y v u Q I rx ry (hi _ _ _ _ hq)
theorem r1I {f : Value → Sem Value} {r : V → Hp → L2.VK → Prop} {q : R1} (h : UnR X f r) (hi : ∀ x H Q, r1Of X.K q x H Q → r x H Q) : UnR X f (r1Of X.K q) := fun pins s σ H x v Q I rx hq => h pins s σ H x v Q I rx (hi _ _ _ hq)
theorem rlI {f : Value} {r : List V → Hp → L2.VK → Prop} {q : RL} (h : CallR X f r) (hi : ∀ x H Q, rlOf X.K q x H Q → r x H Q) : CallR X f (rlOf X.K q) := fun pins s σ H x v Q I rx hq => h pins s σ H x v Q I rx (hi _ _ _ hq)
theorem rmI {id : String} {r : V → List V → Hp → L2.VK → Prop} {q : RM} (h : MtR X id r) (hi : ∀ x xs H Q, rmOf X.K q x xs H Q → r x xs H Q) : MtR X id (rmOf X.K q) := fun pins s σ H x xs v us Q I rx rxs hq => h pins s σ H x xs v us Q I rx rxs (hi _ _ _ _ hq)
theorem rix {r : L2.R2} {q : R2} (h : IxR X r) (hi : ∀ x y H Q, r2Of X.K q x y H Q → r x y H Q) : IxR X (r2Of X.K q) := fun e1 e2 pins s σ H x y v u Q I rx ry hq hs => h e1 e2 pins s σ H x y v u Q I rx ry (hi _ _ _ _ hq) hs
theorem rsl {r : V → Option Int → Option Int → Hp → L2.VK → Prop} {q : D → Option Int → Option Int → Sto → VK → Prop} (h : SlR X r) (hi : ∀ x l u H Q, rsOf X.K q x l u H Q → r x l u H Q) : SlR X (rsOf X.K q) := fun pins s σ H x v vl vu lo hi' sl Q I rx hs p1 p2 hq => h pins s σ H x v vl vu lo hi' sl Q I rx hs p1 p2 (hi _ _ _ _ _ hq)
theorem isLst_iff {S : Sto} {n : Nat} {P : List D → Prop} : isLst S n P ↔ ∃ xs, S[n]? = some (.lst xs) ∧ P xs := by
  unfold isLst
  constructor
  · intro h
    split at h
    · rename_i xs e
      exact ⟨xs, e, h⟩
    · exact h.elim
  · rintro ⟨xs, e, h⟩
    rw [e]
    exact h
/-- a new tuple, a new list -/
theorem Kont.tup {K : PySem.W.Frag} {m : List Addr} {H : Hp} {S : Sto} {R : D → Sto → Prop} {Q : V → Hp → Prop} (k : Kont K m H R Q) (s : RepS K H m S) {ds : List D} {vs : List V} (r : Reps K H m ds vs) (q : R (.tup ds) S) : ∀ p, H p = none → Q (.ref p) (upd H p (.tup vs)) :=
  fun p hp => k _ (.tup ds) _ S m (Ext.fresh hp _) (s.fresh hp _) ⟨p, vs, rfl, .inl upd_same, Reps.ext (Ext.fresh hp _) _ _ r⟩ q
theorem Kont.lst {K : PySem.W.Frag} {m : List Addr} {H : Hp} {S : Sto} {R : D → Sto → Prop} {Q : V → Hp → Prop} (k : Kont K m H R Q) (s : RepS K H m S) {ds : List D} {vs : List V} (r : Reps K H m ds vs) (q : R (.ref S.length) (S ++ [.lst ds])) : ∀ p, H p = none → Q (.ref p) (upd H p (.lst vs)) :=
  fun p hp => k _ (.ref S.length) _ _ (m ++ [p]) (Ext.pushed hp _) (s.push hp r) ⟨p, by rw [← s.len]; simp, rfl⟩ q
/-- a list written -/
theorem Kont.put {K : PySem.W.Frag} {m : List Addr} {H : Hp} {S : Sto} {R : D → Sto → Prop} {Q : V → Hp → Prop} (k : Kont K m H R Q) (s : RepS K H m S) {n : Nat} {a : Addr} {ds ds' : List D} {vs vs' : List V} {d : D} {v : V} (e : S[n]? = some (.lst ds)) (ha : m[n]? = some a) (hv : H a = some (.lst vs)) (r : Reps K H m ds' vs')
    (rd : Rep K H m d v) (q : R d (S.set n (.lst ds'))) : Q v (upd H a (.lst vs')) :=
  k v d _ _ m (Ext.wrote (List.mem_of_getElem? ha) hv rfl) (s.set e ha r) (Rep.ext (Ext.wrote (List.mem_of_getElem? ha) hv rfl) _ _ rd) q

theorem szL' : szL = sizeLine := szL_eq
theorem o_add : OpR X (binaryOp .Add) (r2Of X.K rAdd) :=
  r2I ((((L2.op_add (X := X)).or L2.op_catA).or L2.op_add_str).or L2.op_cat) fun x y H Q ⟨m, S, d, e, R, s, rx, ry, h, k⟩ => by
    cases d with
    | int i => cases e with
      | int j => exact .inl (.inl (.inl ⟨i, j, rx, ry, k _ (.int (i + j)) H S m (Ext.refl _ _) s rfl h⟩))
      | _ => exact (show False from h).elim
    | tup xs => cases e with
      | tup ys =>
        obtain ⟨a, vs, rfl, hT, r1⟩ := rx
        obtain ⟨b, us, rfl, hU, r2⟩ := ry
        obtain ⟨hz, q⟩ := h
        refine .inl (.inl (.inr ⟨a, b, vs, us, rfl, rfl, hT.sqT, hU.sqT, by rw [r1.len, r2.len, ← szL']; exact hz, fun e => ?_, fun _ e => ?_, fun _ _ => k.tup s (r1.app r2) q⟩))
        · subst e
          have : xs = [] := List.eq_nil_of_length_eq_zero (by rw [← r1.len]; rfl)
          subst this
          exact k _ (.tup ys) H S m (Ext.refl _ _) s ⟨b, us, rfl, hU, r2⟩ q
        · subst e
          have : ys = [] := List.eq_nil_of_length_eq_zero (by rw [← r2.len]; rfl)
          subst this
          rw [List.append_nil] at q
          exact k _ (.tup xs) H S m (Ext.refl _ _) s ⟨a, vs, rfl, hT, r1⟩ q
      | _ => exact (show False from h).elim
    | str z => cases e with
      | str z' =>
        obtain ⟨hz, q⟩ := h
        exact .inl (.inr ⟨z, z', rx, ry, by rw [← szL']; exact hz, k _ (.str (z ++ z')) H S m (Ext.refl _ _) s rfl q⟩)
      | _ => exact (show False from h).elim
    | ref n => cases e with
      | ref n' =>
        obtain ⟨xs, e1, h⟩ := isLst_iff.mp h
        obtain ⟨ys, e2, hz, q⟩ := isLst_iff.mp h
        obtain ⟨a, vs, h1, h2, h3⟩ := s.lst e1
        obtain ⟨b, us, g1, g2, g3⟩ := s.lst e2
        obtain ⟨a', q1, rfl⟩ := rx
        obtain ⟨b', q2, rfl⟩ := ry
        rw [h1] at q1
        rw [g1] at q2
        cases q1
        cases q2
        exact .inr ⟨a, b, vs, us, rfl, rfl, h2, g2, by rw [h3.len, g3.len, ← szL']; exact hz, k.lst s (h3.app g3) q⟩
      | _ => exact (show False from h).elim
    | _ => exact (show False from h).elim
theorem o_sub : OpR X (binaryOp .Sub) (r2Of X.K rSub) := r2I L2.op_sub fun x y H Q ⟨m, S, d, e, R, s, rx, ry, h, k⟩ => by
  cases d with
  | int i => cases e with
    | int j => exact ⟨i, j, rx, ry, k _ (.int (i - j)) H S m (Ext.refl _ _) s rfl h⟩
    | _ => exact (show False from h).elim
  | _ => exact (show False from h).elim
theorem CMul_or {i j : Int} (h : MulOk i j) : IntMulOk i j := by
  rcases h with (h | h) | ⟨a, b, h1, h2, h3⟩
  · exact L2.CMul.ok (.inl (by have : (2 : Nat) ^ 64 = 18446744073709551616 := by decide
                               have : (2 : Int) ^ 64 = 18446744073709551616 := by decide
                               omega))
  · exact L2.CMul.ok (.inr (by have : (2 : Nat) ^ 64 = 18446744073709551616 := by decide
                               have : (2 : Int) ^ 64 = 18446744073709551616 := by decide
                               omega))
  · exact L2.CMulX.ok (L2.mulx_ok h1 h2 h3)
theorem op_mulAny : OpR X (binaryOp .Mult) (L2.rI (fun i j => IntMulOk i j) fun i j => .int (i * j)) := L2.opI fun _ _ _ _ _ _ _ hc q => PyProof.Rows.mul_int q hc
theorem iop_mulAny : OpR X (inplaceOp .Mult) (L2.rI (fun i j => IntMulOk i j) fun i j => .int (i * j)) := L2.opI fun _ _ _ _ _ _ _ hc q => PyProof.Rows.imul_int q hc

/-- ints alone -/
theorem ii {K : PySem.W.Frag} {x y : V} {H : Hp} {Q : L2.VK} {C : Int → Int → Prop} {g : Int → Int → D} {gv : Int → Int → V} {r : R2} (hg : ∀ i j H m, Rep K H m (g i j) (gv i j)) (hr : ∀ d e S R, r d e S R → ∃ i j, d = .int i ∧ e = .int j ∧ C i j ∧ R (g i j) S) (h : r2Of K r x y H Q) : L2.rI C gv x y H Q := by
  obtain ⟨m, S, d, e, R, s, rx, ry, h, k⟩ := h
  obtain ⟨i, j, rfl, rfl, hc, q⟩ := hr d e S R h
  exact ⟨i, j, rx, ry, hc, k _ _ H S m (Ext.refl _ _) s (hg i j H m) q⟩
theorem o_mul : OpR X (binaryOp .Mult) (r2Of X.K rMul) := r2I ((op_mulAny (X := X)).or L2.op_rep) fun x y H Q ⟨m, S, d, e, R, s, rx, ry, h, k⟩ => by
  cases d with
  | int i => cases e with
    | int j => exact .inl ⟨i, j, rx, ry, CMul_or h.1, k _ (.int (i * j)) H S m (Ext.refl _ _) s rfl h.2⟩
    | _ => exact (show False from h).elim
  | ref n => cases e with
    | int j =>
      obtain ⟨xs, e1, ⟨h1, h2⟩, hz, q⟩ := isLst_iff.mp h
      obtain ⟨a, vs, g1, g2, g3⟩ := s.lst e1
      obtain ⟨a', q1, rfl⟩ := rx
      rw [g1] at q1
      cases q1
      exact .inr ⟨a, j, vs, rfl, ry, g2, h1, h2, by rw [g3.len, ← szL']; exact hz, k.lst s (g3.rep _) q⟩
    | _ => exact (show False from h).elim
  | _ => exact (show False from h).elim
theorem int_of {r : R2} {C : Int → Int → Prop} {g : Int → Int → D} {d e : D} {S : Sto} {R : D → Sto → Prop} (h : r d e S R) (h1 : ∀ i j, r (.int i) (.int j) S R → C i j ∧ R (g i j) S) (h2 : ∀ d e, r d e S R → ∃ i j, d = .int i ∧ e = .int j) : ∃ i j, d = .int i ∧ e = .int j ∧ C i j ∧ R (g i j) S := by
  obtain ⟨i, j, rfl, rfl⟩ := h2 d e h
  exact ⟨i, j, rfl, rfl, h1 i j h⟩
theorem only_ii {r : R2} {S : Sto} {R : D → Sto → Prop} (h0 : ∀ d e, (∀ i j, ¬ (d = .int i ∧ e = .int j)) → ¬ r d e S R) : ∀ d e, r d e S R → ∃ i j, d = .int i ∧ e = .int j := fun d e h => by
  cases d with
  | int i => cases e with
    | int j => exact ⟨i, j, rfl, rfl⟩
    | _ => exact absurd h (h0 _ _ fun _ _ z => nomatch z.2)
  | _ => exact absurd h (h0 _ _ fun _ _ z => nomatch z.1)
theorem i_mul : OpR X (inplaceOp .Mult) (r2Of X.K rMul') := r2I (iop_mulAny (X := X)) fun x y H Q h => ii (g := fun i j => .int (i * j)) (fun _ _ _ _ => rfl) (fun d e S R h => by
  cases d with
  | int i => cases e with
    | int j => exact ⟨i, j, rfl, rfl, CMul_or h.1, h.2⟩
    | _ => exact (show False from h).elim
  | _ => exact (show False from h).elim) h
theorem div_ok {j : Int} (h : DivOk j) (i : Int) : Builtin.divisionGoesByPylong i j = false := by
  refine PyProof.noPylong_of_log2 ?_
  exact PySem.Flt.log2_lt_of (by decide) h.2
theorem op_divAny : OpR X (binaryOp .FloorDiv) (L2.rI (fun _ j => DivOk j) fun i j => .int (i.fdiv j)) := L2.opI fun i j _ _ _ _ _ hc q => PyProof.Rows.floordiv_int hc.1 q (.inl (div_ok hc i))
theorem iop_divAny : OpR X (inplaceOp .FloorDiv) (L2.rI (fun _ j => DivOk j) fun i j => .int (i.fdiv j)) := L2.opI fun i j _ _ _ _ _ hc q => PyProof.Rows.ifloordiv_int hc.1 q (.inl (div_ok hc i))
theorem o_div : OpR X (binaryOp .FloorDiv) (r2Of X.K rDiv) := r2I (op_divAny (X := X)) fun x y H Q h => ii (g := fun i j => .int (i.fdiv j)) (fun _ _ _ _ => rfl) (fun d e S R h => by
  cases d with
  | int i => cases e with
    | int j => exact ⟨i, j, rfl, rfl, h.1, h.2⟩
    | _ => exact (show False from h).elim
  | _ => exact (show False from h).elim) h
theorem i_div : OpR X (inplaceOp .FloorDiv) (r2Of X.K rDiv) := r2I (iop_divAny (X := X)) fun x y H Q h => ii (g := fun i j => .int (i.fdiv j)) (fun _ _ _ _ => rfl) (fun d e S R h => by
  cases d with
  | int i => cases e with
    | int j => exact ⟨i, j, rfl, rfl, h.1, h.2⟩
    | _ => exact (show False from h).elim
  | _ => exact (show False from h).elim) h
theorem o_mod : OpR X (binaryOp .Mod) (r2Of X.K rMod) := r2I (L2.op_modN (X := X)) fun x y H Q h => ii (g := fun i j => .int (i.fmod j)) (fun _ _ _ _ => rfl) (fun d e S R h => by
  cases d with
  | int i => cases e with
    | int j => exact ⟨i, j, rfl, rfl, h.1, h.2⟩
    | _ => exact (show False from h).elim
  | _ => exact (show False from h).elim) h
theorem o_pow : OpR X (binaryOp .Pow) (r2Of X.K rPow) := r2I (L2.op_pow (X := X)) fun x y H Q h => ii (g := fun i j => .int (i ^ j.toNat)) (fun _ _ _ _ => rfl) (fun d e S R h => by
  cases d with
  | int i => cases e with
    | int j => exact ⟨i, j, rfl, rfl, h.1, h.2⟩
    | _ => exact (show False from h).elim
  | _ => exact (show False from h).elim) h
theorem u_neg : UnR X (unaryOp .USub) (r1Of X.K rNeg) := r1I L2.un_neg fun x H Q ⟨m, S, d, R, s, rx, h, k⟩ => by
  cases d with
  | int i => exact ⟨i, rx, k _ (.int (-i)) H S m (Ext.refl _ _) s rfl h⟩
  | _ => exact (show False from h).elim
theorem cmp_of {f : Value → Value → Sem Value} {g : Int → Int → Bool} (h : OpR X f (L2.rI0 fun i j => .bl (g i j))) : OpR X f (r2Of X.K (rCmp g)) := r2I h fun x y H Q ⟨m, S, d, e, R, s, rx, ry, h, k⟩ => by
  cases d with
  | int i => cases e with
    | int j => exact ⟨i, j, rx, ry, k _ (.bl (g i j)) H S m (Ext.refl _ _) s rfl h⟩
    | _ => exact (show False from h).elim
  | _ => exact (show False from h).elim
theorem c_lt : OpR X (compareOp .Lt) (r2Of X.K rLt) := cmp_of L2.op_lt
theorem c_le : OpR X (compareOp .LtE) (r2Of X.K rLe) := cmp_of L2.op_le
theorem c_gt : OpR X (compareOp .Gt) (r2Of X.K rGt) := cmp_of L2.op_gt
theorem c_ge : OpR X (compareOp .GtE) (r2Of X.K rGe) := cmp_of L2.op_ge
/-! equality of plain data -/
mutual
theorem toPy_dp {K : PySem.W.Frag} {H : Hp} {m : List Addr} : ∀ (d : D) (v : V), flat d = true → Rep K H m d v → L2.Dp K H v (toPy d)
  | .non, v, _, h => by rw [show v = .non from h]; exact .non
  | .bl b, v, _, h => by rw [show v = .bl b from h]; exact .bl b
  | .int b, v, _, h => by rw [show v = .int b from h]; exact .int b
  | .str b, v, _, h => by rw [show v = .str b from h]; exact .str b
  | .tup ds, v, f, ⟨a, vs, hv, hT, r⟩ => by rw [hv]; exact .tup hT.sqT (toPys_dp ds vs f r)
  | .rol _, _, f, _ => by cases (show false = true from f)
  | .ref _, _, f, _ => by cases (show false = true from f)
  | .ty _, _, f, _ => by cases (show false = true from f)
theorem toPys_dp {K : PySem.W.Frag} {H : Hp} {m : List Addr} : ∀ (ds : List D) (vs : List V), flats ds = true → Reps K H m ds vs → L2.DpAll K H vs (toPys ds)
  | [], vs, _, h => by rw [show vs = [] from h]; exact .nil
  | d :: ds, vs, f, ⟨v, r, hv, h1, h2⟩ => by
    rw [hv]
    have f := Bool.and_eq_true_iff.mp (show (flat d && flats ds) = true from f)
    exact .cons (toPy_dp d v f.1 h1) (toPys_dp ds r f.2 h2)
end
theorem strOk_of {K : PySem.W.Frag} : True := trivial
mutual
theorem eqv_eq : ∀ (d e : D), flat d = true → flat e = true → PyData.eqv (toPy d) (toPy e) = eqD d e
  | .non, .non, _, _ => rfl
  | .non, .bl _, _, _ => rfl
  | .non, .int _, _, _ => rfl
  | .non, .str _, _, _ => rfl
  | .non, .tup _, _, _ => rfl
  | .bl _, .non, _, _ => rfl
  | .bl _, .bl _, _, _ => rfl
  | .bl _, .int _, _, _ => rfl
  | .bl _, .str _, _, _ => rfl
  | .bl _, .tup _, _, _ => rfl
  | .int _, .non, _, _ => rfl
  | .int _, .bl _, _, _ => rfl
  | .int i, .int j, _, _ => by
    show (i == j) = decide (i = j)
    rw [Bool.beq_eq_decide_eq]
  | .int _, .str _, _, _ => rfl
  | .int _, .tup _, _, _ => rfl
  | .str _, .non, _, _ => rfl
  | .str _, .bl _, _, _ => rfl
  | .str _, .int _, _, _ => rfl
  | .str i, .str j, _, _ => by
    show (i == j) = decide (i = j)
    rw [Bool.beq_eq_decide_eq]
  | .str _, .tup _, _, _ => rfl
  | .tup _, .non, _, _ => rfl
  | .tup _, .bl _, _, _ => rfl
  | .tup _, .int _, _, _ => rfl
  | .tup _, .str _, _, _ => rfl
  | .tup xs, .tup ys, f, g => eqvs_eq xs ys f g
  | .rol _, _, f, _ => by cases (show false = true from f)
  | .ref _, _, f, _ => by cases (show false = true from f)
  | .ty _, _, f, _ => by cases (show false = true from f)
  | _, .rol _, _, f => by cases (show false = true from f)
  | _, .ref _, _, f => by cases (show false = true from f)
  | _, .ty _, _, f => by cases (show false = true from f)
theorem eqvs_eq : ∀ (ds es : List D), flats ds = true → flats es = true → PyData.eqvAll (toPys ds) (toPys es) = eqDs ds es
  | [], [], _, _ => rfl
  | [], _ :: _, _, _ => rfl
  | _ :: _, [], _, _ => rfl
  | d :: ds, e :: es, f, g => by
    have f := Bool.and_eq_true_iff.mp (show (flat d && flats ds) = true from f)
    have g := Bool.and_eq_true_iff.mp (show (flat e && flats es) = true from g)
    show (PyData.eqv (toPy d) (toPy e) && PyData.eqvAll (toPys ds) (toPys es)) = (eqD d e && eqDs ds es)
    rw [eqv_eq d e f.1 g.1, eqvs_eq ds es f.2 g.2]
end
mutual
theorem deep_eq : ∀ d : D, PyData.depth (toPy d) = deep d
  | .non => rfl
  | .bl _ => rfl
  | .int _ => rfl
  | .str _ => rfl
  | .tup ds => by
    show PyData.depthAll (toPys ds) + 1 = deeps ds + 1
    rw [deeps_eq ds]
  | .rol _ => rfl
  | .ref _ => rfl
  | .ty _ => rfl
theorem deeps_eq : ∀ ds : List D, PyData.depthAll (toPys ds) = deeps ds
  | [] => rfl
  | d :: ds => by
    show max (PyData.depth (toPy d)) (PyData.depthAll (toPys ds)) = max (deep d) (deeps ds)
    rw [deep_eq d, deeps_eq ds]
end

end
end DL
set_option Elab.async false
set_option linter.all false
set_option maxRecDepth 100000
set_option maxHeartbeats 4000000
/-! DL6: comparisons of data, subscripts, slices, built-ins, methods, stores. -/
namespace DL
open PySem PySem.Spec
open L2 (V Hp HO St TE TT TA TS TG TI TO PE PT PW PA PS PSs PG PI PO Cx Inv RelV Vals SqL SqT Rd upd upd_same upd_ne ne_of ne_of_none OpR UnR CallR MtR IxR SlR It thn)
section
variable {X : Cx}
mutual
theorem lay_of : ∀ d : D, flat d = true → PyData.canLay0 (toPy d) = true
  | .non, _ => rfl
  | .bl _, _ => rfl
  | .int _, _ => rfl
  | .str x, h => h
  | .tup ds, h => lays_of ds h
  | .rol _, h => by cases (show false = true from h)
  | .ref _, h => by cases (show false = true from h)
  | .ty _, h => by cases (show false = true from h)
theorem lays_of : ∀ ds : List D, flats ds = true → PyData.canLayAll0 (toPys ds) = true
  | [], _ => rfl
  | d :: ds, h => by
    have h := Bool.and_eq_true_iff.mp (show (flat d && flats ds) = true from h)
    show (PyData.canLay0 (toPy d) && PyData.canLayAll0 (toPys ds)) = true
    rw [lay_of d h.1, lays_of ds h.2]
    rfl
end
theorem shaped_of {d : D} (h : flat d = true) (h2 : deep d ≤ 64) : SeqAt.shaped (toPy d) = true := by
  unfold SeqAt.shaped
  rw [lay_of d h, deep_eq, Bool.true_and]
  exact decide_eq_true h2
theorem shapeds_of {ds : List D} (h : flats ds = true) (h2 : deeps ds ≤ 63) : SeqAt.shaped (.list (toPys ds)) = true := by
  unfold SeqAt.shaped
  have e : PyData.canLay0 (.list (toPys ds)) = true := lays_of ds h
  rw [e, Bool.true_and]
  refine decide_eq_true ?_
  show PyData.depthAll (toPys ds) + 1 ≤ 64
  rw [deeps_eq]
  omega
theorem c_eq {kk : Nat} (hr : L2.Room kk X.A) : OpR X (compareOp .Eq) (r2Of X.K rEq) := r2I (L2.op_eqD hr.units) fun x y H Q ⟨m, S, d, e, R, s, rx, ry, ⟨⟨f1, f2, g1, g2⟩, q⟩, k⟩ =>
  ⟨toPy d, toPy e, toPy_dp d x f1 rx, toPy_dp e y f2 ry, shaped_of f1 g1, shaped_of f2 g2, by rw [eqv_eq d e f1 f2]; exact k _ (.bl (eqD d e)) H S m (Ext.refl _ _) s rfl q⟩
theorem c_ne {kk : Nat} (hr : L2.Room kk X.A) : OpR X (compareOp .NotEq) (r2Of X.K rNe) := r2I (L2.op_neD hr.units) fun x y H Q ⟨m, S, d, e, R, s, rx, ry, ⟨⟨f1, f2, g1, g2⟩, q⟩, k⟩ =>
  ⟨toPy d, toPy e, toPy_dp d x f1 rx, toPy_dp e y f2 ry, shaped_of f1 g1, shaped_of f2 g2, by rw [eqv_eq d e f1 f2]; exact k _ (.bl (!eqD d e)) H S m (Ext.refl _ _) s rfl q⟩
theorem isNon_eq {K : PySem.W.Frag} {H : Hp} {m : List Addr} {d : D} {x : V} (r : Rep K H m d x) : isNon d = decide (x = .non) := by
  cases d with
  | non => rw [show x = .non from r]; rfl
  | bl b => rw [show x = .bl b from r]; rfl
  | int b => rw [show x = .int b from r]; rfl
  | str b => rw [show x = .str b from r]; rfl
  | ty b => rw [show x = .ty b from r]; rfl
  | tup b => obtain ⟨a, vs, rfl, _⟩ := r; rfl
  | rol b => obtain ⟨a, vs, rfl, _⟩ := r; rfl
  | ref b => obtain ⟨a, _, rfl⟩ := r; rfl
theorem c_is : OpR X (compareOp .Is) (r2Of X.K rIs) := r2I ((L2.op_isN (X := X)).or L2.op_is_bl) fun x y H Q ⟨m, S, d, e, R, s, rx, ry, h, k⟩ => by
  cases e with
  | non =>
    have h : R (.bl (isNon d)) S := by cases d <;> exact h
    exact .inl ⟨ry, by rw [← isNon_eq rx]; exact k _ (.bl (isNon d)) H S m (Ext.refl _ _) s rfl h⟩
  | bl b => cases d with
    | bl a => exact .inr ⟨a, b, rx, ry, k _ (.bl (decide (a = b))) H S m (Ext.refl _ _) s rfl h⟩
    | _ => exact (show False from h).elim
  | _ => cases d <;> exact (show False from h).elim
theorem c_isnot : OpR X (compareOp .IsNot) (r2Of X.K rIsNot) := r2I ((L2.op_notN (X := X)).or L2.op_isnot_bl) fun x y H Q ⟨m, S, d, e, R, s, rx, ry, h, k⟩ => by
  cases e with
  | non =>
    have h : R (.bl (!isNon d)) S := by cases d <;> exact h
    exact .inl ⟨ry, by rw [← isNon_eq rx]; exact k _ (.bl (!isNon d)) H S m (Ext.refl _ _) s rfl h⟩
  | bl b => cases d with
    | bl a => exact .inr ⟨a, b, rx, ry, k _ (.bl (!decide (a = b))) H S m (Ext.refl _ _) s rfl h⟩
    | _ => exact (show False from h).elim
  | _ => cases d <;> exact (show False from h).elim
/-! in -/
theorem flat0_V {K : PySem.W.Frag} {H : Hp} {m : List Addr} {d : D} {x : V} (r : Rep K H m d x) (h : flat0 d = true) : L2.flatV x = true := by
  cases d with
  | non => rw [show x = .non from r]; rfl
  | bl b => rw [show x = .bl b from r]; rfl
  | int b => rw [show x = .int b from r]; rfl
  | str b => rw [show x = .str b from r]; rfl
  | _ => cases (show false = true from h)
theorem eqV_eq {K : PySem.W.Frag} {H : Hp} {m : List Addr} {d e : D} {x y : V} (r : Rep K H m d x) (r' : Rep K H m e y) (h : flat0 d = true) (h' : flat0 e = true) : L2.eqV x y = eqD d e := by
  cases d with
  | non => cases e with
    | non => rw [show x = .non from r, show y = .non from r']; rfl
    | bl b => rw [show x = .non from r, show y = .bl b from r']; rfl
    | int b => rw [show x = .non from r, show y = .int b from r']; rfl
    | str b => rw [show x = .non from r, show y = .str b from r']; rfl
    | _ => cases (show false = true from h')
  | bl a => cases e with
    | non => rw [show x = .bl a from r, show y = .non from r']; rfl
    | bl b => rw [show x = .bl a from r, show y = .bl b from r']; rfl
    | int b => rw [show x = .bl a from r, show y = .int b from r']; rfl
    | str b => rw [show x = .bl a from r, show y = .str b from r']; rfl
    | _ => cases (show false = true from h')
  | int a => cases e with
    | non => rw [show x = .int a from r, show y = .non from r']; rfl
    | bl b => rw [show x = .int a from r, show y = .bl b from r']; rfl
    | int b =>
      rw [show x = .int a from r, show y = .int b from r']
      show (a == b) = decide (a = b)
      rw [Bool.beq_eq_decide_eq]
    | str b => rw [show x = .int a from r, show y = .str b from r']; rfl
    | _ => cases (show false = true from h')
  | str a => cases e with
    | non => rw [show x = .str a from r, show y = .non from r']; rfl
    | bl b => rw [show x = .str a from r, show y = .bl b from r']; rfl
    | int b => rw [show x = .str a from r, show y = .int b from r']; rfl
    | str b =>
      rw [show x = .str a from r, show y = .str b from r']
      show (a == b) = decide (a = b)
      rw [Bool.beq_eq_decide_eq]
    | _ => cases (show false = true from h')
  | _ => cases (show false = true from h)
theorem inV_eq {K : PySem.W.Frag} {H : Hp} {m : List Addr} {d : D} {x : V} (r : Rep K H m d x) (h : flat0 d = true) : ∀ (ds : List D) (vs : List V), Reps K H m ds vs → ds.all flat0 = true → L2.inV x vs = (ds.any fun y => eqD y d) ∧ vs.all L2.flatV = true
  | [], vs, rs, _ => by rw [show vs = [] from rs]; exact ⟨rfl, rfl⟩
  | e :: ds, vs, ⟨v, us, hv, r1, r2⟩, f => by
    rw [hv]
    have f := Bool.and_eq_true_iff.mp (show (flat0 e && ds.all flat0) = true from f)
    obtain ⟨h1, h2⟩ := inV_eq r h ds us r2 f.2
    refine ⟨?_, ?_⟩
    · show (L2.eqV v x || us.any fun y => L2.eqV y x) = (eqD e d || ds.any fun y => eqD y d)
      rw [eqV_eq r1 r f.1 h]
      exact congrArg (eqD e d || ·) h1
    · show (L2.flatV v && us.all L2.flatV) = true
      rw [flat0_V r1 f.1, h2]
      rfl
theorem any_py {d : D} (h : flat d = true) : ∀ ds : List D, flats ds = true → ((toPys ds).any fun z => PyData.eqv z (toPy d)) = ds.any fun y => eqD y d
  | [], _ => rfl
  | e :: ds, f => by
    have f := Bool.and_eq_true_iff.mp (show (flat e && flats ds) = true from f)
    show (PyData.eqv (toPy e) (toPy d) || (toPys ds).any fun z => PyData.eqv z (toPy d)) = (eqD e d || ds.any fun y => eqD y d)
    rw [eqv_eq e d f.1 h, any_py h ds f.2]
theorem room65 {kk : Nat} (hr : L2.Room kk X.A) : X.A.units + 65 < cLine := by
  have := hr.un
  omega
theorem c_in {kk : Nat} (hr : L2.Room kk X.A) : OpR X (compareOp .In) (r2Of X.K (rIn false)) := r2I (L2.op_in_seq.or (L2.op_inD (room65 hr))) fun x y H Q ⟨m, S, d, e, R, s, rx, ry, h, k⟩ => by
  cases e with
  | tup ys =>
    have h : (flat0 d = true ∧ ys.all flat0 = true) ∧ R (.bl (ys.any fun y => eqD y d)) S := by cases d <;> exact h
    obtain ⟨⟨f, g⟩, q⟩ := h
    obtain ⟨a, vs, rfl, hT, rs⟩ := ry
    obtain ⟨h1, h2⟩ := inV_eq rx f ys vs rs g
    refine .inl ⟨a, vs, rfl, .inr hT.sqT, flat0_V rx f, h2, ?_⟩
    show Q (.bl (L2.inV x vs)) H
    rw [h1]
    exact k _ (.bl (ys.any fun y => eqD y d)) H S m (Ext.refl _ _) s rfl q
  | ref n =>
    have h : isLst S n fun ys => (flat d = true ∧ flats ys = true ∧ deep d ≤ 63 ∧ deeps ys ≤ 63) ∧ R (.bl (ys.any fun y => eqD y d)) S := by cases d <;> exact h
    obtain ⟨ys, e1, ⟨f1, f2, g1, g2⟩, q⟩ := isLst_iff.mp h
    obtain ⟨a, vs, h1, h2, h3⟩ := s.lst e1
    obtain ⟨b, q1, rfl⟩ := ry
    rw [h1] at q1
    cases q1
    exact .inr ⟨toPy d, toPys ys, toPy_dp d x f1 rx, .lst (SqL.of h2) (toPys_dp ys vs f2 h3), shaped_of f1 (by omega), shapeds_of f2 g2, by rw [any_py f1 ys f2]; exact k _ (.bl (ys.any fun y => eqD y d)) H S m (Ext.refl _ _) s rfl q⟩
  | _ => cases d <;> exact (show False from h).elim
theorem c_notin {kk : Nat} (hr : L2.Room kk X.A) : OpR X (compareOp .NotIn) (r2Of X.K (rIn true)) := r2I (L2.op_notIn_seq.or (L2.op_notInD (room65 hr))) fun x y H Q ⟨m, S, d, e, R, s, rx, ry, h, k⟩ => by
  cases e with
  | tup ys =>
    have h : (flat0 d = true ∧ ys.all flat0 = true) ∧ R (.bl (!ys.any fun y => eqD y d)) S := by cases d <;> exact h
    obtain ⟨⟨f, g⟩, q⟩ := h
    obtain ⟨a, vs, rfl, hT, rs⟩ := ry
    obtain ⟨h1, h2⟩ := inV_eq rx f ys vs rs g
    refine .inl ⟨a, vs, rfl, .inr hT.sqT, flat0_V rx f, h2, ?_⟩
    show Q (.bl (!L2.inV x vs)) H
    rw [h1]
    exact k _ (.bl (!ys.any fun y => eqD y d)) H S m (Ext.refl _ _) s rfl q
  | ref n =>
    have h : isLst S n fun ys => (flat d = true ∧ flats ys = true ∧ deep d ≤ 63 ∧ deeps ys ≤ 63) ∧ R (.bl (!ys.any fun y => eqD y d)) S := by cases d <;> exact h
    obtain ⟨ys, e1, ⟨f1, f2, g1, g2⟩, q⟩ := isLst_iff.mp h
    obtain ⟨a, vs, h1, h2, h3⟩ := s.lst e1
    obtain ⟨b, q1, rfl⟩ := ry
    rw [h1] at q1
    cases q1
    exact .inr ⟨toPy d, toPys ys, toPy_dp d x f1 rx, .lst (SqL.of h2) (toPys_dp ys vs f2 h3), shaped_of f1 (by omega), shapeds_of f2 g2, by rw [any_py f1 ys f2]; exact k _ (.bl (!ys.any fun y => eqD y d)) H S m (Ext.refl _ _) s rfl q⟩
  | _ => cases d <;> exact (show False from h).elim
/-! subscripts -/
theorem atZ_rep {K : PySem.W.Frag} {H : Hp} {m : List Addr} {ds : List D} {vs : List V} (r : Reps K H m ds vs) {i : Int} {d : D} (h : atZ ds i = some d) : ∃ v, L2.atI vs i = some v ∧ Rep K H m d v := by
  unfold atZ at h
  unfold L2.atI
  rw [r.len]
  cases e : ixZ ds.length i with
  | none => rw [e] at h; cases h
  | some j =>
    rw [e] at h
    obtain ⟨v, h1, h2⟩ := r.get j d h
    have e' : L2.ixN ds.length i = some j := e
    exact ⟨v, by rw [e']; exact h1, h2⟩
theorem i_ix : IxR X (r2Of X.K rIx) := rix L2.ix_seq fun x y H Q ⟨m, S, d, e, R, s, rx, ry, h, k⟩ => by
  cases d with
  | tup xs => cases e with
    | int i =>
      obtain ⟨d, hd, q⟩ := h
      obtain ⟨a, vs, rfl, hT, rs⟩ := rx
      obtain ⟨v, h1, h2⟩ := atZ_rep rs hd
      exact .inr (.inl ⟨a, vs, i, v, rfl, ry, hT.sqT, h1, k _ _ H S m (Ext.refl _ _) s h2 q⟩)
    | _ => exact (show False from h).elim
  | rol xs => cases e with
    | int i =>
      obtain ⟨d, hd, q⟩ := h
      obtain ⟨a, vs, rfl, hT, rs⟩ := rx
      obtain ⟨v, h1, h2⟩ := atZ_rep rs hd
      exact .inl ⟨a, vs, i, v, rfl, ry, hT.seq, h1, k _ _ H S m (Ext.refl _ _) s h2 q⟩
    | _ => exact (show False from h).elim
  | ref n => cases e with
    | int i =>
      obtain ⟨xs, e1, d, hd, q⟩ := isLst_iff.mp h
      obtain ⟨a, vs, h1, h2, h3⟩ := s.lst e1
      obtain ⟨b, q1, rfl⟩ := rx
      rw [h1] at q1
      cases q1
      obtain ⟨v, g1, g2⟩ := atZ_rep h3 hd
      exact .inl ⟨a, vs, i, v, rfl, ry, SqL.of h2, g1, k _ _ H S m (Ext.refl _ _) s g2 q⟩
    | _ => exact (show False from h).elim
  | str z => cases e with
    | int i =>
      obtain ⟨hz, c, hc, q⟩ := h
      exact .inr (.inr ⟨z, i, c, rx, ry, by rw [← szL']; exact hz, hc, k _ (.str ⟨#[c]⟩) H S m (Ext.refl _ _) s rfl q⟩)
    | _ => exact (show False from h).elim
  | _ => cases e <;> exact (show False from h).elim
theorem sIx_eq (n d : Nat) (o : Option Int) : sIx n d o = HT.sIx n d o := by
  cases o with
  | none => rfl
  | some v =>
    show (if v < 0 then (v + n).toNat else min v.toNat n) = _
    rfl

theorem cut_rep {K : PySem.W.Frag} {H : Hp} {m : List Addr} {ds : List D} {vs : List V} (r : Reps K H m ds vs) (lo hi : Option Int) : Reps K H m (cut ds lo hi) (L2.cutV vs lo hi) := by
  unfold cut L2.cutV
  rw [r.len, sIx_eq, sIx_eq]
  exact (r.drop _).take _
theorem cut_full {K : PySem.W.Frag} {H : Hp} {m : List Addr} {ds : List D} {vs : List V} (r : Reps K H m ds vs) (lo hi : Option Int) (h : HT.sIx vs.length 0 lo = 0 ∧ HT.sIx vs.length vs.length hi = vs.length) : cut ds lo hi = ds := by
  unfold cut
  rw [sIx_eq, sIx_eq, ← r.len, h.1, h.2, List.drop_zero, Nat.sub_zero, r.len, List.take_length]
theorem s_cut : SlR X (rsOf X.K rSl) := rsl ((L2.sl_tupA (X := X)).or L2.sl_list) fun x l u H Q ⟨m, S, d, R, s, rx, h, k⟩ => by
  cases d with
  | tup xs =>
    obtain ⟨a, vs, rfl, hT, rs⟩ := rx
    refine .inl ⟨a, vs, rfl, hT.sqT, fun hf => ?_, fun _ => k.tup s (cut_rep rs l u) h⟩
    have h : R (.tup (cut xs l u)) S := h
    rw [cut_full rs l u hf] at h
    exact k _ (.tup xs) H S m (Ext.refl _ _) s ⟨a, vs, rfl, hT, rs⟩ h
  | ref n =>
    obtain ⟨xs, e1, q⟩ := isLst_iff.mp h
    obtain ⟨a, vs, h1, h2, h3⟩ := s.lst e1
    obtain ⟨b, q1, rfl⟩ := rx
    rw [h1] at q1
    cases q1
    exact .inr ⟨a, vs, rfl, SqL.of h2, k.lst s (cut_rep h3 l u) q⟩
  | _ => exact (show False from h).elim

/-! ### built-ins -/
theorem reps1 {K : PySem.W.Frag} {H : Hp} {m : List Addr} {d : D} {vs : List V} (r : Reps K H m [d] vs) : ∃ v, vs = [v] ∧ Rep K H m d v := by
  obtain ⟨v, us, hv, h1, h2⟩ := r
  exact ⟨v, by rw [hv, show us = [] from h2], h1⟩
theorem reps2 {K : PySem.W.Frag} {H : Hp} {m : List Addr} {d e : D} {vs : List V} (r : Reps K H m [d, e] vs) : ∃ v u, vs = [v, u] ∧ Rep K H m d v ∧ Rep K H m e u := by
  obtain ⟨v, us, hv, h1, h2⟩ := r
  obtain ⟨u, rfl, h3⟩ := reps1 h2
  exact ⟨v, u, hv, h1, h3⟩
theorem b_len : CallR X (.builtin "len") (rlOf X.K rLen) := rlI L2.call_len fun xs H Q ⟨m, S, ds, R, s, rx, h, k⟩ => by
  match ds, h, rx with
  | [.tup ys], h, rx =>
    obtain ⟨v, rfl, a, vs, rfl, hT, rs⟩ := reps1 rx
    exact ⟨_, vs.length, rfl, .inr ⟨vs, hT.sqT, rfl⟩, by rw [rs.len]; exact k _ (.int ys.length) H S m (Ext.refl _ _) s rfl h⟩
  | [.rol ys], h, rx =>
    obtain ⟨v, rfl, a, vs, rfl, hT, rs⟩ := reps1 rx
    exact ⟨_, vs.length, rfl, .inl ⟨vs, hT.seq, rfl⟩, by rw [rs.len]; exact k _ (.int ys.length) H S m (Ext.refl _ _) s rfl h⟩
  | [.str z], h, rx =>
    obtain ⟨v, rfl, hv⟩ := reps1 rx
    have hv : v = .str z := hv
    subst hv
    exact ⟨_, z.length, rfl, ⟨by rw [← szL']; exact h.1, rfl⟩, k _ (.int z.length) H S m (Ext.refl _ _) s rfl h.2⟩
  | [.ref n], h, rx =>
    obtain ⟨v, rfl, b, q1, rfl⟩ := reps1 rx
    obtain ⟨ys, e1, q⟩ := isLst_iff.mp h
    obtain ⟨a, vs, h1, h2, h3⟩ := s.lst e1
    rw [h1] at q1
    cases q1
    exact ⟨_, vs.length, rfl, .inl ⟨vs, SqL.of h2, rfl⟩, by rw [h3.len]; exact k _ (.int ys.length) H S m (Ext.refl _ _) s rfl q⟩
theorem b_abs : CallR X (.builtin "abs") (rlOf X.K rAbs) := rlI L2.call_abs fun xs H Q ⟨m, S, ds, R, s, rx, h, k⟩ => by
  match ds, h, rx with
  | [.int i], h, rx =>
    obtain ⟨v, rfl, hv⟩ := reps1 rx
    have hv : v = .int i := hv
    subst hv
    refine ⟨i, rfl, ?_⟩
    have e : (if i < 0 then -i else i) = (i.natAbs : Int) := by split <;> omega
    rw [e]
    exact k _ (.int i.natAbs) H S m (Ext.refl _ _) s rfl h
theorem b_int : CallR X (.type "int") (rlOf X.K rInt) := rlI L2.call_int1 fun xs H Q ⟨m, S, ds, R, s, rx, h, k⟩ => by
  match ds, h, rx with
  | [.int i], h, rx =>
    obtain ⟨v, rfl, hv⟩ := reps1 rx
    have hv : v = .int i := hv
    subst hv
    exact .inl ⟨i, rfl, k _ (.int i) H S m (Ext.refl _ _) s rfl h⟩
  | [.bl i], h, rx =>
    obtain ⟨v, rfl, hv⟩ := reps1 rx
    have hv : v = .bl i := hv
    subst hv
    exact .inr ⟨i, rfl, k _ (.int (if i = true then 1 else 0)) H S m (Ext.refl _ _) s rfl h⟩
theorem b_max2 (hc : X.calm = true) : CallR X (.builtin "max") (rlOf X.K rMax2) := rlI (L2.call_max2 hc) fun xs H Q ⟨m, S, ds, R, s, rx, h, k⟩ => by
  match ds, h, rx with
  | [.int i, .int j], h, rx =>
    obtain ⟨v, u, rfl, hv, hu⟩ := reps2 rx
    have hv : v = .int i := hv
    have hu : u = .int j := hu
    subst hv hu
    refine ⟨i, j, rfl, ?_⟩
    have e : (if j > i then j else i) = max i j := by split <;> omega
    rw [e]
    exact k _ (.int (max i j)) H S m (Ext.refl _ _) s rfl h
theorem b_min2 (hc : X.calm = true) : CallR X (.builtin "min") (rlOf X.K rMin2) := rlI (L2.call_min2 hc) fun xs H Q ⟨m, S, ds, R, s, rx, h, k⟩ => by
  match ds, h, rx with
  | [.int i, .int j], h, rx =>
    obtain ⟨v, u, rfl, hv, hu⟩ := reps2 rx
    have hv : v = .int i := hv
    have hu : u = .int j := hu
    subst hv hu
    refine ⟨i, j, rfl, ?_⟩
    have e : (if j < i then j else i) = min i j := by split <;> omega
    rw [e]
    exact k _ (.int (min i j)) H S m (Ext.refl _ _) s rfl h
theorem b_list : CallR X (.type "list") (rlOf X.K rList) := rlI L2.call_list_of fun xs H Q ⟨m, S, ds, R, s, rx, h, k⟩ => by
  match ds, h, rx with
  | [.tup ys], h, rx =>
    obtain ⟨v, rfl, a, vs, rfl, hT, rs⟩ := reps1 rx
    exact ⟨a, vs, rfl, .inr hT.sqT, k.lst s rs h⟩
  | [.rol ys], h, rx =>
    obtain ⟨v, rfl, a, vs, rfl, hT, rs⟩ := reps1 rx
    exact ⟨a, vs, rfl, .inl hT.seq, k.lst s rs h⟩
  | [.ref n], h, rx =>
    obtain ⟨v, rfl, b, q1, rfl⟩ := reps1 rx
    obtain ⟨ys, e1, q⟩ := isLst_iff.mp h
    obtain ⟨a, vs, h1, h2, h3⟩ := s.lst e1
    rw [h1] at q1
    cases q1
    exact ⟨b, vs, rfl, .inl (SqL.of h2), k.lst s h3 q⟩
theorem b_tuple : CallR X (.type "tuple") (rlOf X.K rTuple) := rlI L2.call_tuple_of fun xs H Q ⟨m, S, ds, R, s, rx, h, k⟩ => by
  match ds, h, rx with
  | [.tup ys], h, rx =>
    obtain ⟨v, rfl, a, vs, rfl, hT, rs⟩ := reps1 rx
    exact ⟨a, vs, rfl, .inr ⟨hT.sqT, k _ (.tup ys) H S m (Ext.refl _ _) s ⟨a, vs, rfl, hT, rs⟩ h⟩⟩
  | [.rol ys], h, rx =>
    obtain ⟨v, rfl, a, vs, rfl, hT, rs⟩ := reps1 rx
    exact ⟨a, vs, rfl, .inl ⟨hT.seq, k.tup s rs h⟩⟩
  | [.ref n], h, rx =>
    obtain ⟨v, rfl, b, q1, rfl⟩ := reps1 rx
    obtain ⟨ys, e1, q⟩ := isLst_iff.mp h
    obtain ⟨a, vs, h1, h2, h3⟩ := s.lst e1
    rw [h1] at q1
    cases q1
    exact ⟨b, vs, rfl, .inl ⟨SqL.of h2, k.tup s h3 q⟩⟩
theorem b_all (hc : X.calm = true) : CallR X (.builtin "all") (rlOf X.K rAll) := rlI (L2.cr_all hc) fun xs H Q ⟨m, S, ds, R, s, rx, h, k⟩ => by
  match ds, h, rx with
  | [.ref n], h, rx =>
    obtain ⟨v, rfl, b, q1, rfl⟩ := reps1 rx
    obtain ⟨bs, e1, q⟩ := h
    obtain ⟨a, vs, h1, h2, h3⟩ := s.lst e1
    rw [h1] at q1
    cases q1
    exact ⟨b, bs, rfl, by rw [← h3.bls]; exact SqL.of h2, k _ (.bl (bs.all id)) H S m (Ext.refl _ _) s rfl q⟩
theorem b_any (hc : X.calm = true) : CallR X (.builtin "any") (rlOf X.K rAny) := rlI (L2.cr_any hc) fun xs H Q ⟨m, S, ds, R, s, rx, h, k⟩ => by
  match ds, h, rx with
  | [.ref n], h, rx =>
    obtain ⟨v, rfl, b, q1, rfl⟩ := reps1 rx
    obtain ⟨bs, e1, q⟩ := h
    obtain ⟨a, vs, h1, h2, h3⟩ := s.lst e1
    rw [h1] at q1
    cases q1
    exact ⟨b, bs, rfl, by rw [← h3.bls]; exact SqL.of h2, k _ (.bl (bs.any id)) H S m (Ext.refl _ _) s rfl q⟩
theorem b_gcd : CallR X (.builtin "math.gcd") (rlOf X.K rGcd) := rlI L2.cr_gcd fun xs H Q ⟨m, S, ds, R, s, rx, h, k⟩ => by
  match ds, h, rx with
  | [.int i, .int j], h, rx =>
    obtain ⟨v, u, rfl, hv, hu⟩ := reps2 rx
    have hv : v = .int i := hv
    have hu : u = .int j := hu
    subst hv hu
    exact ⟨i, j, rfl, k _ (.int (Nat.gcd i.natAbs j.natAbs : Nat)) H S m (Ext.refl _ _) s rfl h⟩
theorem kit5 {K : PySem.W.Frag} {a t : String} {b : Bool} (h : (["bool", "int", "str", "tuple", "list"].all fun t => decide (L2.kitB a t = some (if t = a then true else if (a, t) = ("bool", "int") then true else false))) = true) (ht : t ∈ ["bool", "int", "str", "tuple", "list"])
    (hb : b = (if t = a then true else if (a, t) = ("bool", "int") then true else false)) : PySem.W.kitOne K (.type a) (.type t) = some b := by
  refine L2.kit_ty ?_
  rw [hb]
  exact of_decide_eq_true (List.all_eq_true.mp h t ht)
theorem b_isi : CallR X (.builtin "isinstance") (rlOf X.K rIsi) := rlI L2.call_isi fun xs H Q ⟨m, S, ds, R, s, rx, h, k⟩ => by
  match ds, h, rx with
  | [d, .ty t], ⟨b, hb, q⟩, rx =>
    obtain ⟨v, u, rfl, hv, hu⟩ := reps2 rx
    have hu : u = .ty t := hu
    subst hu
    have fin : ∀ {T : String}, L2.TyX X.K H v (.type T) → PySem.W.kitOne X.K (.type T) (.type t) = some b → L2.rIsi X.K [v, .ty t] H Q := fun ty e => ⟨v, .ty t, _, _, b, rfl, .ty t, ty, e, k _ (.bl b) H S m (Ext.refl _ _) s rfl q⟩
    cases d with
    | non =>
      have hv : v = .non := hv
      subst hv
      have hb : (if t ∈ ["bool", "int", "str", "tuple", "list"] then some false else none) = some b := hb
      split at hb
      · rename_i ht
        cases hb
        refine fin (.base .non) ?_
        simp at ht
        rcases ht with rfl | rfl | rfl | rfl | rfl
        · exact kit5 (by decide +kernel) (by decide) (by decide)
        · exact kit5 (by decide +kernel) (by decide) (by decide)
        · exact kit5 (by decide +kernel) (by decide) (by decide)
        · exact kit5 (by decide +kernel) (by decide) (by decide)
        · exact kit5 (by decide +kernel) (by decide) (by decide)
      · cases hb
    | bl c =>
      have hv : v = .bl c := hv
      subst hv
      have hb : (if t ∈ ["bool", "int"] then some true else if t ∈ ["str", "tuple", "list"] then some false else none) = some b := hb
      refine fin (.base (.bl c)) ?_
      split at hb
      · rename_i ht
        cases hb
        simp at ht
        rcases ht with rfl | rfl
        · exact kit5 (by decide +kernel) (by decide) (by decide)
        · exact kit5 (by decide +kernel) (by decide) (by decide)
      · split at hb
        · rename_i ht
          cases hb
          simp at ht
          rcases ht with rfl | rfl | rfl
          · exact kit5 (by decide +kernel) (by decide) (by decide)
          · exact kit5 (by decide +kernel) (by decide) (by decide)
          · exact kit5 (by decide +kernel) (by decide) (by decide)
        · cases hb
    | int c =>
      have hv : v = .int c := hv
      subst hv
      have hb : (if t = "int" then some true else if t ∈ ["bool", "str", "tuple", "list"] then some false else none) = some b := hb
      refine fin (.base (.int c)) ?_
      split at hb
      · rename_i ht
        cases hb
        subst ht
        exact kit5 (by decide +kernel) (by decide) (by decide)
      · split at hb
        · rename_i ht
          cases hb
          simp at ht
          rcases ht with rfl | rfl | rfl | rfl
          · exact kit5 (by decide +kernel) (by decide) (by decide)
          · exact kit5 (by decide +kernel) (by decide) (by decide)
          · exact kit5 (by decide +kernel) (by decide) (by decide)
          · exact kit5 (by decide +kernel) (by decide) (by decide)
        · cases hb
    | str c =>
      have hv : v = .str c := hv
      subst hv
      have hb : (if t = "str" then some true else if t ∈ ["bool", "int", "tuple", "list"] then some false else none) = some b := hb
      refine fin (.base (.str c)) ?_
      split at hb
      · rename_i ht
        cases hb
        subst ht
        exact kit5 (by decide +kernel) (by decide) (by decide)
      · split at hb
        · rename_i ht
          cases hb
          simp at ht
          rcases ht with rfl | rfl | rfl | rfl
          · exact kit5 (by decide +kernel) (by decide) (by decide)
          · exact kit5 (by decide +kernel) (by decide) (by decide)
          · exact kit5 (by decide +kernel) (by decide) (by decide)
          · exact kit5 (by decide +kernel) (by decide) (by decide)
        · cases hb
    | tup c =>
      obtain ⟨a, vs, rfl, hT, rs⟩ := hv
      have hb : (if t = "tuple" then some true else if t ∈ ["bool", "int", "str", "list"] then some false else none) = some b := hb
      have ty : L2.TyX X.K H (.ref a) (.type "tuple") := by
        rcases hT.sqT with (hT | ⟨o, hT⟩) | ⟨o, its, n, h1, h2, _⟩
        · exact .base (.tup hT)
        · exact .fTuple hT
        · exact .kTuple h1 h2
      refine fin ty ?_
      split at hb
      · rename_i ht
        cases hb
        subst ht
        exact kit5 (by decide +kernel) (by decide) (by decide)
      · split at hb
        · rename_i ht
          cases hb
          simp at ht
          rcases ht with rfl | rfl | rfl | rfl
          · exact kit5 (by decide +kernel) (by decide) (by decide)
          · exact kit5 (by decide +kernel) (by decide) (by decide)
          · exact kit5 (by decide +kernel) (by decide) (by decide)
          · exact kit5 (by decide +kernel) (by decide) (by decide)
        · cases hb
    | _ => cases (show (none : Option Bool) = some b from hb)
end
end DL
set_option Elab.async false
set_option linter.all false
set_option maxRecDepth 100000
set_option maxHeartbeats 8000000
/-! DL7: sums, greatest and least, sorting, sorted sets of ints, methods of lists, stores. -/
namespace L2
open PySem PySem.Spec PyProof.Rows
section
variable {P : Program} {w : World} {A : Around} {E : Value → Shared → Prop} {s : Shared}
theorem set_ints_list {l : Addr} {items : Array Value} (ns : List Int) {Q : Value → Shared → Prop} (hh : A.handled = none) (hl : s.heap.IsList l items) (hit : IntsAre items.toList ns) (hb : ns.length + 1 < scanBound)
    (h : ∀ (h' : Heap) (tk c : Nat), SetR w h' s.heap.objs.size (fun j => decide (j ∈ ns)) c → c ≤ ns.length → (∀ b o, s.heap.get? b = some o → h'.get? b = some o) → Q (.ref s.heap.objs.size) { s with heap := h', toks := tk }) :
    wpAny (model P w) A (call (.type "set") [.ref l]) Q E s := by
  have hisz : items.size = ns.length := by
    have q := IntsAre.length hit
    rw [Array.length_toList] at q
    exact q
  obtain ⟨c, tl, hmro⟩ := F.called_set.mro
  have hmade := F.called_set.made
  have hsub := F.called_set.sub
  refine wpAny_call (codeAny_of_tree ?_)
  show wpAny _ _ (callAny (.type "set") _) _ _ _
  refine wpAny_pure ⟨Code.quiet_builtin _ (by decide +kernel), codeAny_builtin F.entry_type_call ?_⟩
  rw [Around.under_plain (weight_type_call_type "set" [.ref l] []) rfl]
  have h1 := F.called_set.notType
  have h2 := F.called_set.canCreate
  have hct := F.typeCall_set_1 (.ref l)
  repeat (any_goals (first | assumption | wp_step))

  refine codeAny_mono (code_set_led1 (.ref l) (E := E) (Q₁ := fun obj s₁ => obj = .ref s.heap.objs.size ∧ s₁ = { s with heap := s.heap.push { cls := .type "set", dict := none, data := .set #[] 0 (.fresh 0 0 (!w.params.followText "set-order")) } }) ⟨rfl, rfl⟩) fun r s₁ hr => ?_
  cases r with
  | error e => exact hr
  | ok fl =>
    cases fl with
    | ret obj =>
      obtain ⟨rfl, rfl⟩ := hr
      have hS : (s.heap.push { cls := .type "set", dict := none, data := .set #[] 0 (.fresh 0 0 (!w.params.followText "set-order")) }).get? s.heap.objs.size = some { cls := .type "set", dict := none, data := .set #[] 0 (.fresh 0 0 (!w.params.followText "set-order")) } := Heap.get?_push_size _ rfl
      have hT : Shared.TypeIs { s with heap := s.heap.push { cls := .type "set", dict := none, data := .set #[] 0 (.fresh 0 0 (!w.params.followText "set-order")) } } (.ref s.heap.objs.size) "set" := ⟨_, hS, rfl⟩
      have hli := F.called_set.init.lookup
      have hbi := F.called_set.init.bind (.ref s.heap.objs.size)
      repeat (any_goals (first | assumption | wp_step))

      refine codeAny_mono (codeAny_call_builtin (R := wants (fun r s₂ => r = .none ∧ ∃ h' tk c, s₂ = { s with heap := h', toks := tk } ∧ SetR w h' s.heap.objs.size (fun j => decide (j ∈ ns)) c ∧ c ≤ ns.length ∧
          (∀ b o, s.heap.get? b = some o → h'.get? b = some o)) E) F.called_set.init.plain F.entry_set_init (check_set_init_1 hT ?_)) fun r₂ s₂ hr₂ => ?_
      · obtain ⟨ol, hol, hcl, nl, hdl⟩ := hl
        obtain ⟨ocls, odict, odata, oslots⟩ := ol
        simp only at hcl hdl
        subst hcl; subst hdl
        have hol' : (s.heap.push { cls := .type "set", dict := none, data := .set #[] 0 (.fresh 0 0 (!w.params.followText "set-order")) }).get? l = some { cls := .type "list", dict := odict, data := .seq items nl, slots := oslots } := Heap.get?_push_of_some _ hol
        have hsls := F.sub_list_set
        have hslf := F.sub_list_frozenset
        have hne : (Value.type "list" == Value.type "dict") = false := by decide
        have hl1 : (s.heap.push { cls := .type "set", dict := none, data := .set #[] 0 (.fresh 0 0 (!w.params.followText "set-order")) }).IsList l items := ⟨_, hol', rfl, nl, rfl⟩
        unfold Builtin.«set.__init__» noKeywords Builtin.Frozenset.updateFrom
        generalize hPI : pyIter = PI
        wp_walk
        subst hPI

        refine wpAny_pyIter_list hl1 ?_
        refine wpAny_bind (wpAny_runValue ?_)
        have hlS : l < s.heap.objs.size := Heap.lt_size hol
        have hh3 : A.in1.in1.in1.handled = none := by simp [hh]
        have hz1 : (s.heap.push { cls := .type "set", dict := none, data := .set #[] 0 (.fresh 0 0 (!w.params.followText "set-order")) }).objs.size = s.heap.objs.size + 1 := Heap.size_push ..
        have hneI : l ≠ (s.heap.push { cls := .type "set", dict := none, data := .set #[] 0 (.fresh 0 0 (!w.params.followText "set-order")) }).objs.size := by
          rw [Heap.size_push]; exact Nat.ne_of_lt (Nat.lt_succ_of_lt hlS)
        have hSf : s.heap.objs.size ∉ [(s.heap.push { cls := .type "set", dict := none, data := .set #[] 0 (.fresh 0 0 (!w.params.followText "set-order")) }).objs.size, l] := by
          rw [Heap.size_push]; simp only [List.mem_cons, List.mem_singleton, List.not_mem_nil, or_false, not_or]
          exact ⟨Nat.ne_of_lt (Nat.lt_succ_self _), Nat.ne_of_gt hlS⟩
        have hval : ∀ (i : Nat) (v : Value), items[i]? = some v → ∃ k t, ns[i]? = some k ∧ v = .int k t := fun i v hv => by
          have hi : i < ns.length := by rw [← hisz]; exact (Array.getElem?_eq_some_iff.mp hv).1
          obtain ⟨t, e⟩ := PyProof.Rows.IntsAre.int_at hit i v (by rw [Array.getElem?_toList]; exact hv)
          refine ⟨ns[i], t, List.getElem?_eq_getElem hi, ?_⟩
          rw [e, List.getD_eq_getElem?_getD, List.getElem?_eq_getElem hi] <;> rfl
        refine set_update_ints ((Walks.list hh3 _ l hneI items).toS) s.heap.objs.size
          hSf ns hisz hb hval (items.size - 0) 0 _ (by omega) (Nat.zero_le _)
          ⟨⟨_, Heap.get?_push_size _ rfl, rfl, rfl⟩, (hl1.push _)⟩ ?hS0 ?hR
        case hS0 =>
          have hget : ((s.heap.push { cls := .type "set", dict := none, data := .set #[] 0 (.fresh 0 0 (!w.params.followText "set-order")) }).push { cls := .type "list_iterator", data := .fields #[.ref l, .int 0 0] }).get? s.heap.objs.size
              = some { cls := .type "set", dict := none, data := .set #[] 0 (.fresh 0 0 (!w.params.followText "set-order")) } := Heap.get?_push_of_some _ hS
          exact ⟨0, Nat.le_refl 0, setR_new_at hget⟩
        case hR =>
          intro s' c' hm hc' hS'
          obtain ⟨h', g2, d', tk', os'⟩ := s'
          have eg : g2 = s.gens := hm.gens
          have ed : d' = s.drawn := hm.drawn
          have eo : os' = s.os := hm.os
          subst eg; subst ed; subst eo
          show wpAny _ _ _ _ _ _
          refine wpAny_pure ?_
          show wpAny _ _ (ret Value.none) _ _ _
          rw [hisz] at hc'
          refine wpAny_pure ⟨rfl, h', tk', c', rfl, hS', hc', fun b o e => ?_⟩
          have hb0 : b < s.heap.objs.size := Heap.lt_size e
          have hb1 : b ≠ s.heap.objs.size := Nat.ne_of_lt hb0
          have hb2 : b ≠ (s.heap.push { cls := .type "set", dict := none, data := .set #[] 0 (.fresh 0 0 (!w.params.followText "set-order")) }).objs.size := by
            rw [Heap.size_push]; exact Nat.ne_of_lt (Nat.lt_succ_of_lt hb0)
          exact hm.heap b o (by simp only [List.mem_cons, List.mem_singleton, List.not_mem_nil, or_false, not_or]; exact ⟨hb1, hb2⟩) (Heap.get?_push_of_some _ (Heap.get?_push_of_some _ e))

      · cases r₂ with
        | error e => exact hr₂
        | ok fl₂ =>
          cases fl₂ with
          | ret r =>
            obtain ⟨rfl, h', tk, c', rfl, hS', hc', hk'⟩ := hr₂
            repeat (any_goals (first | assumption | wp_step))
            exact h _ _ _ hS' hc' hk'
          | _ => exact hr₂.elim
    | _ => exact hr.elim

end
end L2
namespace DL
open PySem PySem.Spec
open L2 (V Hp HO St TE TT TA TS TG TI TO PE PT PW PA PS PSs PG PI PO Cx Inv RelV Vals SqL SqT Rd upd upd_same upd_ne ne_of ne_of_none OpR UnR CallR MtR IxR SlR It thn)
section
variable {X : Cx}
theorem sum_tup (hc : X.calm = true) : CallR X (.builtin "sum") (fun xs H Q => ∃ (a : Addr) (ns : List Int), xs = [V.ref a] ∧ SqT X.K H a (ns.map V.int) ∧ Q (.int ns.sum) H) := by
  intro pins s σ H xs us Q I r h
  obtain ⟨a, ns, rfl, hT, q⟩ := h
  rw [L2.Vals.ref1 r]
  obtain ⟨its, rv, pt, _⟩ := I.tuple hT
  have hi := L2.Vals.ints rv
  obtain ⟨zs, e⟩ := hi.allInts.items
  have hn : numsOf (intItems zs).toList = ns := by rw [← e]; exact hi.numsOf
  rw [nums_intItems] at hn
  have pt' : s.heap.IsTuple a (intItems zs) := by rw [← e]; exact pt
  refine PySem.W.ktm_sumG (I.ok.hd hc) pt' fun h' tk t' hk => ?_
  have e2 : preSum (numAt zs) zs.size = ns.sum := by rw [preSum_eq, List.take_of_length_le (by simp), hn]
  rw [e2]
  exact ⟨.int ns.sum, H, I.kept (h' := h') (t' := tk) hk, ⟨t', rfl⟩, q⟩
theorem itemsAt_rep {K : PySem.W.Frag} {H : Hp} {m : List Addr} {S : Sto} {d : D} {v : V} {xs : List D} (s : RepS K H m S) (r : Rep K H m d v) (h : itemsAt d S = some xs) : (∃ a vs, v = .ref a ∧ SqL K H a vs ∧ Reps K H m xs vs) ∨ ∃ a vs, v = .ref a ∧ SqT K H a vs ∧ Reps K H m xs vs := by
  cases d with
  | tup ys =>
    have h : some ys = some xs := h
    cases h
    obtain ⟨a, vs, rfl, hT, rs⟩ := r
    exact .inr ⟨a, vs, rfl, hT.sqT, rs⟩
  | ref n =>
    obtain ⟨a, ha, rfl⟩ := r
    have h : (match S[n]? with
      | some (.lst xs) => some xs
      | _ => none) = some xs := h
    split at h
    · rename_i ys hy
      cases h
      obtain ⟨b, vs, h1, h2, h3⟩ := s.lst hy
      rw [ha] at h1
      cases h1
      exact .inl ⟨a, vs, rfl, SqL.of h2, h3⟩
    · cases h
  | _ => cases (show (none : Option (List D)) = some xs from h)
theorem b_sum (hc : X.calm = true) : CallR X (.builtin "sum") (rlOf X.K rSum) := rlI ((L2.cr_sum hc).or (sum_tup hc)) fun xs H Q ⟨m, S, ds, R, s, rx, h, k⟩ => by
  match ds, h, rx with
  | [d], ⟨ns, h1, q⟩, rx =>
    obtain ⟨v, rfl, hv⟩ := reps1 rx
    rcases itemsAt_rep s hv h1 with ⟨a, vs, rfl, hL, rs⟩ | ⟨a, vs, rfl, hL, rs⟩
    · exact .inl ⟨a, ns, rfl, by rw [← rs.ints]; exact hL, k _ (.int ns.sum) H S m (Ext.refl _ _) s rfl q⟩
    · exact .inr ⟨a, ns, rfl, by rw [← rs.ints]; exact hL, k _ (.int ns.sum) H S m (Ext.refl _ _) s rfl q⟩

theorem readsI {h : Heap} : ∀ {us : List Value} {ns : List Int}, PyProof.Rows.IntsAre us ns → ReadsAll h us (ns.map PyData.int) []
  | _, _, .nil => .nil
  | _, _, .cons n t r => by
    have := ReadsAll.cons (h := h) (Reads.int n t) (readsI r)
    simpa using this
theorem alike_all_ints (ns : List Int) : PySem.W.AlikeAll (ns.map PyData.int) := by
  refine ⟨fun x hx y hy => ?_, fun x hx z => ?_⟩
  · obtain ⟨a, _, rfl⟩ := List.mem_map.mp hx
    obtain ⟨b, _, rfl⟩ := List.mem_map.mp hy
    simp [PySem.W.alike]
  · obtain ⟨a, _, rfl⟩ := List.mem_map.mp hx
    cases z
theorem fold_max : ∀ (ns : List Int) (n : Int), (ns.foldl max n = n ∨ ns.foldl max n ∈ ns) ∧ n ≤ ns.foldl max n ∧ ∀ y ∈ ns, y ≤ ns.foldl max n
  | [], n => ⟨.inl rfl, Int.le_refl _, fun y hy => nomatch hy⟩
  | a :: ns, n => by
    obtain ⟨h1, h2, h3⟩ := fold_max ns (max n a)
    rw [List.foldl_cons]
    refine ⟨?_, by omega, fun y hy => ?_⟩
    · rcases h1 with h1 | h1
      · rw [h1]
        by_cases c : n ≤ a
        · exact .inr (by rw [Int.max_eq_right c]; exact List.mem_cons_self)
        · exact .inl (Int.max_eq_left (by omega))
      · exact .inr (List.mem_cons_of_mem _ h1)
    · rcases List.mem_cons.mp hy with rfl | hy
      · omega
      · exact h3 y hy
theorem fold_min : ∀ (ns : List Int) (n : Int), (ns.foldl min n = n ∨ ns.foldl min n ∈ ns) ∧ ns.foldl min n ≤ n ∧ ∀ y ∈ ns, ns.foldl min n ≤ y
  | [], n => ⟨.inl rfl, Int.le_refl _, fun y hy => nomatch hy⟩
  | a :: ns, n => by
    obtain ⟨h1, h2, h3⟩ := fold_min ns (min n a)
    rw [List.foldl_cons]
    refine ⟨?_, by omega, fun y hy => ?_⟩
    · rcases h1 with h1 | h1
      · rw [h1]
        by_cases c : a ≤ n
        · exact .inr (by rw [Int.min_eq_right c]; exact List.mem_cons_self)
        · exact .inl (Int.min_eq_left (by omega))
      · exact .inr (List.mem_cons_of_mem _ h1)
    · rcases List.mem_cons.mp hy with rfl | hy
      · omega
      · exact h3 y hy
theorem depth_ints : ∀ ns : List Int, PyData.depthAll (ns.map PyData.int) = 0
  | [] => rfl
  | n :: ns => by
    show max 0 (PyData.depthAll (ns.map PyData.int)) = 0
    rw [depth_ints ns]
    rfl
theorem max_tup {kk : Nat} (hc : X.calm = true) (hr : L2.Room kk X.A) : CallR X (.builtin "max") (fun xs H Q => ∃ (a : Addr) (ns : List Int), xs = [V.ref a] ∧ SqT X.K H a (ns.map V.int) ∧ 0 < ns.length ∧ ∀ m, m ∈ ns → (∀ y, y ∈ ns → y ≤ m) → Q (.int m) H) := by
  intro pins s σ H xs us Q I r h
  obtain ⟨a, ns, rfl, hT, hn, q⟩ := h
  rw [L2.Vals.ref1 r]
  obtain ⟨its, rv, pt, _⟩ := I.tuple hT
  have hi := L2.Vals.ints rv
  cases ns with
  | nil => exact absurd hn (Nat.lt_irrefl 0)
  | cons n ns =>
    refine PySem.W.max_tuple_data (I.ok.hd hc) (show s.heap.IsTuple a its.toArray from pt) (x := .int n) (xs := ns.map PyData.int) (as := []) (by simpa using readsI hi) (alike_all_ints (n :: ns)) ?_ fun i v h' tk bs _ rd hk => ?_
    · have e := depth_ints (n :: ns)
      rw [List.map_cons] at e
      rw [e]
      have := hr.un
      omega
    · rw [PySem.W.maxD_ints] at rd
      obtain ⟨h1, h2, h3⟩ := fold_max ns n
      cases rd with
      | int _ t =>
        refine ⟨.int (ns.foldl max n), H, I.kept (h' := h') (t' := tk) hk, ⟨t, rfl⟩, q _ ?_ fun y hy => ?_⟩
        · rcases h1 with h1 | h1
          · rw [h1]; exact List.mem_cons_self
          · exact List.mem_cons_of_mem _ h1
        · rcases List.mem_cons.mp hy with rfl | hy
          · exact h2
          · exact h3 y hy
theorem min_tup {kk : Nat} (hc : X.calm = true) (hr : L2.Room kk X.A) : CallR X (.builtin "min") (fun xs H Q => ∃ (a : Addr) (ns : List Int), xs = [V.ref a] ∧ SqT X.K H a (ns.map V.int) ∧ 0 < ns.length ∧ ∀ m, m ∈ ns → (∀ y, y ∈ ns → m ≤ y) → Q (.int m) H) := by
  intro pins s σ H xs us Q I r h
  obtain ⟨a, ns, rfl, hT, hn, q⟩ := h
  rw [L2.Vals.ref1 r]
  obtain ⟨its, rv, pt, _⟩ := I.tuple hT
  have hi := L2.Vals.ints rv
  cases ns with
  | nil => exact absurd hn (Nat.lt_irrefl 0)
  | cons n ns =>
    refine PySem.W.min_tuple_data (I.ok.hd hc) (show s.heap.IsTuple a its.toArray from pt) (x := .int n) (xs := ns.map PyData.int) (as := []) (by simpa using readsI hi) (alike_all_ints (n :: ns)) ?_ fun i v h' tk bs _ rd hk => ?_
    · have e := depth_ints (n :: ns)
      rw [List.map_cons] at e
      rw [e]
      have := hr.un
      omega
    · rw [PySem.W.minD_ints] at rd
      obtain ⟨h1, h2, h3⟩ := fold_min ns n
      cases rd with
      | int _ t =>
        refine ⟨.int (ns.foldl min n), H, I.kept (h' := h') (t' := tk) hk, ⟨t, rfl⟩, q _ ?_ fun y hy => ?_⟩
        · rcases h1 with h1 | h1
          · rw [h1]; exact List.mem_cons_self
          · exact List.mem_cons_of_mem _ h1
        · rcases List.mem_cons.mp hy with rfl | hy
          · exact h2
          · exact h3 y hy
theorem b_max {kk : Nat} (hc : X.calm = true) (hr : L2.Room kk X.A) : CallR X (.builtin "max") (rlOf X.K rMax) := rlI ((L2.cr_max hc).or (max_tup hc hr)) fun xs H Q ⟨m, S, ds, R, s, rx, h, k⟩ => by
  match ds, h, rx with
  | [d], ⟨ns, h1, h2, q⟩, rx =>
    obtain ⟨v, rfl, hv⟩ := reps1 rx
    rcases itemsAt_rep s hv h1 with ⟨a, vs, rfl, hL, rs⟩ | ⟨a, vs, rfl, hL, rs⟩
    · exact .inl ⟨a, ns, rfl, by rw [← rs.ints]; exact hL, h2, fun n hn hy => k _ (.int n) H S m (Ext.refl _ _) s rfl (q n hn hy)⟩
    · exact .inr ⟨a, ns, rfl, by rw [← rs.ints]; exact hL, h2, fun n hn hy => k _ (.int n) H S m (Ext.refl _ _) s rfl (q n hn hy)⟩
theorem b_min {kk : Nat} (hc : X.calm = true) (hr : L2.Room kk X.A) : CallR X (.builtin "min") (rlOf X.K rMin) := rlI ((L2.cr_min hc).or (min_tup hc hr)) fun xs H Q ⟨m, S, ds, R, s, rx, h, k⟩ => by
  match ds, h, rx with
  | [d], ⟨ns, h1, h2, q⟩, rx =>
    obtain ⟨v, rfl, hv⟩ := reps1 rx
    rcases itemsAt_rep s hv h1 with ⟨a, vs, rfl, hL, rs⟩ | ⟨a, vs, rfl, hL, rs⟩
    · exact .inl ⟨a, ns, rfl, by rw [← rs.ints]; exact hL, h2, fun n hn hy => k _ (.int n) H S m (Ext.refl _ _) s rfl (q n hn hy)⟩
    · exact .inr ⟨a, ns, rfl, by rw [← rs.ints]; exact hL, h2, fun n hn hy => k _ (.int n) H S m (Ext.refl _ _) s rfl (q n hn hy)⟩
/-! methods, stores -/
theorem refL {K : PySem.W.Frag} {H : Hp} {m : List Addr} {S : Sto} {n : Nat} {x : V} {P : List D → Prop} (s : RepS K H m S) (r : Rep K H m (.ref n) x) (h : isLst S n P) : ∃ a vs xs, x = .ref a ∧ m[n]? = some a ∧ H a = some (.lst vs) ∧ Reps K H m xs vs ∧ S[n]? = some (.lst xs) ∧ P xs := by
  obtain ⟨xs, e1, q⟩ := isLst_iff.mp h
  obtain ⟨a, vs, h1, h2, h3⟩ := s.lst e1
  obtain ⟨b, q1, rfl⟩ := r
  rw [h1] at q1
  cases q1
  exact ⟨_, vs, xs, rfl, h1, h2, h3, e1, q⟩
theorem m_append : MtR X "list.append" (rmOf X.K rAppend) := rmI L2.mt_append fun x xs H Q ⟨m, S, d, ds, R, s, rx, rs, h, k⟩ => by
  match d, ds, h, rx, rs with
  | .ref n, [d], h, rx, rs =>
    obtain ⟨a, vs, ys, rfl, h1, h2, h3, e1, hz, q⟩ := refL s rx h
    obtain ⟨v, rfl, hv⟩ := reps1 rs
    exact ⟨a, vs, v, rfl, rfl, h2, by rw [h3.len, ← szL']; exact hz, k.put s e1 h1 h2 (h3.app (Reps.one hv)) (d := .non) rfl q⟩
theorem m_pop : MtR X "list.pop" (rmOf X.K rPop) := rmI L2.mt_pop fun x xs H Q ⟨m, S, d, ds, R, s, rx, rs, h, k⟩ => by
  match d, ds, h, rx, rs with
  | .ref n, [], h, rx, rs =>
    obtain ⟨a, vs, ys, rfl, h1, h2, h3, e1, d, hd, q⟩ := refL s rx h
    obtain ⟨v, g1, g2⟩ := h3.get _ _ hd
    exact ⟨a, vs, v, rfl, rs, h2, by rw [h3.len]; exact g1, k.put s e1 h1 h2 h3.dropLast g2 q⟩
theorem ixZ_seq {n : Nat} {i : Int} {j : Nat} (h : ixZ n i = some j) : seqIndex? i n = some j ∧ j < n ∧ -(n : Int) ≤ i ∧ i < n := L2.ixN_seq h
theorem m_popAt : MtR X "list.pop" (rmOf X.K rPopAt) := rmI L2.mt_popAt fun x xs H Q ⟨m, S, d, ds, R, s, rx, rs, h, k⟩ => by
  match d, ds, h, rx, rs with
  | .ref n, [.int i], h, rx, rs =>
    obtain ⟨a, vs, ys, rfl, h1, h2, h3, e1, ⟨i0, i1⟩, j, d, hj, hd, q⟩ := refL s rx h
    obtain ⟨v, rfl, hv⟩ := reps1 rs
    have hv : v = .int i := hv
    subst hv
    obtain ⟨u, g1, g2⟩ := h3.get _ _ hd
    obtain ⟨p1, p2, p3, p4⟩ := ixZ_seq hj
    exact ⟨a, vs, i, j, u, rfl, rfl, h2, i0, i1, by rw [h3.len]; exact p1, g1, k.put s e1 h1 h2 (h3.erase j) g2 q⟩
theorem m_reverse : MtR X "list.reverse" (rmOf X.K rReverse) := rmI L2.mt_reverse fun x xs H Q ⟨m, S, d, ds, R, s, rx, rs, h, k⟩ => by
  match d, ds, h, rx, rs with
  | .ref n, [], h, rx, rs =>
    obtain ⟨a, vs, ys, rfl, h1, h2, h3, e1, q⟩ := refL s rx h
    exact ⟨a, vs, rfl, rs, h2, k.put s e1 h1 h2 h3.rev (d := .non) rfl q⟩
theorem m_insert : MtR X "list.insert" (rmOf X.K rInsert) := rmI L2.mt_insert fun x xs H Q ⟨m, S, d, ds, R, s, rx, rs, h, k⟩ => by
  match d, ds, h, rx, rs with
  | .ref n, [.int i, d], h, rx, rs =>
    obtain ⟨a, vs, ys, rfl, h1, h2, h3, e1, hz, ⟨i0, i1⟩, q⟩ := refL s rx h
    obtain ⟨v, u, rfl, hv, hu⟩ := reps2 rs
    have hv : v = .int i := hv
    subst hv
    exact ⟨a, vs, i, u, rfl, rfl, h2, by rw [h3.len, ← szL']; exact hz, i0, i1, k.put s e1 h1 h2 (((h3.take _).app (Reps.one hu)).app (h3.drop _)) (d := .non) rfl q⟩
theorem p_put : L2.PSet X (rpOf X.K rPut) := fun pins s σ H o i v ov iv u Q I ro ri rv ⟨m, S, x, j, d, R, hs, rx, rk, rd, h, k⟩ => by
  match x, j, h, rx, rk with
  | .ref n, .int z, h, rx, rk =>
    obtain ⟨a, vs, ys, rfl, h1, h2, h3, e1, jj, hj, q⟩ := refL hs rx h
    have rk : i = .int z := rk
    subst rk
    refine L2.set_list pins s σ H (.ref a) (.int z) v ov iv u Q I ro ri rv ⟨a, vs, z, jj, rfl, rfl, h2, by rw [h3.len]; exact hj, ?_⟩
    exact k _ _ m (Ext.wrote (List.mem_of_getElem? h1) h2 rfl) (hs.set e1 h1 (h3.set jj rd)) q

/-! sorting -/
mutual
theorem akin_eq : ∀ a b : D, akin a b = true → PySem.W.alike (toPy a) (toPy b) = true
  | .int _, .int _, _ => by simp [toPy, PySem.W.alike]
  | .str _, .str _, _ => by simp [toPy, PySem.W.alike]
  | .tup xs, .tup ys, h => by
    have := akins_eq xs ys h
    simpa [toPy, PySem.W.alike] using this
  | .non, b, h => by cases b <;> cases (show false = true from h)
  | .bl _, b, h => by cases b <;> cases (show false = true from h)
  | .rol _, b, h => by cases b <;> cases (show false = true from h)
  | .ref _, b, h => by cases b <;> cases (show false = true from h)
  | .ty _, b, h => by cases b <;> cases (show false = true from h)
  | .int _, .non, h | .int _, .bl _, h | .int _, .str _, h | .int _, .tup _, h | .int _, .rol _, h | .int _, .ref _, h | .int _, .ty _, h => by cases (show false = true from h)
  | .str _, .non, h | .str _, .bl _, h | .str _, .int _, h | .str _, .tup _, h | .str _, .rol _, h | .str _, .ref _, h | .str _, .ty _, h => by cases (show false = true from h)
  | .tup _, .non, h | .tup _, .bl _, h | .tup _, .int _, h | .tup _, .str _, h | .tup _, .rol _, h | .tup _, .ref _, h | .tup _, .ty _, h => by cases (show false = true from h)
theorem akins_eq : ∀ a b : List D, akins a b = true → PySem.W.alikeAll (toPys a) (toPys b) = true
  | [], _, _ => by simp [toPys, PySem.W.alikeAll]
  | _ :: _, [], _ => by simp [toPys, PySem.W.alikeAll]
  | x :: xs, y :: ys, h => by
    have h := Bool.and_eq_true_iff.mp (show (akin x y && akins xs ys) = true from h)
    simp [toPys, PySem.W.alikeAll, akin_eq x y h.1, akins_eq xs ys h.2]
end
mutual
theorem lt_eq : ∀ a b : D, flat a = true → flat b = true → akin a b = true → PySem.W.dataLt (toPy a) (toPy b) = ltD a b
  | .int i, .int j, _, _, _ => PySem.W.dataLt_int i j
  | .str i, .str j, _, _, _ => PySem.W.dataLt_str i j
  | .tup xs, .tup ys, f, g, h => by
    show PySem.W.dataLt (.tuple (toPys xs)) (.tuple (toPys ys)) = ltDs xs ys
    rw [PySem.W.dataLt_tuple]
    exact lts_eq xs ys f g h
  | .non, b, _, _, h => by cases b <;> cases (show false = true from h)
  | .bl _, b, _, _, h => by cases b <;> cases (show false = true from h)
  | .rol _, b, _, _, h => by cases b <;> cases (show false = true from h)
  | .ref _, b, _, _, h => by cases b <;> cases (show false = true from h)
  | .ty _, b, _, _, h => by cases b <;> cases (show false = true from h)
  | .int _, .non, _, _, h | .int _, .bl _, _, _, h | .int _, .str _, _, _, h | .int _, .tup _, _, _, h | .int _, .rol _, _, _, h | .int _, .ref _, _, _, h | .int _, .ty _, _, _, h => by cases (show false = true from h)
  | .str _, .non, _, _, h | .str _, .bl _, _, _, h | .str _, .int _, _, _, h | .str _, .tup _, _, _, h | .str _, .rol _, _, _, h | .str _, .ref _, _, _, h | .str _, .ty _, _, _, h => by cases (show false = true from h)
  | .tup _, .non, _, _, h | .tup _, .bl _, _, _, h | .tup _, .int _, _, _, h | .tup _, .str _, _, _, h | .tup _, .rol _, _, _, h | .tup _, .ref _, _, _, h | .tup _, .ty _, _, _, h => by cases (show false = true from h)
theorem lts_eq : ∀ a b : List D, flats a = true → flats b = true → akins a b = true → PyProof.Rows.lexLt PyProof.Rows.itemOrd (PySem.W.keyToksAll (toPys a)) (PySem.W.keyToksAll (toPys b)) = ltDs a b
  | [], [], _, _, _ => PyProof.Rows.lex_irrefl _
  | [], y :: ys, _, _, _ => by
    exact PyProof.Rows.lex_true.mpr (.inl rfl)
  | x :: xs, [], _, _, _ => by
    exact PyProof.Rows.lex_false.mpr ⟨rfl, .inl rfl⟩
  | x :: xs, y :: ys, f, g, h => by
    have f := Bool.and_eq_true_iff.mp (show (flat x && flats xs) = true from f)
    have g := Bool.and_eq_true_iff.mp (show (flat y && flats ys) = true from g)
    have h := Bool.and_eq_true_iff.mp (show (akin x y && akins xs ys) = true from h)
    show PyProof.Rows.lexLt PyProof.Rows.itemOrd (PySem.W.keyToksAll (toPy x :: toPys xs)) (PySem.W.keyToksAll (toPy y :: toPys ys)) = if eqD x y = true then ltDs xs ys else ltD x y
    rw [PySem.W.dataLt_cons (akin_eq x y h.1), eqv_eq x y f.1 g.1, lts_eq xs ys f.2 g.2 h.2, lt_eq x y f.1 g.1 h.1]
end

theorem sort_trans (a b c : D) : PySem.W.dataLe false toPy a b = true → PySem.W.dataLe false toPy b c = true → PySem.W.dataLe false toPy a c = true := by
  rw [PySem.W.dataLe_eq]
  show (!PySem.W.dataLt (toPy b) (toPy a)) = true → (!PySem.W.dataLt (toPy c) (toPy b)) = true → (!PySem.W.dataLt (toPy c) (toPy a)) = true
  intro h1 h2
  cases e : PySem.W.dataLt (toPy c) (toPy a) with
  | false => rfl
  | true =>
    rcases PyProof.Rows.lex_negTrans _ (PySem.W.keyToks (toPy b)) _ e with q | q
    · rw [show PySem.W.dataLt (toPy c) (toPy b) = true from q] at h2; cases h2
    · rw [show PySem.W.dataLt (toPy b) (toPy a) = true from q] at h1; cases h1
theorem sort_total (a b : D) : (PySem.W.dataLe false toPy a b || PySem.W.dataLe false toPy b a) = true := by
  rw [PySem.W.dataLe_eq]
  show ((!PySem.W.dataLt (toPy b) (toPy a)) || (!PySem.W.dataLt (toPy a) (toPy b))) = true
  cases e : PySem.W.dataLt (toPy b) (toPy a) with
  | false => rfl
  | true =>
    cases e2 : PySem.W.dataLt (toPy a) (toPy b) with
    | false => rfl
    | true =>
      have := PyProof.Rows.lex_trans _ _ _ (show PyProof.Rows.lexLt PyProof.Rows.itemOrd (PySem.W.keyToks (toPy b)) (PySem.W.keyToks (toPy a)) = true from e) e2
      rw [PyProof.Rows.lex_irrefl] at this
      cases this
theorem flats_mem : ∀ {xs : List D}, flats xs = true → ∀ a ∈ xs, flat a = true
  | [], _, a, h => nomatch h
  | x :: xs, f, a, h => by
    have f := Bool.and_eq_true_iff.mp (show (flat x && flats xs) = true from f)
    rcases List.mem_cons.mp h with rfl | h
    · exact f.1
    · exact flats_mem f.2 a h
theorem deeps_mem : ∀ {xs : List D} (a : D), a ∈ xs → deep a ≤ deeps xs
  | [], a, h => nomatch h
  | x :: xs, a, h => by
    show deep a ≤ max (deep x) (deeps xs)
    rcases List.mem_cons.mp h with rfl | h
    · exact Nat.le_max_left _ _
    · exact Nat.le_trans (deeps_mem a h) (Nat.le_max_right _ _)
/-- a value that stands for plain data -/
def Stands (K : PySem.W.Frag) (H : Hp) (m : List Addr) (u : Value) (d : D) : Prop := ∃ v, RelV v u ∧ Rep K H m d v
theorem stands_all {K : PySem.W.Frag} {H : Hp} {m : List Addr} : ∀ {ds : List D} {vs : List V} {us : List Value}, Reps K H m ds vs → Vals vs us → PySem.W.EachIs (Stands K H m) us ds
  | [], _, _, r, rv => by
    rw [show _ = ([] : List V) from r] at rv
    cases rv
    exact .nil
  | d :: ds, _, _, ⟨v, r, h1, h2, h3⟩, rv => by
    subst h1
    cases rv with
    | cons a b => exact .cons ⟨v, a, h2⟩ (stands_all h3 b)
theorem stands_back {K : PySem.W.Frag} {H : Hp} {m : List Addr} : ∀ {ds : List D} {us : List Value}, PySem.W.EachIs (Stands K H m) us ds → ∃ vs, Reps K H m ds vs ∧ Vals vs us
  | _, _, .nil => ⟨[], rfl, .nil⟩
  | _, _, .cons ⟨v, h1, h2⟩ t => by
    obtain ⟨vs, g1, g2⟩ := stands_back t
    exact ⟨v :: vs, ⟨v, vs, rfl, h2, g1⟩, .cons h1 g2⟩
theorem toPy_tup {d : D} {x : D} {r : List D} (h : d = .tup (x :: r)) : ∃ y s, toPy d = .tuple (y :: s) := ⟨toPy x, toPys r, by rw [h]; rfl⟩
theorem b_sorted {kk : Nat} (hr : L2.Room kk X.A) : CallR X (.builtin "sorted") (rlOf X.K rSorted) := by
  intro pins s σ H vs us Q I rv ⟨m, S, ds, R, hS, rs, h, k⟩
  match ds, h, rs with
  | [.ref n], h, rs =>
    obtain ⟨v, rfl, hv⟩ := reps1 rs
    obtain ⟨a, ws, xs, rfl, h1, h2, h3, e1, ⟨f, dp, ak, so⟩, q⟩ := refL hS hv h
    rw [L2.Vals.ref1 rv]
    obtain ⟨its, rw', pl, hz⟩ := I.list (SqL.of h2)
    have st := stands_all h3 rw'
    have hm : ∀ b ∈ xs, flat b = true := flats_mem f
    have rd : ∀ {ds : List D} {us : List Value}, PySem.W.EachIs (Stands X.K H m) us ds → (∀ d ∈ ds, flat d = true) → PySem.W.EachIs (fun u d => ∃ as, Reads s.heap u (toPy d) as) us ds := by
      intro ds us e
      induction e with
      | nil => intro _; exact .nil
      | cons h t ih =>
        intro hf
        obtain ⟨v, g1, g2⟩ := h
        exact .cons (L2.Dp.reads I _ _ _ (toPy_dp _ _ (hf _ List.mem_cons_self) g2) g1) (ih fun d hd => hf d (List.mem_cons_of_mem _ hd))
    refine PySem.W.sorted_data (enc := toPy) (bs := xs) (R := Stands X.K H m) pl.isList st (rd st hm) ?_ ?_ (by rw [← h3.len]; exact hz) (fun b hb => ?_) fun out ho eo => ?_
    · intro d hd d' hd'
      obtain ⟨b, hb, rfl⟩ := List.mem_map.mp hd
      obtain ⟨b', hb', rfl⟩ := List.mem_map.mp hd'
      exact akin_eq b b' (ak b hb b' hb')
    · rcases so with so | so
      · refine .inl fun d hd => ?_
        obtain ⟨b, hb, rfl⟩ := List.mem_map.mp hd
        obtain ⟨x, r, e⟩ := so b hb
        exact toPy_tup e
      · refine .inr fun d hd => ?_
        obtain ⟨b, hb, rfl⟩ := List.mem_map.mp hd
        obtain ⟨n1, n2⟩ := so b hb
        have fb := hm b hb
        cases b with
        | non => exact absurd rfl n1
        | tup ys => exact absurd rfl (n2 ys)
        | rol _ => cases (show false = true from fb)
        | ref _ => cases (show false = true from fb)
        | ty _ => cases (show false = true from fb)
        | bl _ => exact ⟨(fun z => nomatch z), (fun _ z => nomatch z)⟩
        | int _ => exact ⟨(fun z => nomatch z), (fun _ z => nomatch z)⟩
        | str _ => exact ⟨(fun z => nomatch z), (fun _ z => nomatch z)⟩
    · rw [deep_eq]
      have := deeps_mem b hb
      have := hr.units
      omega
    · obtain ⟨c, hc⟩ := PyProof.Rows.sortedAll_at s.heap its out.toArray
      obtain ⟨ys, g1, g2⟩ := stands_back eo
      have hp : H (s.heap.objs.size + 1) = none := I.hok.fresh (Nat.le_succ _)
      have perm := List.mergeSort_perm xs (PySem.W.dataLe false toPy)
      have pw := List.pairwise_mergeSort sort_trans sort_total xs
      refine ⟨.ref (s.heap.objs.size + 1), upd H (s.heap.objs.size + 1) (.lst ys), I.laid (t' := s.toks) (fun _ _ => PyProof.Rows.sortedAll_old) (Nat.le_succ _) ⟨?_, out, c, g2, hc⟩, rfl, ?_⟩
      · rw [g1.len, List.length_mergeSort, ← h3.len]
        exact hz
      · refine k.lst hS g1 (q _ perm ?_) _ hp
        refine List.Pairwise.imp_of_mem (fun {x y} hx hy hxy => ?_) pw
        have hx' := perm.mem_iff.mp hx
        have hy' := perm.mem_iff.mp hy
        have hxy : (!PySem.W.dataLt (toPy y) (toPy x)) = true := hxy
        rw [lt_eq y x (hm y hy') (hm x hx') (ak y hy' x hx')] at hxy
        simpa using hxy
/-- set(xs) of ints: tracked beside -/
theorem set_ints (hc : X.calm = true) : CallR X (.type "set") (fun xs H Q => ∃ (a : Addr) (ns : List Int), xs = [V.ref a] ∧ (SqL X.K H a (ns.map V.int) ∨ SqT X.K H a (ns.map V.int)) ∧ ns.length < 60 ∧
    ∀ p c, H p = none → c ≤ ns.length → Q (.ref p) (upd H p (L2.SetO X.w p (fun j => decide (j ∈ ns)) c))) := by
  intro pins s σ H xs us Q I r h
  obtain ⟨a, ns, rfl, hT, hn, q⟩ := h
  rw [L2.Vals.ref1 r]
  have hb : ns.length + 1 < scanBound := by unfold scanBound; omega
  have hp : H s.heap.objs.size = none := I.hok.fresh (Nat.le_refl _)
  rcases hT with hT | hT
  · obtain ⟨its, rv, pt, _⟩ := I.list hT
    refine L2.set_ints_list (items := its.toArray) ns (I.ok.hd hc) pt.isList (by simpa using L2.Vals.ints rv) hb fun h' tk c R hc hk => ?_
    exact ⟨.ref s.heap.objs.size, _, I.laid (t' := tk) hk (Nat.le_refl _) (L2.setO_new R), rfl, q _ c hp hc⟩
  · obtain ⟨its, rv, pt, _⟩ := I.tuple hT
    refine L2.call_set_tupI (items := its.toArray) ns (I.ok.hd hc) (show s.heap.IsTuple a its.toArray from pt) (by simpa using L2.Vals.ints rv) hb fun h' tk c R hc hk => ?_
    exact ⟨.ref s.heap.objs.size, _, I.laid (t' := tk) hk (Nat.le_refl _) (L2.setO_new R), rfl, q _ c hp hc⟩
theorem d_sortedSet {e : Expr} {wa : WE} {p p2 pos pos2 : Pos} (hc : X.calm = true) (hg : L2.Gl X "sorted") (hm : X.mg "sorted" = none) (hg2 : L2.Gl X "set") (hm2 : X.mg "set" = none) (he : PE X e (teOf X.K wa))
    (h1 : starEach [e] X.env = [(false, eval e X.env)] := by rfl) : PE X (.Call (.Name "sorted" p) [.Call (.Name "set" p2) [e] [] pos2] [] pos) (teOf X.K (wSortedSet wa)) :=
  peI (L2.pe_callB (L2.cr_sortedSet hc) hg hm (by decide +kernel) (L2.pa_cons (L2.pe_callTy (set_ints hc) hg2 hm2 (by decide +kernel) (L2.pa_cons he L2.pa_nil h1) (he := h1)) L2.pa_nil)) fun σ H Q ⟨ρ, S, m, R, hE, hS, h, k⟩ =>
    ⟨ρ, S, m, _, hE, hS, h, fun v d H1 S1 m1 e1 s1 r1 ⟨ns, g1, g2, q⟩ => by
      have go : ∀ (a : Addr), v = .ref a → (SqL X.K H1 a (ns.map V.int) ∨ SqT X.K H1 a (ns.map V.int)) → ∃ (a : Addr) (ns' : List Int), [v] = [V.ref a] ∧ (SqL X.K H1 a (ns'.map V.int) ∨ SqT X.K H1 a (ns'.map V.int)) ∧ ns'.length < 60 ∧
          ∀ p c, H1 p = none → c ≤ ns'.length → (L2.tNil σ (upd H1 p (L2.SetO X.w p (fun j => decide (j ∈ ns')) c)) fun xs H2 => L2.rSortedSet X.w (V.ref p :: xs) H2 Q) := by
        rintro a rfl hT
        refine ⟨a, ns, rfl, hT, g2, fun p c hp hcl => ⟨p, _, c, rfl, upd_same, by omega, fun ms p2 pw mem hl hp2 => ?_⟩⟩
        have e2 := e1.trans (Ext.fresh (m := m1) hp (L2.SetO X.w p (fun j => decide (j ∈ ns)) c))
        exact (k.ext e2).lst (s1.fresh hp _) (ds := intD ms) Reps.of_ints (q ms pw fun kk => by rw [mem kk]; simp) p2 hp2
      rcases itemsAt_rep s1 r1 g1 with ⟨a, vs, e, hL, rs⟩ | ⟨a, vs, e, hL, rs⟩
      · exact go a e (.inl (by rw [← rs.ints]; exact hL))
      · exact go a e (.inr (by rw [← rs.ints]; exact hL))⟩
end
end DL
set_option Elab.async false
set_option linter.all false
set_option maxRecDepth 100000
set_option maxHeartbeats 4000000
/-! DL8: defs as they are called. -/
namespace DL
open PySem PySem.Spec
open L2 (V Hp HO St TE TT TA TS TG TI TO PE PT PW PA PS PSs PG PI PO Cx Inv RelV Vals SqL SqT Rd upd upd_same upd_ne ne_of ne_of_none OpR UnR CallR MtR IxR SlR It thn)
/-- the def that stands at the name x: it keeps sp, with k calls within one another -/
structure Callee (P : Program) (w : World) (K : PySem.W.Frag) (mg : Str → Option Value) (base : Heap) (x : Str) (k n : Nat) (sp : Spc) : Prop where
  ex : ∃ (f : Addr) (fd : FuncData) (ps : List Str), L2.FnOk P w K mg base L2.CX0 k f fd ps (spOf K n sp) ∧ mg x = some (.ref f) ∧ PySem.W.keepIn K (.ref f) = true ∧ L2.Binds K fd ps []
theorem Callee.imp {P : Program} {w : World} {K : PySem.W.Frag} {mg : Str → Option Value} {base : Heap} {x : Str} {k n : Nat} {sp sp' : Spc} (C : Callee P w K mg base x k n sp) (h : ∀ ds S Q, sp' ds S Q → sp ds S Q) : Callee P w K mg base x k n sp' := by
  obtain ⟨f, fd, ps, h1, h2, h3, h4⟩ := C.ex
  exact ⟨f, fd, ps, h1.imp fun vs H Q E ⟨m, S, ds, R, a, b, c, d, e⟩ => ⟨m, S, ds, R, a, b, c, h _ _ _ d, e⟩, h2, h3, h4⟩
section
variable {X : Cx} {e : Expr} {es : List Expr} {pos p : Pos} {va : WA}
theorem d_calle {kk k0 n : Nat} {sp : Spc} {x : Str} (C : Callee X.prog X.w X.K X.mg X.base x k0 n sp) (hr : L2.Room kk X.A) (hk : k0 ≤ kk) (hg : L2.Gl X x) (ha : PA X (e :: es) (taOf X.K va)) (hd : (x == ("__debug__" : Str)) = false := by decide)
    (he : starEach (e :: es) X.env = (false, eval e X.env) :: starEach es X.env := by rfl) (hpl : (backTo pos (starEach es X.env)).any (·.1) = false := by rfl) :
    PE X (.Call (.Name x p) (e :: es) [] pos) (teOf X.K (wCall n sp va)) := by
  obtain ⟨f, fd, ps, h1, h2, h3, h4⟩ := C.ex
  exact d_call h1 (hr.mono hk) hg h2 h3 h4 ha hd he hpl
end
section
variable {P : Program} {w : World} {K : PySem.W.Frag} {mg : Str → Option Value} {base : Heap}
theorem callee_of {x : Str} {st : Stmt} {f : Addr} {fd : FuncData} {N ps : List Str} {k n a : Nat} {sp : Spc} {ws : WS} (F : L2.Fun K x x st f fd) (hm : mg x = some (.ref f)) (hb : L2.Binds K fd ps []) (Sc : L2.FnScope N ps (L2.defScope st)) (hn : N.length = n) (ha : ps.length = a)
    (hw : ∀ (cdv : Value) (A : Around) (outer : List PySem.Env) (s : Shared) (H : Hp) (E : L2.XK), L2.Room k (A.deeper (PyProof.Rows.envOfC x (L2.defScope st) s.heap.objs.size f cdv)) →
      PSs (L2.cxOf L2.CX0 P w K mg base N x (L2.defScope st) f cdv A outer s H E).nox (L2.defBody st) (tsOf K ws)) (body : Body n a ws sp) : Callee P w K mg base x (k + 1) a sp :=
  ⟨f, fd, ps, fn_body F Sc hn ha hw body, hm, F.kp, hb⟩
/-- nobody calls with no calls left -/
theorem callee_none {x : Str} {st : Stmt} {f : Addr} {fd : FuncData} {ps : List Str} {a : Nat} {sp : Spc} (F : L2.Fun K x x st f fd) (hm : mg x = some (.ref f)) (hb : L2.Binds K fd ps []) (h : ∀ ds S Q, ¬ sp ds S Q) : Callee P w K mg base x 0 a sp :=
  ⟨f, fd, ps, ⟨fun vs H Q E ⟨m, S, ds, R, _, _, _, d, _⟩ => absurd d (h _ _ _), fun A outer s H args us vs Q E _ _ _ _ ⟨m, S, ds, R, _, _, _, d, _⟩ => absurd d (h _ _ _)⟩, hm, F.kp, hb⟩
end
end DL
set_option linter.all false
/-! DLX: more operations by values. -/
namespace DL
/-- a list turned -/
@[reducible] def rRevL : R1
  | .ref n, S, Q => isLst S n fun xs => Q (.ref S.length) (S ++ [.lst xs.reverse])
  | _, _, _ => False
/-- sorted of a list or a tuple -/
@[reducible] def rSortedA : RL
  | [.ref n], S, Q => isLst S n fun xs => sortOk xs ∧ ∀ ys, ys.Perm xs → ys.Pairwise (fun a b => ltD b a = false) → Q (.ref S.length) (S ++ [.lst ys])
  | [.tup xs], S, Q => sortOk xs ∧ ∀ ys, ys.Perm xs → ys.Pairwise (fun a b => ltD b a = false) → Q (.ref S.length) (S ++ [.lst ys])
  | _, _, _ => False
/-- x += y: ints, texts -/
@[reducible] def rIAdd : R2
  | .int i, .int j, S, Q => Q (.int (i + j)) S
  | .str x, .str y, S, Q => x.length + y.length ≤ szL ∧ Q (.str (x ++ y)) S
  | .ref m, .ref n, S, Q => isLst S m fun xs => isLst S n fun ys => xs.length + ys.length ≤ szL ∧ Q (.ref m) (S.set m (.lst (xs ++ ys)))
  | _, _, _, _ => False
/-! ranges with a step, ranges as lists and tuples -/
def rg3N (i j k : Int) : Nat := (if 0 < k then (if i < j then (j - i - 1) / k + 1 else 0) else (if j < i then (i - j - 1) / (-k) + 1 else 0)).toNat
def rangeD3 (i j k : Int) : List D := (List.range (rg3N i j k)).map fun (t : Nat) => D.int (i + t * k)
@[reducible] def wR3 (a b c : WE) : WI := fun ρ S R => a ρ S fun x S1 => b ρ S1 fun y S2 => c ρ S2 fun z S3 => match x, y, z with
  | .int i, .int j, .int k => (k ≠ 0 ∧ (-(2 ^ 29) < k ∧ k < 2 ^ 29) ∧ (-(2 ^ 61) ≤ i ∧ i < 2 ^ 61) ∧ (-(2 ^ 61) ≤ j ∧ j < 2 ^ 61)) ∧ R (rangeD3 i j k) (fun _ => True) S3
  | _, _, _ => False
@[reducible] def wLstR (a : WE) : WE := fun ρ S Q => a ρ S fun x S1 => match x with
  | .int j => (smallI j ∧ j ≤ szL) ∧ Q (.ref S1.length) (S1 ++ [.lst (rangeD 0 j)])
  | _ => False
@[reducible] def wTupR (a : WE) : WE := fun ρ S Q => a ρ S fun x S1 => match x with
  | .int j => (smallI j ∧ j ≤ szL) ∧ Q (.tup (rangeD 0 j)) S1
  | _ => False
end DL
set_option Elab.async false
set_option linter.all false
set_option maxRecDepth 100000
set_option maxHeartbeats 4000000
/-! DL9: more rules. -/
namespace DL
open PySem PySem.Spec
open L2 (V Hp HO St TE TT TA TS TG TI TO PE PT PW PA PS PSs PG PI PO Cx Inv RelV Vals SqL SqT Rd upd upd_same upd_ne ne_of ne_of_none OpR UnR CallR MtR IxR SlR It thn)
section
variable {X : Cx} {o : Expr} {pos p1 p2 p3 : Pos} {wo : WE}
theorem d_revL {k : Nat} (ho : PE X o (teOf X.K wo)) : PE X (.Subscript o (.Slice none none (some (.UnaryOp .USub (.Constant (.int 1) k p1) p2)) p3) pos) (teOf X.K (wUn rRevL wo)) :=
  peI (L2.pe_revL ho) fun σ H Q ⟨ρ, S, m, R, hE, hS, h, k⟩ => ⟨ρ, S, m, _, hE, hS, h, fun v x H1 S1 m1 e1 s1 r1 q1 => by
    cases x with
    | ref n =>
      obtain ⟨ys, e2, q⟩ := isLst_iff.mp q1
      obtain ⟨a, vs, h1, h2, h3⟩ := s1.lst e2
      obtain ⟨b, q2, rfl⟩ := r1
      rw [h1] at q2
      cases q2
      exact ⟨a, vs, rfl, SqL.of h2, (k.ext e1).lst s1 h3.rev q⟩
    | _ => exact (show False from q1).elim⟩
end
theorem i_add {X : Cx} : OpR X (inplaceOp .Add) (r2Of X.K rIAdd) := r2I (((L2.iop_add (X := X)).or L2.iop_add_str).or L2.iop_ext) fun x y H Q ⟨m, S, d, e, R, s, rx, ry, h, k⟩ => by
  cases d with
  | int i => cases e with
    | int j => exact .inl (.inl ⟨i, j, rx, ry, k _ (.int (i + j)) H S m (Ext.refl _ _) s rfl h⟩)
    | _ => exact (show False from h).elim
  | str z => cases e with
    | str z' =>
      obtain ⟨hz, q⟩ := h
      exact .inl (.inr ⟨z, z', rx, ry, by rw [← szL']; exact hz, k _ (.str (z ++ z')) H S m (Ext.refl _ _) s rfl q⟩)
    | _ => exact (show False from h).elim
  | ref i => cases e with
    | ref j =>
      obtain ⟨xs, e1, h⟩ := isLst_iff.mp h
      obtain ⟨ys, e2, hz, q⟩ := isLst_iff.mp h
      obtain ⟨a, vs, h1, h2, h3⟩ := s.lst e1
      obtain ⟨b, us, g1, g2, g3⟩ := s.lst e2
      obtain ⟨a', q1, rfl⟩ := rx
      obtain ⟨b', q2, rfl⟩ := ry
      rw [h1] at q1
      rw [g1] at q2
      cases q1
      cases q2
      exact .inr ⟨a, b, vs, us, rfl, rfl, h2, g2, by rw [h3.len, g3.len, ← szL']; exact hz, k.put s e1 h1 h2 (h3.app g3) (d := .ref i) ⟨a, h1, rfl⟩ q⟩
    | _ => exact (show False from h).elim
  | _ => exact (show False from h).elim
section
variable {X : Cx} {tg : Expr} {wa wb wc : WE} {a b c : Expr} {p p2 pos pos2 : Pos}
theorem rg3_ok {i j k : Int} (h : k ≠ 0 ∧ (-(2 ^ 29) < k ∧ k < 2 ^ 29) ∧ (-(2 ^ 61) ≤ i ∧ i < 2 ^ 61) ∧ (-(2 ^ 61) ≤ j ∧ j < 2 ^ 61)) : L2.RgC i j k (rg3N i j k) := by
  obtain ⟨h0, ⟨k1, k2⟩, ⟨i1, i2⟩, j1, j2⟩ := h
  have e : Builtin.Range.rangeSize i j k = (rg3N i j k : Int) ∧ (rg3N i j k : Int) < 2 ^ 63 := by
    unfold Builtin.Range.rangeSize rg3N
    by_cases hk : 0 < k
    · rw [if_pos hk]
      by_cases hc : i < j
      · rw [if_pos hc]
        have a1 : (j - i - 1) / k ≤ j - i - 1 := Int.ediv_le_self k (by omega)
        have a2 : 0 ≤ (j - i - 1) / k := Int.ediv_nonneg (by omega) (by omega)
        omega
      · rw [if_neg hc]; omega
    · rw [if_neg hk]
      by_cases hc : j < i
      · rw [if_pos hc]
        have a1 : (i - j - 1) / -k ≤ i - j - 1 := Int.ediv_le_self (-k) (by omega)
        have a2 : 0 ≤ (i - j - 1) / -k := Int.ediv_nonneg (by omega) (by omega)
        omega
      · rw [if_neg hc]; omega
  refine ⟨h0, by omega, ?_, e.1⟩
  unfold Builtin.Range.small Builtin.Range.rangeFitsLong
  rw [e.1]
  have := e.2
  have n0 : (0 : Int) ≤ rg3N i j k := by omega
  generalize (rg3N i j k : Int) = n at *
  by_cases hk : 0 < k
  · rw [if_pos hk]
    simp only [Bool.and_eq_true, Bool.or_eq_true, decide_eq_true_eq]
    omega
  · rw [if_neg hk]
    simp only [Bool.and_eq_true, Bool.or_eq_true, decide_eq_true_eq]
    omega
theorem yields_rng3 {K : PySem.W.Frag} {m : List Addr} {H : Hp} {i j k : Int} : Yields K (L2.Itc i k (rg3N i j k)) (rangeD3 i j k) (fun _ => True) m H := by
  intro m1 H1 S1 e s g
  refine ⟨fun t d hd => ?_, fun t ht => by unfold rangeD3 at ht; rw [List.length_map, List.length_range] at ht; exact ht⟩
  unfold rangeD3 at hd
  rw [List.getElem?_map] at hd
  by_cases hi : t < rg3N i j k
  · rw [List.getElem?_range hi] at hd
    have h2 := (Option.some.inj hd).symm
    exact ⟨hi, fun x H' ⟨q1, q2⟩ => ⟨m1, by rw [q1]; exact Ext.refl _ _, by rw [q1]; exact s, by rw [q2, h2]; rfl⟩⟩
  · rw [List.getElem?_eq_none (by simpa using hi)] at hd
    cases hd
theorem di_r3 (hg : L2.Gl X "range") (hm : X.mg "range" = none) (ha : PE X a (teOf X.K wa)) (hb : PE X b (teOf X.K wb)) (hc : PE X c (teOf X.K wc)) (h1 : starEach [a, b, c] X.env = (false, eval a X.env) :: starEach [b, c] X.env := by rfl) (h2 : starEach [b, c] X.env = (false, eval b X.env) :: starEach [c] X.env := by rfl)
    (h3 : starEach [c] X.env = (false, eval c X.env) :: starEach [] X.env := by rfl) (h4 : ((backTo pos (starEach [b, c] X.env)).any fun x => x.fst) = false := by rfl) : PI X tg (.Call (.Name "range" p) [a, b, c] [] pos) (tiOf X.K (wR3 wa wb wc)) :=
  piI (L2.pi_range3 hg hm (da_cons ha (da_cons hb (da_cons hc da_nil h3) h2) h1) h1 h4) fun σ H Q ⟨ρ, S, m, R, hE, hS, h, k⟩ => ⟨ρ, S, m, fun ds S1 => match ds with
    | [.int i, .int j, .int l] => (l ≠ 0 ∧ (-(2 ^ 29) < l ∧ l < 2 ^ 29) ∧ (-(2 ^ 61) ≤ i ∧ i < 2 ^ 61) ∧ (-(2 ^ 61) ≤ j ∧ j < 2 ^ 61)) ∧ R (rangeD3 i j l) (fun _ => True) S1
    | _ => False, hE, hS, (by
      show wa ρ S _
      refine cast (congrArg (wa ρ S) ?_) h
      funext x S1
      show wb ρ S1 _ = wb ρ S1 _
      refine congrArg (wb ρ S1) ?_
      funext y S2
      show wc ρ S2 _ = wc ρ S2 _
      refine congrArg (wc ρ S2) ?_
      funext z S3
      cases x <;> cases y <;> cases z <;> rfl), fun vs ds H' S' m' e s r q => by
      match ds, q, r with
      | [.int i, .int j, .int l], ⟨hok, q5⟩, ⟨v, r', hv, rv, ⟨v2, r2, hv2, rv2, ⟨v3, r3, hv3, rv3, rn⟩⟩⟩ =>
        rw [show r3 = [] from rn] at hv3
        rw [hv3] at hv2
        rw [hv2] at hv
        exact ⟨i, j, l, _, by rw [hv, show v = V.int i from rv, show v2 = V.int j from rv2, show v3 = V.int l from rv3], rg3_ok hok, k _ _ _ _ _ _ e s yields_rng3 q5⟩⟩
theorem rgV_rep {K : PySem.W.Frag} {H : Hp} {m : List Addr} (j : Int) : Reps K H m (rangeD 0 j) (L2.rgV 0 j) := by
  unfold rangeD L2.rgV
  generalize List.range (j - 0).toNat = l
  induction l with
  | nil => rfl
  | cons x l ih => exact ⟨_, _, rfl, rfl, ih⟩
theorem rgOk_of {j : Int} (h : smallI j ∧ j ≤ szL) : L2.RgOk 0 j := by
  obtain ⟨⟨h1, h2⟩, h3⟩ := h
  unfold szL at h3
  exact ⟨by omega, by omega, h1, h2, by omega⟩
theorem d_lstR (hc : X.calm = true) (hg : L2.Gl X "list") (hm : X.mg "list" = none) (hg2 : L2.Gl X "range") (hm2 : X.mg "range" = none) (ha : PE X a (teOf X.K wa)) (h1 : starEach [a] X.env = (false, eval a X.env) :: starEach [] X.env := by rfl)
    (h2 : starEach [Expr.Call (.Name "range" p2) [a] [] pos2] X.env = (false, eval (Expr.Call (.Name "range" p2) [a] [] pos2) X.env) :: starEach [] X.env := by rfl) : PE X (.Call (.Name "list" p) [.Call (.Name "range" p2) [a] [] pos2] [] pos) (teOf X.K (wLstR wa)) :=
  peI (L2.pe_listRg hc hg hm (L2.prg_1 hg2 hm2 ha h1) h2) fun σ H Q ⟨ρ, S, m, R, hE, hS, h, k⟩ => ⟨ρ, S, m, _, hE, hS, h, fun v x H1 S1 m1 e1 s1 r1 q1 => by
    cases x with
    | int j => exact ⟨j, r1, rgOk_of q1.1, (k.ext e1).lst s1 (rgV_rep j) q1.2⟩
    | _ => exact (show False from q1).elim⟩
theorem d_tupR (hc : X.calm = true) (hg : L2.Gl X "tuple") (hm : X.mg "tuple" = none) (hg2 : L2.Gl X "range") (hm2 : X.mg "range" = none) (ha : PE X a (teOf X.K wa)) (h1 : starEach [a] X.env = (false, eval a X.env) :: starEach [] X.env := by rfl)
    (h2 : starEach [Expr.Call (.Name "range" p2) [a] [] pos2] X.env = (false, eval (Expr.Call (.Name "range" p2) [a] [] pos2) X.env) :: starEach [] X.env := by rfl) : PE X (.Call (.Name "tuple" p) [.Call (.Name "range" p2) [a] [] pos2] [] pos) (teOf X.K (wTupR wa)) :=
  peI (L2.pe_tupRg hc hg hm (L2.prg_1 hg2 hm2 ha h1) h2) fun σ H Q ⟨ρ, S, m, R, hE, hS, h, k⟩ => ⟨ρ, S, m, _, hE, hS, h, fun v x H1 S1 m1 e1 s1 r1 q1 => by
    cases x with
    | int j => exact ⟨j, r1, rgOk_of q1.1, (k.ext e1).tup s1 (rgV_rep j) q1.2⟩
    | _ => exact (show False from q1).elim⟩
end
/-- a tuple of ints that the top has made -/
theorem rep_ints {K : PySem.W.Frag} {t : Addr} {od : Option Addr} {its : Array Value} {n : Nat} {sl : Array (Option Value)} {ns : List Int} (hc : cst = true) (hl : K.lookup t = some ⟨.type "tuple", od, .seq its n, sl⟩) (hz : its.size ≤ sizeLine) (hv : Vals (ns.map V.int) its.toList) (H : Hp) (m : List Addr) : Rep K H m (.tup (intD ns)) (.ref t) :=
  ⟨t, ns.map V.int, rfl, .inr ⟨hc, .inr ⟨_, its, n, hl, rfl, rfl, hz, hv⟩⟩, Reps.of_ints⟩
end DL
set_option Elab.async false
set_option linter.all false
set_option maxRecDepth 100000
set_option maxHeartbeats 4000000
/-! DLS: sorted(a tuple). -/
namespace DL
open PySem PySem.Spec PyProof PyProof.Rows
section
theorem collect_seqE {prog : Program} {w : World} {A : Around} {E : Value → Shared → Prop} {s : Shared} {Q : List Value → Shared → Prop} (it : Addr) {T : String} {o : Obj} {items : Array Value} {n : Nat} (hT : T = "list" ∨ T = "tuple") (ho : s.heap.get? it = some o) (hc : o.cls = Value.type T) (hd : o.data = Data.seq items n)
    (hQ : ∀ h' : Heap, (∀ (b : Addr) (o' : Obj), s.heap.get? b = some o' → h'.get? b = some o') → s.heap.objs.size ≤ h'.objs.size → Q items.toList { heap := h', gens := s.gens, drawn := s.drawn, toks := s.toks, os := s.os }) (hsz : items.size ≤ sizeLine) : wpAny (model prog w) A (collect (.ref it)) Q E s := by
  unfold collect
  refine wpAny_bind (wpAny_runValue (codeAny_builtin F.entry_proto_collect ?_))
  rw [Around.under_plainId F.plain_proto_collect]
  refine wpAny_bind (wpAny_newObj_type (wpAny_pure ⟨plainId_quiet F.plain_list_iadd _, codeAny_builtin F.entry_list_iadd ?_⟩))
  rw [Around.under_plainId F.plain_list_iadd]
  refine wpAny_extend_seq (R := fun r s' => match r with
      | Except.ok (Flow.ret v) => wpAny (model prog w) A (match v with
          | Value.ref a => do
            let __do_lift ← load a
            match __do_lift.data with
            | Data.seq xs epoch => pure xs.toList
            | x => unsupported "internal:collect"
          | x => unsupported "internal:collect") Q E s'
      | Except.ok a => False
      | Except.error e => E e s') s.heap.objs.size it (.ref s.heap.objs.size) 0 hT ?_ ?_ hc hd ?_ hsz
  · exact Heap.get?_push_size s.heap rfl
  · exact Heap.get?_push_of_some _ ho
  · show wpAny (model prog w) A _ Q E _
    refine wpAny_bind (wpAny_load (Heap.get?_update_self _ (Heap.get?_push_size s.heap rfl) rfl) ?_)
    refine wpAny_pure ?_
    have e : ((fun x => x ++ items) (#[] : Array Value)).toList = items.toList := by simp
    rw [e]
    refine hQ _ (fun b o' hb => ?_) ?_
    · rw [Heap.get?_update_other _ _ (Ne.symm (Nat.ne_of_lt (Heap.lt_size hb)))]
      exact Heap.get?_push_of_some _ hb
    · rw [Heap.size_update]
      show s.heap.objs.size ≤ (s.heap.push _).objs.size
      rw [PyProof.Rows.size_push']
      omega
theorem sorted_tup {prog : Program} {w : World} {A : Around} {E : Value → Shared → Prop} {s : Shared} {β : Type} {vs : List Value} {bs : List β} {enc : β → PyData} {R : Value → β → Prop} {l : Addr} {Q : Value → Shared → Prop}
    (hl : s.heap.IsTuple l vs.toArray) (e : PySem.W.EachIs R vs bs) (er : PySem.W.EachIs (fun v b => ∃ as, Reads s.heap v (enc b) as) vs bs) (hal : PySem.W.AllAlike (bs.map enc)) (hk : PySem.W.Sortable (bs.map enc)) (hL : bs.length ≤ sizeLine) (hu : ∀ b, b ∈ bs → A.units + 2 + (enc b).depth < cLine)
    (h : ∀ (out : List Value) (h1 : Heap) (a : Addr), out.length = bs.length → PySem.W.EachIs R out (bs.mergeSort (PySem.W.dataLe false enc)) → (∀ (b : Addr) (o : Obj), s.heap.get? b = some o → h1.get? b = some o) → s.heap.objs.size ≤ a → (∃ c, h1.get? a = some (PyProof.Rows.seqObj "list" out.toArray c)) →
      Q (.ref a) { heap := h1, gens := s.gens, drawn := s.drawn, toks := s.toks, os := s.os }) : wpAny (model prog w) A (call (.builtin "sorted") [.ref l]) Q E s := by
  obtain ⟨o, ho, hc, n, hd⟩ := hl
  have hLv : vs.length ≤ sizeLine := by rw [e.length]; exact hL
  refine PyProof.Rows.call_function_entry_kw PyProof.Rows.kind_sorted PyProof.Rows.plain_sorted PyProof.Rows.entry_sorted (PyProof.Rows.args_sorted1 (.ref l)) ?_
  refine wpAny_bind (wpAny_pure (wpAny_bind (collect_seqE l (.inr rfl) ho hc hd (fun h' keep hsz => ?_) (by simpa using hLv))))
  have hat : (h'.push (PyProof.Rows.seqObj "list" vs.toArray 0)).get? h'.objs.size = some (PyProof.Rows.seqObj "list" vs.toArray 0) := Heap.get?_push_size h' rfl
  have old1 : ∀ (b : Addr) (o : Obj), s.heap.get? b = some o → (h'.push (PyProof.Rows.seqObj "list" vs.toArray 0)).get? b = some o ∧ b < h'.objs.size := fun b o hb => by
    have hk := keep b o hb
    have hlt := Heap.lt_size hk
    exact ⟨by rw [Heap.get?_push_ne h' b _ (Nat.ne_of_lt hlt)]; exact hk, hlt⟩
  have old2 : ∀ (b : Addr) (o : Obj), s.heap.get? b = some o → (PySem.W.sortingHeap (h'.push (PyProof.Rows.seqObj "list" vs.toArray 0)) h'.objs.size vs).get? b = some o := fun b o hb => by
    obtain ⟨h1, h2⟩ := old1 b o hb
    unfold PySem.W.sortingHeap
    have z1 : ((h'.push (PyProof.Rows.seqObj "list" vs.toArray 0)).update h'.objs.size (Obj.mapSeq fun x => #[])).objs.size = h'.objs.size + 1 := by rw [Heap.size_update, PyProof.Rows.size_push']
    have z2 : (((h'.push (PyProof.Rows.seqObj "list" vs.toArray 0)).update h'.objs.size (Obj.mapSeq fun x => #[])).push (PyProof.Rows.seqObj "tuple" vs.toArray 0)).objs.size = h'.objs.size + 1 + 1 := by rw [PyProof.Rows.size_push', z1]
    rw [Heap.get?_push_ne _ b _ (by rw [z2]; exact Nat.ne_of_lt (Nat.lt_succ_of_lt (Nat.lt_succ_of_lt h2))), Heap.get?_push_ne _ b _ (by rw [z1]; exact Nat.ne_of_lt (Nat.lt_succ_of_lt h2)), Heap.get?_update_ne _ b _ _ (Nat.ne_of_lt h2)]
    exact h1
  have er' := PySem.W.EachIs.mono (fun x y ⟨as, r⟩ => (⟨as, PyProof.Rows.Reads.keeps (h' := PySem.W.sortingHeap (h'.push (PyProof.Rows.seqObj "list" vs.toArray 0)) h'.objs.size vs) (fun b o hb => old2 b o hb) r⟩ : ∃ as, _)) er
  have S := PySem.W.SortsAt.data (prog := prog) (w := w) (A := A.in1.in1) (s := { heap := PySem.W.sortingHeap (h'.push (PyProof.Rows.seqObj "list" vs.toArray 0)) h'.objs.size vs, gens := s.gens, drawn := s.drawn, toks := s.toks, os := s.os }) (PySem.W.each_map enc er') hal hk (PySem.W.bound_map hu)
  refine wpAny_bind (wpAny_newList ?_ (by simpa using hLv))
  refine wpAny_bind (wpAny_holding (PyProof.Rows.wpAny_call_entry_kw PyProof.Rows.slot_list_sort ⟨PyProof.Rows.seqObj "list" vs.toArray 0, hat, rfl⟩ PyProof.Rows.entry_list_sort ?_ (PyProof.Rows.args_list_sort (.ref h'.objs.size))))
  refine PySem.W.list_sort_vals hat S hLv ⟨.none, rfl, wpAny_pure ⟨.ref h'.objs.size, rfl, ?_⟩⟩
  refine h _ _ _ (by rw [PySem.W.sortVals_length false rfl]; exact e.length) (PySem.W.sortVals_data false e er' hal) (fun b o hb => ?_) hsz (PyProof.Rows.sortedHeap_at hat)
  obtain ⟨h1, h2⟩ := old1 b o hb
  rw [PyProof.Rows.sortedHeap_old (Nat.ne_of_lt h2) (by rw [PyProof.Rows.size_push']; exact Nat.lt_succ_of_lt h2)]
  exact h1
end
section
open L2 (V Hp HO St TE TT TA TS TG TI TO PE PT PW PA PS PSs PG PI PO Cx Inv RelV Vals SqL SqT Rd upd upd_same upd_ne ne_of ne_of_none OpR UnR CallR MtR IxR SlR It thn)
variable {X : Cx}
theorem b_sortedA {kk : Nat} (hr : L2.Room kk X.A) : CallR X (.builtin "sorted") (rlOf X.K rSortedA) := by
  intro pins s σ H vs us Q I rv ⟨m, S, ds, R, hS, rs, h, k⟩
  match ds, h, rs with
  | [.ref n], h, rs => exact b_sorted hr pins s σ H vs us Q I rv ⟨m, S, [.ref n], R, hS, rs, h, k⟩
  | [.tup xs], h, rs =>
    obtain ⟨v, rfl, a, ws, rfl, h2, h3⟩ := reps1 rs
    obtain ⟨⟨f, dp, ak, so⟩, q⟩ := h
    rw [L2.Vals.ref1 rv]
    obtain ⟨its, rw', pl, hz⟩ := I.tuple h2.sqT
    have st := stands_all h3 rw'
    have hm : ∀ b ∈ xs, flat b = true := flats_mem f
    have rd : ∀ {ds : List D} {us : List Value}, PySem.W.EachIs (Stands X.K H m) us ds → (∀ d ∈ ds, flat d = true) → PySem.W.EachIs (fun u d => ∃ as, Reads s.heap u (toPy d) as) us ds := by
      intro ds us e
      induction e with
      | nil => intro _; exact .nil
      | cons h t ih =>
        intro hf
        obtain ⟨v, g1, g2⟩ := h
        exact .cons (L2.Dp.reads I _ _ _ (toPy_dp _ _ (hf _ List.mem_cons_self) g2) g1) (ih fun d hd => hf d (List.mem_cons_of_mem _ hd))
    refine sorted_tup (enc := toPy) (bs := xs) (R := Stands X.K H m) pl st (rd st hm) ?_ ?_ (by rw [← h3.len]; exact hz) (fun b hb => ?_) fun out hh aa ho eo keep hge hat => ?_
    · intro d hd d' hd'
      obtain ⟨b, hb, rfl⟩ := List.mem_map.mp hd
      obtain ⟨b', hb', rfl⟩ := List.mem_map.mp hd'
      exact akin_eq b b' (ak b hb b' hb')
    · rcases so with so | so
      · refine .inl fun d hd => ?_
        obtain ⟨b, hb, rfl⟩ := List.mem_map.mp hd
        obtain ⟨x, r, e⟩ := so b hb
        exact toPy_tup e
      · refine .inr fun d hd => ?_
        obtain ⟨b, hb, rfl⟩ := List.mem_map.mp hd
        obtain ⟨n1, n2⟩ := so b hb
        have fb := hm b hb
        cases b with
        | non => exact absurd rfl n1
        | tup ys => exact absurd rfl (n2 ys)
        | rol _ => cases (show false = true from fb)
        | ref _ => cases (show false = true from fb)
        | ty _ => cases (show false = true from fb)
        | bl _ => exact ⟨(fun z => nomatch z), (fun _ z => nomatch z)⟩
        | int _ => exact ⟨(fun z => nomatch z), (fun _ z => nomatch z)⟩
        | str _ => exact ⟨(fun z => nomatch z), (fun _ z => nomatch z)⟩
    · rw [deep_eq]
      have := deeps_mem b hb
      have := hr.units
      omega
    · obtain ⟨c, hc⟩ := hat
      obtain ⟨ys, g1, g2⟩ := stands_back eo
      have hp : H aa = none := I.hok.fresh hge
      have perm := List.mergeSort_perm xs (PySem.W.dataLe false toPy)
      have pw := List.pairwise_mergeSort sort_trans sort_total xs
      refine ⟨.ref aa, upd H aa (.lst ys), I.laid (t' := s.toks) keep hge ⟨?_, out, c, g2, hc⟩, rfl, ?_⟩
      · rw [g1.len, List.length_mergeSort, ← h3.len]
        exact hz
      · refine k.lst hS g1 (q _ perm ?_) _ hp
        refine List.Pairwise.imp_of_mem (fun {x y} hx hy hxy => ?_) pw
        have hx' := perm.mem_iff.mp hx
        have hy' := perm.mem_iff.mp hy
        have hxy : (!PySem.W.dataLt (toPy y) (toPy x)) = true := hxy
        rw [lt_eq y x (hm y hy') (hm x hx') (ak y hy' x hx')] at hxy
        simpa using hxy
end
end DL
set_option linter.all false
/-! DLY: dicts by values: keys ints and texts, or tuples of them. -/
namespace DL
def kyOf : D → Option Ky
  | .int i => some (.inl i)
  | .str x => some (.inr x)
  | _ => none
def kysOf : List D → Option (List Ky)
  | [] => some []
  | d :: r => match kyOf d, kysOf r with
    | some k, some ks => some (k :: ks)
    | _, _ => none
def kyt : D → Option (List Ky)
  | .tup ds => kysOf ds
  | _ => none
section
variable {κ : Type} [DecidableEq κ]
def valK (kvs : List (κ × D)) (k : κ) : Option D := (kvs.find? fun kv => decide (kv.1 = k)).map (·.2)
def putD (kvs : List (κ × D)) (k : κ) (v : D) : List (κ × D) :=
  if (kvs.any fun kv => decide (kv.1 = k)) = true then kvs.map (fun kv => if kv.1 = k then (kv.1, v) else kv) else kvs ++ [(k, v)]
end
/-- what x holds at k -/
@[reducible] def dGet : D → D → Sto → (Option D → Prop) → Prop
  | .ref n, k, S, P => match S[n]? with
    | some (.dK kvs) => ∃ y, kyOf k = some y ∧ P (valK kvs y)
    | some (.dT kvs) => ∃ y, kyt k = some y ∧ P (valK kvs y)
    | some (.fK kvs) => ∃ y, kyOf k = some y ∧ P (valK kvs y)
    | some (.fT kvs) => ∃ y, kyt k = some y ∧ P (valK kvs y)
    | _ => False
  | _, _, _, _ => False
def keyD : Ky → D
  | .inl i => .int i
  | .inr x => .str x
/-- over the keys of a dict; it is only read from then on -/
@[reducible] def wItD (a : WE) : WI := fun ρ S R => a ρ S fun x S1 => match x with
  | .ref n => match S1[n]? with
    | some (.dK kvs) => R (kvs.map fun kv => keyD kv.1) (fun _ => True) (S1.set n (.fK kvs))
    | some (.dT kvs) => R (kvs.map fun kv => D.tup (kv.1.map keyD)) (fun _ => True) (S1.set n (.fT kvs))
    | some (.fK kvs) => R (kvs.map fun kv => keyD kv.1) (fun _ => True) S1
    | some (.fT kvs) => R (kvs.map fun kv => D.tup (kv.1.map keyD)) (fun _ => True) S1
    | _ => False
  | _ => False
@[reducible] def rDIx : R2 := fun x k S Q => dGet x k S fun o => ∃ v, o = some v ∧ Q v S
@[reducible] def rDIn (neg : Bool) : R2 := fun k x S Q => dGet x k S fun o => Q (.bl (if neg then !o.isSome else o.isSome)) S
@[reducible] def wDNewK : WE := fun _ S Q => Q (.ref S.length) (S ++ [.dK []])
@[reducible] def wDNewT : WE := fun _ S Q => Q (.ref S.length) (S ++ [.dT []])
@[reducible] def isDc : D → Sto → Prop
  | .ref n, S => (∃ kvs, S[n]? = some (.dK kvs) ∨ S[n]? = some (.fK kvs)) ∨ ∃ kvs, S[n]? = some (.dT kvs) ∨ S[n]? = some (.fT kvs)
  | _, _ => False
/-- d.get(k, x) -/
@[reducible] def wDGet2 (o k f : WE) : WE := fun ρ S Q => o ρ S fun x S1 => isDc x S1 ∧ k ρ S1 fun y S2 => f ρ S2 fun z S3 => dGet x y S3 fun o => Q (o.getD z) S3
/-- d[k] = v -/
@[reducible] def rDPut : D → D → D → Sto → (Sto → Prop) → Prop
  | .ref n, k, d, S, Q => match S[n]? with
    | some (.dK kvs) => ∃ y, kyOf k = some y ∧ kvs.length < szL ∧ Q (S.set n (.dK (putD kvs y d)))
    | some (.dT kvs) => ∃ y, kyt k = some y ∧ kvs.length < szL ∧ Q (S.set n (.dT (putD kvs y d)))
    | _ => False
  | _, _, _, _, _ => False
/-- a, b, c = x, y, z by names -/
@[reducible] def sPar3 (i j l : Nat) (a b c : WE) : WS := fun E ρ S => a ρ S fun x S1 => b ρ S1 fun y S2 => c ρ S2 fun z S3 => E.nx (up (up (up ρ i (some x)) j (some y)) l (some z)) S3
/-- a tuple turned -/
@[reducible] def rRevT : R1
  | .tup xs, S, Q => Q (.tup xs.reverse) S
  | _, _, _ => False
/-- two lists alike -/
@[reducible] def rEqL : R2
  | .ref m, .ref n, S, Q => isLst S m fun xs => isLst S n fun ys => (flats xs = true ∧ flats ys = true ∧ deeps xs ≤ 63 ∧ deeps ys ≤ 63) ∧ Q (.bl (eqDs xs ys)) S
  | _, _, _, _ => False
end DL
set_option Elab.async false
set_option linter.all false
set_option maxRecDepth 100000
set_option maxHeartbeats 8000000
/-! DLG: more rules. -/
namespace DL
open PySem PySem.Spec
open L2 (V Hp HO St TE TT TA TS TG TI TO PE PT PW PA PS PSs PG PI PO Cx Inv RelV Vals SqL SqT Rd upd upd_same upd_ne ne_of ne_of_none OpR UnR CallR MtR IxR SlR It thn Key kV valV putK DGet DPut)
section
variable {X : Cx} {kk : Nat} {o i e f a b c : Expr} {wo wi we wf wa wb wc : WE} {pos apos cpos : Pos}
theorem c_eqL (hr : L2.Room kk X.A) : OpR X (compareOp .Eq) (r2Of X.K rEqL) := r2I (L2.op_eqD hr.units) fun x y H Q ⟨m, S, d, e, R, s, rx, ry, h, k⟩ => by
  cases d with
  | ref i => cases e with
    | ref j =>
      obtain ⟨xs, e1, h⟩ := isLst_iff.mp h
      obtain ⟨ys, e2, ⟨f1, f2, g1, g2⟩, q⟩ := isLst_iff.mp h
      obtain ⟨a, vs, h1, h2, h3⟩ := s.lst e1
      obtain ⟨b, us, l1, l2, l3⟩ := s.lst e2
      obtain ⟨a', q1, rfl⟩ := rx
      rw [h1] at q1
      cases q1
      obtain ⟨b', q2, rfl⟩ := ry
      rw [l1] at q2
      cases q2
      refine ⟨.list (toPys xs), .list (toPys ys), .lst (SqL.of h2) (toPys_dp xs vs f1 h3), .lst (SqL.of l2) (toPys_dp ys us f2 l3), shapeds_of f1 g1, shapeds_of f2 g2, ?_⟩
      have ee : PyData.eqv (.list (toPys xs)) (.list (toPys ys)) = eqDs xs ys := by
        rw [← eqvs_eq xs ys f1 f2]
        rfl
      rw [ee]
      exact k _ (.bl (eqDs xs ys)) H S m (Ext.refl _ _) s rfl q
    | _ => exact (show False from h).elim
  | _ => exact (show False from h).elim
theorem ds_par3 (i j l : Nat) {x y z : Str} {px py pz pt : Pos} {kt k2 pt2} (hc : X.calm = true) (hN : X.N.Nodup) (ha : PE X a (teOf X.K wa)) (hb : PE X b (teOf X.K wb)) (hcc : PE X c (teOf X.K wc)) (hi : X.N[i]? = some x := by rfl) (hj : X.N[j]? = some y := by rfl) (hl : X.N[l]? = some z := by rfl) (hij : i ≠ j := by decide) (hil : i ≠ l := by decide) (hjl : j ≠ l := by decide)
    (hx : X.env.scope.names.lookup x = some .local := by rfl) (hy : X.env.scope.names.lookup y = some .local := by rfl) (hz : X.env.scope.names.lookup z = some .local := by rfl)
    (hw : swappedStores [.Tuple [.Name x px, .Name y py, .Name z pz] kt pt] (.Tuple [a, b, c] k2 pt2) X.env = pure (some [x, y, z]) := by rfl)
    (hs : swapsWithSole [.Tuple [.Name x px, .Name y py, .Name z pz] kt pt] (.Tuple [a, b, c] k2 pt2) pos.line X.env = pure false := by rfl)
    (e1 : starEach [a, b, c] X.env = (false, eval a X.env) :: starEach [b, c] X.env := by rfl) (e2 : starEach [b, c] X.env = (false, eval b X.env) :: starEach [c] X.env := by rfl) (e3 : starEach [c] X.env = (false, eval c X.env) :: starEach [] X.env := by rfl) :
    PS X (.Assign [.Tuple [.Name x px, .Name y py, .Name z pz] kt pt] (.Tuple [a, b, c] k2 pt2) pos) (tsOf X.K (sPar3 i j l wa wb wc)) :=
  psI (L2.ps_par3 hc hN hi hj hl hij hil hjl hx hy hz (da_cons ha (da_cons hb (da_cons hcc da_nil e3) e2) e1) hw hs) fun D σ H ⟨ρ, S, m, E, hE, hS, h, k, _⟩ =>
    ⟨ρ, S, m, fun ds S2 => match ds with
      | [d, d2, d3] => E.nx (up (up (up ρ i (some d)) j (some d2)) l (some d3)) S2
      | _ => False, hE, hS, h, fun vs ds H2 S2 m2 e s r q => by
      match ds, q, r with
      | [d, d2, d3], q, ⟨v, r', hv, rv, ⟨v2, r2, hv2, rv2, ⟨v3, r3, hv3, rv3, rn⟩⟩⟩ =>
        rw [show r3 = [] from rn] at hv3
        rw [hv3] at hv2
        rw [hv2] at hv
        exact ⟨v, v2, v3, hv, k _ _ H2 S2 m2 e s ((((hE.ext e).set rv i).set rv2 j).set rv3 l) q⟩⟩
end
end DL
set_option Elab.async false
set_option linter.all false
set_option maxRecDepth 100000
set_option maxHeartbeats 8000000
/-! DLD: the rules of dicts. -/
namespace DL
open PySem PySem.Spec
open L2 (V Hp HO St TE TT TA TS TG TI TO PE PT PW PA PS PSs PG PI PO Cx Inv RelV Vals SqL SqT Rd upd upd_same upd_ne ne_of ne_of_none OpR UnR CallR MtR IxR SlR It thn Key kV valV putK DGet DPut)
section
variable {K : PySem.W.Frag} {m m' : List Addr} {H H' : Hp} {S : Sto}
theorem ky_rep {d : D} {v : V} {y : Ky} (h : kyOf d = some y) (r : Rep K H m d v) : v = kV y := by
  cases d with
  | int i => cases h; exact r
  | str x => cases h; exact r
  | _ => cases h
theorem kys_rep : ∀ {ds : List D} {vs : List V} {ys : List Ky}, kysOf ds = some ys → Reps K H m ds vs → vs = ys.map kV
  | [], _, _, h, r => by cases h; exact r
  | d :: ds, _, ys, h, ⟨v, w, e, r1, r2⟩ => by
    unfold kysOf at h
    cases e1 : kyOf d with
    | none => rw [e1] at h; cases h
    | some y =>
      cases e2 : kysOf ds with
      | none => rw [e1, e2] at h; cases h
      | some zs =>
        rw [e1, e2] at h
        cases h
        rw [e, ky_rep e1 r1, kys_rep e2 r2]
        rfl
theorem kyt_rep (hcst : cst = false) {d : D} {v : V} {ys : List Ky} (h : kyt d = some ys) (r : Rep K H m d v) : ∃ b, v = .ref b ∧ H b = some (.tup (ys.map kV)) := by
  cases d with
  | tup ds =>
    obtain ⟨b, vs, rfl, hT, rs⟩ := r
    rw [← kys_rep h rs]
    rcases hT with hT | ⟨hc, _⟩
    · exact ⟨b, rfl, hT⟩
    · rw [hcst] at hc; cases hc
  | _ => cases h
section
variable {κ : Type} [DecidableEq κ]
/-- what is held on both sides -/
def RelO (K : PySem.W.Frag) (H : Hp) (m : List Addr) : Option D → Option V → Prop
  | none, o => o = none
  | some d, o => ∃ v, o = some v ∧ Rep K H m d v
theorem val_rep : ∀ {ks : List (κ × V)} {ds : List (κ × D)}, ks.map (·.1) = ds.map (·.1) → Reps K H m (ds.map (·.2)) (ks.map (·.2)) → ∀ y, RelO K H m (valK ds y) (valV ks y)
  | [], [], _, _, y => rfl
  | p :: ks, q :: ds, hk, ⟨v, w, e, r1, r2⟩, y => by
    simp only [List.map_cons, List.cons.injEq] at hk e
    obtain ⟨hk1, hk2⟩ := hk
    obtain ⟨e1, e2⟩ := e
    subst e1 e2
    unfold valK valV
    rw [List.find?_cons, List.find?_cons, hk1]
    by_cases c : q.1 = y
    · rw [decide_eq_true c]
      exact ⟨_, rfl, r1⟩
    · rw [decide_eq_false c]
      exact val_rep hk2 r2 y
  | [], q :: ds, hk, _, _ => by cases hk
  | p :: ks, [], hk, _, _ => by cases hk
theorem put_keys {α β : Type} (f : List (κ × α) → κ → α → List (κ × α)) : True := trivial
theorem any_keys {α β : Type} {ks : List (κ × α)} {ds : List (κ × β)} (h : ks.map (·.1) = ds.map (·.1)) (y : κ) : (ks.any fun kv => decide (kv.1 = y)) = (ds.any fun kv => decide (kv.1 = y)) := by
  have e : ∀ {γ : Type} (l : List (κ × γ)), (l.any fun kv => decide (kv.1 = y)) = ((l.map (·.1)).any fun k => decide (k = y)) := fun l => by rw [List.any_map]; rfl
  rw [e, e, h]
theorem put_rep {ks : List (κ × V)} {ds : List (κ × D)} (h : ks.map (·.1) = ds.map (·.1)) (r : Reps K H m (ds.map (·.2)) (ks.map (·.2))) (y : κ) {d : D} {v : V} (rv : Rep K H m d v) :
    (putK ks y v).map (·.1) = (putD ds y d).map (·.1) ∧ Reps K H m ((putD ds y d).map (·.2)) ((putK ks y v).map (·.2)) := by
  unfold putK putD
  rw [any_keys h]
  by_cases c : (ds.any fun kv => decide (kv.1 = y)) = true
  · rw [if_pos c, if_pos c]
    clear c
    induction ks generalizing ds with
    | nil => cases ds with
      | nil => exact ⟨rfl, rfl⟩
      | cons _ _ => cases h
    | cons p ks ih => cases ds with
      | nil => cases h
      | cons q ds =>
        obtain ⟨u, w, e, r1, r2⟩ := r
        simp only [List.map_cons, List.cons.injEq] at h e
        obtain ⟨hk1, hk2⟩ := h
        obtain ⟨e1, e2⟩ := e
        subst e1 e2
        obtain ⟨i1, i2⟩ := ih hk2 r2
        simp only [List.map_cons]
        rw [hk1]
        by_cases c : q.1 = y
        · rw [if_pos c, if_pos c]
          exact ⟨by rw [i1], _, _, rfl, rv, i2⟩
        · rw [if_neg c, if_neg c]
          exact ⟨by rw [i1, hk1], _, _, rfl, r1, i2⟩
  · rw [if_neg c, if_neg c]
    rw [List.map_append, List.map_append, List.map_append, List.map_append]
    exact ⟨by rw [h]; rfl, r.app (Reps.one rv)⟩
end
theorem dget_rep (s : RepS K H m S) {x k : D} {xv kv : V} (ko : ∀ ys, kyt k = some ys → ∃ b, kv = .ref b ∧ H b = some (.tup (ys.map kV))) (rx : Rep K H m x xv) (rk : Rep K H m k kv) {P : Option D → Prop} (h : dGet x k S P) : ∃ a o ov, xv = .ref a ∧ DGet H a kv ov ∧ P o ∧ RelO K H m o ov := by
  cases x with
  | ref n =>
    obtain ⟨a, ha, rfl⟩ := rx
    have h : (match S[n]? with
      | some (.dK kvs) => ∃ y, kyOf k = some y ∧ P (valK kvs y)
      | some (.dT kvs) => ∃ y, kyt k = some y ∧ P (valK kvs y)
      | some (.fK kvs) => ∃ y, kyOf k = some y ∧ P (valK kvs y)
      | some (.fT kvs) => ∃ y, kyt k = some y ∧ P (valK kvs y)
      | _ => False) := h
    split at h
    · rename_i kvs hS
      obtain ⟨y, hy, q⟩ := h
      obtain ⟨b, g1, ks, g2, g3, g4⟩ := s.obj n _ hS
      rw [ha] at g1
      cases g1
      rw [ky_rep hy rk]
      exact ⟨a, _, _, rfl, .k g2, q, val_rep g3 g4 y⟩
    · rename_i kvs hS
      obtain ⟨y, hy, q⟩ := h
      obtain ⟨b, g1, ks, g2, g3, g4⟩ := s.obj n _ hS
      rw [ha] at g1
      cases g1
      obtain ⟨c, rfl, hc⟩ := ko _ hy
      exact ⟨a, _, _, rfl, .t g2 hc, q, val_rep g3 g4 y⟩
    · rename_i kvs hS
      obtain ⟨y, hy, q⟩ := h
      obtain ⟨b, g1, od, ks, g2, g3, g4⟩ := s.obj n _ hS
      rw [ha] at g1
      cases g1
      rw [ky_rep hy rk]
      exact ⟨a, _, _, rfl, .inl ⟨ks, y, .inr ⟨od, g2⟩, rfl, rfl⟩, q, val_rep g3 g4 y⟩
    · rename_i kvs hS
      obtain ⟨y, hy, q⟩ := h
      obtain ⟨b, g1, od, ks, g2, g3, g4⟩ := s.obj n _ hS
      rw [ha] at g1
      cases g1
      obtain ⟨c, rfl, hc⟩ := ko _ hy
      exact ⟨a, _, _, rfl, .inr ⟨ks, y, c, .inr ⟨od, g2⟩, rfl, hc, rfl⟩, q, val_rep g3 g4 y⟩
    · exact h.elim
  | _ => exact (show False from h).elim
theorem RelO.some {o : Option D} {ov : Option V} {d : D} (h : RelO K H m o ov) (e : o = some d) : ∃ v, ov = some v ∧ Rep K H m d v := by
  subst e
  exact h
theorem RelO.isSome {o : Option D} {ov : Option V} (h : RelO K H m o ov) : ov.isSome = o.isSome := by
  cases o with
  | none => rw [show ov = none from h]; rfl
  | some d => obtain ⟨v, rfl, _⟩ := h; rfl
theorem RelO.getD {o : Option D} {ov : Option V} {d : D} {v : V} (h : RelO K H m o ov) (r : Rep K H m d v) : Rep K H m (o.getD d) (ov.getD v) := by
  cases o with
  | none => rw [show ov = none from h]; exact r
  | some e => obtain ⟨w, rfl, q⟩ := h; exact q
end
section
variable {X : Cx} {kk : Nat} {o i e f : Expr} {wo wi we wf : WE} {pos apos cpos : Pos}
theorem room1 {kk : Nat} (hr : L2.Room kk X.A) : X.A.units + 1 < cLine := by have := room65 hr; omega
theorem d_dnewK : PE X (.Dict [] [] pos) (teOf X.K wDNewK) := peI L2.pe_dnewK fun σ H Q ⟨ρ, S, m, R, hE, hS, h, k⟩ => fun p hp =>
  k _ (.ref S.length) _ (S ++ [.dK []]) (m ++ [p]) (Ext.pushed hp _) (hS.pushO (o := .dK []) hp fun H' eH => ⟨[], by rw [eH, upd_same], rfl, rfl⟩) ⟨p, by rw [← hS.len]; simp, rfl⟩ h
theorem d_dnewT : PE X (.Dict [] [] pos) (teOf X.K wDNewT) := peI L2.pe_dnewT fun σ H Q ⟨ρ, S, m, R, hE, hS, h, k⟩ => fun p hp =>
  k _ (.ref S.length) _ (S ++ [.dT []]) (m ++ [p]) (Ext.pushed hp _) (hS.pushO (o := .dT []) hp fun H' eH => ⟨[], by rw [eH, upd_same], rfl, rfl⟩) ⟨p, by rw [← hS.len]; simp, rfl⟩ h
theorem d_dix (hr : L2.Room kk X.A) (ho : PE X o (teOf X.K wo)) (hi : PE X i (teOf X.K wi)) (hs : L2.NoSl i := by first | exact L2.noSl rfl | (intro _ _; rfl) | trivial) (hcst : cst = false := by rfl) : PE X (.Subscript o i pos) (teOf X.K (wOp rDIx wo wi)) :=
  peI (L2.pe_dget (room1 hr) ho hi hs) fun σ H Q ⟨ρ, S, m, R, hE, hS, h, k⟩ => and2 hE hS h fun m2 H2 S2 v u x y e s rx ry q => by
    obtain ⟨a, od, ov, rfl, g, ⟨d, hd, q⟩, ro⟩ := dget_rep s (fun ys e => kyt_rep hcst e ry) rx ry q
    obtain ⟨w, rfl, rw⟩ := ro.some hd
    exact ⟨a, w, rfl, g, (k.ext e) _ d H2 S2 m2 (Ext.refl _ _) s rw q⟩
theorem g_dix (hr : L2.Room kk X.A) (hcst : cst = false := by rfl) : L2.PGet X (r2Of X.K rDIx) := fun pins s σ H x y v u Q I rx ry ⟨m, S, dx, dy, R, hs, qx, qy, h, k⟩ => by
  obtain ⟨a, od, ov, rfl, g, ⟨d, hd, q⟩, ro⟩ := dget_rep hs (fun ys e => kyt_rep hcst e qy) qx qy h
  obtain ⟨w, rfl, rw⟩ := ro.some hd
  cases rx
  exact L2.d_getItem (room1 hr) I g ry fun w' s' I' r' => ⟨w, H, I', r', k w d H S m (Ext.refl _ _) hs rw q⟩
theorem c_din (hr : L2.Room kk X.A) (hcst : cst = false := by rfl) : OpR X (compareOp .In) (r2Of X.K (rDIn false)) := fun pins s σ H x y v u Q I rx ry ⟨m, S, dx, dy, R, hs, qx, qy, h, k⟩ => by
  obtain ⟨a, od, ov, rfl, g, q, ro⟩ := dget_rep hs (fun ys e => kyt_rep hcst e qx) qy qx h
  cases ry
  refine L2.d_in (room1 hr) I g rx fun s' I' => ⟨.bl ov.isSome, H, I', rfl, k _ (.bl ov.isSome) H S m (Ext.refl _ _) hs rfl ?_⟩
  rw [ro.isSome]
  exact q
theorem c_dnotin (hr : L2.Room kk X.A) (hcst : cst = false := by rfl) : OpR X (compareOp .NotIn) (r2Of X.K (rDIn true)) := fun pins s σ H x y v u Q I rx ry ⟨m, S, dx, dy, R, hs, qx, qy, h, k⟩ => by
  obtain ⟨a, od, ov, rfl, g, q, ro⟩ := dget_rep hs (fun ys e => kyt_rep hcst e qx) qy qx h
  cases ry
  refine L2.d_notIn (room1 hr) I g rx fun s' I' => ⟨.bl (!ov.isSome), H, I', rfl, k _ (.bl (!ov.isSome)) H S m (Ext.refl _ _) hs rfl ?_⟩
  rw [ro.isSome]
  exact q
theorem isDc_rep {K : PySem.W.Frag} {m : List Addr} {H : Hp} {S : Sto} {x : D} {v : V} (s : RepS K H m S) (r : Rep K H m x v) (h : isDc x S) : ∃ a, v = .ref a ∧ L2.IsD H a := by
  cases x with
  | ref n =>
    obtain ⟨a, ha, rfl⟩ := r
    rcases h with ⟨kvs, h | h⟩ | ⟨kvs, h | h⟩
    · obtain ⟨b, g1, ks, g2, g3⟩ := s.obj n _ h
      rw [ha] at g1
      cases g1
      exact ⟨a, rfl, .inl ⟨ks, .inl g2⟩⟩
    · obtain ⟨b, g1, od, ks, g2, g3⟩ := s.obj n _ h
      rw [ha] at g1
      cases g1
      exact ⟨a, rfl, .inl ⟨ks, .inr ⟨od, g2⟩⟩⟩
    · obtain ⟨b, g1, ks, g2, g3⟩ := s.obj n _ h
      rw [ha] at g1
      cases g1
      exact ⟨a, rfl, .inr ⟨ks, .inl g2⟩⟩
    · obtain ⟨b, g1, od, ks, g2, g3⟩ := s.obj n _ h
      rw [ha] at g1
      cases g1
      exact ⟨a, rfl, .inr ⟨ks, .inr ⟨od, g2⟩⟩⟩
  | _ => exact (show False from h).elim
theorem d_dget2 (hr : L2.Room kk X.A) (ho : PE X o (teOf X.K wo)) (he : PE X e (teOf X.K we)) (hf : PE X f (teOf X.K wf)) (hm : L2.M2 X o "get" apos e f cpos := by exact ⟨by rfl, by rfl, by rfl, by rfl⟩) (hcst : cst = false := by rfl) :
    PE X (.Call (.Attribute o "get" apos) [e, f] [] cpos) (teOf X.K (wDGet2 wo we wf)) :=
  peI (L2.pe_dget2 (room1 hr) ho he hf hm) fun σ H Q ⟨ρ, S, m, R, hE, hS, h, k⟩ => ⟨ρ, S, m, _, hE, hS, h, fun v x H1 S1 m1 e1 s1 r1 ⟨z, q1⟩ => by
    obtain ⟨a, rfl, hd⟩ := isDc_rep s1 r1 z
    refine ⟨a, rfl, hd, ρ, S1, m1, _, hE.ext e1, s1, q1, fun u y H2 S2 m2 e2 s2 r2 q2 => ⟨ρ, S2, m2, _, hE.ext (e1.trans e2), s2, q2, fun w t H3 S3 m3 e3 s3 r3 q3 => ?_⟩⟩
    obtain ⟨b, od, ov, eb, g, q, ro⟩ := dget_rep s3 (fun ys e => kyt_rep hcst e (Rep.ext e3 _ _ r2)) (Rep.ext (e2.trans e3) _ _ r1) (Rep.ext e3 _ _ r2) q3
    cases eb
    exact ⟨ov, g, (k.ext ((e1.trans e2).trans e3)) _ (od.getD t) H3 S3 m3 (Ext.refl _ _) s3 (ro.getD r3) q⟩⟩
theorem dput_core {K : PySem.W.Frag} {H : Hp} {m : List Addr} {S : Sto} {o i v : V} {x j d : D} {R : Sto → Prop} {Q : Hp → Prop} (ko : ∀ ys, kyt j = some ys → ∃ b, i = .ref b ∧ H b = some (.tup (ys.map kV))) (hs : RepS K H m S) (rx : Rep K H m x o) (rk : Rep K H m j i) (rd : Rep K H m d v) (h : rDPut x j d S R)
    (k : ∀ H' S' m', Ext m H m' H' → RepS K H' m' S' → R S' → Q H') : ∃ a H', o = .ref a ∧ DPut H a i v H' ∧ Q H' := by
  cases x with
  | ref n =>
    obtain ⟨a, ha, rfl⟩ := rx
    have h : (match S[n]? with
      | some (.dK kvs) => ∃ y, kyOf j = some y ∧ kvs.length < szL ∧ R (S.set n (.dK (putD kvs y d)))
      | some (.dT kvs) => ∃ y, kyt j = some y ∧ kvs.length < szL ∧ R (S.set n (.dT (putD kvs y d)))
      | _ => False) := h
    split at h
    · rename_i kvs hS
      obtain ⟨y, hy, hl, q⟩ := h
      obtain ⟨b, g1, ks, g2, g3, g4⟩ := hs.obj n _ hS
      rw [ha] at g1
      cases g1
      have hlen : ks.length = kvs.length := by have := congrArg List.length g3; simpa using this
      obtain ⟨p1, p2⟩ := put_rep g3 g4 y rd
      refine ⟨a, _, rfl, ?_, k _ _ m (Ext.wrote (List.mem_of_getElem? ha) g2 rfl) (hs.setO (o' := .dK (putD kvs y d)) (ob := .dK (putK ks y v)) rfl hS ha fun H' eH ext => ⟨_, by rw [eH, upd_same], p1, Reps.ext ext _ _ p2⟩) q⟩
      rw [ky_rep hy rk]
      exact .k g2 (by rw [hlen, ← szL']; exact hl)
    · rename_i kvs hS
      obtain ⟨y, hy, hl, q⟩ := h
      obtain ⟨b, g1, ks, g2, g3, g4⟩ := hs.obj n _ hS
      rw [ha] at g1
      cases g1
      have hlen : ks.length = kvs.length := by have := congrArg List.length g3; simpa using this
      obtain ⟨p1, p2⟩ := put_rep g3 g4 y rd
      obtain ⟨c, rfl, hc⟩ := ko _ hy
      refine ⟨a, _, rfl, ?_, k _ _ m (Ext.wrote (List.mem_of_getElem? ha) g2 rfl) (hs.setO (o' := .dT (putD kvs y d)) (ob := .dT (putK ks y v)) rfl hS ha fun H' eH ext => ⟨_, by rw [eH, upd_same], p1, Reps.ext ext _ _ p2⟩) q⟩
      exact .t g2 hc (by rw [hlen, ← szL']; exact hl)
    · exact h.elim
  | _ => exact (show False from h).elim
theorem p_dput (hr : L2.Room kk X.A) (hcst : cst = false := by rfl) : L2.PSet X (rpOf X.K rDPut) := fun pins s σ H o i v ov iv u Q I ro ri rv ⟨m, S, x, j, d, R, hs, rx, rk, rd, h, k⟩ => by
  obtain ⟨a, H', eo, g, q⟩ := dput_core (fun ys e => kyt_rep hcst e rk) hs rx rk rd h k
  subst eo
  cases (show ov = Value.ref a from ro)
  exact L2.d_setItem (room1 hr) I g ri rv fun s' I' => ⟨H', I', q⟩
/-! over the keys of a dict -/
def tFreeze (t : TE) : TE := fun σ H Q => t σ H fun x H1 => ∃ d, x = .ref d ∧ ((∃ od u, H1 d = some (.frz od u) ∧ Q x H1) ∨ ∃ u, H1 d = some u ∧ L2.Mut (some u) ∧ ∀ od, Q x (upd H1 d (.frz od u)))
theorem pe_freeze {t : TE} (he : PE X e t) : PE X e (tFreeze t) := by
  refine ⟨fun pins s σ H Q I h => thn (he.run pins s σ H _ I h) fun v s1 ⟨x, H1, I1, r, d, ex, q⟩ => ?_⟩
  rcases q with ⟨od, u, hd, q⟩ | ⟨u, hd, mu, q⟩
  · exact ⟨x, H1, I1, r, q⟩
  · obtain ⟨od, I2⟩ := I1.lock hd mu
    exact ⟨x, _, I2, r, q od⟩
theorem yields_dK {K : PySem.W.Frag} {m : List Addr} {H : Hp} {a : Addr} {od : Obj} {kvs : List (Ky × D)} {ks : List (Key × V)} (h : H a = some (.frz od (.dK ks))) (hk : ks.map (·.1) = kvs.map (·.1)) : Yields K (L2.Itk a od ks) (kvs.map fun kv => keyD kv.1) (fun _ => True) m H := by
  intro m' H' S e s _
  have h' := e.lst _ _ h rfl
  have hl : ks.length = kvs.length := by have := congrArg List.length hk; simpa using this
  refine ⟨fun i d hd => ?_, fun i hi => ⟨h', by rw [List.length_map] at hi; omega⟩⟩
  rw [List.getElem?_map] at hd
  obtain ⟨kv, h1, rfl⟩ := Option.map_eq_some_iff.mp hd
  have hi := (List.getElem?_eq_some_iff.mp h1).1
  refine ⟨⟨h', by omega⟩, fun x H2 ⟨eH, k, v, h2, ex⟩ => ⟨m', by rw [eH]; exact Ext.refl _ _, by rw [eH]; exact s, ?_⟩⟩
  have : k = kv.1 := by
    have e1 := congrArg (fun l => l[i]?) hk
    simp only [List.getElem?_map, h1, h2, Option.map_some, Option.some.injEq] at e1
    exact e1
  subst this
  rw [ex]
  cases kv.1 <;> exact rfl
theorem key_tup {K : PySem.W.Frag} {H : Hp} {m : List Addr} : ∀ ys : List Ky, Reps K H m (ys.map keyD) (ys.map kV)
  | [] => rfl
  | y :: ys => ⟨_, _, rfl, (by cases y <;> exact rfl), key_tup ys⟩
theorem yields_dT {K : PySem.W.Frag} {m : List Addr} {H : Hp} {a : Addr} {od : Obj} {kvs : List (List Ky × D)} {ks : List (List Key × V)} (h : H a = some (.frz od (.dT ks))) (hk : ks.map (·.1) = kvs.map (·.1)) : Yields K (L2.Itkt a od ks) (kvs.map fun kv => D.tup (kv.1.map keyD)) (fun _ => True) m H := by
  intro m' H' S e s _
  have h' := e.lst _ _ h rfl
  have hl : ks.length = kvs.length := by have := congrArg List.length hk; simpa using this
  refine ⟨fun i d hd => ?_, fun i hi => ⟨h', by rw [List.length_map] at hi; omega⟩⟩
  rw [List.getElem?_map] at hd
  obtain ⟨kv, h1, rfl⟩ := Option.map_eq_some_iff.mp hd
  have hi := (List.getElem?_eq_some_iff.mp h1).1
  refine ⟨⟨h', by omega⟩, fun x H2 ⟨eH, k, v, q, h2, ex, hq⟩ => ⟨m', by rw [eH]; exact Ext.refl _ _, by rw [eH]; exact s, ?_⟩⟩
  have : k = kv.1 := by
    have e1 := congrArg (fun l => l[i]?) hk
    simp only [List.getElem?_map, h1, h2, Option.map_some, Option.some.injEq] at e1
    exact e1
  subst this
  rw [ex, eH]
  exact ⟨q, kv.1.map kV, rfl, .inl hq, key_tup kv.1⟩
theorem di_itD {tg : Expr} (he : PE X e (teOf X.K wo)) : PI X tg e (tiOf X.K (wItD wo)) :=
  piI (L2.pi_keys (pe_freeze he)) fun σ H R ⟨ρ, S, m, Rd, hE, hS, h, k⟩ => ⟨ρ, S, m, _, hE, hS, h, fun v d H1 S1 m1 e1 s1 r1 q1 => by
    cases d with
    | ref n =>
      obtain ⟨a, ha, rfl⟩ := r1
      have q1 : (match S1[n]? with
        | some (.dK kvs) => Rd (kvs.map fun kv => keyD kv.1) (fun _ => True) (S1.set n (.fK kvs))
        | some (.dT kvs) => Rd (kvs.map fun kv => D.tup (kv.1.map keyD)) (fun _ => True) (S1.set n (.fT kvs))
        | some (.fK kvs) => Rd (kvs.map fun kv => keyD kv.1) (fun _ => True) S1
        | some (.fT kvs) => Rd (kvs.map fun kv => D.tup (kv.1.map keyD)) (fun _ => True) S1
        | _ => False) := q1
      split at q1
      · rename_i kvs hS1
        obtain ⟨b, g1, ks, g2, g3, g4⟩ := s1.obj n _ hS1
        rw [ha] at g1
        cases g1
        refine ⟨a, rfl, .inr ⟨_, g2, True.intro, fun od => ⟨a, od, rfl, .inl ⟨ks, upd_same, ?_⟩⟩⟩⟩
        have ew : Ext m1 H1 m1 (upd H1 a (.frz od (.dK ks))) := Ext.wrote (List.mem_of_getElem? ha) g2 rfl
        exact k _ _ _ _ m1 _ (e1.trans ew) (s1.setO (o' := .fK kvs) rfl hS1 ha fun H' eH ext => ⟨od, ks, by rw [eH, upd_same], g3, Reps.ext ext _ _ g4⟩) (yields_dK upd_same g3) q1
      · rename_i kvs hS1
        obtain ⟨b, g1, ks, g2, g3, g4⟩ := s1.obj n _ hS1
        rw [ha] at g1
        cases g1
        refine ⟨a, rfl, .inr ⟨_, g2, True.intro, fun od => ⟨a, od, rfl, .inr ⟨ks, upd_same, ?_⟩⟩⟩⟩
        have ew : Ext m1 H1 m1 (upd H1 a (.frz od (.dT ks))) := Ext.wrote (List.mem_of_getElem? ha) g2 rfl
        exact k _ _ _ _ m1 _ (e1.trans ew) (s1.setO (o' := .fT kvs) rfl hS1 ha fun H' eH ext => ⟨od, ks, by rw [eH, upd_same], g3, Reps.ext ext _ _ g4⟩) (yields_dT upd_same g3) q1
      · rename_i kvs hS1
        obtain ⟨b, g1, od, ks, g2, g3, g4⟩ := s1.obj n _ hS1
        rw [ha] at g1
        cases g1
        exact ⟨a, rfl, .inl ⟨od, _, g2, a, od, rfl, .inl ⟨ks, g2, k _ _ _ _ m1 _ e1 s1 (yields_dK g2 g3) q1⟩⟩⟩
      · rename_i kvs hS1
        obtain ⟨b, g1, od, ks, g2, g3, g4⟩ := s1.obj n _ hS1
        rw [ha] at g1
        cases g1
        exact ⟨a, rfl, .inl ⟨od, _, g2, a, od, rfl, .inr ⟨ks, g2, k _ _ _ _ m1 _ e1 s1 (yields_dT g2 g3) q1⟩⟩⟩
      · exact q1.elim
    | _ => exact (show False from q1).elim⟩
end
end DL
set_option Elab.async false
set_option linter.all false
set_option maxRecDepth 100000
set_option maxHeartbeats 8000000
/-! DLT: slices with a step of tuples. -/
namespace L2
open PySem PySem.Spec PyProof.Rows HT
section
variable {prog : Program} {w : World} {A : Around} {E : Value → Shared → Prop} {s : Shared}
theorem applied_st {sl : Addr} {vl vu vs : Value} {lo hi : Option Int} {st : Int} {n : Nat} {Q : Int × Int × Nat → Shared → Prop} (h0 : st ≠ 0) (hs : s.heap.IsSliceOf sl vl vu vs) (pl : IsPart vl lo) (pu : IsPart vu hi) (ps : IsPart vs (some st))
    (h : Q ((Builtin.Slice.sliceAdjust lo hi st (n : Int)).1, st, Builtin.Slice.slicePlaces (Builtin.Slice.sliceAdjust lo hi st (n : Int)).1 (Builtin.Slice.sliceAdjust lo hi st (n : Int)).2 st) s) :
    wpAny (model prog w) A (Builtin.Slice.sliceApplied (.ref sl) (pure (n : Int))) Q E s := by
  obtain ⟨os, hos, hcs, hds⟩ := id hs
  unfold Builtin.Slice.sliceApplied Builtin.Slice.sliceFields
  refine wpAny_bind (wpAny_bind (wpAny_field hos hds (x := vl) rfl (wpAny_bind (wpAny_field hos hds (x := vu) rfl (wpAny_bind (wpAny_field hos hds (x := vs) rfl (wpAny_pure ?_)))))))
  refine wpAny_bind (slicePart_ ps ?_)
  show wpAny _ _ (if (st == 0) = true then _ else _) _ _ s
  rw [if_neg (by simpa using h0)]
  refine wpAny_bind (slicePart_ pl (wpAny_bind (slicePart_ pu (wpAny_bind (wpAny_pure ?_)))))
  show wpAny _ _ (match Builtin.Slice.sliceAdjust lo hi st (n : Int) with | (lo, hi) => pure (lo, st, Builtin.Slice.slicePlaces lo hi st)) _ _ s
  exact wpAny_pure h
/-- the items of xs[lo:hi:st] -/
def stepL {α : Type} (xs : List α) (lo hi : Option Int) (st : Int) : List α :=
  (List.range (Builtin.Slice.slicePlaces (Builtin.Slice.sliceAdjust lo hi st (xs.length : Int)).1 (Builtin.Slice.sliceAdjust lo hi st (xs.length : Int)).2 st)).filterMap fun (k : Nat) => xs[((Builtin.Slice.sliceAdjust lo hi st (xs.length : Int)).1 + (k : Int) * st).toNat]?
theorem getItem_tuple_step {t sl : Addr} {items : List Value} {vl vu vs : Value} {lo hi : Option Int} {st : Int} {Q : Value → Shared → Prop} (h0 : st ≠ 0) (h1 : st ≠ 1) (ht : IsTup s.heap t items.toArray) (hs : s.heap.IsSliceOf sl vl vu vs) (pl : IsPart vl lo) (pu : IsPart vu hi) (ps : IsPart vs (some st))
    (hz : (stepL items lo hi st).length ≤ sizeLine)
    (h : Q (.ref s.heap.objs.size) { s with heap := s.heap.push { cls := .type "tuple", data := .seq (stepL items lo hi st).toArray } }) : wpAny (model prog w) A (getItem (.ref t) (.ref sl)) Q E s := by
  have htake : sizeOk (.seq (stepL items lo hi st).toArray) := by
    show (stepL items lo hi st).toArray.size ≤ sizeLine
    rw [List.size_toArray]
    exact hz
  obtain ⟨os, hos, hcs, hds⟩ := id hs
  have hTs : s.TypeIs (.ref sl) "slice" := ⟨os, hos, hcs⟩
  unfold getItem
  try with_reducible refine wpAny_holding ?_
  first | refine wpAny_bind (wpAny_pure ?_) | skip
  refine wpAny_bind (wpAny_sequenceKey ht.typeIs (by decide) ?_)
  refine wpAny_bind (wpAny_callSpecial?_slot (name := Str.ofString "__getitem__") ht.typeIs PyProof.Rows.slot_tuple_getitem
    (wpAny_call_entry PyProof.Rows.slot_tuple_getitem ht.typeIs entry_tuple_getitem ?_ (args_tuple_getitem _ _)))
  show wpAny _ _ (Builtin.Tuple.tupleItemsOf (.ref t) >>= _) _ _ s
  refine wpAny_bind (tupleItemsOf_ ht ?_)
  refine wpAny_bind (wpAny_typeOf hTs ?_)
  rw [if_pos (by decide)]
  refine wpAny_bind (applied_st h0 hs pl pu ps ?_)
  have hno : ¬ ((((Builtin.Slice.sliceAdjust lo hi st (items.toArray.size : Int)).1) == 0 && st == 1 && (Builtin.Slice.slicePlaces (Builtin.Slice.sliceAdjust lo hi st (items.toArray.size : Int)).1 (Builtin.Slice.sliceAdjust lo hi st (items.toArray.size : Int)).2 st) == items.toArray.size) = true) := by
    intro q
    rw [Bool.and_eq_true, Bool.and_eq_true] at q
    exact h1 (eq_of_beq q.1.2)
  show wpAny _ _ (if (((Builtin.Slice.sliceAdjust lo hi st (items.toArray.size : Int)).1) == 0 && st == 1 && (Builtin.Slice.slicePlaces (Builtin.Slice.sliceAdjust lo hi st (items.toArray.size : Int)).1 (Builtin.Slice.sliceAdjust lo hi st (items.toArray.size : Int)).2 st) == items.toArray.size) = true then _ else _) _ _ s
  rw [if_neg hno]
  have epick : ((List.range (Builtin.Slice.slicePlaces (Builtin.Slice.sliceAdjust lo hi st (items.toArray.size : Int)).1 (Builtin.Slice.sliceAdjust lo hi st (items.toArray.size : Int)).2 st)).filterMap fun (k : Nat) => items.toArray[((Builtin.Slice.sliceAdjust lo hi st (items.toArray.size : Int)).1 + (k : Int) * st).toNat]?).toArray = (stepL items lo hi st).toArray := by
    unfold stepL
    simp only [List.size_toArray, List.getElem?_toArray]
  rw [epick]
  first
    | exact wpAny_bind (m := Builtin.Tuple.tupleExact _) (wpAny_newObj_type (wpAny_pure ⟨_, rfl, wpAny_pure h⟩) htake)
    | exact wpAny_bind (m := Builtin.Tuple.tupleExact _) (wpAny_newObj_type (wpAny_bind (wpAny_pure (wpAny_pure ⟨_, rfl, wpAny_pure h⟩))) htake)
    | exact wpAny_bind (wpAny_bind (m := Builtin.Tuple.tupleExact _) (wpAny_newObj_type (wpAny_pure (wpAny_pure ⟨_, rfl, wpAny_pure h⟩)) htake))
    | exact wpAny_bind (wpAny_bind (m := Builtin.Tuple.tupleExact _) (wpAny_newObj_type (wpAny_pure ⟨_, rfl, wpAny_pure h⟩) htake))
end
theorem stepL_vals {xs : List V} {us : List Value} (r : Vals xs us) (lo hi : Option Int) (st : Int) : Vals (stepL xs lo hi st) (stepL us lo hi st) := by
  unfold stepL
  rw [Paired.length r]
  generalize Builtin.Slice.slicePlaces _ _ st = n
  generalize (Builtin.Slice.sliceAdjust lo hi st (us.length : Int)).1 = a
  have get : ∀ i : Nat, (xs[i]? = none ∧ us[i]? = none) ∨ ∃ x u, xs[i]? = some x ∧ us[i]? = some u ∧ RelV x u := by
    intro i
    induction r generalizing i with
    | nil => exact .inl ⟨rfl, rfl⟩
    | cons h _ ih => cases i with
      | zero => exact .inr ⟨_, _, rfl, rfl, h⟩
      | succ i => exact ih i
  induction n with
  | zero => exact .nil
  | succ n ih =>
    rw [List.range_succ, List.filterMap_append, List.filterMap_append]
    refine Vals.append ih ?_
    rcases get (a + (n : Int) * st).toNat with ⟨e1, e2⟩ | ⟨x, u, e1, e2, h⟩
    · simp only [List.filterMap_cons, e1, e2, List.filterMap_nil]
      exact .nil
    · simp only [List.filterMap_cons, e1, e2, List.filterMap_nil]
      exact .cons h .nil
def tStp (K : PySem.W.Frag) (te : TE) (tl tu ts : TO) : TE := fun σ H Q => te σ H fun x H1 => tl σ H1 fun l H2 => tu σ H2 fun u H3 => ts σ H3 fun o H4 => ∃ a xs st, x = .ref a ∧ o = some st ∧ st ≠ 0 ∧ st ≠ 1 ∧ SqT K H4 a xs ∧ (xs.length ≤ sizeLine → (stepL xs l u st).length ≤ sizeLine) ∧ ∀ p, H4 p = none → Q (.ref p) (upd H4 p (.tup (stepL xs l u st)))
theorem pe_stp {X : Cx} {e st : Expr} {lo hi : Option Expr} {te : TE} {tl tu ts : TO} {p3 pos : Pos} (he : PE X e te) (hl : PO X lo tl) (hu : PO X hi tu) (hst : PO X (some st) ts) (htl : ∀ (v sl : Value), subscripted (.Slice lo hi (some st) p3) false v sl = operate [v, sl] (getItem v sl) := by intro _ _; rfl) :
    PE X (.Subscript e (.Slice lo hi (some st) p3) pos) (tStp X.K te tl tu ts) := by
  refine ⟨fun pins s σ H Q I h => ?_⟩
  refine Subscript_ (thn (he.run pins s σ H _ I h) fun v s1 ⟨x, H1, I1, r1, q1⟩ => ?_)
  refine wpAny_Slice (thn (hl.run pins s1 σ H1 _ I1 q1) fun vl s2 ⟨l, H2, I2, pl, q2⟩ => thn (hu.run pins s2 σ H2 _ I2 q2) fun vu s3 ⟨u, H3, I3, pu, q3⟩ => thn (hst.run pins s3 σ H3 _ I3 q3) fun vs s4 ⟨o, H4, I4, ps, q4⟩ => ?_)
  obtain ⟨a, xs, k, ex, eo, h0, h1, hx, hz, q⟩ := q4
  subst ex eo
  cases r1
  have I5 : Inv X pins σ H4 { s4 with heap := s4.heap.push { cls := .type "slice", data := .fields #[vl, vu, vs] } } := I4.kept (t' := s4.toks) fun b ob q => Heap.get?_push_of_some _ q
  obtain ⟨its, r, ht, hz0⟩ := I5.tuple hx
  have hlen := Paired.length r
  show wpAny (model X.prog X.w) X.A (subscriptTail e (.Slice lo hi (some st) p3) (.ref a) (.ref s4.heap.objs.size)) (EP X pins σ Q) X.xe { s4 with heap := s4.heap.push { cls := .type "slice", data := .fields #[vl, vu, vs] } }
  refine tail_any (ops := [.ref a, .ref s4.heap.objs.size]) ht.typeIs (PyProof.Rows.slot_tuple_getitem.lookup) ?_ (by with_unfolding_all rfl)
  have hz := hz hz0
  have rs := stepL_vals r l u k
  refine getItem_tuple_step h0 h1 ht (Heap.IsSliceOf.new _ vl vu vs) pl pu ps (by rw [← Paired.length rs]; exact hz) ?_
  refine ⟨.ref _, _, I5.laid (t' := s4.toks) (o := .tup (stepL xs l u k)) (fun b ob q => Heap.get?_push_of_some _ q) (Nat.le_refl _) ?_, rfl, q _ (I5.hok.fresh (Nat.le_refl _))⟩
  exact ⟨hz, _, rs, IsTup.new _ _⟩
end L2
namespace DL
open PySem PySem.Spec
open L2 (V Hp HO St TE TT TA TS TG TI TO PE PT PW PA PS PSs PG PI PO Cx Inv RelV Vals SqL SqT Rd upd upd_same upd_ne ne_of ne_of_none OpR UnR CallR MtR IxR SlR It thn Key kV valV putK DGet DPut)
theorem fm_congr {α β : Type} {f g : α → Option β} : ∀ {l : List α}, (∀ x ∈ l, f x = g x) → l.filterMap f = l.filterMap g
  | [], _ => rfl
  | a :: l, h => by
    rw [List.filterMap_cons, List.filterMap_cons, h a List.mem_cons_self, fm_congr fun x m => h x (List.mem_cons_of_mem _ m)]
theorem pick_rev {α : Type} : ∀ zs : List α, (List.range zs.length).filterMap (fun k => zs.reverse[zs.length - 1 - k]?) = zs
  | [] => rfl
  | a :: zs => by
    have ih := pick_rev zs
    rw [List.length_cons, List.range_succ_eq_map, List.filterMap_cons, List.filterMap_map]
    have e0 : (a :: zs).reverse[zs.length + 1 - 1 - 0]? = some a := by
      rw [List.reverse_cons, List.getElem?_append_right (by simp), List.length_reverse]
      simp
    rw [e0]
    show a :: _ = a :: zs
    congr 1
    refine Eq.trans ?_ ih
    apply fm_congr
    intro k hk
    have hk := List.mem_range.mp hk
    show (a :: zs).reverse[zs.length + 1 - 1 - (k + 1)]? = zs.reverse[zs.length - 1 - k]?
    rw [List.reverse_cons, List.getElem?_append_left (by rw [List.length_reverse]; omega)]
    congr 1
    omega
theorem step_rev {α : Type} (xs : List α) : L2.stepL xs none none (-1) = xs.reverse := by
  have h := pick_rev xs.reverse
  rw [List.reverse_reverse, List.length_reverse] at h
  rw [← h]
  unfold L2.stepL
  have ea : (Builtin.Slice.sliceAdjust none none (-1) (xs.length : Int)) = ((xs.length : Int) - 1, -1) := rfl
  rw [ea]
  have ep : Builtin.Slice.slicePlaces ((xs.length : Int) - 1) (-1) (-1) = xs.length := by
    unfold Builtin.Slice.slicePlaces
    rw [if_neg (by decide), show -(-1 : Int) = 1 from rfl, Int.ediv_one]
    split <;> omega
  rw [ep]
  apply fm_congr
  intro k hk
  have hk := List.mem_range.mp hk
  congr 1
  show ((xs.length : Int) - 1 + (k : Int) * -1).toNat = xs.length - 1 - k
  omega
theorem d_revT {X : Cx} {o : Expr} {wo : WE} {k : Nat} {p1 p2 p3 pos : Pos} (ho : PE X o (teOf X.K wo)) : PE X (.Subscript o (.Slice none none (some (.UnaryOp .USub (.Constant (.int 1) k p1) p2)) p3) pos) (teOf X.K (wUn rRevT wo)) :=
  peI (L2.pe_stp ho L2.po_none L2.po_none (L2.po_some (L2.pe_un L2.un_neg L2.pe_int))) fun σ H Q ⟨ρ, S, m, R, hE, hS, h, kk⟩ => ⟨ρ, S, m, _, hE, hS, h, fun v d H1 S1 m1 e1 s1 r1 q1 => by
    cases d with
    | tup xs =>
      obtain ⟨a, vs, rfl, hT, rs⟩ := r1
      refine ⟨1, rfl, -1, rfl, a, vs, -1, rfl, rfl, by decide, by decide, hT.sqT, fun hz => by rw [step_rev, List.length_reverse]; exact hz, fun p hp => ?_⟩
      rw [step_rev]
      exact kk _ (.tup xs.reverse) _ S1 m1 (e1.trans (Ext.fresh hp _)) (s1.fresh hp _) ⟨p, vs.reverse, rfl, .inl upd_same, Reps.ext (Ext.fresh hp _) _ _ rs.rev⟩ q1
    | _ => exact (show False from q1).elim⟩
end DL
set_option Elab.async false
set_option linter.all false
set_option maxRecDepth 100000
set_option maxHeartbeats 4000000
/-! DLC: comprehensions with two clauses -/
namespace DL
open PySem PySem.Spec
open L2 (V Hp HO St TE TT TA TS TG TI TO PE PT PW PA PS PSs PG PI PO Cx Inv RelV Vals SqL SqT Rd upd upd_same upd_ne ne_of ne_of_none OpR UnR CallR MtR IxR SlR It thn)
def Lc2 (items : List D) (guard : Sto → Prop) (S1 : Sto) (step : D → Sto → List D → (List D → Sto → Prop) → Prop) (Q : VK) : Prop := ∃ I : Nat → List D → Sto → Prop,
  I 0 [] S1 ∧ (∀ i acc S', I i acc S' → guard S') ∧
  (∀ i d acc S', items[i]? = some d → I i acc S' → step d S' acc (I (i + 1))) ∧
  ∀ acc S', I items.length acc S' → Q (.ref S'.length) (S' ++ [.lst acc])
def Lc1 (items : List D) (guard : Sto → Prop) (S1 : Sto) (acc0 : List D) (step : D → Sto → (Option D → Sto → Prop) → Prop) (done : List D → Sto → Prop) : Prop := ∃ I : Nat → List D → Sto → Prop,
  I 0 acc0 S1 ∧ (∀ i acc S', I i acc S' → guard S') ∧
  (∀ i d acc S', items[i]? = some d → I i acc S' → acc.length < szL ∧ step d S' fun o S2 => I (i + 1) (acc ++ o.toList) S2) ∧
  ∀ acc S', I items.length acc S' → done acc S'
@[reducible] def wLc2 (wi : WI) (g : WG) (tt : WT) (wi1 : WI) (g1 : WG) (tt1 : WT) (te : WE) (vs vs1 : List Nat) : WE := fun ρ S Q => wi ρ S fun items guard S1 =>
  Lc2 items guard S1 (fun d S' acc N => g d (wipe ρ vs) S' fun ρ2 S2 => tt ρ2 S2 fun b S3 => if b = true then wi1 ρ2 S3 fun items1 guard1 S4 =>
    Lc1 items1 guard1 S4 acc (fun d1 S5 R => g1 d1 (wipe ρ2 vs1) S5 fun ρ3 S6 => tt1 ρ3 S6 fun b S7 => if b = true then te ρ3 S7 fun y S8 => R (some y) S8 else R none S7) N else N acc S3) Q
theorem Ex0.trans {m m1 m2 : List Addr} {H H1 H2 : Hp} (a : Ex0 m H m1 H1) (b : Ex0 m1 H1 m2 H2) : Ex0 m H m2 H2 := ⟨fun n x h => b.pre n x (a.pre n x h), fun c o h hl => b.lst c o (a.lst c o h hl) hl⟩
theorem RepE.ext0 {K : PySem.W.Frag} {H H' : Hp} {m m' : List Addr} {ρ : Env} {σ : St} (r : RepE K H m ρ σ) (e : Ex0 m H m' H') : RepE K H' m' ρ σ :=
  ⟨r.1, fun i d h => let ⟨v, h1, h2⟩ := r.2 i d h; ⟨v, h1, Rep.ext0 e _ _ h2⟩⟩
section
variable {X : Cx}
theorem lc2_read {wi wi1 : WI} {g g1 : WG} {tt tt1 : WT} {te : WE} {vs vs1 : List Nat} (K : PySem.W.Frag) (σ : St) (H : Hp) (Q : L2.VK) (h : teOf K (wLc2 wi g tt wi1 g1 tt1 te vs vs1) σ H Q) : L2.tLc2 (tiOf K wi) (tgOf K vs g) (ttOf K tt) (tiOf K wi1) (tgOf K vs1 g1) (ttOf K tt1) (teOf K te) vs vs1 σ H Q := by
  obtain ⟨ρ, S, m, R, hE, hS, h, k⟩ := h
  refine ⟨ρ, S, m, _, hE, hS, h, fun J items guard S1 m1 H1 e1 s1 y ⟨I, i0, ig, it, ie⟩ D hD => ?_⟩
  have nD := s1.notin hD
  refine ⟨fun i n H' => n = items.length - i ∧ ∃ S' m' acc av, Ext m1 H1 m' H' ∧ RepS K H' m' S' ∧ D ∉ m' ∧ H' D = some (.lst av) ∧ Reps K H' m' acc av ∧ I i acc S' ∧ i ≤ items.length,
    ⟨_, rfl, S1, m1, [], [], Ext.fresh hD _, s1.fresh hD _, nD, upd_same, rfl, i0, Nat.zero_le _⟩, ?_⟩
  rintro i n H2 ⟨hn, S2, m2, acc, av, e2, s2, n2, a2, r2, hI, hle⟩
  obtain ⟨yg, ys⟩ := y m2 H2 S2 e2.ex0 s2 (ig _ _ _ hI)
  by_cases hlt : i < items.length
  · obtain ⟨go, yd⟩ := yg i items[i] (List.getElem?_eq_getElem hlt)
    refine .inr ⟨go, fun H' => ∃ S' m' acc av, Ext m1 H1 m' H' ∧ RepS K H' m' S' ∧ D ∉ m' ∧ H' D = some (.lst av) ∧ Reps K H' m' acc av ∧ I (i + 1) acc S', fun H' ⟨S', m', acc', av', q1, q2, q3, q4, q5, q7⟩ => ⟨_, by omega, rfl, S', m', acc', av', q1, q2, q3, q4, q5, q7, hlt⟩, fun x H' hy => ?_⟩
    obtain ⟨m3, e3, s3, rx⟩ := yd x H' hy
    obtain ⟨a3, n3⟩ := e3.own a2 n2
    refine ⟨items[i], wipe ρ vs, S2, m3, _, (hE.ext (e1.trans (e2.trans e3))).wipe vs, s3, rx, it i _ acc S2 (List.getElem?_eq_getElem hlt) hI, fun σ4 ρ4 S4 m4 H4 w4 e4 s4 r4 q4 => ⟨by rw [w4, wipe_idem], ρ4, S4, m4, _, r4, s4, q4, fun b H5 S5 m5 e5 s5 q5 => ?_⟩⟩
    obtain ⟨a4, n4⟩ := e4.own a3 n3
    obtain ⟨a5, n5⟩ := e5.own a4 n4
    have e15 := e2.trans (e3.trans (e4.trans e5))
    have racc := Reps.ext (e3.trans (e4.trans e5)) _ _ r2
    by_cases hb : b = true
    · rw [if_pos hb] at q5 ⊢
      refine ⟨ρ4, S5, m5, _, r4.ext e5, s5, q5, fun J1 items1 guard1 S6 m6 H6 e6 s6 y1 ⟨I1, j0, jg, jt, je⟩ => ?_⟩
      obtain ⟨a6, n6⟩ := e6.own a5 n5
      refine ⟨fun j k H' => k = items1.length - j ∧ ∃ S' m' acc av, Ex0 m6 H6 m' H' ∧ Ext m1 H1 m' H' ∧ RepS K H' m' S' ∧ D ∉ m' ∧ H' D = some (.lst av) ∧ Reps K H' m' acc av ∧ I1 j acc S' ∧ j ≤ items1.length,
        ⟨_, rfl, S6, m6, acc, av, (Ext.refl _ _).ex0, e15.trans e6, s6, n6, a6, Reps.ext e6 _ _ racc, j0, Nat.zero_le _⟩, ?_⟩
      rintro j k H7 ⟨hk, S7, m7, acc7, av7, x7, e7, s7, n7, a7, r7, hI7, hle7⟩
      obtain ⟨yg1, ys1⟩ := y1 m7 H7 S7 x7 s7 (jg _ _ _ hI7)
      by_cases hlt1 : j < items1.length
      · obtain ⟨go1, yd1⟩ := yg1 j items1[j] (List.getElem?_eq_getElem hlt1)
        refine .inr ⟨go1, fun H' => ∃ S' m' acc av, Ex0 m6 H6 m' H' ∧ Ext m1 H1 m' H' ∧ RepS K H' m' S' ∧ D ∉ m' ∧ H' D = some (.lst av) ∧ Reps K H' m' acc av ∧ I1 (j + 1) acc S', fun H' ⟨S', m', acc', av', q0, q1, q2, q3, q4, q5, q7⟩ => ⟨_, by omega, rfl, S', m', acc', av', q0, q1, q2, q3, q4, q5, q7, hlt1⟩, fun x H' hy => ?_⟩
        obtain ⟨m8, e8, s8, rx8⟩ := yd1 x H' hy
        obtain ⟨a8, n8⟩ := e8.own a7 n7
        obtain ⟨hz, hst⟩ := jt j _ acc7 S7 (List.getElem?_eq_getElem hlt1) hI7
        refine ⟨items1[j], wipe ρ4 vs1, S7, m8, _, ((((r4.ext e5).ext e6).ext0 x7).ext e8).wipe vs1, s8, rx8, hst, fun σ9 ρ9 S9 m9 H9 w9 e9 s9 r9 q9 => ⟨by rw [w9, wipe_idem], ρ9, S9, m9, _, r9, s9, q9, fun b1 H10 S10 m10 e10 s10 q10 => ?_⟩⟩
        obtain ⟨a9, n9⟩ := e9.own a8 n8
        obtain ⟨a10, n10⟩ := e10.own a9 n9
        by_cases hb1 : b1 = true
        · rw [if_pos hb1] at q10 ⊢
          refine ⟨ρ9, S10, m10, _, r9.ext e10, s10, q10, fun v d H11 S11 m11 e11 s11 r11 q11 => ?_⟩
          obtain ⟨a11, n11⟩ := e11.own a10 n10
          have e711 := e8.trans (e9.trans (e10.trans e11))
          have racc7 := Reps.ext e711 _ _ r7
          refine ⟨av7, a11, by rw [racc7.len, ← szL_eq]; exact hz, S11, m11, acc7 ++ [d], av7 ++ [v], (x7.trans e711.ex0).trans (Ex0.side a11), (e7.trans e711).side hD n11, s11.side a11 n11, n11, upd_same, ?_, q11⟩
          exact Reps.app (Reps.ext0 (Ex0.side a11) _ _ racc7) (Reps.one (Rep.ext0 (Ex0.side a11) _ _ r11))
        · rw [if_neg hb1] at q10 ⊢
          have e710 := e8.trans (e9.trans e10)
          exact ⟨S10, m10, acc7, av7, x7.trans e710.ex0, e7.trans e710, s10, n10, a10, Reps.ext e710 _ _ r7, by simpa using q10⟩
      · have ei : j = items1.length := by omega
        subst ei
        exact .inl ⟨ys1 _ (Nat.le_refl _), S7, m7, acc7, av7, e7, s7, n7, a7, r7, je _ _ hI7⟩
    · rw [if_neg hb] at q5 ⊢
      exact ⟨S5, m5, acc, av, e15, s5, n5, a5, racc, q5⟩
  · have ei : i = items.length := by omega
    subst ei
    refine .inl ⟨ys _ (Nat.le_refl _), k _ (.ref S2.length) H2 (S2 ++ [.lst acc]) (m2 ++ [D]) (e1.trans (e2.adopt hD)) (s2.adopt a2 n2 r2) ⟨D, by rw [← s2.len]; simp, rfl⟩ (ie _ _ hI)⟩
theorem d_lc2 {elt tg iter tg1 iter1 : Expr} {ifs ifs1 : List Expr} {scope : Scope} {own : List (Str × Nat)} {vs1 : List Nat} {pos : Pos} {wi wi1 : WI} {g g1 : WG} {tt tt1 : WT} {te : WE} (hc : X.calm = true) (hN : X.N.Nodup) (hi : PI X tg iter (tiOf X.K wi)) (ok : L2.BlkOk X.N X.env.scope scope own) (hv : ∀ i ∈ vs1, i ∈ own.map (·.2))
    (hg : ∀ (s : Shared) (H : Hp) (C : Addr) (cl : List (Str × Addr)) (fp : List Addr), PG (X.blk s H scope (compEnvC scope cl C X.env) fp) tg (tgOf X.K (own.map (·.2)) g))
    (ht : ∀ (s : Shared) (H : Hp) (C : Addr) (cl : List (Str × Addr)) (fp : List Addr), L2.PTs (X.blk s H scope (compEnvC scope cl C X.env) fp) ifs (ttOf X.K tt))
    (hi1 : ∀ (s : Shared) (H : Hp) (C : Addr) (cl : List (Str × Addr)) (fp : List Addr), PI (X.blk s H scope (compEnvC scope cl C X.env) fp) tg1 iter1 (tiOf X.K wi1))
    (hg1 : ∀ (s : Shared) (H : Hp) (C : Addr) (cl : List (Str × Addr)) (fp : List Addr), PG (X.blk s H scope (compEnvC scope cl C X.env) fp) tg1 (tgOf X.K vs1 g1))
    (ht1 : ∀ (s : Shared) (H : Hp) (C : Addr) (cl : List (Str × Addr)) (fp : List Addr), L2.PTs (X.blk s H scope (compEnvC scope cl C X.env) fp) ifs1 (ttOf X.K tt1))
    (he : ∀ (s : Shared) (H : Hp) (C : Addr) (cl : List (Str × Addr)) (fp : List Addr), PE (X.blk s H scope (compEnvC scope cl C X.env) fp) elt (teOf X.K te)) (hs : ∀ x, foldedSetIterable iter X.env x = pure x := by intro _; rfl) (hs1 : ∀ env x, foldedSetIterable iter1 env x = pure x := by intro _ _; rfl) :
    PE X (.ListComp elt [⟨tg, iter, ifs, 0⟩, ⟨tg1, iter1, ifs1, 0⟩] scope pos) (teOf X.K (wLc2 wi g tt wi1 g1 tt1 te (own.map (·.2)) vs1)) :=
  peI (L2.pe_lc2 hc hN hi ok hv hg ht hi1 hg1 ht1 he hs hs1) fun σ H Q h => lc2_read X.K σ H Q h
theorem ds_setLc2 (i : Nat) {y : Str} {py : Pos} {elt tg iter tg1 iter1 : Expr} {ifs ifs1 : List Expr} {scope : Scope} {own : List (Str × Nat)} {vs1 : List Nat} {pos spos : Pos} {wi wi1 : WI} {g g1 : WG} {tt tt1 : WT} {te : WE} (hc : X.calm = true) (hN : X.N.Nodup) (hi : PI X tg iter (tiOf X.K wi)) (ok : L2.BlkOk X.N X.env.scope scope own) (hv : ∀ i ∈ vs1, i ∈ own.map (·.2))
    (hg : ∀ (s : Shared) (H : Hp) (C : Addr) (cl : List (Str × Addr)) (fp : List Addr), PG (X.blk s H scope (compEnvC scope cl C X.env) fp) tg (tgOf X.K (own.map (·.2)) g))
    (ht : ∀ (s : Shared) (H : Hp) (C : Addr) (cl : List (Str × Addr)) (fp : List Addr), L2.PTs (X.blk s H scope (compEnvC scope cl C X.env) fp) ifs (ttOf X.K tt))
    (hi1 : ∀ (s : Shared) (H : Hp) (C : Addr) (cl : List (Str × Addr)) (fp : List Addr), PI (X.blk s H scope (compEnvC scope cl C X.env) fp) tg1 iter1 (tiOf X.K wi1))
    (hg1 : ∀ (s : Shared) (H : Hp) (C : Addr) (cl : List (Str × Addr)) (fp : List Addr), PG (X.blk s H scope (compEnvC scope cl C X.env) fp) tg1 (tgOf X.K vs1 g1))
    (ht1 : ∀ (s : Shared) (H : Hp) (C : Addr) (cl : List (Str × Addr)) (fp : List Addr), L2.PTs (X.blk s H scope (compEnvC scope cl C X.env) fp) ifs1 (ttOf X.K tt1))
    (he : ∀ (s : Shared) (H : Hp) (C : Addr) (cl : List (Str × Addr)) (fp : List Addr), PE (X.blk s H scope (compEnvC scope cl C X.env) fp) elt (teOf X.K te))
    (hsw : swapsWith (.ListComp elt [⟨tg, iter, ifs, 0⟩, ⟨tg1, iter1, ifs1, 0⟩] scope pos) (some (.Name y py)) spos.line X.env = pure true) (hy : X.N[i]? = some y := by rfl) (hyl : X.env.scope.names.lookup y = some .local := by rfl)
    (hs : ∀ x, foldedSetIterable iter X.env x = pure x := by intro _; rfl) (hs1 : ∀ env x, foldedSetIterable iter1 env x = pure x := by intro _ _; rfl) :
    PS X (.Assign [.Name y py] (.ListComp elt [⟨tg, iter, ifs, 0⟩, ⟨tg1, iter1, ifs1, 0⟩] scope pos) spos) (tsOf X.K (sAsg (wLc2 wi g tt wi1 g1 tt1 te (own.map (·.2)) vs1) (gN i))) :=
  psI (L2.ps_setLc2 hc hN hy hyl hsw hi ok hv hg ht hi1 hg1 ht1 he hs hs1) fun Dd σ H ⟨ρ, S, m, E, hE, hS, h, k, _⟩ => lc2_read X.K σ H _ ⟨ρ, S, m, _, hE, hS, h, fun v d H1 S1 m1 e1 s1 r1 q1 => k _ _ H1 S1 m1 e1 s1 ((hE.ext e1).set r1 i) q1⟩
end
end DL
set_option Elab.async false
set_option linter.all false
set_option maxRecDepth 100000
set_option maxHeartbeats 4000000
/-! DLE: a dict display of one pair -/
namespace L2
open PySem PySem.Spec
section
variable {X : Cx} {pins : List (Addr × Obj)} {σ : St} {H : Hp} {s : Shared} {a : Addr} {y v : V} {u r : Value} {E : Value → Shared → Prop}
theorem d_dictSetP {H' : Hp} {Q : Unit → Shared → Prop} (hu : X.A.units + 1 < cLine) (I : Inv X pins σ H s) (g : DPut H a y v H') (ry : RelV y u) (rv : RelV v r) (h : ∀ s', Inv X pins σ H' s' → Q () s') :
    wpAny (model X.prog X.w) X.A (dictSet a u r) Q E s := by
  rcases g with ⟨kvs, k, e, ey, l, eH⟩ | ⟨kvs, k, b, e, ey, eb, l, eH⟩
  · subst ey eH
    exact d_dictSet I e l ry rv h
  · subst ey eH
    cases (show u = Value.ref b from ry)
    obtain ⟨z, hd, xs, rel, dd⟩ := dt_of I.hok e
    have hz : xs.length ≤ sizeLine := by rw [← Paired.length rel]; exact z
    have hl : (putK kvs k v).length ≤ sizeLine := by have := length_putK kvs k v; omega
    refine wpAny_dictSet_heap (hsz := hz) (show (tupleKind (mixKind X.prog X.w)).room X.A from Nat.lt_of_succ_lt hu) (key_of I.hok eb) dd fun h' dd' hs => h _ ?_
    obtain ⟨q, es, ep, hq, h2, h3, h4, _, h5⟩ := dd'
    refine d_write I (by rw [e]; exact True.intro) hs ⟨q, hq⟩ ⟨hl, hd, _, (rel.put k eb rv).keeps fun c ys ec => ?_, q, es, ep, hq, h2, h3, h4, h5⟩
    rw [upd_ne (ne_of ec e (fun z => nomatch z))]
    exact ec
def tDisp1 (o0 : HO) (tk tv : TE) : TE := fun σ H Q => ∀ p, H p = none → tPairs [(tk, tv)] σ (upd H p o0) fun ps H2 => ∃ x y, ps = [(x, y)] ∧ ∃ H', DPut H2 p x y H' ∧ Q (.ref p) H'
theorem pe_disp1 {pos : Pos} {k v : Expr} {o0 : HO} {tk tv : TE} (h0 : o0 = .dK [] ∨ o0 = .dT []) (hu : X.A.units + 1 < cLine) (hk : PE X k tk) (hv : PE X v tv) : PE X (.Dict [some k] [v] pos) (tDisp1 o0 tk tv) := by
  refine ⟨fun pins s σ H Q I q => ?_⟩
  have hn := I.hok.fresh (Nat.le_refl s.heap.objs.size)
  have I1 : Inv X pins σ (upd H s.heap.objs.size o0) { s with heap := s.heap.push { cls := .type "dict", data := .dict #[] } } := by
    rcases h0 with rfl | rfl
    · exact I.laid (a := s.heap.objs.size) (o := .dK []) (h' := s.heap.push { cls := .type "dict", data := .dict #[] }) (t' := s.toks) (fun _ _ q => Heap.get?_push_of_some _ q) (Nat.le_refl _) (dk_empty s.heap I.big)
    · exact I.laid (a := s.heap.objs.size) (o := .dT []) (h' := s.heap.push { cls := .type "dict", data := .dict #[] }) (t' := s.toks) (fun _ _ q => Heap.get?_push_of_some _ q) (Nat.le_refl _) (dt_empty s.heap I.big)
  refine wpAny_Dict_any rfl rfl (by simp) (Nat.le_of_ble_eq_true rfl) (thn ((pps_cons (pos := pos) hk hv pps_nil).run pins _ σ _ _ I1 (q _ hn)) fun ws s2 ⟨ps, H2, I2, rel, x, y, ep, H', g, q2⟩ => ?_)
  · subst ep
    cases rel with
    | @cons a b as bs h t =>
      cases t
      obtain ⟨b1, b2⟩ := b
      unfold storeAll
      rw [List.forIn_cons]
      refine wpAny_bind (wpAny_bind (d_dictSetP hu I2 g h.1 h.2 fun s' I' => wpAny_pure ?_))
      exact wpAny_pure ⟨.ref s.heap.objs.size, H', I', rfl, q2⟩
end
end L2

namespace DL
open PySem PySem.Spec
open L2 (V Hp HO St TE TT TA TS TG TI TO PE PT PW PA PS PSs PG PI PO Cx Inv RelV Vals SqL SqT Rd upd upd_same upd_ne ne_of ne_of_none OpR UnR CallR MtR IxR SlR It thn DPut)
/-- {k: v} of a kind -/
@[reducible] def wDisp1 (o0 : O) (k v : WE) : WE := fun ρ S Q => k ρ (S ++ [o0]) fun x S1 => v ρ S1 fun y S2 => rDPut (.ref S.length) x y S2 fun S3 => Q (.ref S.length) S3
section
variable {X : Cx} {kk : Nat} {pos : Pos} {ek ev : Expr} {wk wv : WE}
theorem disp1_sound (hcst : cst = false) {o0 : O} {h0 : HO} (hz : ∀ (H : Hp) (m : List Addr) (p : Addr), H p = some h0 → RepO X.K H m o0 p) (hm : mutO h0 = true) (σ : St) (H : Hp) (Q : L2.VK) (h : teOf X.K (wDisp1 o0 wk wv) σ H Q) : L2.tDisp1 h0 (teOf X.K wk) (teOf X.K wv) σ H Q := by
  obtain ⟨ρ, S, m, R, hE, hS, h, k⟩ := h
  intro p hp
  have e0 : Ext m H (m ++ [p]) (upd H p h0) := Ext.pushed hp _
  refine ⟨ρ, S ++ [o0], m ++ [p], _, hE.ext e0, hS.pushO (o := o0) hp fun H' eH => hz _ _ _ (by rw [eH, upd_same]), h, fun x d H1 S1 m1 e1 s1 r1 q1 => ?_⟩
  refine ⟨ρ, S1, m1, _, (hE.ext e0).ext e1, s1, q1, fun y d2 H2 S2 m2 e2 s2 r2 q2 => ⟨x, y, rfl, ?_⟩⟩
  have hp0 : (m ++ [p])[S.length]? = some p := by rw [← hS.len]; simp
  have hpm := (e1.trans e2).pre _ _ hp0
  obtain ⟨a, H', eo, g, q⟩ := dput_core (o := .ref p) (x := .ref S.length) (Q := fun H' => Q (.ref p) H') (fun ys e => kyt_rep hcst e (Rep.ext e2 _ _ r1)) s2 ⟨p, hpm, rfl⟩ (Rep.ext e2 _ _ r1) r2 q2 fun H' S' m' e3 s3 q3 => k (.ref p) (.ref S.length) H' S' m' ((e0.trans (e1.trans e2)).trans e3) s3 ⟨p, e3.pre _ _ hpm, rfl⟩ q3
  cases eo
  exact ⟨H', g, q⟩
theorem d_disp1K (hr : L2.Room kk X.A) (hk : PE X ek (teOf X.K wk)) (hv : PE X ev (teOf X.K wv)) (hcst : cst = false := by rfl) : PE X (.Dict [some ek] [ev] pos) (teOf X.K (wDisp1 (.dK []) wk wv)) :=
  peI (L2.pe_disp1 (.inl rfl) (room1 hr) hk hv) fun σ H Q h => disp1_sound hcst (o0 := .dK []) (h0 := .dK []) (fun H m p e => ⟨[], e, rfl, rfl⟩) rfl σ H Q h
theorem d_disp1T (hr : L2.Room kk X.A) (hk : PE X ek (teOf X.K wk)) (hv : PE X ev (teOf X.K wv)) (hcst : cst = false := by rfl) : PE X (.Dict [some ek] [ev] pos) (teOf X.K (wDisp1 (.dT []) wk wv)) :=
  peI (L2.pe_disp1 (.inr rfl) (room1 hr) hk hv) fun σ H Q h => disp1_sound hcst (o0 := .dT []) (h0 := .dT []) (fun H m p e => ⟨[], e, rfl, rfl⟩) rfl σ H Q h
end
end DL
set_option Elab.async false
set_option linter.all false
set_option maxRecDepth 100000
set_option maxHeartbeats 4000000
/-! DLU: texts: walked, cut, joined, repeated -/
namespace DL
open PySem PySem.Spec
open L2 (V Hp HO St TE TT TA TS TG TI TO PE PT PW PA PS PSs PG PI PO Cx Inv RelV Vals SqL SqT Rd upd upd_same upd_ne ne_of ne_of_none OpR UnR CallR MtR IxR SlR It thn)
/-- the signs of a text -/
def chars (z : Str) : List D := z.cps.toList.map fun c => D.str ⟨#[c]⟩
@[reducible] def wItS (a : WE) : WI := fun ρ S R => a ρ S fun x S1 => match x with
  | .str z => R (chars z) (fun _ => True) S1
  | _ => False
def cutT (z : Str) (lo hi : Option Int) : Str := ⟨(cut z.cps.toList lo hi).toArray⟩
@[reducible] def rSlS : D → Option Int → Option Int → Sto → VK → Prop
  | .str z, lo, hi, S, Q => z.length ≤ szL ∧ Q (.str (cutT z lo hi)) S
  | _, _, _, _, _ => False
def isS : D → Prop
  | .str _ => True
  | _ => False
/-- a.join(..) -/
@[reducible] def rJoin : R2 := fun x y S Q => match x with
  | .str a => ∃ ys : List Str, itemsAt y S = some (ys.map D.str) ∧ (ys.map (·.length)).sum + ys.length * a.length ≤ 16777216 ∧ Q (.str (Txt.join a ys)) S
  | _ => False
@[reducible] def wJoin (o a : WE) : WE := fun ρ S Q => o ρ S fun x S1 => isS x ∧ a ρ S1 fun y S2 => rJoin x y S2 Q
def repT (z : Str) (n : Nat) : Str := ⟨(List.replicate n z.cps.toList).flatten.toArray⟩
@[reducible] def rMulS : R2
  | .str z, .int k, S, Q => (-(2 ^ 63) ≤ k ∧ k < 2 ^ 63) ∧ z.length * k.toNat ≤ szL ∧ Q (.str (repT z k.toNat)) S
  | _, _, _, _ => False
section
variable {X : Cx} {wa wb wo : WE} {tg e o : Expr}
theorem yields_str {K : PySem.W.Frag} {m : List Addr} {H : Hp} {z : Str} : Yields K (L2.Its z) (chars z) (fun _ => True) m H := by
  intro m1 H1 S1 ex s g
  refine ⟨fun i d hd => ?_, fun i hi => by unfold chars at hi; rw [List.length_map, Array.length_toList] at hi; exact hi⟩
  unfold chars at hd
  rw [List.getElem?_map] at hd
  obtain ⟨c, hc, rfl⟩ := Option.map_eq_some_iff.mp hd
  rw [Array.getElem?_toList] at hc
  refine ⟨(Array.getElem?_eq_some_iff.mp hc).1, fun x H' ⟨q1, c', q2, q3⟩ => ⟨m1, by rw [q1]; exact Ext.refl _ _, by rw [q1]; exact s, ?_⟩⟩
  rw [hc] at q2
  cases q2
  exact q3
theorem di_itS (he : PE X e (teOf X.K wa)) : PI X tg e (tiOf X.K (wItS wa)) :=
  piI (L2.pi_str he) fun σ H R ⟨ρ, S, m, Rd, hE, hS, h, k⟩ => ⟨ρ, S, m, _, hE, hS, h, fun v d H1 S1 m1 e1 s1 r1 q1 => by
    cases d with
    | str z => exact ⟨z, r1, k _ _ _ _ m1 _ e1 s1 yields_str q1⟩
    | _ => exact (show False from q1).elim⟩
theorem cutT_eq (z : Str) (lo hi : Option Int) : L2.cutS z lo hi = cutT z lo hi := by
  unfold L2.cutS cutT cut
  rw [sIx_eq, sIx_eq, Array.length_toList]
  rfl
theorem s_cutS : SlR X (rsOf X.K rSlS) := rsl (L2.sl_str (X := X)) fun x l u H Q ⟨m, S, d, R, s, rx, h, k⟩ => by
  cases d with
  | str z =>
    obtain ⟨h1, h2⟩ := h
    exact ⟨z, rx, by rw [← szL']; exact h1, by rw [cutT_eq]; exact k _ (.str (cutT z l u)) H S m (Ext.refl _ _) s rfl h2⟩
  | _ => exact (show False from h).elim
theorem Reps.strs {K : PySem.W.Frag} {H : Hp} {m : List Addr} : ∀ {ys : List Str} {vs : List V}, Reps K H m (ys.map D.str) vs → vs = ys.map V.str
  | [], _, h => h
  | n :: ns, _, ⟨v, r, h1, h2, h3⟩ => by rw [h1, show v = V.str n from h2, Reps.strs h3]; rfl
theorem d_join {apos pos : Pos} (ho : PE X o (teOf X.K wo)) (he : PE X e (teOf X.K wa)) (hs : starEach [e] X.env = [(false, eval e X.env)] := by rfl) (hbase : attributeBase o "join" X.env (eval o X.env) = eval o X.env := by rfl) (hline : (apos.endLine == pos.line) = true := by rfl) :
    PE X (.Call (.Attribute o "join" apos) [e] [] pos) (teOf X.K (wJoin wo wa)) :=
  peI (L2.pe_join ho he hs hbase hline) fun σ H Q ⟨ρ, S, m, R, hE, hS, h, k⟩ => ⟨ρ, S, m, _, hE, hS, h, fun v d H1 S1 m1 e1 s1 r1 ⟨z, q1⟩ => by
    cases d with
    | str a =>
      refine ⟨⟨a, r1⟩, ρ, S1, m1, _, hE.ext e1, s1, q1, fun w y H2 S2 m2 e2 s2 r2 q2 => ?_⟩
      obtain ⟨ys, hi, hz, q⟩ := (q2 : ∃ ys : List Str, itemsAt y S2 = some (ys.map D.str) ∧ (ys.map (·.length)).sum + ys.length * a.length ≤ 16777216 ∧ R (.str (Txt.join a ys)) S2)
      have fin := k _ (.str (Txt.join a ys)) H2 S2 m2 (e1.trans e2) s2 rfl q
      cases y with
      | tup xs =>
        obtain ⟨b, vs, rfl, hT, rs⟩ := r2
        cases (show some xs = some (ys.map D.str) from hi)
        exact ⟨a, b, ys, r1, rfl, .inr (by rw [← rs.strs]; exact hT.sqT), hz, fin⟩
      | ref n =>
        have hn : S2[n]? = some (.lst (ys.map D.str)) := by
          have hi : (match S2[n]? with
            | some (.lst xs) => some xs
            | _ => none) = some (ys.map D.str) := hi
          split at hi
          · rename_i xs hx; rw [hx]; cases hi; rfl
          · cases hi
        obtain ⟨c, vs, h1, h2, h3⟩ := s2.lst hn
        obtain ⟨b, g1, rfl⟩ := r2
        rw [h1] at g1
        cases g1
        exact ⟨a, c, ys, r1, rfl, .inl (by rw [← h3.strs]; exact SqL.of h2), hz, fin⟩
      | _ => cases (show none = some (ys.map D.str) from hi)
    | _ => exact (show False from z).elim⟩
end
end DL
namespace L2
open PySem PySem.Spec
section
variable {X : Cx}
theorem foldl_repS (its : List Nat) : ∀ (k : Nat) (acc : List Nat), List.foldl (fun x1 x2 => x1 ++ x2) acc.toArray (List.replicate k its.toArray) = (acc ++ (List.replicate k its).flatten).toArray
  | 0, acc => by simp
  | k + 1, acc => by
    rw [List.replicate_succ, List.foldl_cons, List.append_toArray, foldl_repS its k, List.replicate_succ, List.flatten_cons, List.append_assoc]
theorem op_mulS : OpR X (binaryOp .Mult) (fun x y H Q => ∃ z k, x = .str z ∧ y = .int k ∧ (-(2 ^ 63) ≤ k ∧ k < 2 ^ 63) ∧ z.length * k.toNat ≤ sizeLine ∧ Q (.str (DL.repT z k.toNat)) H) := by
  intro pins s σ H x y v u Q I rx ry h
  obtain ⟨z, k, rfl, rfl, ⟨h1, h2⟩, hz, q⟩ := h
  obtain ⟨t, rfl⟩ := rx
  obtain ⟨t', rfl⟩ := ry
  have hsz : (sizeLine : Nat) ≤ 16777216 := by rw [sizeLine_eq]; decide
  refine PySem.P.mul_str ?_ ?_ ?_ ?_
  · rw [decide_eq_false (by omega), decide_eq_false (by omega)]; rfl
  · intro hn hne hgt
    have hk : (0 : Int) < k := by omega
    have h3 : (z.length : Int) * k ≤ 2 ^ 63 - 1 := by
      have h4 : ((z.length * k.toNat : Nat) : Int) ≤ 16777216 := by omega
      rw [Int.natCast_mul, Int.toNat_of_nonneg (by omega)] at h4
      omega
    have := (Int.le_ediv_iff_mul_le hk).mpr h3
    omega
  · intro hn hne
    unfold Builtin.Str.tooLong
    exact decide_eq_false (by omega)
  · have hlen : (DL.repT z k.toNat).length = k.toNat * z.length := by
      show ((List.replicate k.toNat z.cps.toList).flatten.toArray).size = k.toNat * z.cps.size
      rw [List.size_toArray, List.length_flatten, List.map_replicate, List.sum_replicate_nat, Array.length_toList]
    have hfold : (⟨(List.replicate k.toNat z.cps).foldl (· ++ ·) #[]⟩ : Str) = DL.repT z k.toNat := by
      have := foldl_repS z.cps.toList k.toNat []
      rw [List.nil_append] at this
      unfold DL.repT
      rw [← this]
    by_cases c1 : k < 1
    · rw [if_pos c1]
      have e : Str.empty = DL.repT z k.toNat := by
        unfold DL.repT
        rw [show k.toNat = 0 by omega]
        rfl
      refine ⟨by decide, .str (DL.repT z k.toNat), H, I.tok _, ⟨_, by rw [e]⟩, q⟩
    · rw [if_neg c1]
      by_cases c2 : (k == 1 || z.length == 0) = true
      · rw [if_pos c2]
        have e : z = DL.repT z k.toNat := by
          obtain ⟨a⟩ := z
          unfold DL.repT
          rcases (Bool.or_eq_true _ _).mp c2 with c | c
          · rw [show k.toNat = 1 by have := eq_of_beq c; omega]
            simp
          · have : a = #[] := Array.eq_empty_of_size_eq_zero (eq_of_beq c)
            subst this
            simp
        exact ⟨.str (DL.repT z k.toNat), H, I, ⟨t, by rw [← e]⟩, q⟩
      · rw [if_neg c2, hfold]
        refine ⟨by rw [hlen, Nat.mul_comm]; exact hz, .str (DL.repT z k.toNat), H, I.tok _, ⟨_, rfl⟩, q⟩
end
end L2
namespace DL
open PySem PySem.Spec
open L2 (V Hp HO PE Cx OpR)
section
variable {X : Cx}
theorem o_mulS : OpR X (binaryOp .Mult) (r2Of X.K rMulS) := r2I (L2.op_mulS (X := X)) fun x y H Q ⟨m, S, d, e, R, s, rx, ry, h, k⟩ => by
  cases d with
  | str z => cases e with
    | int j =>
      obtain ⟨h1, hz, q⟩ := h
      exact ⟨z, j, rx, ry, h1, by rw [← szL']; exact hz, k _ (.str (repT z j.toNat)) H S m (Ext.refl _ _) s rfl q⟩
    | _ => exact (show False from h).elim
  | _ => exact (show False from h).elim
end
end DL

namespace DL
open PySem PySem.Spec
open L2 (V Hp HO PE Cx OpR Inv RelV SqL)
@[reducible] def rIxG : R2
  | .ref n, .int i, S, Q => isLst S n fun xs => ∃ d, atZ xs i = some d ∧ Q d S
  | _, _, _, _ => False
section
variable {X : Cx}
theorem g_ix : L2.PGet X (r2Of X.K rIxG) := fun pins s σ H x y v u Q I rx ry ⟨m, S, dx, dy, R, hs, qx, qy, h, k⟩ => by
  cases dx with
  | ref n => cases dy with
    | int i =>
      obtain ⟨xs, e1, d, hd, q⟩ := isLst_iff.mp h
      obtain ⟨a, vs, h1, h2, h3⟩ := hs.lst e1
      obtain ⟨b, q1, rfl⟩ := qx
      rw [h1] at q1
      cases q1
      obtain ⟨z, g1, g2⟩ := atZ_rep h3 hd
      cases rx
      have qy : y = .int i := qy
      subst qy
      obtain ⟨t, rfl⟩ := ry
      obtain ⟨its, r, pl, hz⟩ := I.list (SqL.of h2)
      obtain ⟨j, i1, i2, i3, i4, i5⟩ := L2.atI_get g1
      obtain ⟨w, ew, rw'⟩ := r.get i2
      have hl := r.length
      have hn := L2.line63
      have fin : L2.EP X pins σ Q w s := ⟨z, H, I, rw', k z d H S m (Ext.refl _ _) hs g2 q⟩
      by_cases h0 : 0 ≤ i
      · have hj : i.toNat = j := by
          rw [PySem.seqIndex_of h0 i5] at i1
          exact Option.some.inj i1
        exact wpAny_getItem_list pl.isList h0 (by omega) (by rw [hj]; simpa using ew) fin
      · have hj : (i + (its.toArray.size : Int)).toNat = j := by
          rw [PySem.seqIndex_neg (by omega) i4] at i1
          rw [List.size_toArray, ← hl]
          exact Option.some.inj i1
        exact wpAny_getItem_list_neg pl.isList (by omega) (by rw [List.size_toArray] <;> omega) (by omega) (by rw [hj]; simpa using ew) fin
    | _ => exact (show False from h).elim
  | _ => exact (show False from h).elim
end
end DL
set_option Elab.async false
set_option linter.all false
set_option maxRecDepth 100000
set_option maxHeartbeats 4000000
/-! DLV: dicts by displayed tuple keys, d[(a, b)], d.get((a, b), x), d[(a, b)] = x: also in laws with constants -/
namespace DL
open PySem PySem.Spec
open L2 (V Hp HO St TE TT TA TS TG TI TO PE PT PW PA PS PSs PG PI PO Cx Inv RelV Vals SqL SqT Rd upd upd_same upd_ne ne_of ne_of_none OpR UnR CallR MtR IxR SlR It thn Key kV valV putK DGet DPut)
section
variable {X : Cx} {kk : Nat} {o i e f : Expr} {es : List Expr} {x1 : Pos} {wo wi we wf wv : WE} {va : WA} {pos apos cpos : Pos}
theorem key_disp {K : PySem.W.Frag} {H : Hp} {m : List Addr} {p : Addr} {ds : List D} {vs : List V} (hp : H p = some (.tup vs)) (r : Reps K H m ds vs) : ∀ ys, kyt (.tup ds) = some ys → ∃ b, V.ref p = .ref b ∧ H b = some (.tup (ys.map kV)) :=
  fun ys e => ⟨p, rfl, by rw [hp, kys_rep e r]⟩
theorem d_dget2D {x1} (hr : L2.Room kk X.A) (ho : PE X o (teOf X.K wo)) (he : PA X es (taOf X.K va)) (hf : PE X f (teOf X.K wf)) (hm : L2.M2 X o "get" apos (.Tuple es x1 pos) f cpos := by exact ⟨by rfl, by rfl, by rfl, by rfl⟩) :
    PE X (.Call (.Attribute o "get" apos) [.Tuple es x1 pos, f] [] cpos) (teOf X.K (wDGet2 wo (wTup va) wf)) :=
  peI (L2.pe_dget2 (room1 hr) ho (L2.pe_tup he) hf hm) fun σ H Q ⟨ρ, S, m, R, hE, hS, h, k⟩ => ⟨ρ, S, m, _, hE, hS, h, fun v x H1 S1 m1 e1 s1 r1 ⟨z, q1⟩ => by
    obtain ⟨a, rfl, hd⟩ := isDc_rep s1 r1 z
    refine ⟨a, rfl, hd, ρ, S1, m1, _, hE.ext e1, s1, q1, fun vs ds H2 S2 m2 e2 s2 r2 ⟨z2, q2⟩ => ⟨by rw [r2.len]; exact z2, fun p hp => ⟨ρ, S2, m2, _, ((hE.ext e1).ext e2).ext (Ext.fresh hp _), s2.fresh hp _, q2, fun w t H3 S3 m3 e3 s3 r3 q3 => ?_⟩⟩⟩
    have hp3 := e3.lst p (.tup vs) upd_same rfl
    have rk : Reps X.K H3 m3 ds vs := Reps.ext e3 _ _ (Reps.ext (Ext.fresh hp (.tup vs)) _ _ r2)
    have ee := e2.trans ((Ext.fresh hp (.tup vs)).trans e3)
    obtain ⟨b, od, ov, eb, g, q, ro⟩ := dget_rep s3 (key_disp hp3 rk) (Rep.ext ee _ _ r1) (show Rep X.K H3 m3 (.tup ds) (.ref p) from ⟨p, vs, rfl, .inl hp3, rk⟩) q3
    cases eb
    exact ⟨ov, g, (k.ext (e1.trans ee)) _ (od.getD t) H3 S3 m3 (Ext.refl _ _) s3 (ro.getD r3) q⟩⟩
theorem d_dixD {x1} {p2 : Pos} (hr : L2.Room kk X.A) (ho : PE X o (teOf X.K wo)) (he : PA X es (taOf X.K va)) (hs : L2.NoSl (.Tuple es x1 p2) := by first | exact L2.noSl rfl | (intro _ _; rfl) | trivial) :
    PE X (.Subscript o (.Tuple es x1 p2) pos) (teOf X.K (wOp rDIx wo (wTup va))) :=
  peI (L2.pe_dget (room1 hr) ho (L2.pe_tup he) hs) fun σ H Q ⟨ρ, S, m, R, hE, hS, h, k⟩ => ⟨ρ, S, m, _, hE, hS, h, fun v x H1 S1 m1 e1 s1 r1 q1 => ⟨ρ, S1, m1, _, hE.ext e1, s1, q1, fun vs ds H2 S2 m2 e2 s2 r2 ⟨z2, q2⟩ => ⟨by rw [r2.len]; exact z2, fun p hp => by
    have ef := Ext.fresh (m := m2) hp (.tup vs)
    have rk := Reps.ext ef _ _ r2
    obtain ⟨a, od, ov, rfl, g, ⟨d, hd, q⟩, ro⟩ := dget_rep (s2.fresh hp _) (key_disp upd_same rk) (Rep.ext (e2.trans ef) _ _ r1) (show Rep X.K _ m2 (.tup ds) (.ref p) from ⟨p, vs, rfl, .inl upd_same, rk⟩) q2
    obtain ⟨w, rfl, rw⟩ := ro.some hd
    exact ⟨a, w, rfl, g, (k.ext (e1.trans (e2.trans ef))) _ d _ S2 m2 (Ext.refl _ _) (s2.fresh hp _) rw q⟩⟩⟩⟩
theorem ds_dputD {x1} {p2 spos : Pos} (hr : L2.Room kk X.A) (hv : PE X e (teOf X.K wv)) (ho : PE X o (teOf X.K wo)) (he : PA X es (taOf X.K va)) (hs : swapsWith e (some (.Subscript o (.Tuple es x1 p2) spos)) pos.line X.env = pure false := by rfl) :
    PS X (.Assign [.Subscript o (.Tuple es x1 p2) spos] e pos) (tsOf X.K (sSub rDPut wv wo (wTup va))) :=
  psI (L2.ps_dput (room1 hr) ho (L2.pe_tup he) hv hs) fun D σ H ⟨ρ, S, m, E, hE, hS, h, k, _⟩ => ⟨ρ, S, m, _, hE, hS, h, fun v d H1 S1 m1 e1 s1 r1 q1 => ⟨ρ, S1, m1, _, hE.ext e1, s1, q1, fun v2 x H2 S2 m2 e2 s2 r2 q2 =>
    ⟨ρ, S2, m2, _, hE.ext (e1.trans e2), s2, q2, fun vs ds H3 S3 m3 e3 s3 r3 ⟨z3, q3⟩ => ⟨by rw [r3.len]; exact z3, fun p hp => by
      have ef := Ext.fresh (m := m3) hp (.tup vs)
      have rk := Reps.ext ef _ _ r3
      obtain ⟨a, H', eo, g, q⟩ := dput_core (Q := fun H' => D.nx σ H') (key_disp upd_same rk) (s3.fresh hp _) (Rep.ext (e3.trans ef) _ _ r2) (show Rep X.K _ m3 (.tup ds) (.ref p) from ⟨p, vs, rfl, .inl upd_same, rk⟩) (Rep.ext (e2.trans (e3.trans ef)) _ _ r1) q3 fun H4 S4 m4 e4 s4 q4 =>
        k σ ρ H4 S4 m4 (e1.trans (e2.trans (e3.trans (ef.trans e4)))) s4 (hE.ext (e1.trans (e2.trans (e3.trans (ef.trans e4))))) q4
      exact ⟨a, H', eo, g, q⟩⟩⟩⟩⟩
end
end DL
set_option Elab.async false
set_option linter.all false
set_option maxRecDepth 100000
set_option maxHeartbeats 4000000
/-! DLZ: division by ints of any size, in the body of a def; a law's promise whose base has no watcher. -/
namespace DL
open PySem PySem.Spec
open L2 (V Hp HO PE Cx OpR Inv RelV)
/-- any divisor but 0 -/
@[reducible] def rDivZ : R2
  | .int i, .int j, S, Q => j ≠ 0 ∧ Q (.int (i.fdiv j)) S
  | _, _, _, _ => False
/-- where a division of any size is done -/
structure Big (X : Cx) : Prop where
  seer : X.base.NoSeer
  tree : X.prog.given.tree = none
  stack : X.stack = X.env :: X.outer
  gen : X.env.scope.isGenerator = false
  co : X.env.scope.isCoroutine = false
  room : X.A.depth + Builtin.pylongFrames < recursionLimit
section
variable {X : Cx} {pins : List (Addr × Obj)} {σ : List (Option V)} {H : Hp} {s : Shared}
theorem Big.at (B : Big X) (I : Inv X pins σ H s) : PylongRoom (model X.prog X.w) X.A s :=
  PylongRoom.of I.nolimit B.room (SeerAt.of (B.seer.keeps I.bk) B.tree (I.ok.frames.trans (congrArg some B.stack)) B.gen B.co I.ok.blt I.ok.glob)
theorem op_divZ (B : Big X) : OpR X (binaryOp .FloorDiv) (L2.rI (fun _ j => j ≠ 0) fun i j => .int (i.fdiv j)) := by
  intro pins s σ H x y v u Q I rx ry h
  obtain ⟨i, j, rfl, rfl, hc, q⟩ := h
  obtain ⟨t, rfl⟩ := rx
  obtain ⟨t', rfl⟩ := ry
  exact PyProof.Rows.floordiv_int hc ⟨.int (i.fdiv j), H, I.tok _, ⟨_, rfl⟩, q⟩ (.inr (B.at I))
theorem o_divZ (B : Big X) : OpR X (binaryOp .FloorDiv) (r2Of X.K rDivZ) := r2I (op_divZ B) fun x y H Q h => ii (g := fun i j => .int (i.fdiv j)) (fun _ _ _ _ => rfl) (fun d e S R h => by
  cases d with
  | int i => cases e with
    | int j => exact ⟨i, j, rfl, rfl, h.1, h.2⟩
    | _ => exact (show False from h).elim
  | _ => exact (show False from h).elim) h
end
theorem big_of {P : Program} {w : World} {K : PySem.W.Frag} {mg : Str → Option Value} {base : Heap} {N : List Str} {qual : Str} {scope : Scope} {f : Addr} {cd : Value} {A : Around} {outer : List PySem.Env} {s : Shared} {H : Hp} {E : L2.XK} {k : Nat}
    (hs : base.NoSeer) (ht : P.given.tree = none) (hg : scope.isGenerator = false) (hc : scope.isCoroutine = false) (hr : L2.Room k (A.deeper (PyProof.Rows.envOfC qual scope s.heap.objs.size f cd))) (hk : 32 ≤ k) :
    Big (L2.cxOf L2.CX0 P w K mg base N qual scope f cd A outer s H E).nox :=
  ⟨hs, ht, rfl, hg, hc, by
    have := hr.dp
    show (A.deeper (PyProof.Rows.envOfC qual scope s.heap.objs.size f cd)).depth + 100 < _
    omega⟩
/-- the heap that a law's def begins with: nothing is known of it but the script -/
theorem start_heap {P : Program} {w : World} {K : PySem.W.Frag} {h : Heap} {a : Addr} {vs : List Value} {ns : List Int} (kin : K.In h) (ha : h.get? a = some { cls := .type "list", data := .seq vs.toArray }) (hi : PyProof.Rows.IntsAre vs ns) (hl : ns.length ≤ sizeLine) :
    ∃ H : Hp, L2.Only H ∧ L2.SqL K H a (ns.map V.int) ∧ L2.HOk P w H h ∧ (∀ b, b ≠ a → H b = none) ∧ ∀ o, K.lookup a = some o → H a = none := by
  have r := L2.vals_ints hi
  cases e : K.lookup a with
  | some o =>
    have q := kin a o e
    rw [ha] at q
    cases q
    exact ⟨fun _ => none, fun _ => .inl rfl, .inr ⟨_, vs.toArray, _, e, rfl, rfl, rfl, by rw [List.size_toArray, hi.length]; exact hl, by simpa using r⟩, fun b u q => (nomatch q), fun _ _ => rfl, fun _ _ => rfl⟩
  | none =>
    let ob : Obj := { cls := .type "list", data := .seq vs.toArray }
    refine ⟨fun b => if b = a then some (.frz ob (.lst (ns.map V.int))) else none, fun b => ?_, .inl (.inr ⟨ob, if_pos rfl⟩), fun b u q => ?_, fun b n => if_neg n, fun o q => by cases q⟩
    · by_cases n : b = a
      · exact .inr ⟨ob, _, if_pos n⟩
      · exact .inl (if_neg n)
    · by_cases n : b = a
      · subst n
        have q' := (if_pos rfl).symm.trans q
        cases q'
        exact ⟨ha, by rw [List.length_map]; exact hl, vs, _, r, ha⟩
      · have q' := (if_neg n).symm.trans q
        cases q'
theorem hid_ns {h : Heap} {H : Hp} {a b : Addr} {m : Str → Option Value} (ha : ∀ c, c ≠ a → H c = none) {ob : Obj} (ho : h.get? a = some ob) (hd : ∀ es ep, ob.data ≠ .dict es ep) (x : h.Ns b m) : (L2.hidT h H).Ns b m := by
  obtain ⟨o, es, ep, e1, e2, rest⟩ := x
  refine ⟨o, es, ep, L2.hidT_get e1 (ha b fun z => ?_), e2, rest⟩
  rw [z, ho] at e1
  cases e1
  exact hd es ep e2
theorem hid_seer {h : Heap} {H : Hp} {a : Addr} (ha : ∀ c, c ≠ a → H c = none) {ob : Obj} (ho : h.get? a = some ob) (hd : ∀ es ep, ob.data ≠ .dict es ep) (hm : ob.cls ≠ .type "module") (x : h.NoSeer) : (L2.hidT h H).NoSeer where
  statics := by
    obtain ⟨mc, n, r⟩ := x.statics
    exact ⟨mc, hid_ns ha ho hd n, r⟩
  mods := by
    obtain ⟨mc, n, r⟩ := x.mods
    exact ⟨mc, hid_ns ha ho hd n, r⟩
  imp := by
    obtain ⟨mc, n, r⟩ := x.imp
    exact ⟨mc, hid_ns ha ho hd n, r⟩
  main := by
    obtain ⟨mg, bm, o, n, g, e, c, d⟩ := x.main
    refine ⟨mg, bm, o, hid_ns ha ho hd n, g, L2.hidT_get e (ha bm fun z => ?_), c, d⟩
    rw [z, ho] at e
    cases e
    exact hm c
theorem bits_lt {z : Int} {n : Nat} (h : Builtin.Int.intBits z ≤ n) : z.natAbs < 2 ^ n := by
  unfold Builtin.Int.intBits at h
  split at h
  · rename_i e
    have : z = 0 := by simpa using e
    subst this
    exact Nat.pow_pos (by decide)
  · rename_i e
    have e0 : z.natAbs ≠ 0 := by
      intro q
      apply e
      have : z = 0 := by omega
      subst this; rfl
    exact (Nat.log2_lt e0).mp (by omega)
/-- a law's end from its def's promise; the base may be known to have no watcher -/
theorem walk_ofZ {l : PySem.W.OpenLaw} {n k : Nat} {q : Program} {loose : List Str} {XP : (Str → Option Value) → Heap → Prop} {YP : World → Heap → Prop} {d : DefRec} {K : Params → PySem.W.Frag} {sp : World → L2.Sp} {x : Str}
    (hq : PyProof.Rows.importsNone q = true) (hn : l.most = some n) (hn2 : n ≤ sizeLine) (hdf : d.params.defaults = []) (hr : L2.Room k callerA)
    (hY : ∀ (w : World) (h : Heap), YP w h → (K w.params).In h)
    (F : ∀ (w : World) (mg : Str → Option Value) (fa : Addr) (h : Heap), (K w.params).In h → h.Ns mainGlobals mg → mg d.name = some (.ref fa) →
      ∃ fd : FuncData, (∀ (s : Shared) (u : Value), BindsTo s fd ⟨[u], []⟩ [(x, u)]) ∧ ∀ base : Heap, base.NoSeer → L2.FnOk l.prog w (K w.params) mg base L2.CX0 k fa fd [x] (sp w))
    (hsp : ∀ (w : World) (H : Hp) (a : Addr) (ns : List Int), ns.length ≤ n → (∀ z ∈ ns, z.natAbs < 2 ^ 1048576) → L2.Only H → L2.SqL (K w.params) H a (ns.map V.int) → sp w [.ref a] H (fun v _ => v = .bl true) fun _ _ _ => False)
    (hx : ∀ (H : Hp) (s : Shared) (e : Value) (s' : Shared), L2.CX0 [] H s (fun _ _ _ => False) e s' → False) :
    PySem.W.WalkO q loose XP YP l.row.toRowW d [] (fun f vs => PySem.call f vs) := by
  refine Att.attach_callB hn hdf fun w s₀ s₁ mg mb fa o pm cd doc a vs ns G Y _ _ _ hmg hobj hints hlen hbits hg => ?_
  have small : ∀ z ∈ ns, z.natAbs < 2 ^ 1048576 := fun z hz => bits_lt (hbits z hz)
  have kin := hY w _ Y
  obtain ⟨fd, hb, hF⟩ := F w mg fa _ kin G.T.g hmg
  obtain ⟨H, only, sq, hok, other, inK⟩ := start_heap (P := l.prog) (w := w) kin hobj hints (Nat.le_trans hlen hn2)
  have nd : ∀ es ep, ({ cls := .type "list", data := .seq vs.toArray } : Obj).data ≠ .dict es ep := fun _ _ e => (nomatch e)
  have hns {b m} (y : s₁.heap.Ns b m) : (L2.hidT s₁.heap H).Ns b m := hid_ns other hobj nd y
  have kin' : (K w.params).In (L2.hidT s₁.heap H) := by
    intro b u e
    refine L2.hidT_get (kin b u e) ?_
    by_cases z : b = a
    · subst z; exact inK u e
    · exact other b z
  obtain ⟨mc, lim1, lim2⟩ := G.T.nolimit
  have env : L2.Env0 l.prog w (K w.params) mg (L2.hidT s₁.heap H) callerA [] s₁ H := {
    frames := rfl
    mod := { kin := kin', glob := hns G.T.g, blt := ⟨mb, hns G.T.b, G.T.builtins⟩, nolimit := ⟨mc, hns lim1, lim2⟩ }
    bs := fun _ _ e => L2.of_hidT e
    bsz := by rw [L2.hidT_size]; exact Nat.le_refl _
    funs := trivial
    frf := by intro b hb; cases hb
    hok := hok
    bare := .of_eq hg }
  have run := (hF _ (hid_seer other hobj nd (show (Value.type "list") ≠ .type "module" by decide) (G.T.seer hq))).run callerA [] s₁ H ⟨[.ref a], []⟩ [.ref a] [.ref a] (fun v _ => v = .bl true) (fun _ _ _ => False) hr env (hb s₁ (.ref a)) (.cons rfl .nil) (hsp w H a ns hlen small only sq)
  refine codeAny_mono run fun r s' h => ?_
  match r, h with
  | .error e, h => exact (hx H s₁ e s' h).elim
  | .ok (.ret u), ⟨v, H', os, bare, un, hok', rv, qv⟩ =>
    have qv : v = .bl true := qv
    subst qv
    have rv : u = Value.bool true := rv
    subst rv
    refine ⟨rfl, OldK.of_keep fun b ob e => ?_, os, bare⟩
    cases hb : H b with
    | none => exact un.keep b ob e hb (by intro z; cases z) (by intro z; cases z)
    | some y =>
      rcases only b with z | ⟨o1, xs, z⟩
      · rw [hb] at z; cases z
      · obtain ⟨g1, _⟩ := hok b _ z
        obtain ⟨g2, _⟩ := hok' b _ (un.frzs b o1 _ z)
        rw [e] at g1
        cases g1
        exact g2
  | .ok .next, h => exact h.elim
  | .ok .brk, h => exact h.elim
  | .ok .cont, h => exact h.elim
end DL
set_option linter.all false
set_option maxRecDepth 100000
set_option maxHeartbeats 4000000
/-! DLP: helpers over DL0: the store, lists of plain data, loops, comprehensions, what every law's own helpers keep. -/
namespace DL
/-! ### the store -/
/-- all that was there is there -/
def Sub (S S' : Sto) : Prop := ∀ (n : Nat) (o : O), S[n]? = some o → S'[n]? = some o
theorem Sub.refl (S : Sto) : Sub S S := fun _ _ h => h
theorem Sub.trans {S S1 S2 : Sto} (a : Sub S S1) (b : Sub S1 S2) : Sub S S2 := fun n o h => b n o (a n o h)
theorem Sub.push (S : Sto) (l : Sto) : Sub S (S ++ l) := fun n o h => by
  rw [List.getElem?_append_left (List.getElem?_eq_some_iff.mp h).1]
  exact h
theorem at_push (S : Sto) (o : O) : (S ++ [o])[S.length]? = some o := by simp
theorem Sub.lt {S S' : Sto} (h : Sub S S') {n : Nat} {o : O} (e : S[n]? = some o) : n < S'.length := (List.getElem?_eq_some_iff.mp (h n o e)).1
theorem at_lt {S : Sto} {n : Nat} {o : O} (e : S[n]? = some o) : n < S.length := (List.getElem?_eq_some_iff.mp e).1
theorem at_set {S : Sto} {n : Nat} {o o' : O} (e : S[n]? = some o) : (S.set n o')[n]? = some o' := List.getElem?_set_self (at_lt e)
theorem at_set_ne {S : Sto} {n k : Nat} {o' : O} (h : k ≠ n) : (S.set n o')[k]? = S[k]? := List.getElem?_set_ne (Ne.symm h)
theorem isLst_at {S : Sto} {n : Nat} {xs : List D} {P : List D → Prop} (h : S[n]? = some (.lst xs)) : isLst S n P = P xs := by
  unfold isLst
  rw [h]
/-- the draws stand at n -/
def Dr (n : Nat) (S : Sto) : Prop := ∃ ns : List Int, S[n]? = some (.lst (intD ns))
/-- all but what stands at n is there -/
def Ch (n : Nat) (S S' : Sto) : Prop := ∀ (k : Nat) (o : O), k ≠ n → S[k]? = some o → S'[k]? = some o
theorem Ch.refl (n : Nat) (S : Sto) : Ch n S S := fun _ _ _ h => h
theorem Ch.trans {n : Nat} {S S1 S2 : Sto} (a : Ch n S S1) (b : Ch n S1 S2) : Ch n S S2 := fun k o hk h => b k o hk (a k o hk h)
theorem Sub.ch {n : Nat} {S S' : Sto} (h : Sub S S') : Ch n S S' := fun k o _ e => h k o e
theorem Dr.sub {n : Nat} {S S' : Sto} (d : Dr n S) (h : Sub S S') : Dr n S' := let ⟨ns, e⟩ := d; ⟨ns, h n _ e⟩
theorem Ch.set {n : Nat} (S : Sto) (o : O) : Ch n S (S.set n o) := fun k u hk e => by rw [at_set_ne hk]; exact e

theorem ite_i {c A B : Prop} {_ : Decidable c} (h1 : c → A) (h2 : ¬ c → B) : if c then A else B := by
  by_cases h : c
  · rw [if_pos h]; exact h1 h
  · rw [if_neg h]; exact h2 h
theorem Sub.put {S S' : Sto} {n : Nat} {o : O} (h : Sub S S') (hn : S.length ≤ n) : Sub S (S'.set n o) := fun k u e => by
  rw [at_set_ne (by have := at_lt e; omega)]
  exact h k u e
theorem Sub.app {S S' : Sto} (h : Sub S S') (l : Sto) : Sub S (S' ++ l) := h.trans (Sub.push S' l)
theorem push_at {S : Sto} {n : Nat} {o : O} (h : S[n]? = some o) (l : Sto) : (S ++ l)[n]? = some o := Sub.push S l n o h
/-! ### places of lists -/
theorem atZ_nat {α : Type} {xs : List α} {i : Nat} {x : α} (h : xs[i]? = some x) : atZ xs (i : Int) = some x := by
  have hl : i < xs.length := (List.getElem?_eq_some_iff.mp h).1
  unfold atZ ixZ
  rw [if_pos (by omega), if_pos (by omega)]
  simpa using h
theorem atZ_lt {α : Type} {xs : List α} {i : Int} (h0 : 0 ≤ i) (h1 : i < xs.length) : ∃ x, atZ xs i = some x ∧ xs[i.toNat]? = some x := by
  have hl : i.toNat < xs.length := by omega
  refine ⟨xs[i.toNat], ?_, List.getElem?_eq_getElem hl⟩
  have := atZ_nat (List.getElem?_eq_getElem hl)
  rw [show ((i.toNat : Nat) : Int) = i by omega] at this
  exact this
theorem intD_get {ns : List Int} {i : Nat} {d : D} (h : (intD ns)[i]? = some d) : ∃ n, ns[i]? = some n ∧ d = .int n := by
  rw [List.getElem?_map] at h
  cases e : ns[i]? with
  | none => rw [e] at h; cases h
  | some n => rw [e] at h; exact ⟨n, rfl, (Option.some.inj h).symm⟩
theorem intD_at {ns : List Int} {i : Nat} {n : Int} (h : ns[i]? = some n) : (intD ns)[i]? = some (.int n) := by
  rw [List.getElem?_map, h]
  rfl
theorem intD_atZ {ns : List Int} {i : Int} (h0 : 0 ≤ i) (h1 : i < ns.length) : ∃ n, ns[i.toNat]? = some n ∧ atZ (intD ns) i = some (.int n) := by
  have hl : i.toNat < ns.length := by omega
  refine ⟨ns[i.toNat], List.getElem?_eq_getElem hl, ?_⟩
  have := atZ_nat (intD_at (List.getElem?_eq_getElem hl))
  rw [show ((i.toNat : Nat) : Int) = i by omega] at this
  exact this
theorem sIx_nn (n d : Nat) {i : Int} (h : 0 ≤ i) : sIx n d (some i) = min i.toNat n := by
  show (if i < 0 then (i + n).toNat else min i.toNat n) = _
  rw [if_neg (by omega)]
theorem sIx_no (n d : Nat) : sIx n d none = d := rfl
theorem cut_take {α : Type} (xs : List α) {i : Int} (h : 0 ≤ i) : cut xs none (some i) = xs.take i.toNat := by
  unfold cut
  rw [sIx_no, sIx_nn _ _ h, List.drop_zero, Nat.sub_zero]
  by_cases hc : i.toNat ≤ xs.length
  · rw [Nat.min_eq_left hc]
  · rw [Nat.min_eq_right (by omega), List.take_length, List.take_of_length_le (by omega)]
theorem cut_drop {α : Type} (xs : List α) {i : Int} (h : 0 ≤ i) : cut xs (some i) none = xs.drop i.toNat := by
  unfold cut
  rw [sIx_no, sIx_nn _ _ h]
  by_cases hc : i.toNat ≤ xs.length
  · rw [Nat.min_eq_left hc, List.take_of_length_le (by simp)]
  · rw [Nat.min_eq_right (by omega), List.drop_length, List.drop_of_length_le (by omega)]
    simp
theorem rangeD_get {lo hi : Int} {i : Nat} {d : D} (h : (rangeD lo hi)[i]? = some d) : i < (hi - lo).toNat ∧ d = .int (lo + i) := by
  unfold rangeD at h
  rw [List.getElem?_map] at h
  by_cases hi : i < (hi - lo).toNat
  · rw [List.getElem?_range hi] at h
    exact ⟨hi, (Option.some.inj h).symm⟩
  · rw [List.getElem?_eq_none (by simpa using hi)] at h
    cases h
theorem rangeD_len (lo hi : Int) : (rangeD lo hi).length = (hi - lo).toNat := by simp [rangeD]
theorem rangeD_nat (n : Nat) : rangeD 0 (n : Int) = (List.range n).map fun (i : Nat) => D.int (i : Int) := by
  unfold rangeD
  rw [show ((n : Int) - 0).toNat = n by omega]
  apply List.map_congr_left
  intro i _
  rw [Int.zero_add]
theorem mem_rangeD {lo hi : Int} {d : D} (h : d ∈ rangeD lo hi) : ∃ i : Nat, i < (hi - lo).toNat ∧ d = .int (lo + i) := by
  obtain ⟨i, hi, e⟩ := List.mem_map.mp h
  exact ⟨i, List.mem_range.mp hi, e.symm⟩
theorem flats_int : ∀ ns : List Int, flats (intD ns) = true
  | [] => rfl
  | n :: ns => by
    show (true && flats (intD ns)) = true
    rw [flats_int ns]
    rfl
theorem flats0_int (ns : List Int) : (intD ns).all flat0 = true := by
  induction ns with
  | nil => rfl
  | cons n ns ih =>
    show (true && (intD ns).all flat0) = true
    rw [ih]
    rfl
theorem deeps_int : ∀ ns : List Int, deeps (intD ns) = 0
  | [] => rfl
  | n :: ns => by
    show max 0 (deeps (intD ns)) = 0
    rw [deeps_int ns]
    rfl
/-! no tuple is longer than a store can tell -/
mutual
def slim : D → Bool
  | .tup xs => decide (xs.length ≤ szL) && slims xs
  | _ => true
def slims : List D → Bool
  | [] => true
  | x :: xs => slim x && slims xs
end
theorem slims_int : ∀ ns : List Int, slims (intD ns) = true
  | [] => rfl
  | n :: ns => by
    show (true && slims (intD ns)) = true
    rw [slims_int ns]
    rfl
theorem flats_get {xs : List D} {i : Nat} {d : D} : flats xs = true → xs[i]? = some d → flat d = true := by
  induction xs generalizing i with
  | nil => intro _ h; cases h
  | cons x xs ih =>
    intro h e
    have h := Bool.and_eq_true_iff.mp (show (flat x && flats xs) = true from h)
    cases i with
    | zero => rw [← Option.some.inj e]; exact h.1
    | succ i => exact ih h.2 e
theorem slims_get {xs : List D} {i : Nat} {d : D} : slims xs = true → xs[i]? = some d → slim d = true := by
  induction xs generalizing i with
  | nil => intro _ h; cases h
  | cons x xs ih =>
    intro h e
    have h := Bool.and_eq_true_iff.mp (show (slim x && slims xs) = true from h)
    cases i with
    | zero => rw [← Option.some.inj e]; exact h.1
    | succ i => exact ih h.2 e
theorem deeps_get {xs : List D} {i : Nat} {d : D} : xs[i]? = some d → deep d ≤ deeps xs := by
  induction xs generalizing i with
  | nil => intro h; cases h
  | cons x xs ih =>
    intro e
    show deep d ≤ max (deep x) (deeps xs)
    cases i with
    | zero => rw [← Option.some.inj e]; omega
    | succ i => have := ih e; omega
mutual
theorem eqD_self : ∀ d : D, flat d = true → eqD d d = true
  | .non, _ => rfl
  | .bl b, _ => by cases b <;> rfl
  | .int i, _ => by show decide (i = i) = true; simp
  | .str x, _ => by show decide (x = x) = true; simp
  | .tup xs, h => eqDs_self xs h
  | .rol _, h => by cases (show false = true from h)
  | .ref _, h => by cases (show false = true from h)
  | .ty _, h => by cases (show false = true from h)
theorem eqDs_self : ∀ ds : List D, flats ds = true → eqDs ds ds = true
  | [], _ => rfl
  | d :: ds, h => by
    have h := Bool.and_eq_true_iff.mp (show (flat d && flats ds) = true from h)
    show (eqD d d && eqDs ds ds) = true
    rw [eqD_self d h.1, eqDs_self ds h.2]
    rfl
end

/-! ### sorting -/
theorem perm_map {α β : Type} (f : α → β) : ∀ {ys zs : List β}, ys.Perm zs → ∀ l : List α, zs = l.map f → ∃ l' : List α, l'.Perm l ∧ ys = l'.map f := by
  intro ys zs p
  induction p with
  | nil => intro l e; cases l with
    | nil => exact ⟨[], .refl _, rfl⟩
    | cons _ _ => cases e
  | cons x p ih =>
    intro l e
    cases l with
    | nil => cases e
    | cons a l =>
      rw [List.map_cons] at e
      injection e with e1 e2
      obtain ⟨l', h1, h2⟩ := ih l e2
      exact ⟨a :: l', h1.cons a, by rw [List.map_cons, ← h2, e1]⟩
  | swap x y l0 =>
    intro l e
    match l, e with
    | a :: b :: l, e =>
      rw [List.map_cons, List.map_cons] at e
      injection e with e1 e2
      injection e2 with e2 e3
      exact ⟨b :: a :: l, .swap .., by rw [List.map_cons, List.map_cons, e1, e2, e3]⟩
  | trans p1 p2 ih1 ih2 =>
    intro l e
    obtain ⟨l2, h1, h2⟩ := ih2 l e
    obtain ⟨l1, h3, h4⟩ := ih1 l2 h2
    exact ⟨l1, h3.trans h1, h4⟩
/-- two ascending lists of the same members -/
theorem asc_one : ∀ {a b : List Int}, a.Pairwise (· < ·) → b.Pairwise (· < ·) → (∀ x, x ∈ a ↔ x ∈ b) → a = b
  | [], [], _, _, _ => rfl
  | [], y :: b, _, _, h => by have := (h y).mpr List.mem_cons_self; cases this
  | x :: a, [], _, _, h => by have := (h x).mp List.mem_cons_self; cases this
  | x :: a, y :: b, pa, pb, h => by
    rw [List.pairwise_cons] at pa pb
    have e : x = y := by
      rcases List.mem_cons.mp ((h x).mp List.mem_cons_self) with e | m1
      · exact e
      · rcases List.mem_cons.mp ((h y).mpr List.mem_cons_self) with e | m2
        · exact e.symm
        · have := pb.1 x m1
          have := pa.1 y m2
          omega
    subst e
    rw [asc_one pa.2 pb.2 fun z => ⟨fun hz => ?_, fun hz => ?_⟩]
    · rcases List.mem_cons.mp ((h z).mp (List.mem_cons_of_mem _ hz)) with e | m
      · have := pa.1 z hz
        omega
      · exact m
    · rcases List.mem_cons.mp ((h z).mpr (List.mem_cons_of_mem _ hz)) with e | m
      · have := pb.1 z hz
        omega
      · exact m

/-! ### comprehensions that change nothing: f tells what each item gives -/
theorem Lc_fun {items : List D} {guard : Sto → Prop} {S1 : Sto} {step : D → Sto → (Option D → Sto → Prop) → Prop} {Q : VK} (f : D → Option D) (hz : items.length ≤ szL) (hg : ∀ S', Sub S1 S' → guard S')
    (hs : ∀ (i : Nat) (d : D) S' R, items[i]? = some d → Sub S1 S' → (∀ S2, Sub S' S2 → R (f d) S2) → step d S' R) (hd : ∀ S', Sub S1 S' → Q (.ref S'.length) (S' ++ [.lst (items.filterMap f)])) : Lc items guard S1 step Q := by
  refine ⟨hz, fun i acc S' => Sub S1 S' ∧ acc = (items.take i).filterMap f, ⟨.refl _, rfl⟩, fun i acc S' h => hg S' h.1, ?_, ?_⟩
  · rintro i d acc S' hi ⟨h1, rfl⟩
    refine hs i d S' _ hi h1 fun S2 h2 => ⟨h1.trans h2, ?_⟩
    rw [List.take_add_one, hi]
    cases e : f d with
    | none => simp [e]
    | some y => simp [e]
  · rintro acc S' ⟨h1, rfl⟩
    rw [List.take_length]
    exact hd S' h1

theorem ite_d {c A B : Prop} {_ : Decidable c} (h1 : c → A) (h2 : ¬ c → B) : if decide c = true then A else B := by
  by_cases h : c
  · rw [if_pos (decide_eq_true h)]; exact h1 h
  · rw [if_neg (by simpa using h)]; exact h2 h
theorem okII (i j : Int) : flat (.int i) = true ∧ flat (.int j) = true ∧ deep (.int i) ≤ 64 ∧ deep (.int j) ≤ 64 := ⟨rfl, rfl, Nat.zero_le _, Nat.zero_le _⟩
theorem goEq {i j : Int} {S : Sto} {Q : VK} (h : Q (.bl (decide (i = j))) S) : (flat (.int i) = true ∧ flat (.int j) = true ∧ deep (.int i) ≤ 64 ∧ deep (.int j) ≤ 64) ∧ Q (.bl (eqD (.int i) (.int j))) S := ⟨okII i j, h⟩
theorem goNe {i j : Int} {S : Sto} {Q : VK} (h : Q (.bl (!decide (i = j))) S) : (flat (.int i) = true ∧ flat (.int j) = true ∧ deep (.int i) ≤ 64 ∧ deep (.int j) ≤ 64) ∧ Q (.bl (!eqD (.int i) (.int j))) S := ⟨okII i j, h⟩
theorem Loop_mk {items : List D} {guard : Sto → Prop} {step : D → Env → Sto → (Env → Sto → Prop) → Prop} {done : Env → Sto → Prop} {ρ : Env} {S : Sto} (I : Nat → Env → Sto → Prop)
    (h0 : I 0 ρ S) (hg : ∀ i ρ' S', I i ρ' S' → guard S') (hs : ∀ i d ρ' S', items[i]? = some d → I i ρ' S' → step d ρ' S' (I (i + 1))) (hd : ∀ ρ' S', I items.length ρ' S' → done ρ' S') : Loop items guard step done ρ S := ⟨I, h0, hg, hs, hd⟩
theorem fmod_lt {a b : Int} (h : 0 < b) : 0 ≤ a.fmod b ∧ a.fmod b < b := ⟨Int.fmod_nonneg_of_pos a h, Int.fmod_lt_of_pos a h⟩
theorem atZ_intD {ns : List Int} {i : Int} (h0 : 0 ≤ i) (h1 : i < ns.length) : atZ (intD ns) i = some (.int (ns.getD i.toNat 0)) := by
  obtain ⟨n, h, e⟩ := intD_atZ h0 h1
  rw [e, List.getD_eq_getElem?_getD, h]
  rfl
theorem ixZ_ok {n : Nat} {i : Int} (h0 : 0 ≤ i) (h1 : i < n) : ixZ n i = some i.toNat := by
  unfold ixZ
  rw [if_pos h0, if_pos h1]
theorem intD_set (ns : List Int) (i : Nat) (x : Int) : (intD ns).set i (.int x) = intD (ns.set i x) := by show (ns.map D.int).set i (D.int x) = (ns.set i x).map D.int; rw [List.map_set]
theorem smallMul {i j : Int} (h : j.natAbs < 2 ^ 64) : MulOk i j := Or.inl (Or.inr h)
theorem smallMul' {i j : Int} (h : i.natAbs < 2 ^ 64) : MulOk i j := Or.inl (Or.inl h)
abbrev natD (ns : List Nat) : List D := intD (ns.map fun (k : Nat) => (k : Int))
theorem intD_len (ns : List Int) : (intD ns).length = ns.length := List.length_map ..
theorem natD_len (ns : List Nat) : (natD ns).length = ns.length := by rw [intD_len, List.length_map]
theorem natD_get {ns : List Nat} {i : Nat} {d : D} (h : (natD ns)[i]? = some d) : ∃ n : Nat, ns[i]? = some n ∧ d = .int n := by
  obtain ⟨x, h1, rfl⟩ := intD_get h
  rw [List.getElem?_map] at h1
  cases e : ns[i]? with
  | none => rw [e] at h1; cases h1
  | some n => rw [e] at h1; exact ⟨n, rfl, by rw [← Option.some.inj h1]⟩
/-- over a range -/
theorem Lc_rf {n : Nat} {guard : Sto → Prop} {S1 : Sto} {step : D → Sto → (Option D → Sto → Prop) → Prop} {Q : VK} (p : Nat → Bool) (f : Nat → D) (hz : n ≤ szL) (hg : ∀ S', Sub S1 S' → guard S')
    (hs : ∀ (i : Nat) S' R, i < n → Sub S1 S' → (∀ S2, Sub S' S2 → R (if p i = true then some (f i) else none) S2) → step (.int (i : Int)) S' R) (hd : ∀ S', Sub S1 S' → Q (.ref S'.length) (S' ++ [.lst (((List.range n).filter p).map f)])) : Lc (rangeD 0 (n : Int)) guard S1 step Q := by
  refine ⟨by rw [rangeD_len]; omega, fun i acc S' => Sub S1 S' ∧ acc = ((List.range i).filter p).map f, ⟨.refl _, rfl⟩, fun i acc S' h => hg S' h.1, ?_, ?_⟩
  · rintro i d acc S' hi ⟨h1, rfl⟩
    obtain ⟨hi1, rfl⟩ := rangeD_get hi
    rw [Int.zero_add]
    refine hs i S' _ (by omega) h1 fun S2 h2 => ⟨h1.trans h2, ?_⟩
    rw [List.range_succ, List.filter_append, List.map_append]
    cases e : p i <;> simp [e]
  · rintro acc S' ⟨h1, rfl⟩
    rw [rangeD_len, show ((n : Int) - 0).toNat = n by omega]
    exact hd S' h1
theorem Lc_rm {n : Nat} {guard : Sto → Prop} {S1 : Sto} {step : D → Sto → (Option D → Sto → Prop) → Prop} {Q : VK} (f : Nat → D) (hz : n ≤ szL) (hg : ∀ S', Sub S1 S' → guard S')
    (hs : ∀ (i : Nat) S' R, i < n → Sub S1 S' → (∀ S2, Sub S' S2 → R (some (f i)) S2) → step (.int (i : Int)) S' R) (hd : ∀ S', Sub S1 S' → Q (.ref S'.length) (S' ++ [.lst ((List.range n).map f)])) : Lc (rangeD 0 (n : Int)) guard S1 step Q := by
  refine Lc_rf (fun _ => true) f hz hg (fun i S' R h1 h2 h3 => hs i S' R h1 h2 fun S2 h4 => h3 S2 h4) fun S' h => ?_
  rw [List.filter_eq_self.mpr (fun _ _ => rfl)]
  exact hd S' h
/-- over any list that is known by a map -/
theorem Lc_lf {α : Type} {xs : List α} {e : α → D} {guard : Sto → Prop} {S1 : Sto} {step : D → Sto → (Option D → Sto → Prop) → Prop} {Q : VK} (p : α → Bool) (f : α → D) (hz : xs.length ≤ szL) (hg : ∀ S', Sub S1 S' → guard S')
    (hs : ∀ (x : α) S' R, x ∈ xs → Sub S1 S' → (∀ S2, Sub S' S2 → R (if p x = true then some (f x) else none) S2) → step (e x) S' R) (hd : ∀ S', Sub S1 S' → Q (.ref S'.length) (S' ++ [.lst ((xs.filter p).map f)])) : Lc (xs.map e) guard S1 step Q := by
  refine ⟨by rw [List.length_map]; exact hz, fun i acc S' => Sub S1 S' ∧ acc = ((xs.take i).filter p).map f, ⟨.refl _, rfl⟩, fun i acc S' h => hg S' h.1, ?_, ?_⟩
  · rintro i d acc S' hi ⟨h1, rfl⟩
    rw [List.getElem?_map] at hi
    cases ex : xs[i]? with
    | none => rw [ex] at hi; cases hi
    | some x =>
      rw [ex] at hi
      cases Option.some.inj hi
      refine hs x S' _ (List.mem_of_getElem? ex) h1 fun S2 h2 => ⟨h1.trans h2, ?_⟩
      rw [List.take_add_one, ex]
      cases e : p x <;> simp [e]
  · rintro acc S' ⟨h1, rfl⟩
    rw [List.length_map, List.take_length]
    exact hd S' h1
theorem Lc_lm {α : Type} {xs : List α} {e : α → D} {guard : Sto → Prop} {S1 : Sto} {step : D → Sto → (Option D → Sto → Prop) → Prop} {Q : VK} (f : α → D) (hz : xs.length ≤ szL) (hg : ∀ S', Sub S1 S' → guard S')
    (hs : ∀ (x : α) S' R, x ∈ xs → Sub S1 S' → (∀ S2, Sub S' S2 → R (some (f x)) S2) → step (e x) S' R) (hd : ∀ S', Sub S1 S' → Q (.ref S'.length) (S' ++ [.lst (xs.map f)])) : Lc (xs.map e) guard S1 step Q := by
  refine Lc_lf (fun _ => true) f hz hg (fun x S' R h1 h2 h3 => hs x S' R h1 h2 fun S2 h4 => h3 S2 h4) fun S' h => ?_
  rw [List.filter_eq_self.mpr (fun _ _ => rfl)]
  exact hd S' h
theorem atZ_intN {ns : List Int} {i : Nat} (h : i < ns.length) : atZ (intD ns) (i : Int) = some (.int (ns.getD i 0)) := by
  have := atZ_intD (ns := ns) (i := (i : Int)) (by omega) (by omega)
  rwa [Int.toNat_natCast] at this
theorem flats_map {α : Type} {f : α → D} : ∀ {l : List α}, (∀ x ∈ l, flat (f x) = true) → flats (l.map f) = true
  | [], _ => rfl
  | x :: l, h => by
    show (flat (f x) && flats (l.map f)) = true
    rw [h x List.mem_cons_self, flats_map fun y hy => h y (List.mem_cons_of_mem _ hy)]
    rfl
theorem slims_map {α : Type} {f : α → D} : ∀ {l : List α}, (∀ x ∈ l, slim (f x) = true) → slims (l.map f) = true
  | [], _ => rfl
  | x :: l, h => by
    show (slim (f x) && slims (l.map f)) = true
    rw [h x List.mem_cons_self, slims_map fun y hy => h y (List.mem_cons_of_mem _ hy)]
    rfl
theorem deeps_map {α : Type} {f : α → D} {N : Nat} : ∀ {l : List α}, (∀ x ∈ l, deep (f x) ≤ N) → deeps (l.map f) ≤ N
  | [], _ => Nat.zero_le _
  | x :: l, h => by
    show max (deep (f x)) (deeps (l.map f)) ≤ N
    have := h x List.mem_cons_self
    have := deeps_map (l := l) fun y hy => h y (List.mem_cons_of_mem _ hy)
    omega
/-- ints sort -/
theorem sortOk_int (ns : List Int) : sortOk (intD ns) := by
  refine ⟨flats_int ns, by rw [deeps_int]; omega, ?_, Or.inr ?_⟩
  · intro a ha b hb
    obtain ⟨x, _, rfl⟩ := List.mem_map.mp ha
    obtain ⟨y, _, rfl⟩ := List.mem_map.mp hb
    rfl
  · intro a ha
    obtain ⟨x, _, rfl⟩ := List.mem_map.mp ha
    exact ⟨by simp, by simp⟩
theorem sort_int {ns : List Int} {ys : List D} (hp : ys.Perm (intD ns)) (hw : ys.Pairwise (fun a b => ltD b a = false)) : ∃ ms : List Int, ys = intD ms ∧ ms.Perm ns ∧ ms.Pairwise (· ≤ ·) := by
  obtain ⟨ms, h1, rfl⟩ := perm_map _ hp _ rfl
  refine ⟨ms, rfl, h1, ?_⟩
  rw [List.pairwise_map] at hw
  refine hw.imp fun {a b} h => ?_
  have h : decide (b < a) = false := h
  simpa using h
theorem get_at {S : Sto} {n : Nat} {xs : List D} (h : S[n]? = some (.lst xs)) : S[n]? = some (.lst xs) := h
theorem natD_map (l : List Nat) : natD l = l.map fun (k : Nat) => D.int (k : Int) := by simp [natD, intD]
theorem any_int (ns : List Int) (x : Int) : (intD ns).any (fun y => eqD y (.int x)) = decide (x ∈ ns) := by
  induction ns with
  | nil => simp
  | cons n ns ih =>
    show (eqD (.int n) (.int x) || (intD ns).any fun y => eqD y (.int x)) = _
    rw [ih, show eqD (.int n) (.int x) = decide (n = x) from rfl]
    simp only [List.mem_cons, Bool.decide_or]
    congr 1
    simp [eq_comm]
theorem any_nat (ns : List Nat) (x : Nat) : (natD ns).any (fun y => eqD y (.int x)) = decide (x ∈ ns) := by
  rw [any_int]
  have : ((x : Int) ∈ ns.map fun (k : Nat) => (k : Int)) ↔ x ∈ ns := by
    rw [List.mem_map]
    exact ⟨fun ⟨a, h, e⟩ => by rwa [show x = a by omega], fun h => ⟨x, h, rfl⟩⟩
  simp only [this]
theorem Ch.put {S S' : Sto} {n m : Nat} {o : O} (h : Ch n S S') (hm : S.length ≤ m) : Ch n S (S'.set m o) := fun k u hk e => by
  rw [at_set_ne (by have := at_lt e; omega)]
  exact h k u hk e
theorem Ch.app {S S' : Sto} {n : Nat} (h : Ch n S S') (l : Sto) : Ch n S (S' ++ l) := h.trans (Sub.push S' l).ch
theorem Dr.app {n : Nat} {S : Sto} (d : Dr n S) (l : Sto) : Dr n (S ++ l) := d.sub (Sub.push S l)
theorem Dr.put {n m : Nat} {S : Sto} {o : O} (d : Dr n S) (h : n ≠ m) : Dr n (S.set m o) := let ⟨ns, e⟩ := d; ⟨ns, by rw [at_set_ne h]; exact e⟩
theorem Dr.lt {n : Nat} {S : Sto} (d : Dr n S) : n < S.length := let ⟨_, e⟩ := d; at_lt e
theorem Ch.len {n : Nat} {S S' : Sto} (h : Ch n S S') (hn : n < S'.length) : S.length ≤ S'.length := by
  false_or_by_contra
  rename_i hc
  have h1 : S.length - 1 < S.length := by omega
  by_cases e : S.length - 1 = n
  · omega
  · have := at_lt (h (S.length - 1) _ e (List.getElem?_eq_getElem h1))
    omega
theorem Sub.len {S S' : Sto} (h : Sub S S') : S.length ≤ S'.length := by
  false_or_by_contra
  rename_i hc
  have h1 : S.length - 1 < S.length := by omega
  have := at_lt (h (S.length - 1) _ (List.getElem?_eq_getElem h1))
  omega
theorem ifT {c : Bool} {A B : Prop} {_ : Decidable (c = true)} (h : c = true) (a : A) : if c = true then A else B := by rw [if_pos h]; exact a
theorem ifF {c : Bool} {A B : Prop} {_ : Decidable (c = true)} (h : c = false) (b : B) : if c = true then A else B := by rw [if_neg (by rw [h]; decide)]; exact b
theorem it_at {S : Sto} {n : Nat} {xs : List D} {A : List D → Prop} (h : S[n]? = some (.lst xs)) (a : A xs) : match S[n]? with
    | some (.lst ys) => A ys
    | _ => False := by
  rw [h]
  exact a
theorem eqD_ii (i j : Int) : eqD (.int i) (.int j) = decide (i = j) := rfl
end DL
set_option linter.all false
set_option maxRecDepth 100000
set_option maxHeartbeats 4000000
/-! DLQ: fractions in lowest terms as pairs: rationals. -/
namespace DL
@[reducible] def qD (q : Rat) : D := .tup [.int q.num, .int q.den]
/-- n divided by d in lowest terms, with a divisor that is the greatest common one, with d's sign -/
theorem ratio_eq {n d : Int} (hd : d ≠ 0) : n.fdiv (if d < 0 then -((Nat.gcd n.natAbs d.natAbs : Nat) : Int) else (Nat.gcd n.natAbs d.natAbs : Nat)) = (Rat.divInt n d).num ∧ d.fdiv (if d < 0 then -((Nat.gcd n.natAbs d.natAbs : Nat) : Int) else (Nat.gcd n.natAbs d.natAbs : Nat)) = (Rat.divInt n d).den := by
  rw [Rat.num_divInt, Rat.den_divInt, if_neg hd]
  have e : Int.gcd d n = Nat.gcd n.natAbs d.natAbs := Nat.gcd_comm _ _
  have hg : 0 < Nat.gcd n.natAbs d.natAbs := Nat.gcd_pos_of_pos_right _ (by omega)
  have h1 : ((Int.gcd d n : Nat) : Int) ∣ n := Int.gcd_dvd_right ..
  have h2 : ((Int.gcd d n : Nat) : Int) ∣ d := Int.gcd_dvd_left ..
  rw [e] at h1 h2 ⊢
  generalize Nat.gcd n.natAbs d.natAbs = g at *
  obtain ⟨k, rfl⟩ := h1
  obtain ⟨m, rfl⟩ := h2
  have hg0 : (g : Int) ≠ 0 := by omega
  have hm : m ≠ 0 := fun h => hd (by rw [h, Int.mul_zero])
  have hnat : ((g : Int) * m).natAbs / g = m.natAbs := by
    rw [Int.natAbs_mul, Int.natAbs_natCast, Nat.mul_div_cancel_left _ hg]
  rw [hnat]
  rcases Int.lt_or_gt_of_ne hm with h | h
  · have hs : (g : Int) * m < 0 := Int.mul_neg_of_pos_of_neg (by omega) h
    rw [if_pos hs, Int.sign_eq_neg_one_of_neg hs]
    have e1 : ∀ x : Int, ((g : Int) * x).fdiv (-(g : Int)) = -x := fun x => by
      rw [show (g : Int) * x = -(g : Int) * -x by rw [Int.neg_mul_neg]]
      exact Int.mul_fdiv_cancel_left _ (by omega)
    rw [e1, e1]
    refine ⟨?_, by omega⟩
    rw [show (-1 : Int) * ((g : Int) * k) = (g : Int) * -k by rw [Int.mul_neg]; omega, Int.mul_ediv_cancel_left _ hg0]
  · have hs : 0 < (g : Int) * m := Int.mul_pos (by omega) h
    rw [if_neg (by omega), Int.sign_eq_one_of_pos hs, Int.one_mul, Int.mul_fdiv_cancel_left _ hg0, Int.mul_fdiv_cancel_left _ hg0, Int.mul_ediv_cancel_left _ hg0]
    exact ⟨rfl, by omega⟩
theorem divInt_eq (n d : Int) : Rat.divInt n d = (n : Rat) / (d : Rat) := Rat.divInt_eq_div n d
theorem q_plus (a b : Rat) : Rat.divInt (a.num * b.den + b.num * a.den) (a.den * b.den) = a + b := by
  have ha := a.den_nz
  have hb := b.den_nz
  rw [← Rat.divInt_add_divInt _ _ (by omega) (by omega), Rat.num_divInt_den, Rat.num_divInt_den]
theorem q_times (a b : Rat) : Rat.divInt (a.num * b.num) (a.den * b.den) = a * b := by
  rw [← Rat.divInt_mul_divInt, Rat.num_divInt_den, Rat.num_divInt_den]
theorem q_minus (a b : Rat) : Rat.divInt (a.num * b.den - b.num * a.den) (a.den * b.den) = a - b := by
  have h := q_plus a (-b)
  rw [Rat.neg_num, Rat.neg_den, Int.neg_mul] at h
  rw [Rat.sub_eq_add_neg, ← h]
  rfl
theorem q_over (a b : Rat) : Rat.divInt (a.num * b.den) (a.den * b.num) = a / b := by
  rw [Rat.div_def, Rat.inv_def]
  conv => rhs; rw [← Rat.num_divInt_den a]
  rw [Rat.divInt_mul_divInt]
theorem q_lt (a b : Rat) : decide (a.num * (b.den : Int) < b.num * (a.den : Int)) = decide (a < b) := by
  rw [decide_eq_decide, Rat.lt_iff]
theorem qD_int (i : Int) : qD (i : Rat) = .tup [.int i, .int 1] := by
  unfold qD
  rw [Rat.num_intCast, Rat.den_intCast]
  rfl
theorem qD_eq {a b : Rat} : eqD (qD a) (qD b) = decide (a = b) := by
  show (decide (a.num = b.num) && (decide ((a.den : Int) = b.den) && true)) = decide (a = b)
  rw [Bool.and_true, ← Bool.decide_and, decide_eq_decide]
  exact ⟨fun ⟨h1, h2⟩ => Rat.ext h1 (by omega), fun h => by rw [h]; exact ⟨rfl, rfl⟩⟩
theorem qD_ok (a b : Rat) : flat (qD a) = true ∧ flat (qD b) = true ∧ deep (qD a) ≤ 64 ∧ deep (qD b) ≤ 64 := ⟨rfl, rfl, by show max 0 (max 0 0) + 1 ≤ 64; decide, by show max 0 (max 0 0) + 1 ≤ 64; decide⟩
/-! sizes -/
/-- a fraction that the machine reckons with -/
def sm (q : Rat) : Prop := q.den < 2 ^ 2000 ∧ q.num.natAbs < 2 ^ 4000
theorem sm_mul {i j : Int} (hi : i.natAbs < 2 ^ 100000) (hj : j.natAbs < 2 ^ 100000) : MulOk i j := Or.inr ⟨100000, 100000, hi, hj, by decide⟩
theorem pow_le2 {a b : Nat} (h : a ≤ b) : 2 ^ a ≤ 2 ^ b := Nat.pow_le_pow_right (by decide) h
/-- q times P is whole -/
def Ov (P : Nat) (q : Rat) : Prop := q.den ∣ P
theorem Ov.mono {P P' : Nat} {q : Rat} (h : Ov P q) (hd : P ∣ P') : Ov P' q := Nat.dvd_trans h hd
theorem q_den (q : Rat) : q * (q.den : Rat) = (q.num : Rat) := by
  have h := Rat.num_divInt_den q
  rw [Rat.divInt_eq_div] at h
  have hd : ((q.den : Nat) : Rat) ≠ 0 := by
    have := q.den_nz
    intro e
    exact this (by exact_mod_cast e)
  have e : ((q.den : Int) : Rat) = ((q.den : Nat) : Rat) := rfl
  rw [e] at h
  conv => lhs; lhs; rw [← h]
  rw [Rat.div_mul_cancel hd]
theorem Ov_iff {P : Nat} {q : Rat} : Ov P q ↔ ∃ z : Int, q * (P : Rat) = (z : Rat) := by
  constructor
  · rintro ⟨m, rfl⟩
    refine ⟨q.num * m, ?_⟩
    have := q_den q
    rw [Rat.natCast_mul, ← Rat.mul_assoc, this, Rat.intCast_mul]
    rfl
  · rintro ⟨z, h⟩
    have h2 := q_den q
    have h3 : ((q.num * P : Int) : Rat) = ((z * q.den : Int) : Rat) := by
      rw [Rat.intCast_mul, Rat.intCast_mul, ← h2, ← h]
      show q * (q.den : Rat) * (P : Rat) = q * (P : Rat) * (q.den : Rat)
      rw [Rat.mul_assoc, Rat.mul_comm (q.den : Rat), ← Rat.mul_assoc]
    have h4 : q.num * P = z * q.den := Rat.intCast_inj.mp h3
    have h5 : q.den ∣ q.num.natAbs * P := by
      have := congrArg Int.natAbs h4
      rw [Int.natAbs_mul, Int.natAbs_mul, Int.natAbs_natCast, Int.natAbs_natCast] at this
      rw [this]
      exact Nat.dvd_mul_left _ _
    exact (Nat.Coprime.symm q.reduced).dvd_of_dvd_mul_left h5
theorem Ov_self (q : Rat) : Ov q.den q := Nat.dvd_refl _
theorem Ov_int (P : Nat) (i : Int) : Ov P (i : Rat) := by unfold Ov; rw [Rat.den_intCast]; exact Nat.one_dvd _
theorem Ov.add {P : Nat} {a b : Rat} (ha : Ov P a) (hb : Ov P b) : Ov P (a + b) := by
  obtain ⟨x, hx⟩ := Ov_iff.mp ha
  obtain ⟨y, hy⟩ := Ov_iff.mp hb
  exact Ov_iff.mpr ⟨x + y, by rw [Rat.add_mul, hx, hy, Rat.intCast_add]⟩
theorem Ov.neg {P : Nat} {a : Rat} (ha : Ov P a) : Ov P (-a) := by
  unfold Ov
  rw [Rat.neg_den]
  exact ha
theorem Ov.sub {P : Nat} {a b : Rat} (ha : Ov P a) (hb : Ov P b) : Ov P (a - b) := by
  rw [Rat.sub_eq_add_neg]
  exact ha.add hb.neg
theorem Ov.mul {P R : Nat} {a b : Rat} (ha : Ov P a) (hb : Ov R b) : Ov (P * R) (a * b) := by
  obtain ⟨x, hx⟩ := Ov_iff.mp ha
  obtain ⟨y, hy⟩ := Ov_iff.mp hb
  refine Ov_iff.mpr ⟨x * y, ?_⟩
  rw [Rat.intCast_mul, ← hx, ← hy, Rat.natCast_mul]
  grind
theorem Ov.over {P : Nat} {a : Rat} (ha : Ov P a) {k : Nat} (hk : k ≠ 0) : Ov (P * k) (a / (k : Rat)) := by
  obtain ⟨x, hx⟩ := Ov_iff.mp ha
  refine Ov_iff.mpr ⟨x, ?_⟩
  have h0 : (k : Rat) ≠ 0 := fun e => hk (by exact_mod_cast e)
  rw [Rat.natCast_mul, ← hx]
  grind
/-- a bound for the number and for what it is told over -/
theorem sm_of {P M : Nat} {q : Rat} (h : Ov P q) (hP : 0 < P) (h1 : -(M : Rat) ≤ q) (h2 : q ≤ (M : Rat)) (hp : P < 2 ^ 2000) (hm : M * P < 2 ^ 4000) : sm q := by
  have hd : q.den ≤ P := Nat.le_of_dvd hP h
  refine ⟨by omega, ?_⟩
  have e := q_den q
  have hd0 : (0 : Rat) ≤ (q.den : Rat) := by exact_mod_cast Nat.zero_le _
  have u : (q.num : Rat) ≤ ((M * q.den : Nat) : Rat) := by
    rw [← e, Rat.natCast_mul]
    exact Rat.mul_le_mul_of_nonneg_right h2 hd0
  have l : ((-(M * q.den : Nat) : Int) : Rat) ≤ (q.num : Rat) := by
    rw [← e, Rat.intCast_neg]
    have := Rat.mul_le_mul_of_nonneg_right h1 hd0
    rw [Rat.neg_mul] at this
    rw [show ((((M * q.den : Nat) : Int)) : Rat) = ((M * q.den : Nat) : Rat) from rfl, Rat.natCast_mul]
    exact this
  have u2 : q.num ≤ ((M * q.den : Nat) : Int) := Rat.intCast_le_intCast.mp u
  have l2 : -((M * q.den : Nat) : Int) ≤ q.num := Rat.intCast_le_intCast.mp l
  have : M * q.den ≤ M * P := Nat.mul_le_mul_left _ hd
  omega
end DL
set_option linter.all false
set_option maxRecDepth 100000
set_option maxHeartbeats 4000000
/-! DLM: pure lemmas that laws share: dicts by lookups, sums of fractions over lists, ends of lists. -/
namespace DL
section
variable {κ : Type} [DecidableEq κ]
theorem valK_nil (k : κ) : valK ([] : List (κ × D)) k = none := rfl
theorem valK_put (kvs : List (κ × D)) (k k' : κ) (v : D) : valK (putD kvs k v) k' = if k' = k then some v else valK kvs k' := by
  unfold putD
  by_cases c : (kvs.any fun kv => decide (kv.1 = k)) = true
  · rw [if_pos c]
    induction kvs with
    | nil => cases c
    | cons kv l ih =>
      unfold valK at ih ⊢
      rw [List.map_cons, List.find?_cons, List.find?_cons]
      by_cases e : kv.1 = k
      · rw [if_pos e]
        by_cases e2 : k' = k
        · rw [if_pos e2]
          rw [decide_eq_true (show (kv.1, v).1 = k' from e.trans e2.symm)]
          rfl
        · rw [if_neg e2]
          have q : decide (kv.1 = k') = false := decide_eq_false fun z => e2 (z.symm.trans e)
          simp only [q]
          by_cases c2 : (l.any fun kv => decide (kv.1 = k)) = true
          · have := ih c2
            rw [if_neg e2] at this
            exact this
          · have : l.map (fun kv => if kv.1 = k then (kv.1, v) else kv) = l := by
              conv => rhs; rw [← List.map_id l]
              apply List.map_congr_left
              intro kv hkv
              rw [if_neg]
              · rfl
              · intro z
                exact c2 (List.any_eq_true.mpr ⟨kv, hkv, decide_eq_true z⟩)
            rw [this]
      · rw [if_neg e]
        rw [List.any_cons, decide_eq_false e, Bool.false_or] at c
        by_cases e3 : kv.1 = k'
        · rw [decide_eq_true e3, if_neg (fun z => e (e3.trans z))]
        · rw [decide_eq_false e3]
          exact ih c
  · rw [if_neg c]
    unfold valK
    rw [List.find?_append]
    by_cases e2 : k' = k
    · subst e2
      have : (kvs.find? fun kv => decide (kv.1 = k')) = none := by
        rw [List.find?_eq_none]
        intro kv hkv e
        exact c (List.any_eq_true.mpr ⟨kv, hkv, e⟩)
      rw [this, if_pos rfl]
      simp
    · rw [if_neg e2, List.find?_cons, decide_eq_false (show ¬ (k, v).1 = k' from fun z => e2 z.symm)]
      simp
theorem putD_len (kvs : List (κ × D)) (k : κ) (v : D) : (putD kvs k v).length ≤ kvs.length + 1 := by
  unfold putD
  split
  · rw [List.length_map]; omega
  · simp
theorem putD_nd {kvs : List (κ × D)} {k : κ} {v : D} (h : (kvs.map (·.1)).Nodup) : ((putD kvs k v).map (·.1)).Nodup := by
  unfold putD
  by_cases c : (kvs.any fun kv => decide (kv.1 = k)) = true
  · rw [if_pos c, List.map_map]
    have : (kvs.map ((fun kv : κ × D => kv.1) ∘ fun kv => if kv.1 = k then (kv.1, v) else kv)) = kvs.map (·.1) := by
      apply List.map_congr_left
      intro kv _
      show (if kv.1 = k then (kv.1, v) else kv).1 = kv.1
      split <;> rfl
    rw [this]
    exact h
  · rw [if_neg c, List.map_append, List.nodup_append]
    refine ⟨h, by simp, fun a ha b hb e => c ?_⟩
    obtain ⟨kv, hkv, rfl⟩ := List.mem_map.mp ha
    rw [List.any_eq_true]
    refine ⟨kv, hkv, decide_eq_true ?_⟩
    rw [e]
    simpa using hb
theorem putD_keys {kvs : List (κ × D)} {k x : κ} {v : D} (h : x ∈ (putD kvs k v).map (·.1)) : x = k ∨ x ∈ kvs.map (·.1) := by
  unfold putD at h
  split at h
  · right
    rw [List.map_map] at h
    obtain ⟨kv, hkv, rfl⟩ := List.mem_map.mp h
    refine List.mem_map.mpr ⟨kv, hkv, ?_⟩
    show kv.1 = (if kv.1 = k then (kv.1, v) else kv).1
    split <;> rfl
  · rw [List.map_append, List.mem_append] at h
    rcases h with h | h
    · exact .inr h
    · left; simpa using h
end
theorem kyt2 (x y : Int) : kyt (.tup [.int x, .int y]) = some [.inl x, .inl y] := rfl
theorem dict_T {n : Nat} {S : Sto} {kvs : List (List Ky × D)} {A A' : List (Ky × D) → Prop} {B B' : List (List Ky × D) → Prop} (h : S[n]? = some (.dT kvs)) (b : B kvs) : match S[n]? with
    | some (.dK kvs) => A kvs
    | some (.dT kvs) => B kvs
    | some (.fK kvs) => A' kvs
    | some (.fT kvs) => B' kvs
    | _ => False := by
  rw [h]
  exact b
theorem put_T {n : Nat} {S : Sto} {kvs : List (List Ky × D)} {A : List (Ky × D) → Prop} {B : List (List Ky × D) → Prop} (h : S[n]? = some (.dT kvs)) (b : B kvs) : match S[n]? with
    | some (.dK kvs) => A kvs
    | some (.dT kvs) => B kvs
    | _ => False := by
  rw [h]
  exact b
theorem dict_K {n : Nat} {S : Sto} {kvs : List (Ky × D)} {A A' : List (Ky × D) → Prop} {B B' : List (List Ky × D) → Prop} (h : S[n]? = some (.dK kvs)) (b : A kvs) : match S[n]? with
    | some (.dK kvs) => A kvs
    | some (.dT kvs) => B kvs
    | some (.fK kvs) => A' kvs
    | some (.fT kvs) => B' kvs
    | _ => False := by
  rw [h]
  exact b
theorem dict_f {n : Nat} {S : Sto} {kvs : List (Ky × D)} {A A' : List (Ky × D) → Prop} {B B' : List (List Ky × D) → Prop} (h : S[n]? = some (.fK kvs)) (b : A' kvs) : match S[n]? with
    | some (.dK kvs) => A kvs
    | some (.dT kvs) => B kvs
    | some (.fK kvs) => A' kvs
    | some (.fT kvs) => B' kvs
    | _ => False := by
  rw [h]
  exact b
theorem put_K {n : Nat} {S : Sto} {kvs : List (Ky × D)} {A : List (Ky × D) → Prop} {B : List (List Ky × D) → Prop} (h : S[n]? = some (.dK kvs)) (b : A kvs) : match S[n]? with
    | some (.dK kvs) => A kvs
    | some (.dT kvs) => B kvs
    | _ => False := by
  rw [h]
  exact b
/-! lists -/
theorem natD_app (l : List Nat) (x : Nat) : natD l ++ [D.int (x : Int)] = natD (l ++ [x]) := by rw [natD_map, natD_map, List.map_append]; rfl
theorem intD_app (l : List Int) (x : Int) : intD l ++ [D.int x] = intD (l ++ [x]) := by show l.map D.int ++ [D.int x] = (l ++ [x]).map D.int; rw [List.map_append]; rfl
theorem lastD {l : List D} {x : D} : atZ (l ++ [x]) (-1) = some x := by
  unfold atZ ixZ
  rw [if_neg (by omega), if_pos (by rw [List.length_append]; simp; omega)]
  show (l ++ [x])[(-1 + ((l ++ [x]).length : Int)).toNat]? = _
  rw [show (-1 + ((l ++ [x]).length : Int)).toNat = l.length by rw [List.length_append]; simp; omega]
  simp
theorem items_at {S : Sto} {n : Nat} {xs : List D} (h : S[n]? = some (.lst xs)) : itemsAt (.ref n) S = some xs := by
  show (match S[n]? with
    | some (.lst xs) => some xs
    | _ => none) = _
  rw [h]
  first | done | rfl
theorem itemsR {S : Sto} {p : Nat} {l : List Nat} (h : S[p]? = some (.lst (natD l))) : itemsAt (.ref p) S = some (intD (l.map fun (k : Nat) => (k : Int))) := items_at h
theorem sum_cast (l : List Nat) : (l.map fun (k : Nat) => (k : Int)).sum = ((l.sum : Nat) : Int) := by
  induction l with
  | nil => rfl
  | cons x l ih => rw [List.map_cons, List.sum_cons, List.sum_cons, ih]; omega
theorem natD_set (ns : List Nat) (i : Nat) (x : Nat) : (natD ns).set i (.int (x : Int)) = natD (ns.set i x) := by
  rw [natD_map, natD_map, ← List.map_set]
theorem natD_atZ {ns : List Nat} {i : Nat} (h : i < ns.length) : atZ (natD ns) (i : Int) = some (.int ((ns.getD i 0 : Nat) : Int)) := by
  refine atZ_nat ?_
  rw [natD_map, List.getElem?_map, List.getD_eq_getElem?_getD, List.getElem?_eq_getElem h]
  rfl
theorem flatten_rep {α : Type} (m : Nat) (x : α) : (List.replicate m [x]).flatten = List.replicate m x := by
  induction m with
  | zero => rfl
  | succ m ih => rw [List.replicate_succ, List.flatten_cons, ih, List.replicate_succ]; rfl
theorem natD_rep (m x : Nat) : (List.replicate m [D.int (x : Int)]).flatten = natD (List.replicate m x) := by rw [flatten_rep, natD_map, List.map_replicate]
/-! sums of fractions -/
section
variable {α β : Type}
def rs (l : List α) (f : α → Rat) : Rat := (l.map f).foldr (· + ·) 0
theorem rs_nil (f : α → Rat) : rs [] f = 0 := rfl
theorem rs_cons (x : α) (l : List α) (f : α → Rat) : rs (x :: l) f = f x + rs l f := rfl
theorem rs_app (l m : List α) (f : α → Rat) : rs (l ++ m) f = rs l f + rs m f := by
  induction l with
  | nil => rw [List.nil_append, rs_nil]; grind
  | cons x l ih => rw [List.cons_append, rs_cons, rs_cons, ih]; grind
theorem rs_one (x : α) (f : α → Rat) : rs [x] f = f x := by rw [rs_cons, rs_nil]; grind
theorem rs_congr {l : List α} {f g : α → Rat} (h : ∀ x ∈ l, f x = g x) : rs l f = rs l g := by
  induction l with
  | nil => rfl
  | cons x l ih => rw [rs_cons, rs_cons, h x List.mem_cons_self, ih fun y hy => h y (List.mem_cons_of_mem _ hy)]
theorem rs_add (l : List α) (f g : α → Rat) : rs l (fun x => f x + g x) = rs l f + rs l g := by
  induction l with
  | nil => rw [rs_nil, rs_nil, rs_nil]; grind
  | cons x l ih => rw [rs_cons, rs_cons, rs_cons, ih]; grind
theorem rs_sub (l : List α) (f g : α → Rat) : rs l (fun x => f x - g x) = rs l f - rs l g := by
  induction l with
  | nil => rw [rs_nil, rs_nil, rs_nil]; grind
  | cons x l ih => rw [rs_cons, rs_cons, rs_cons, ih]; grind
theorem rs_mul (l : List α) (f : α → Rat) (c : Rat) : rs l (fun x => f x * c) = rs l f * c := by
  induction l with
  | nil => rw [rs_nil, rs_nil]; grind
  | cons x l ih => rw [rs_cons, rs_cons, ih]; grind
theorem rs_mulL (l : List α) (f : α → Rat) (c : Rat) : rs l (fun x => c * f x) = c * rs l f := by
  rw [Rat.mul_comm, ← rs_mul]
  exact rs_congr fun x _ => Rat.mul_comm _ _
theorem rs_zero (l : List α) : rs l (fun _ => 0) = 0 := by
  induction l with
  | nil => rfl
  | cons x l ih => rw [rs_cons, ih]; grind
theorem rs_map (l : List β) (g : β → α) (f : α → Rat) : rs (l.map g) f = rs l (fun x => f (g x)) := by
  unfold rs
  rw [List.map_map]
  rfl
theorem rs_swap (l : List α) (m : List β) (f : α → β → Rat) : rs l (fun x => rs m (f x)) = rs m (fun y => rs l fun x => f x y) := by
  induction l with
  | nil => rw [rs_nil]; exact (rs_zero m).symm
  | cons x l ih =>
    rw [rs_cons, ih, ← rs_add]
    exact rs_congr fun y _ => (rs_cons x l fun x => f x y).symm
theorem rs_flatMap (l : List α) (g : α → List β) (f : β → Rat) : rs (l.flatMap g) f = rs l (fun x => rs (g x) f) := by
  induction l with
  | nil => rfl
  | cons x l ih => rw [List.flatMap_cons, rs_app, ih, rs_cons]
theorem rs_nn {l : List α} {f : α → Rat} (h : ∀ x ∈ l, 0 ≤ f x) : 0 ≤ rs l f := by
  induction l with
  | nil => rw [rs_nil]; decide
  | cons x l ih =>
    rw [rs_cons]
    have := h x List.mem_cons_self
    have := ih fun y hy => h y (List.mem_cons_of_mem _ hy)
    grind
theorem rs_mono {l : List α} {f g : α → Rat} (h : ∀ x ∈ l, f x ≤ g x) : rs l f ≤ rs l g := by
  induction l with
  | nil => rw [rs_nil, rs_nil]; decide
  | cons x l ih =>
    rw [rs_cons, rs_cons]
    have := h x List.mem_cons_self
    have := ih fun y hy => h y (List.mem_cons_of_mem _ hy)
    grind
theorem rs_ov {P : Nat} {l : List α} {f : α → Rat} (h : ∀ x ∈ l, Ov P (f x)) : Ov P (rs l f) := by
  induction l with
  | nil => exact Ov_int _ 0
  | cons x l ih => rw [rs_cons]; exact (h x List.mem_cons_self).add (ih fun y hy => h y (List.mem_cons_of_mem _ hy))
theorem rs_range_s (n : Nat) (f : Nat → Rat) : rs (List.range (n + 1)) f = rs (List.range n) f + f n := by rw [List.range_succ, rs_app, rs_one]
theorem rs_range_0 (n : Nat) (f : Nat → Rat) : rs (List.range (n + 1)) f = f 0 + rs (List.range n) (fun i => f (i + 1)) := by
  rw [List.range_succ_eq_map, rs_cons, rs_map]
theorem rs_delta (n j : Nat) (c : Rat) : rs (List.range n) (fun i => if j = i then c else 0) = if j < n then c else 0 := by
  induction n with
  | zero => rw [List.range_zero, rs_nil, if_neg (by omega)]
  | succ n ih =>
    rw [rs_range_s, ih]
    by_cases h : j < n
    · rw [if_pos h, if_neg (by omega), if_pos (by omega)]; grind
    · rw [if_neg h]
      by_cases h2 : j = n
      · rw [if_pos h2, if_pos (by omega)]; grind
      · rw [if_neg h2, if_neg (by omega)]; grind
theorem rs_nat (l : List α) (f : α → Nat) : rs l (fun x => ((f x : Nat) : Rat)) = (((l.map f).sum : Nat) : Rat) := by
  induction l with
  | nil => rfl
  | cons x l ih => rw [rs_cons, ih, List.map_cons, List.sum_cons, Rat.natCast_add]
end
end DL
set_option linter.all false
set_option maxRecDepth 100000
set_option maxHeartbeats 4000000
/-! K80A: parts of stakes, plain -/
namespace K80
open DL
def chs : Nat → Nat → Nat
  | _, 0 => 1
  | 0, _ + 1 => 0
  | n + 1, k + 1 => chs n k + chs n (k + 1)
theorem chs_0 (n : Nat) : chs n 0 = 1 := by cases n <;> rfl
theorem chs_big : ∀ {n k : Nat}, n < k → chs n k = 0
  | 0, k + 1, _ => rfl
  | n + 1, k + 1, h => by
    show chs n k + chs n (k + 1) = 0
    rw [chs_big (show n < k by omega), chs_big (show n < k + 1 by omega)]
theorem chs_self (n : Nat) : chs n n = 1 := by
  induction n with
  | zero => rfl
  | succ n ih => show chs n n + chs n (n + 1) = 1; rw [ih, chs_big (by omega)]
theorem chs_le : ∀ n k, chs n k ≤ 2 ^ n
  | _, 0 => by rw [chs_0]; exact Nat.one_le_two_pow
  | 0, k + 1 => by show 0 ≤ _; omega
  | n + 1, k + 1 => by
    have a := chs_le n k
    have b := chs_le n (k + 1)
    show chs n k + chs n (k + 1) ≤ _
    rw [Nat.pow_succ]; omega
theorem chs_a : ∀ n k, (k + 1) * chs (n + 1) (k + 1) = (n + 1) * chs n k
  | 0, 0 => rfl
  | 0, k + 1 => by show (k + 1 + 1) * (0 + 0) = 1 * 0; omega
  | n + 1, 0 => by
    have ih := chs_a n 0
    show (0 + 1) * (chs (n + 1) 0 + chs (n + 1) 1) = (n + 1 + 1) * chs (n + 1) 0
    rw [chs_0] at ih ⊢
    rw [show chs (n + 1) (0 + 1) = chs (n + 1) 1 from rfl] at ih
    grind
  | n + 1, k + 1 => by
    have h1 := chs_a n k
    have h2 := chs_a n (k + 1)
    show (k + 1 + 1) * (chs (n + 1) (k + 1) + chs (n + 1) (k + 1 + 1)) = (n + 1 + 1) * (chs n k + chs n (k + 1))
    have e : chs (n + 1) (k + 1) = chs n k + chs n (k + 1) := rfl
    rw [e] at h1
    rw [e]
    generalize chs (n + 1) (k + 1 + 1) = c at *
    generalize chs n k = a at *
    generalize chs n (k + 1) = b at *
    grind
/-- the ways to win the last of a + 1 games behind k lost ones -/
theorem ways_next (a k : Nat) : chs (a + k) k * (a + 1 + k) / (k + 1) = chs (a + (k + 1)) (k + 1) := by
  have h := chs_a (a + k) k
  rw [show a + (k + 1) = a + k + 1 by omega, show a + 1 + k = a + k + 1 by omega, Nat.mul_comm (chs (a + k) k), ← h]
  exact Nat.mul_div_cancel_left _ (by omega)
theorem chs_b {n k : Nat} (h : k ≤ n) : chs n k * (n - k) / (k + 1) = chs n (k + 1) := by
  have h1 := chs_a n k
  have e : chs (n + 1) (k + 1) = chs n k + chs n (k + 1) := rfl
  rw [e, Nat.mul_add] at h1
  have e3 : chs n k * (n - k) = (k + 1) * chs n (k + 1) := by
    obtain ⟨j, rfl⟩ : ∃ j, n = k + j := ⟨n - k, by omega⟩
    rw [Nat.add_sub_cancel_left, Nat.mul_comm]
    have e2 : (k + j + 1) * chs (k + j) k = (k + 1) * chs (k + j) k + j * chs (k + j) k := by rw [← Nat.add_mul]; congr 1; omega
    omega
  rw [e3]
  exact Nat.mul_div_cancel_left _ (by omega)
/-! the part -/
def Af (q : Rat) (a : Nat) : Nat → Rat
  | 0 => 0
  | b + 1 => Af q a b + (chs (a + b) b : Nat) * q ^ b
def Bf (p q : Rat) (g : Nat) : Nat → Rat
  | 0 => 0
  | k + 1 => Bf p q g k * p + (chs g k : Nat) * q ^ k
theorem Bf_s (p q : Rat) (g : Nat) : ∀ k, Bf p q (g + 1) (k + 1) = (p + q) * Bf p q g k + (chs g k : Nat) * q ^ k
  | 0 => by
    show (0 : Rat) * p + (chs (g + 1) 0 : Nat) * q ^ 0 = (p + q) * 0 + (chs g 0 : Nat) * q ^ 0
    rw [chs_0, chs_0]; grind
  | k + 1 => by
    show Bf p q (g + 1) (k + 1) * p + (chs (g + 1) (k + 1) : Nat) * q ^ (k + 1) = (p + q) * (Bf p q g k * p + (chs g k : Nat) * q ^ k) + (chs g (k + 1) : Nat) * q ^ (k + 1)
    rw [Bf_s p q g k, show chs (g + 1) (k + 1) = chs g k + chs g (k + 1) from rfl, Rat.natCast_add, Rat.pow_succ]
    grind
theorem Bf_Af {p q : Rat} (h : p + q = 1) (a : Nat) : ∀ b, Bf p q (a + b) b = Af q a b
  | 0 => rfl
  | b + 1 => by
    rw [show a + (b + 1) = a + b + 1 by omega, Bf_s, Bf_Af h a b, h]
    show 1 * Af q a b + _ = Af q a b + _
    grind
theorem Af_s (q : Rat) (a : Nat) : ∀ b, Af q (a + 1) (b + 1) = Af q a (b + 1) + q * Af q (a + 1) b
  | 0 => by
    show (0 : Rat) + (chs (a + 1 + 0) 0 : Nat) * q ^ 0 = 0 + (chs (a + 0) 0 : Nat) * q ^ 0 + q * 0
    rw [chs_0, chs_0]; grind
  | b + 1 => by
    have ih := Af_s q a b
    show Af q (a + 1) (b + 1) + (chs (a + 1 + (b + 1)) (b + 1) : Nat) * q ^ (b + 1) = Af q a (b + 1) + (chs (a + (b + 1)) (b + 1) : Nat) * q ^ (b + 1) + q * (Af q (a + 1) b + (chs (a + 1 + b) b : Nat) * q ^ b)
    rw [ih, show a + 1 + (b + 1) = (a + b + 1) + 1 by omega, show chs (a + b + 1 + 1) (b + 1) = chs (a + b + 1) b + chs (a + b + 1) (b + 1) from rfl, show a + (b + 1) = a + b + 1 by omega, show a + 1 + b = a + b + 1 by omega, Rat.natCast_add, Rat.pow_succ]
    grind
theorem Af_0 (q : Rat) : ∀ b, Af q 0 (b + 1) = 1 + q * Af q 0 b
  | 0 => by
    show (0 : Rat) + (chs (0 + 0) 0 : Nat) * q ^ 0 = 1 + q * 0
    rw [chs_0, Rat.pow_zero]
    have : ((1 : Nat) : Rat) = 1 := rfl
    grind
  | b + 1 => by
    have ih := Af_0 q b
    show Af q 0 (b + 1) + (chs (0 + (b + 1)) (b + 1) : Nat) * q ^ (b + 1) = 1 + q * (Af q 0 b + (chs (0 + b) b : Nat) * q ^ b)
    rw [ih, Nat.zero_add, Nat.zero_add, chs_self, chs_self, Rat.pow_succ]
    have : ((1 : Nat) : Rat) = 1 := rfl
    grind
/-- the chance to win a games ahead of b, game by game -/
def FP (p : Rat) : Nat → Nat → Rat
  | 0, _ => 1
  | _ + 1, 0 => 0
  | a + 1, b + 1 => p * FP p a (b + 1) + (1 - p) * FP p (a + 1) b
theorem fp0 (p : Rat) (b : Nat) : FP p 0 b = 1 := by rw [FP]
theorem fpz (p : Rat) (a : Nat) : FP p (a + 1) 0 = 0 := by rw [FP]
theorem fps (p : Rat) (a b : Nat) : FP p (a + 1) (b + 1) = p * FP p a (b + 1) + (1 - p) * FP p (a + 1) b := by rw [FP]
theorem FP_Af (p : Rat) : ∀ a b, FP p (a + 1) b = p ^ (a + 1) * Af (1 - p) a b
  | a, 0 => by rw [fpz]; show (0 : Rat) = _ * 0; grind
  | 0, b + 1 => by
    have ih := FP_Af p 0 b
    rw [fps, fp0, ih, Af_0, Rat.pow_succ, Rat.pow_zero]
    grind
  | a + 1, b + 1 => by
    have i1 := FP_Af p a (b + 1)
    have i2 := FP_Af p (a + 1) b
    rw [fps, i1, i2, Af_s, Rat.pow_succ p (a + 1)]
    grind
theorem FP_sum (p : Rat) : ∀ a b, 1 ≤ a + b → FP p a b + FP (1 - p) b a = 1
  | 0, b + 1, _ => by rw [fp0, fpz]; grind
  | a + 1, 0, _ => by rw [fp0, fpz]; grind
  | a + 1, b + 1, _ => by
    have i1 := FP_sum p a (b + 1) (by omega)
    have i2 := FP_sum p (a + 1) b (by omega)
    rw [fps, fps]
    grind
theorem FP_half (a : Nat) (h : 1 ≤ a) : FP (Rat.divInt 1 2) a a = Rat.divInt 1 2 := by
  have := FP_sum (Rat.divInt 1 2) a a (by omega)
  rw [show 1 - Rat.divInt 1 2 = Rat.divInt 1 2 by decide +kernel] at this
  have e : Rat.divInt 1 2 + Rat.divInt 1 2 = 1 := by decide +kernel
  grind
theorem FP_01 {p : Rat} (h0 : 0 ≤ p) (h1 : p ≤ 1) : ∀ a b, 0 ≤ FP p a b ∧ FP p a b ≤ 1
  | 0, b => by rw [fp0]; decide +kernel
  | a + 1, 0 => by rw [fpz]; decide +kernel
  | a + 1, b + 1 => by
    have i1 := FP_01 h0 h1 a (b + 1)
    have i2 := FP_01 h0 h1 (a + 1) b
    rw [fps]
    have g : 0 ≤ 1 - p := by grind
    have a1 := Rat.mul_nonneg h0 i1.1
    have a2 := Rat.mul_nonneg g i2.1
    have a3 := Rat.mul_le_mul_of_nonneg_left i1.2 h0
    have a4 := Rat.mul_le_mul_of_nonneg_left i2.2 g
    exact ⟨by grind, by grind⟩
theorem FP_0 : ∀ a b, FP 0 (a + 1) b = 0
  | a, 0 => fpz _ _
  | a, b + 1 => by
    rw [fps, FP_0 a b]; grind
theorem FP_1 : ∀ a b, FP 1 a (b + 1) = 1
  | 0, b => fp0 _ _
  | a + 1, b => by
    rw [fps, FP_1 a b]; grind
/-! the mean -/
def MG (p : Rat) : Nat → Nat → Rat
  | 0, _ => 0
  | _ + 1, 0 => 0
  | a + 1, b + 1 => 1 + p * MG p a (b + 1) + (1 - p) * MG p (a + 1) b
theorem mg0 (p : Rat) (b : Nat) : MG p 0 b = 0 := by rw [MG]
theorem mgz (p : Rat) (a : Nat) : MG p (a + 1) 0 = 0 := by rw [MG]
theorem mgs (p : Rat) (a b : Nat) : MG p (a + 1) (b + 1) = 1 + p * MG p a (b + 1) + (1 - p) * MG p (a + 1) b := by rw [MG]
theorem MG_1 : ∀ a b, MG 1 a (b + 1) = (a : Nat)
  | 0, b => mg0 _ _
  | a + 1, b => by
    rw [mgs, MG_1 a b, Rat.natCast_add]
    have : ((1 : Nat) : Rat) = 1 := rfl
    grind
def Sg (p q : Rat) (g a b : Nat) : Rat := rs (List.range (g + 1)) fun k => if k < a ∧ g - k < b then ((chs g k : Nat) : Rat) * (p ^ k * q ^ (g - k)) else 0
theorem Sg_0 (p q : Rat) (a b : Nat) : Sg p q 0 (a + 1) (b + 1) = 1 := by
  unfold Sg
  rw [Nat.zero_add, show List.range 1 = [0] from rfl, rs_one, if_pos ⟨by omega, by omega⟩, chs_0, Nat.sub_zero, Rat.pow_zero, Rat.pow_zero]
  decide +kernel
theorem Sg_s (p q : Rat) (g a b : Nat) : Sg p q (g + 1) (a + 1) (b + 1) = p * Sg p q g a (b + 1) + q * Sg p q g (a + 1) b := by
  unfold Sg
  have h1 : rs (List.range (g + 1 + 1)) (fun k => if k < a + 1 ∧ g + 1 - k < b + 1 then ((chs (g + 1) k : Nat) : Rat) * (p ^ k * q ^ (g + 1 - k)) else 0) =
      rs (List.range (g + 1 + 1)) (fun k => (match k with | 0 => 0 | k + 1 => if k < a ∧ g - k < b + 1 then p * (((chs g k : Nat) : Rat) * (p ^ k * q ^ (g - k))) else 0)) +
      rs (List.range (g + 1 + 1)) (fun k => if k < a + 1 ∧ k ≤ g ∧ g - k < b then q * (((chs g k : Nat) : Rat) * (p ^ k * q ^ (g - k))) else 0) := by
    rw [← rs_add]
    refine rs_congr fun k hk => ?_
    have hk := List.mem_range.mp hk
    cases k with
    | zero =>
      rw [chs_0, chs_0, Nat.sub_zero, Nat.sub_zero, Rat.pow_zero]
      show _ = 0 + _
      by_cases c : g < b
      · rw [if_pos ⟨by omega, by omega⟩, if_pos ⟨by omega, by omega, c⟩, Rat.pow_succ]; grind
      · rw [if_neg (by omega), if_neg (by omega)]; grind
    | succ k =>
      show _ = (if k < a ∧ g - k < b + 1 then p * (((chs g k : Nat) : Rat) * (p ^ k * q ^ (g - k))) else 0) + _
      rw [show g + 1 - (k + 1) = g - k by omega, show chs (g + 1) (k + 1) = chs g k + chs g (k + 1) from rfl, Rat.natCast_add, Rat.pow_succ]
      by_cases c : k < a ∧ g - k < b + 1
      · rw [if_pos c, if_pos (by omega)]
        by_cases d : k + 1 ≤ g
        · rw [if_pos (by omega), show g - k = (g - (k + 1)) + 1 by omega, Rat.pow_succ]; grind
        · rw [if_neg (by omega), chs_big (show g < k + 1 by omega)]
          have : ((0 : Nat) : Rat) = 0 := rfl
          grind
      · rw [if_neg c, if_neg (by omega), if_neg (by omega)]; grind
  rw [h1, rs_range_0, rs_range_s (g + 1), ← rs_mulL, ← rs_mulL]
  rw [show (if g + 1 < a + 1 ∧ g + 1 ≤ g ∧ g - (g + 1) < b then q * (((chs g (g + 1) : Nat) : Rat) * (p ^ (g + 1) * q ^ (g - (g + 1)))) else 0) = 0 from if_neg (by omega)]
  rw [show ∀ x y : Rat, 0 + x + (y + 0) = x + y by intros; grind]
  congr 1
  · refine rs_congr fun k _ => ?_
    show (if k < a ∧ g - k < b + 1 then p * (((chs g k : Nat) : Rat) * (p ^ k * q ^ (g - k))) else 0) = _
    by_cases c : k < a ∧ g - k < b + 1
    · rw [if_pos c, if_pos c]
    · rw [if_neg c, if_neg c]; grind
  · refine rs_congr fun k hk => ?_
    have hk := List.mem_range.mp hk
    by_cases c : k < a + 1 ∧ g - k < b
    · rw [if_pos ⟨c.1, by omega, c.2⟩, if_pos c]
    · rw [if_neg (by omega), if_neg c]; grind
theorem Sg_z (p q : Rat) (g a b : Nat) (h : a = 0 ∨ b = 0) : Sg p q g a b = 0 := by
  unfold Sg
  rw [rs_congr (g := fun _ => 0) fun k _ => if_neg (by omega), rs_zero]
theorem Sg_sum (p : Rat) : ∀ G a b, a + b ≤ G + 1 → rs (List.range G) (fun g => Sg p (1 - p) g a b) = MG p a b
  | G, 0, b, _ => by rw [rs_congr (g := fun _ => 0) fun k _ => Sg_z _ _ _ _ _ (.inl rfl), rs_zero, mg0]
  | G, a + 1, 0, _ => by rw [rs_congr (g := fun _ => 0) fun k _ => Sg_z _ _ _ _ _ (.inr rfl), rs_zero, mgz]
  | 0, a + 1, b + 1, h => by omega
  | G + 1, a + 1, b + 1, h => by
    have i1 := Sg_sum p G a (b + 1) (by omega)
    have i2 := Sg_sum p G (a + 1) b (by omega)
    rw [rs_range_0, Sg_0, rs_congr (g := fun g => p * Sg p (1 - p) g a (b + 1) + (1 - p) * Sg p (1 - p) g (a + 1) b) fun g _ => Sg_s _ _ _ _ _, rs_add, rs_mulL, rs_mulL, i1, i2, mgs]
    grind
/-! a chance as a pair of naturals -/
theorem divInt_of {z : Int} {d : Nat} {x : Rat} (h : (z : Rat) = x * (d : Rat)) (hd : d ≠ 0) : Rat.divInt z d = x := by
  have h0 : ((d : Nat) : Rat) ≠ 0 := fun e => hd (by exact_mod_cast e)
  have e : ((d : Int) : Rat) = ((d : Nat) : Rat) := rfl
  rw [divInt_eq, e, h, Rat.div_def, Rat.mul_assoc, Rat.mul_inv_cancel _ h0]; grind
theorem natPow (n k : Nat) : ((n ^ k : Nat) : Rat) = (n : Rat) ^ k := by
  induction k with
  | zero => rw [Rat.pow_zero]; rfl
  | succ k ih => rw [Nat.pow_succ, Rat.natCast_mul, ih, Rat.pow_succ]
theorem mulPow (a b : Rat) (k : Nat) : (a * b) ^ k = a ^ k * b ^ k := by
  induction k with
  | zero => rw [Rat.pow_zero, Rat.pow_zero, Rat.pow_zero]; decide +kernel
  | succ k ih => rw [Rat.pow_succ, Rat.pow_succ, Rat.pow_succ, ih]; grind
theorem addPow (a : Rat) (j k : Nat) : a ^ (j + k) = a ^ j * a ^ k := by
  induction k with
  | zero => rw [Rat.pow_zero, Nat.add_zero]; grind
  | succ k ih => rw [← Nat.add_assoc, Rat.pow_succ, Rat.pow_succ, ih]; grind
end K80
set_option linter.all false
set_option maxRecDepth 100000
/-! the parts of the defs of oddsweighed_k80_fair_parts_and_games_lef -/
namespace K80
open DL
/-! divisor(one, other); slots: 0 one, 1 other -/
def w_divisor  : WS :=
  (sRet (wB rGcd (wCons (wVar 0) (wCons (wVar 1) wNil))))
/-! fraction(n, d); slots: 0 n, 1 d, 2 common -/
def w_fraction (sp_divisor : Spc) : WS :=
  (sSeq (sAsg (wCall 2 sp_divisor (wCons (wVar 0) (wCons (wVar 1) wNil))) (gN 2))
    (sSeq (sIf (wtVal (wOp rLt (wVar 1) (wC (.int 0)))) (sAsg (wUn rNeg (wVar 2)) (gN 2)) sNext)
    (sRet (wTup (wCons (wOp rDivZ (wVar 0) (wVar 2)) (wCons (wOp rDivZ (wVar 1) (wVar 2)) wNil))))))
/-! times(one, other); slots: 0 one, 1 other -/
def w_times (sp_fraction : Spc) : WS :=
  (sRet (wCall 2 sp_fraction (wCons (wOp rMul (wOp rIx (wVar 0) (wC (.int 0))) (wOp rIx (wVar 1) (wC (.int 0)))) (wCons (wOp rMul (wOp rIx (wVar 0) (wC (.int 1))) (wOp rIx (wVar 1) (wC (.int 1)))) wNil))))
/-! power(n, k); slots: 0 n, 1 k, 2 found, 3 step -/
def w_power  : WS :=
  (sSeq (sAsg (wC (.int 1)) (gN 2))
    (sSeq (sFor (wR1 (wVar 1)) (gN 3) (sAug 2 (wVar 0) rMul'))
    (sRet (wVar 2))))
/-! fair_part(p, a, b); slots: 0 p, 1 a, 2 b, 3 n, 4 d, 5 ways, 6 lost, 7 total, 8 scale, 9 k -/
def w_fair_part (sp_power : Spc) (sp_fraction : Spc) : WS :=
  (sSeq (sAsg (wVar 0) (gT [3, 4]))
    (sSeq (sAsg (wC (.int 1)) (gN 5))
    (sSeq (sAsg (wC (.int 1)) (gN 6))
    (sSeq (sAsg (wC (.int 0)) (gN 7))
    (sSeq (sAsg (wCall 2 sp_power (wCons (wVar 4) (wCons (wOp rSub (wVar 2) (wC (.int 1))) wNil))) (gN 8))
    (sSeq (sFor (wR1 (wVar 2)) (gN 9) (sSeq (sAug 7 (wOp rMul (wOp rMul (wVar 5) (wVar 6)) (wVar 8)) rIAdd)
    (sSeq (sAsg (wOp rDivZ (wOp rMul (wVar 5) (wOp rAdd (wVar 1) (wVar 9))) (wOp rAdd (wVar 9) (wC (.int 1)))) (gN 5))
    (sSeq (sAug 6 (wOp rSub (wVar 4) (wVar 3)) rMul')
    (sAug 8 (wVar 4) rDiv)))))
    (sRet (wCall 2 sp_fraction (wCons (wOp rMul (wVar 7) (wCall 2 sp_power (wCons (wVar 3) (wCons (wVar 1) wNil)))) (wCons (wCall 2 sp_power (wCons (wVar 4) (wCons (wOp rSub (wOp rAdd (wVar 1) (wVar 2)) (wC (.int 1))) wNil))) wNil))))))))))
/-! mean_games(p, a, b); slots: 0 p, 1 a, 2 b, 3 n, 4 d, 5 row, 6 left, 7 scale, 8 later, 9 other -/
def w_mean_games (sp_power : Spc) (sp_fraction : Spc) : WS :=
  (sSeq (sAsg (wVar 0) (gT [3, 4]))
    (sSeq (sAsg (wOp rMul (wLst (wCons (wC (.int 0)) wNil)) (wOp rAdd (wVar 2) (wC (.int 1)))) (gN 5))
    (sSeq (sFor (wR2 (wC (.int 1)) (wOp rAdd (wVar 1) (wC (.int 1)))) (gN 6) (sSeq (sAsg (wCall 2 sp_power (wCons (wVar 4) (wCons (wOp rSub (wVar 6) (wC (.int 1))) wNil))) (gN 7))
    (sSeq (sAsg (wLst (wCons (wC (.int 0)) wNil)) (gN 8))
    (sSeq (sFor (wR2 (wC (.int 1)) (wOp rAdd (wVar 2) (wC (.int 1)))) (gN 9) (sSeq (sAug 7 (wVar 4) rMul')
    (sDrop (wM rAppend (wVar 8) (wCons (wOp rAdd (wOp rAdd (wVar 7) (wOp rMul (wVar 3) (wOp rIx (wVar 5) (wVar 9)))) (wOp rMul (wOp rSub (wVar 4) (wVar 3)) (wOp rIx (wVar 8) (wOp rSub (wVar 9) (wC (.int 1)))))) wNil)))))
    (sAsg (wVar 8) (gN 5))))))
    (sRet (wCall 2 sp_fraction (wCons (wOp rIx (wVar 5) (wVar 2)) (wCons (wCall 2 sp_power (wCons (wVar 4) (wCons (wOp rSub (wOp rAdd (wVar 1) (wVar 2)) (wC (.int 1))) wNil))) wNil)))))))
/-! fair_coins(p, a, b, coins); slots: 0 p, 1 a, 2 b, 3 coins, 4 n, 5 d, 6 down, 7 rest -/
def w_fair_coins (sp_fair_part : Spc) (sp_times : Spc) : WS :=
  (sSeq (sAsg (wCall 2 sp_times (wCons (wCall 3 sp_fair_part (wCons (wVar 0) (wCons (wVar 1) (wCons (wVar 2) wNil)))) (wCons (wTup (wCons (wVar 3) (wCons (wC (.int 1)) wNil))) wNil))) (gT [4, 5]))
    (sSeq (sPar 6 7 (wOp rDivZ (wVar 4) (wVar 5)) (wOp rMul (wC (.int 2)) (wOp rMod (wVar 4) (wVar 5))))
    (sRet (wIf (wtOr (wtVal (wOp rGt (wVar 7) (wVar 5))) (wtAnd (wtVal (wOp rEq (wVar 7) (wVar 5))) (wtVal (wOp rEq (wOp rMod (wVar 6) (wC (.int 2))) (wC (.int 1)))))) (wOp rAdd (wVar 6) (wC (.int 1))) (wVar 6)))))
/-! _law_draws(script, many); slots: 0 script, 1 many, 2 cells, 3 cell, 4 rest, 5 drawn, 6 k, 7 at, 8 once -/
def w_law_draws  : WS :=
  (sSeq (sAsg (wLc (wIt (wVar 0)) (gN 3) wtYes (wB rInt (wCons (wVar 3) wNil)) [3]) (gN 2))
    (sSeq (sIf (wtVal (wOp rEq (wB rLen (wCons (wVar 2) wNil)) (wC (.int 0)))) (sDrop (wM rAppend (wVar 2) (wCons (wC (.int 0)) wNil))) sNext)
    (sSeq (sAsg (wB rList (wCons (wVar 2) wNil)) (gN 4))
    (sSeq (sAsg (wLst wNil) (gN 5))
    (sSeq (sFor (wR1 (wVar 1)) (gN 6) (sSeq (sAsg (wOp rMod (wVar 6) (wB rLen (wCons (wVar 2) wNil))) (gN 7))
    (sIf (wtAnd (wtVal (wOp rGe (wOp rIx (wVar 2) (wVar 7)) (wOp rPow (wC (.int 10)) (wC (.int 18))))) (wtVal (wOp rGt (wOp rIx (wVar 4) (wVar 7)) (wC (.int 0))))) (sSeq (sDrop (wM rAppend (wVar 5) (wCons (wOp rMod (wB rInt (wCons (wOp rIx (wVar 4) (wVar 7)) wNil)) (wC (.int 1000))) wNil)))
    (sSub rPut (wOp rDiv (wOp rIx (wVar 4) (wVar 7)) (wC (.int 1000))) (wVar 4) (wVar 7))) (sSeq (sAsg (wOp rMod (wB rInt (wCons (wOp rAdd (wOp rAdd (wOp rMul (wOp rIx (wVar 2) (wVar 7)) (wC (.int 48271))) (wOp rMul (wVar 6) (wC (.int 69621)))) (wC (.int 11))) wNil)) (wC (.int 2147483647))) (gN 8))
    (sDrop (wM rAppend (wVar 5) (wCons (wOp rMod (wB rInt (wCons (wOp rAdd (wOp rAdd (wOp rMul (wVar 8) (wVar 8)) (wOp rMul (wC (.int 3)) (wVar 8))) (wVar 6)) wNil)) (wC (.int 1000003))) wNil)))))))
    (sSeq (sDrop (wM0 rReverse (wVar 5)))
    (sRet (wVar 5))))))))
/-! _law_take(draws, many); slots: 0 draws, 1 many -/
def w_law_take  : WS :=
  (sSeq (sIf (wtVal (wOp rEq (wB rLen (wCons (wVar 0) wNil)) (wC (.int 0)))) (sRet (wC (.int 0))) sNext)
    (sRet (wOp rMod (wB rInt (wCons (wM0 rPop (wVar 0)) wNil)) (wVar 1))))
/-! _law_cell(script, draws); slots: 0 script, 1 draws -/
def w_law_cell (sp_law_take : Spc) : WS :=
  (sSeq (sIf (wtVal (wOp rEq (wB rLen (wCons (wVar 0) wNil)) (wC (.int 0)))) (sRet (wC (.int 0))) sNext)
    (sRet (wB rInt (wCons (wOp rIx (wVar 0) (wCall 2 sp_law_take (wCons (wVar 1) (wCons (wB rLen (wCons (wVar 0) wNil)) wNil)))) wNil))))
/-! _law_same(actual, due); slots: 0 actual, 1 due, 2 k -/
def w_law_same (sp_law_same : Spc) : WS :=
  (sSeq (sIf (wtVal (wOp rIs (wVar 1) (wC .non))) (sRet (wOp rIs (wVar 0) (wC .non))) sNext)
    (sSeq (sIf (wtVal (wB rIsi (wCons (wVar 1) (wCons (wC (.ty "bool")) wNil)))) (sRet (wAnd (wB rIsi (wCons (wVar 0) (wCons (wC (.ty "bool")) wNil))) (wOp rEq (wVar 0) (wVar 1)))) sNext)
    (sSeq (sIf (wtVal (wB rIsi (wCons (wVar 1) (wCons (wC (.ty "int")) wNil)))) (sRet (wAnd (wB rIsi (wCons (wVar 0) (wCons (wC (.ty "int")) wNil))) (wAnd (wNot (wB rIsi (wCons (wVar 0) (wCons (wC (.ty "bool")) wNil)))) (wOp rEq (wVar 0) (wVar 1))))) sNext)
    (sSeq (sIf (wtOr (wtNot (wtVal (wB rIsi (wCons (wVar 0) (wCons (wC (.ty "tuple")) wNil))))) (wtVal (wOp rNe (wB rLen (wCons (wVar 0) wNil)) (wB rLen (wCons (wVar 1) wNil))))) (sRet (wC (.bl false))) sNext)
    (sSeq (sFor (wR1 (wB rLen (wCons (wVar 1) wNil))) (gN 2) (sIf (wtNot (wtVal (wCall 2 sp_law_same (wCons (wOp rIx (wVar 0) (wVar 2)) (wCons (wOp rIx (wVar 1) (wVar 2)) wNil))))) (sRet (wC (.bl false))) sNext))
    (sRet (wC (.bl true))))))))
/-! _law_lowest(n, d); slots: 0 n, 1 d, 2 one, 3 other -/
def w_law_lowest  : WS :=
  (sSeq (sAsg (wB rAbs (wCons (wVar 0) wNil)) (gN 2))
    (sSeq (sAsg (wVar 1) (gN 3))
    (sSeq (sWhile (wtVal (wOp rGt (wVar 3) (wC (.int 0)))) (sPar 2 3 (wVar 3) (wOp rMod (wB rInt (wCons (wVar 2) wNil)) (wVar 3))))
    (sRet (wTup (wCons (wOp rDivZ (wVar 0) (wVar 2)) (wCons (wOp rDivZ (wVar 1) (wVar 2)) wNil)))))))
/-! _law_plus(one, other); slots: 0 one, 1 other -/
def w_law_plus (sp_law_lowest : Spc) : WS :=
  (sRet (wCall 2 sp_law_lowest (wCons (wOp rAdd (wOp rMul (wOp rIx (wVar 0) (wC (.int 0))) (wOp rIx (wVar 1) (wC (.int 1)))) (wOp rMul (wOp rIx (wVar 1) (wC (.int 0))) (wOp rIx (wVar 0) (wC (.int 1))))) (wCons (wOp rMul (wOp rIx (wVar 0) (wC (.int 1))) (wOp rIx (wVar 1) (wC (.int 1)))) wNil))))
/-! _law_chance(script, draws); slots: 0 script, 1 draws, 2 kind, 3 d, 4 n -/
def w_law_chance (sp_law_take : Spc) (sp_law_cell : Spc) (sp_law_lowest : Spc) : WS :=
  (sSeq (sAsg (wCall 2 sp_law_take (wCons (wVar 1) (wCons (wC (.int 9)) wNil))) (gN 2))
    (sSeq (sIf (wtVal (wOp rEq (wVar 2) (wC (.int 0)))) (sRet (wOp rIx (wLst (wCons (wTup (wCons (wC (.int 0)) (wCons (wC (.int 1)) wNil))) (wCons (wTup (wCons (wC (.int 1)) (wCons (wC (.int 1)) wNil))) wNil))) (wCall 2 sp_law_take (wCons (wVar 1) (wCons (wC (.int 2)) wNil))))) sNext)
    (sSeq (sAsg (wOp rAdd (wC (.int 1)) (wCall 2 sp_law_take (wCons (wVar 1) (wCons (wOp rIx (wLst (wCons (wC (.int 6)) (wCons (wC (.int 40)) wNil))) (wCall 2 sp_law_take (wCons (wVar 1) (wCons (wC (.int 2)) wNil)))) wNil)))) (gN 3))
    (sSeq (sIf (wtVal (wOp rEq (wVar 2) (wC (.int 1)))) (sAsg (wOp rAdd (wC (.int 1)) (wOp rMod (wB rInt (wCons (wB rAbs (wCons (wCall 2 sp_law_cell (wCons (wVar 0) (wCons (wVar 1) wNil))) wNil)) wNil)) (wOp rSub (wOp rPow (wC (.int 10)) (wC (.int 30))) (wC (.int 1))))) (gN 3)) sNext)
    (sSeq (sAsg (wOp rMod (wB rInt (wCons (wOp rAdd (wOp rAdd (wOp rMul (wCall 2 sp_law_take (wCons (wVar 1) (wCons (wC (.int 1000)) wNil))) (wOp rPow (wC (.int 10)) (wC (.int 27)))) (wB rAbs (wCons (wCall 2 sp_law_cell (wCons (wVar 0) (wCons (wVar 1) wNil))) wNil))) (wCall 2 sp_law_take (wCons (wVar 1) (wCons (wC (.int 1000)) wNil)))) wNil)) (wOp rAdd (wVar 3) (wC (.int 1)))) (gN 4))
    (sRet (wCall 2 sp_law_lowest (wCons (wVar 4) (wCons (wVar 3) wNil)))))))))
/-! _law_power(n, k); slots: 0 n, 1 k, 2 found, 3 step -/
def w_law_power  : WS :=
  (sSeq (sAsg (wC (.int 1)) (gN 2))
    (sSeq (sFor (wR1 (wVar 1)) (gN 3) (sAsg (wOp rMul (wVar 2) (wVar 0)) (gN 2)))
    (sRet (wVar 2))))
/-! _law_part(p, a, b); slots: 0 p, 1 a, 2 b, 3 n, 4 d, 5 games, 6 ways, 7 lost, 8 found, 9 k -/
def w_law_part (sp_law_power : Spc) (sp_law_lowest : Spc) : WS :=
  (sSeq (sAsg (wVar 0) (gT [3, 4]))
    (sSeq (sAsg (wOp rSub (wOp rAdd (wVar 1) (wVar 2)) (wC (.int 1))) (gN 5))
    (sSeq (sAsg (wC (.int 1)) (gN 6))
    (sSeq (sAsg (wC (.int 1)) (gN 7))
    (sSeq (sAsg (wC (.int 0)) (gN 8))
    (sSeq (sFor (wR1 (wVar 2)) (gN 9) (sSeq (sAsg (wOp rAdd (wOp rMul (wVar 8) (wVar 3)) (wOp rMul (wVar 6) (wVar 7))) (gN 8))
    (sSeq (sAsg (wOp rDivZ (wOp rMul (wVar 6) (wOp rSub (wVar 5) (wVar 9))) (wOp rAdd (wVar 9) (wC (.int 1)))) (gN 6))
    (sAsg (wOp rMul (wVar 7) (wOp rSub (wVar 4) (wVar 3))) (gN 7)))))
    (sRet (wCall 2 sp_law_lowest (wCons (wOp rMul (wVar 8) (wCall 2 sp_law_power (wCons (wVar 3) (wCons (wVar 1) wNil)))) (wCons (wCall 2 sp_law_power (wCons (wVar 4) (wCons (wVar 5) wNil))) wNil))))))))))
/-! _law_mean(p, a, b); slots: 0 p, 1 a, 2 b, 3 n, 4 d, 5 row, 6 won, 7 lost, 8 total_of, 9 games, 10 first, 11 some, 12 k -/
def w_law_mean (sp_law_power : Spc) (sp_law_lowest : Spc) : WS :=
  (sSeq (sAsg (wVar 0) (gT [3, 4]))
    (sSeq (sAsg (wLst (wCons (wC (.int 1)) wNil)) (gN 5))
    (sSeq (sAsg (wLst (wCons (wC (.int 1)) wNil)) (gN 6))
    (sSeq (sAsg (wLst (wCons (wC (.int 1)) wNil)) (gN 7))
    (sSeq (sAsg (wC (.int 0)) (gN 8))
    (sSeq (sFor (wR1 (wOp rSub (wOp rAdd (wVar 1) (wVar 2)) (wC (.int 1)))) (gN 9) (sSeq (sAsg (wB rMax2 (wCons (wC (.int 0)) (wCons (wOp rAdd (wOp rSub (wVar 9) (wVar 2)) (wC (.int 1))) wNil))) (gN 10))
    (sSeq (sAsg (wB rSum (wCons (wLc (wR2 (wVar 10) (wOp rAdd (wB rMin2 (wCons (wOp rSub (wVar 1) (wC (.int 1))) (wCons (wVar 9) wNil))) (wC (.int 1)))) (gN 12) wtYes (wOp rMul (wOp rMul (wOp rIx (wVar 5) (wVar 12)) (wOp rIx (wVar 6) (wVar 12))) (wOp rIx (wVar 7) (wOp rSub (wVar 9) (wVar 12)))) [12]) wNil)) (gN 11))
    (sSeq (sAsg (wOp rAdd (wOp rMul (wVar 8) (wVar 4)) (wVar 11)) (gN 8))
    (sSeq (sAsg (wOp rAdd (wOp rAdd (wLst (wCons (wC (.int 1)) wNil)) (wLc (wR1 (wVar 9)) (gN 12) wtYes (wOp rAdd (wOp rIx (wVar 5) (wVar 12)) (wOp rIx (wVar 5) (wOp rAdd (wVar 12) (wC (.int 1))))) [12])) (wLst (wCons (wC (.int 1)) wNil))) (gN 5))
    (sSeq (sDrop (wM rAppend (wVar 6) (wCons (wOp rMul (wOp rIx (wVar 6) (wUn rNeg (wC (.int 1)))) (wVar 3)) wNil)))
    (sDrop (wM rAppend (wVar 7) (wCons (wOp rMul (wOp rIx (wVar 7) (wUn rNeg (wC (.int 1)))) (wOp rSub (wVar 4) (wVar 3))) wNil)))))))))
    (sRet (wCall 2 sp_law_lowest (wCons (wVar 8) (wCons (wCall 2 sp_law_power (wCons (wVar 4) (wCons (wOp rSub (wOp rAdd (wVar 1) (wVar 2)) (wC (.int 2))) wNil))) wNil))))))))))
/-! _law_by_games(p, a, b); slots: 0 p, 1 a, 2 b, 3 first, 4 other, 5 found, 6 k, 7 one -/
def w_law_by_games (sp_law_by_games : Spc) (sp_law_lowest : Spc) (sp_law_plus : Spc) : WS :=
  (sSeq (sIf (wtVal (wOp rEq (wVar 1) (wC (.int 0)))) (sRet (wTup (wCons (wTup (wCons (wC (.int 1)) (wCons (wC (.int 1)) wNil))) (wCons (wTup (wCons (wC (.int 0)) (wCons (wC (.int 1)) wNil))) wNil)))) sNext)
    (sSeq (sIf (wtVal (wOp rEq (wVar 2) (wC (.int 0)))) (sRet (wTup (wCons (wTup (wCons (wC (.int 0)) (wCons (wC (.int 1)) wNil))) (wCons (wTup (wCons (wC (.int 0)) (wCons (wC (.int 1)) wNil))) wNil)))) sNext)
    (sSeq (sAsg (wCall 3 sp_law_by_games (wCons (wVar 0) (wCons (wOp rSub (wVar 1) (wC (.int 1))) (wCons (wVar 2) wNil)))) (gN 3))
    (sSeq (sAsg (wCall 3 sp_law_by_games (wCons (wVar 0) (wCons (wVar 1) (wCons (wOp rSub (wVar 2) (wC (.int 1))) wNil)))) (gN 4))
    (sSeq (sAsg (wLst wNil) (gN 5))
    (sSeq (sFor (wR1 (wC (.int 2))) (gN 6) (sSeq (sAsg (wCall 2 sp_law_lowest (wCons (wOp rMul (wOp rIx (wVar 0) (wC (.int 0))) (wOp rIx (wOp rIx (wVar 3) (wVar 6)) (wC (.int 0)))) (wCons (wOp rMul (wOp rIx (wVar 0) (wC (.int 1))) (wOp rIx (wOp rIx (wVar 3) (wVar 6)) (wC (.int 1)))) wNil))) (gN 7))
    (sDrop (wM rAppend (wVar 5) (wCons (wCall 2 sp_law_plus (wCons (wVar 7) (wCons (wCall 2 sp_law_lowest (wCons (wOp rMul (wOp rSub (wOp rIx (wVar 0) (wC (.int 1))) (wOp rIx (wVar 0) (wC (.int 0)))) (wOp rIx (wOp rIx (wVar 4) (wVar 6)) (wC (.int 0)))) (wCons (wOp rMul (wOp rIx (wVar 0) (wC (.int 1))) (wOp rIx (wOp rIx (wVar 4) (wVar 6)) (wC (.int 1)))) wNil))) wNil))) wNil)))))
    (sRet (wTup (wCons (wOp rIx (wVar 5) (wC (.int 0))) (wCons (wCall 2 sp_law_plus (wCons (wOp rIx (wVar 5) (wC (.int 1))) (wCons (wTup (wCons (wC (.int 1)) (wCons (wC (.int 1)) wNil))) wNil))) wNil))))))))))
/-! _law_is_told(p, a, b); slots: 0 p, 1 a, 2 b, 3 due, 4 mean_due -/
def w_law_is_told (sp_law_part : Spc) (sp_fair_part : Spc) (sp_law_same : Spc) (sp_law_mean : Spc) (sp_law_by_games : Spc) (sp_mean_games : Spc) : WS :=
  (sSeq (sAsg (wCall 3 sp_law_part (wCons (wVar 0) (wCons (wVar 1) (wCons (wVar 2) wNil)))) (gN 3))
    (sSeq (sIf (wtNot (wtVal (wCall 2 sp_law_same (wCons (wCall 3 sp_fair_part (wCons (wVar 0) (wCons (wVar 1) (wCons (wVar 2) wNil)))) (wCons (wVar 3) wNil))))) (sRet (wC (.bl false))) sNext)
    (sSeq (sIf (wtAnd (wtVal (wOp rLe (wVar 1) (wC (.int 40)))) (wtVal (wOp rLe (wVar 2) (wC (.int 40))))) (sSeq (sAsg (wCall 3 sp_law_mean (wCons (wVar 0) (wCons (wVar 1) (wCons (wVar 2) wNil)))) (gN 4))
    (sSeq (sIf (wtAnd (wtVal (wOp rLe (wVar 1) (wC (.int 5)))) (wtAnd (wtVal (wOp rLe (wVar 2) (wC (.int 5)))) (wtVal (wOp rNe (wCall 3 sp_law_by_games (wCons (wVar 0) (wCons (wVar 1) (wCons (wVar 2) wNil)))) (wTup (wCons (wVar 3) (wCons (wVar 4) wNil))))))) (sRet (wC (.bl false))) sNext)
    (sIf (wtNot (wtVal (wCall 2 sp_law_same (wCons (wCall 3 sp_mean_games (wCons (wVar 0) (wCons (wVar 1) (wCons (wVar 2) wNil)))) (wCons (wVar 4) wNil))))) (sRet (wC (.bl false))) sNext))) sNext)
    (sRet (wC (.bl true))))))
/-! _law_coins(part, coins); slots: 0 part, 1 coins, 2 n, 3 d, 4 down, 5 rest -/
def w_law_coins  : WS :=
  (sSeq (sAsg (wOp rMul (wOp rIx (wVar 0) (wC (.int 0))) (wVar 1)) (gN 2))
    (sSeq (sAsg (wOp rIx (wVar 0) (wC (.int 1))) (gN 3))
    (sSeq (sAsg (wOp rDivZ (wVar 2) (wVar 3)) (gN 4))
    (sSeq (sAsg (wOp rMul (wC (.int 2)) (wOp rSub (wVar 2) (wOp rMul (wVar 4) (wVar 3)))) (gN 5))
    (sSeq (sIf (wtOr (wtVal (wOp rGt (wVar 5) (wVar 3))) (wtAnd (wtVal (wOp rEq (wVar 5) (wVar 3))) (wtVal (wOp rEq (wOp rSub (wVar 4) (wOp rMul (wC (.int 2)) (wOp rDiv (wVar 4) (wC (.int 2))))) (wC (.int 1)))))) (sRet (wOp rAdd (wVar 4) (wC (.int 1)))) sNext)
    (sRet (wVar 4)))))))
/-! _law_b_is_told(p, a, b, coins); slots: 0 p, 1 a, 2 b, 3 coins -/
def w_law_b_is_told (sp_law_part : Spc) (sp_law_coins : Spc) (sp_fair_coins : Spc) (sp_law_same : Spc) : WS :=
  (sRet (wCall 2 sp_law_same (wCons (wCall 4 sp_fair_coins (wCons (wVar 0) (wCons (wVar 1) (wCons (wVar 2) (wCons (wVar 3) wNil))))) (wCons (wCall 2 sp_law_coins (wCons (wCall 3 sp_law_part (wCons (wVar 0) (wCons (wVar 1) (wCons (wVar 2) wNil)))) (wCons (wVar 3) wNil))) wNil))))
@[reducible] def w_law_part_one_t16 (sp_law_draws : Spc) (sp_law_chance : Spc) (sp_law_take : Spc) (sp_law_is_told : Spc) (sp_law_part : Spc) (sp_law_plus : Spc) (sp_fair_part : Spc) (sp_law_same : Spc) (sp_mean_games : Spc) : WS :=
  (sRet (wAnd (wCall 2 sp_law_same (wCons (wCall 3 sp_mean_games (wCons (wTup (wCons (wC (.int 1)) (wCons (wC (.int 1)) wNil))) (wCons (wOp rIx (wVar 7) (wC (.int 0))) (wCons (wOp rIx (wVar 7) (wC (.int 1))) wNil)))) (wCons (wTup (wCons (wOp rIx (wVar 7) (wC (.int 0))) (wCons (wC (.int 1)) wNil))) wNil))) (wCall 2 sp_law_same (wCons (wCall 3 sp_fair_part (wCons (wTup (wCons (wC (.int 1)) (wCons (wC (.int 2)) wNil))) (wCons (wC (.int 200)) (wCons (wC (.int 200)) wNil)))) (wCons (wTup (wCons (wC (.int 1)) (wCons (wC (.int 2)) wNil))) wNil)))))
@[reducible] def w_law_part_one_t15 (sp_law_draws : Spc) (sp_law_chance : Spc) (sp_law_take : Spc) (sp_law_is_told : Spc) (sp_law_part : Spc) (sp_law_plus : Spc) (sp_fair_part : Spc) (sp_law_same : Spc) (sp_mean_games : Spc) : WS :=
  (sSeq (sIf (wtOr (wtNot (wtVal (wCall 2 sp_law_same (wCons (wCall 3 sp_fair_part (wCons (wTup (wCons (wC (.int 0)) (wCons (wC (.int 1)) wNil))) (wCons (wVar 5) (wCons (wVar 6) wNil)))) (wCons (wTup (wCons (wC (.int 0)) (wCons (wC (.int 1)) wNil))) wNil))))) (wtNot (wtVal (wCall 2 sp_law_same (wCons (wCall 3 sp_fair_part (wCons (wTup (wCons (wC (.int 1)) (wCons (wC (.int 1)) wNil))) (wCons (wVar 5) (wCons (wVar 6) wNil)))) (wCons (wTup (wCons (wC (.int 1)) (wCons (wC (.int 1)) wNil))) wNil)))))) (sRet (wC (.bl false))) sNext)
    (w_law_part_one_t16 sp_law_draws sp_law_chance sp_law_take sp_law_is_told sp_law_part sp_law_plus sp_fair_part sp_law_same sp_mean_games))
@[reducible] def w_law_part_one_t14 (sp_law_draws : Spc) (sp_law_chance : Spc) (sp_law_take : Spc) (sp_law_is_told : Spc) (sp_law_part : Spc) (sp_law_plus : Spc) (sp_fair_part : Spc) (sp_law_same : Spc) (sp_mean_games : Spc) : WS :=
  (sSeq (sIf (wtOr (wtNot (wtVal (wCall 2 sp_law_same (wCons (wCall 3 sp_fair_part (wCons (wTup (wCons (wC (.int 1)) (wCons (wC (.int 2)) wNil))) (wCons (wC (.int 2)) (wCons (wC (.int 1)) wNil)))) (wCons (wTup (wCons (wC (.int 1)) (wCons (wC (.int 4)) wNil))) wNil))))) (wtNot (wtVal (wCall 2 sp_law_same (wCons (wCall 3 sp_mean_games (wCons (wTup (wCons (wC (.int 1)) (wCons (wC (.int 2)) wNil))) (wCons (wC (.int 2)) (wCons (wC (.int 1)) wNil)))) (wCons (wTup (wCons (wC (.int 3)) (wCons (wC (.int 2)) wNil))) wNil)))))) (sRet (wC (.bl false))) sNext)
    (w_law_part_one_t15 sp_law_draws sp_law_chance sp_law_take sp_law_is_told sp_law_part sp_law_plus sp_fair_part sp_law_same sp_mean_games))
@[reducible] def w_law_part_one_t13 (sp_law_draws : Spc) (sp_law_chance : Spc) (sp_law_take : Spc) (sp_law_is_told : Spc) (sp_law_part : Spc) (sp_law_plus : Spc) (sp_fair_part : Spc) (sp_law_same : Spc) (sp_mean_games : Spc) : WS :=
  (sSeq (sIf (wtAnd (wtVal (wOp rEq (wVar 4) (wC (.int 8)))) (wtNot (wtVal (wCall 3 sp_law_is_told (wCons (wVar 2) (wCons (wVar 5) (wCons (wVar 6) wNil))))))) (sRet (wC (.bl false))) sNext)
    (w_law_part_one_t14 sp_law_draws sp_law_chance sp_law_take sp_law_is_told sp_law_part sp_law_plus sp_fair_part sp_law_same sp_mean_games))
@[reducible] def w_law_part_one_t12 (sp_law_draws : Spc) (sp_law_chance : Spc) (sp_law_take : Spc) (sp_law_is_told : Spc) (sp_law_part : Spc) (sp_law_plus : Spc) (sp_fair_part : Spc) (sp_law_same : Spc) (sp_mean_games : Spc) : WS :=
  (sSeq (sIf (wtVal (wOp rNe (wCall 2 sp_law_plus (wCons (wCall 3 sp_law_part (wCons (wVar 8) (wCons (wOp rIx (wVar 7) (wC (.int 0))) (wCons (wOp rIx (wVar 7) (wC (.int 1))) wNil)))) (wCons (wCall 3 sp_law_part (wCons (wVar 9) (wCons (wOp rIx (wVar 7) (wC (.int 1))) (wCons (wOp rIx (wVar 7) (wC (.int 0))) wNil)))) wNil))) (wTup (wCons (wC (.int 1)) (wCons (wC (.int 1)) wNil))))) (sRet (wC (.bl false))) sNext)
    (w_law_part_one_t13 sp_law_draws sp_law_chance sp_law_take sp_law_is_told sp_law_part sp_law_plus sp_fair_part sp_law_same sp_mean_games))
@[reducible] def w_law_part_one_t11 (sp_law_draws : Spc) (sp_law_chance : Spc) (sp_law_take : Spc) (sp_law_is_told : Spc) (sp_law_part : Spc) (sp_law_plus : Spc) (sp_fair_part : Spc) (sp_law_same : Spc) (sp_mean_games : Spc) : WS :=
  (sSeq (sIf (wtOr (wtNot (wtVal (wCall 3 sp_law_is_told (wCons (wVar 8) (wCons (wOp rIx (wVar 7) (wC (.int 0))) (wCons (wOp rIx (wVar 7) (wC (.int 1))) wNil)))))) (wtNot (wtVal (wCall 3 sp_law_is_told (wCons (wVar 9) (wCons (wOp rIx (wVar 7) (wC (.int 1))) (wCons (wOp rIx (wVar 7) (wC (.int 0))) wNil))))))) (sRet (wC (.bl false))) sNext)
    (w_law_part_one_t12 sp_law_draws sp_law_chance sp_law_take sp_law_is_told sp_law_part sp_law_plus sp_fair_part sp_law_same sp_mean_games))
@[reducible] def w_law_part_one_t10 (sp_law_draws : Spc) (sp_law_chance : Spc) (sp_law_take : Spc) (sp_law_is_told : Spc) (sp_law_part : Spc) (sp_law_plus : Spc) (sp_fair_part : Spc) (sp_law_same : Spc) (sp_mean_games : Spc) : WS :=
  (sSeq (sAsg (wTup (wCons (wOp rSub (wOp rIx (wVar 8) (wC (.int 1))) (wOp rIx (wVar 8) (wC (.int 0)))) (wCons (wOp rIx (wVar 8) (wC (.int 1))) wNil))) (gN 9))
    (w_law_part_one_t11 sp_law_draws sp_law_chance sp_law_take sp_law_is_told sp_law_part sp_law_plus sp_fair_part sp_law_same sp_mean_games))
@[reducible] def w_law_part_one_t9 (sp_law_draws : Spc) (sp_law_chance : Spc) (sp_law_take : Spc) (sp_law_is_told : Spc) (sp_law_part : Spc) (sp_law_plus : Spc) (sp_fair_part : Spc) (sp_law_same : Spc) (sp_mean_games : Spc) : WS :=
  (sSeq (sAsg (wCall 2 sp_law_chance (wCons (wVar 0) (wCons (wVar 1) wNil))) (gN 8))
    (w_law_part_one_t10 sp_law_draws sp_law_chance sp_law_take sp_law_is_told sp_law_part sp_law_plus sp_fair_part sp_law_same sp_mean_games))
@[reducible] def w_law_part_one_t8 (sp_law_draws : Spc) (sp_law_chance : Spc) (sp_law_take : Spc) (sp_law_is_told : Spc) (sp_law_part : Spc) (sp_law_plus : Spc) (sp_fair_part : Spc) (sp_law_same : Spc) (sp_mean_games : Spc) : WS :=
  (sSeq (sAsg (wTup (wCons (wOp rAdd (wC (.int 1)) (wCall 2 sp_law_take (wCons (wVar 1) (wCons (wC (.int 5)) wNil)))) (wCons (wOp rAdd (wC (.int 1)) (wCall 2 sp_law_take (wCons (wVar 1) (wCons (wC (.int 5)) wNil)))) wNil))) (gN 7))
    (w_law_part_one_t9 sp_law_draws sp_law_chance sp_law_take sp_law_is_told sp_law_part sp_law_plus sp_fair_part sp_law_same sp_mean_games))
@[reducible] def w_law_part_one_t7 (sp_law_draws : Spc) (sp_law_chance : Spc) (sp_law_take : Spc) (sp_law_is_told : Spc) (sp_law_part : Spc) (sp_law_plus : Spc) (sp_fair_part : Spc) (sp_law_same : Spc) (sp_mean_games : Spc) : WS :=
  (sSeq (sIf (wtNot (wtVal (wCall 3 sp_law_is_told (wCons (wVar 2) (wCons (wVar 5) (wCons (wVar 6) wNil)))))) (sRet (wC (.bl false))) sNext)
    (w_law_part_one_t8 sp_law_draws sp_law_chance sp_law_take sp_law_is_told sp_law_part sp_law_plus sp_fair_part sp_law_same sp_mean_games))
@[reducible] def w_law_part_one_t6 (sp_law_draws : Spc) (sp_law_chance : Spc) (sp_law_take : Spc) (sp_law_is_told : Spc) (sp_law_part : Spc) (sp_law_plus : Spc) (sp_fair_part : Spc) (sp_law_same : Spc) (sp_mean_games : Spc) : WS :=
  (sSeq (sAsg (wOp rIx (wLst (wCons (wOp rAdd (wC (.int 1)) (wCall 2 sp_law_take (wCons (wVar 1) (wCons (wVar 4) wNil)))) (wCons (wVar 4) wNil))) (wB rInt (wCons (wOp rEq (wCall 2 sp_law_take (wCons (wVar 1) (wCons (wC (.int 9)) wNil))) (wC (.int 0))) wNil))) (gN 6))
    (w_law_part_one_t7 sp_law_draws sp_law_chance sp_law_take sp_law_is_told sp_law_part sp_law_plus sp_fair_part sp_law_same sp_mean_games))
@[reducible] def w_law_part_one_t5 (sp_law_draws : Spc) (sp_law_chance : Spc) (sp_law_take : Spc) (sp_law_is_told : Spc) (sp_law_part : Spc) (sp_law_plus : Spc) (sp_fair_part : Spc) (sp_law_same : Spc) (sp_mean_games : Spc) : WS :=
  (sSeq (sAsg (wOp rAdd (wC (.int 1)) (wCall 2 sp_law_take (wCons (wVar 1) (wCons (wVar 4) wNil)))) (gN 5))
    (w_law_part_one_t6 sp_law_draws sp_law_chance sp_law_take sp_law_is_told sp_law_part sp_law_plus sp_fair_part sp_law_same sp_mean_games))
@[reducible] def w_law_part_one_t4 (sp_law_draws : Spc) (sp_law_chance : Spc) (sp_law_take : Spc) (sp_law_is_told : Spc) (sp_law_part : Spc) (sp_law_plus : Spc) (sp_fair_part : Spc) (sp_law_same : Spc) (sp_mean_games : Spc) : WS :=
  (sSeq (sIf (wtVal (wOp rLt (wVar 3) (wC (.int 3)))) (sAsg (wOp rIx (wLst (wCons (wC (.int 200)) (wCons (wC (.int 60)) (wCons (wC (.int 40)) wNil)))) (wVar 3)) (gN 4)) sNext)
    (w_law_part_one_t5 sp_law_draws sp_law_chance sp_law_take sp_law_is_told sp_law_part sp_law_plus sp_fair_part sp_law_same sp_mean_games))
@[reducible] def w_law_part_one_t3 (sp_law_draws : Spc) (sp_law_chance : Spc) (sp_law_take : Spc) (sp_law_is_told : Spc) (sp_law_part : Spc) (sp_law_plus : Spc) (sp_fair_part : Spc) (sp_law_same : Spc) (sp_mean_games : Spc) : WS :=
  (sSeq (sAsg (wC (.int 8)) (gN 4))
    (w_law_part_one_t4 sp_law_draws sp_law_chance sp_law_take sp_law_is_told sp_law_part sp_law_plus sp_fair_part sp_law_same sp_mean_games))
@[reducible] def w_law_part_one_t2 (sp_law_draws : Spc) (sp_law_chance : Spc) (sp_law_take : Spc) (sp_law_is_told : Spc) (sp_law_part : Spc) (sp_law_plus : Spc) (sp_fair_part : Spc) (sp_law_same : Spc) (sp_mean_games : Spc) : WS :=
  (sSeq (sAsg (wCall 2 sp_law_take (wCons (wVar 1) (wCons (wC (.int 20)) wNil))) (gN 3))
    (w_law_part_one_t3 sp_law_draws sp_law_chance sp_law_take sp_law_is_told sp_law_part sp_law_plus sp_fair_part sp_law_same sp_mean_games))
@[reducible] def w_law_part_one_t1 (sp_law_draws : Spc) (sp_law_chance : Spc) (sp_law_take : Spc) (sp_law_is_told : Spc) (sp_law_part : Spc) (sp_law_plus : Spc) (sp_fair_part : Spc) (sp_law_same : Spc) (sp_mean_games : Spc) : WS :=
  (sSeq (sAsg (wCall 2 sp_law_chance (wCons (wVar 0) (wCons (wVar 1) wNil))) (gN 2))
    (w_law_part_one_t2 sp_law_draws sp_law_chance sp_law_take sp_law_is_told sp_law_part sp_law_plus sp_fair_part sp_law_same sp_mean_games))
/-! _law_part_one(script); slots: 0 script, 1 draws, 2 p, 3 size, 4 most, 5 a, 6 b, 7 few, 8 other, 9 against -/
def w_law_part_one (sp_law_draws : Spc) (sp_law_chance : Spc) (sp_law_take : Spc) (sp_law_is_told : Spc) (sp_law_part : Spc) (sp_law_plus : Spc) (sp_fair_part : Spc) (sp_law_same : Spc) (sp_mean_games : Spc) : WS :=
  (sSeq (sAsg (wCall 2 sp_law_draws (wCons (wVar 0) (wCons (wC (.int 60)) wNil))) (gN 1))
    (w_law_part_one_t1 sp_law_draws sp_law_chance sp_law_take sp_law_is_told sp_law_part sp_law_plus sp_fair_part sp_law_same sp_mean_games))
@[reducible] def w_law_part_two_t15 (sp_law_draws : Spc) (sp_law_chance : Spc) (sp_law_take : Spc) (sp_law_cell : Spc) (sp_law_b_is_told : Spc) (sp_fair_coins : Spc) (sp_law_same : Spc) : WS :=
  (sRet (wAnd (wCall 2 sp_law_same (wCons (wCall 4 sp_fair_coins (wCons (wVar 2) (wCons (wVar 4) (wCons (wVar 5) (wCons (wC (.int 0)) wNil))))) (wCons (wC (.int 0)) wNil))) (wOr (wOp rGt (wVar 3) (wC (.int 40))) (wCall 4 sp_law_b_is_told (wCons (wVar 2) (wCons (wVar 4) (wCons (wVar 5) (wCons (wVar 6) wNil))))))))
@[reducible] def w_law_part_two_t14 (sp_law_draws : Spc) (sp_law_chance : Spc) (sp_law_take : Spc) (sp_law_cell : Spc) (sp_law_b_is_told : Spc) (sp_fair_coins : Spc) (sp_law_same : Spc) : WS :=
  (sSeq (sIf (wtNot (wtVal (wCall 2 sp_law_same (wCons (wCall 4 sp_fair_coins (wCons (wTup (wCons (wC (.int 1)) (wCons (wC (.int 2)) wNil))) (wCons (wC (.int 2)) (wCons (wC (.int 1)) (wCons (wOp rAdd (wOp rMul (wC (.int 8)) (wVar 9)) (wC (.int 6))) wNil))))) (wCons (wOp rAdd (wOp rMul (wC (.int 2)) (wVar 9)) (wC (.int 2))) wNil))))) (sRet (wC (.bl false))) sNext)
    (w_law_part_two_t15 sp_law_draws sp_law_chance sp_law_take sp_law_cell sp_law_b_is_told sp_fair_coins sp_law_same))
@[reducible] def w_law_part_two_t13 (sp_law_draws : Spc) (sp_law_chance : Spc) (sp_law_take : Spc) (sp_law_cell : Spc) (sp_law_b_is_told : Spc) (sp_fair_coins : Spc) (sp_law_same : Spc) : WS :=
  (sSeq (sIf (wtNot (wtVal (wCall 2 sp_law_same (wCons (wCall 4 sp_fair_coins (wCons (wTup (wCons (wC (.int 1)) (wCons (wC (.int 2)) wNil))) (wCons (wC (.int 2)) (wCons (wC (.int 1)) (wCons (wOp rAdd (wOp rMul (wC (.int 8)) (wVar 9)) (wC (.int 2))) wNil))))) (wCons (wOp rMul (wC (.int 2)) (wVar 9)) wNil))))) (sRet (wC (.bl false))) sNext)
    (w_law_part_two_t14 sp_law_draws sp_law_chance sp_law_take sp_law_cell sp_law_b_is_told sp_fair_coins sp_law_same))
@[reducible] def w_law_part_two_t12 (sp_law_draws : Spc) (sp_law_chance : Spc) (sp_law_take : Spc) (sp_law_cell : Spc) (sp_law_b_is_told : Spc) (sp_fair_coins : Spc) (sp_law_same : Spc) : WS :=
  (sSeq (sIf (wtNot (wtVal (wCall 2 sp_law_same (wCons (wCall 4 sp_fair_coins (wCons (wTup (wCons (wC (.int 1)) (wCons (wC (.int 2)) wNil))) (wCons (wVar 10) (wCons (wVar 10) (wCons (wOp rAdd (wOp rMul (wC (.int 4)) (wVar 9)) (wC (.int 3))) wNil))))) (wCons (wOp rAdd (wOp rMul (wC (.int 2)) (wVar 9)) (wC (.int 2))) wNil))))) (sRet (wC (.bl false))) sNext)
    (w_law_part_two_t13 sp_law_draws sp_law_chance sp_law_take sp_law_cell sp_law_b_is_told sp_fair_coins sp_law_same))
@[reducible] def w_law_part_two_t11 (sp_law_draws : Spc) (sp_law_chance : Spc) (sp_law_take : Spc) (sp_law_cell : Spc) (sp_law_b_is_told : Spc) (sp_fair_coins : Spc) (sp_law_same : Spc) : WS :=
  (sSeq (sIf (wtNot (wtVal (wCall 2 sp_law_same (wCons (wCall 4 sp_fair_coins (wCons (wTup (wCons (wC (.int 1)) (wCons (wC (.int 2)) wNil))) (wCons (wVar 10) (wCons (wVar 10) (wCons (wOp rAdd (wOp rMul (wC (.int 4)) (wVar 9)) (wC (.int 1))) wNil))))) (wCons (wOp rMul (wC (.int 2)) (wVar 9)) wNil))))) (sRet (wC (.bl false))) sNext)
    (w_law_part_two_t12 sp_law_draws sp_law_chance sp_law_take sp_law_cell sp_law_b_is_told sp_fair_coins sp_law_same))
@[reducible] def w_law_part_two_t10 (sp_law_draws : Spc) (sp_law_chance : Spc) (sp_law_take : Spc) (sp_law_cell : Spc) (sp_law_b_is_told : Spc) (sp_fair_coins : Spc) (sp_law_same : Spc) : WS :=
  (sSeq (sAsg (wOp rAdd (wC (.int 1)) (wCall 2 sp_law_take (wCons (wVar 1) (wCons (wC (.int 9)) wNil)))) (gN 10))
    (w_law_part_two_t11 sp_law_draws sp_law_chance sp_law_take sp_law_cell sp_law_b_is_told sp_fair_coins sp_law_same))
@[reducible] def w_law_part_two_t9 (sp_law_draws : Spc) (sp_law_chance : Spc) (sp_law_take : Spc) (sp_law_cell : Spc) (sp_law_b_is_told : Spc) (sp_fair_coins : Spc) (sp_law_same : Spc) : WS :=
  (sSeq (sAsg (wOp rAdd (wCall 2 sp_law_take (wCons (wVar 1) (wCons (wC (.int 1000)) wNil))) (wOp rMul (wB rAbs (wCons (wCall 2 sp_law_cell (wCons (wVar 0) (wCons (wVar 1) wNil))) wNil)) (wCall 2 sp_law_take (wCons (wVar 1) (wCons (wC (.int 2)) wNil))))) (gN 9))
    (w_law_part_two_t10 sp_law_draws sp_law_chance sp_law_take sp_law_cell sp_law_b_is_told sp_fair_coins sp_law_same))
@[reducible] def w_law_part_two_t8 (sp_law_draws : Spc) (sp_law_chance : Spc) (sp_law_take : Spc) (sp_law_cell : Spc) (sp_law_b_is_told : Spc) (sp_fair_coins : Spc) (sp_law_same : Spc) : WS :=
  (sSeq (sFor (wIt (wLst (wCons (wCall 2 sp_law_take (wCons (wVar 1) (wCons (wC (.int 31)) wNil))) (wCons (wCall 2 sp_law_take (wCons (wVar 1) (wCons (wC (.int 1000)) wNil))) (wCons (wVar 6) wNil))))) (gN 8) (sIf (wtNot (wtVal (wCall 4 sp_law_b_is_told (wCons (wVar 7) (wCons (wOp rAdd (wC (.int 1)) (wCall 2 sp_law_take (wCons (wVar 1) (wCons (wC (.int 4)) wNil)))) (wCons (wOp rAdd (wC (.int 1)) (wCall 2 sp_law_take (wCons (wVar 1) (wCons (wC (.int 4)) wNil)))) (wCons (wVar 8) wNil))))))) (sRet (wC (.bl false))) sNext))
    (w_law_part_two_t9 sp_law_draws sp_law_chance sp_law_take sp_law_cell sp_law_b_is_told sp_fair_coins sp_law_same))
@[reducible] def w_law_part_two_t7 (sp_law_draws : Spc) (sp_law_chance : Spc) (sp_law_take : Spc) (sp_law_cell : Spc) (sp_law_b_is_told : Spc) (sp_fair_coins : Spc) (sp_law_same : Spc) : WS :=
  (sSeq (sAsg (wCall 2 sp_law_chance (wCons (wVar 0) (wCons (wVar 1) wNil))) (gN 7))
    (w_law_part_two_t8 sp_law_draws sp_law_chance sp_law_take sp_law_cell sp_law_b_is_told sp_fair_coins sp_law_same))
@[reducible] def w_law_part_two_t6 (sp_law_draws : Spc) (sp_law_chance : Spc) (sp_law_take : Spc) (sp_law_cell : Spc) (sp_law_b_is_told : Spc) (sp_fair_coins : Spc) (sp_law_same : Spc) : WS :=
  (sSeq (sIf (wtOr (wtNot (wtVal (wCall 4 sp_law_b_is_told (wCons (wVar 2) (wCons (wVar 4) (wCons (wVar 5) (wCons (wVar 6) wNil))))))) (wtNot (wtVal (wCall 4 sp_law_b_is_told (wCons (wTup (wCons (wOp rSub (wOp rIx (wVar 2) (wC (.int 1))) (wOp rIx (wVar 2) (wC (.int 0)))) (wCons (wOp rIx (wVar 2) (wC (.int 1))) wNil))) (wCons (wVar 5) (wCons (wVar 4) (wCons (wVar 6) wNil)))))))) (sRet (wC (.bl false))) sNext)
    (w_law_part_two_t7 sp_law_draws sp_law_chance sp_law_take sp_law_cell sp_law_b_is_told sp_fair_coins sp_law_same))
@[reducible] def w_law_part_two_t5 (sp_law_draws : Spc) (sp_law_chance : Spc) (sp_law_take : Spc) (sp_law_cell : Spc) (sp_law_b_is_told : Spc) (sp_fair_coins : Spc) (sp_law_same : Spc) : WS :=
  (sSeq (sAsg (wOp rIx (wLst (wCons (wCall 2 sp_law_take (wCons (wVar 1) (wCons (wC (.int 31)) wNil))) (wCons (wB rAbs (wCons (wCall 2 sp_law_cell (wCons (wVar 0) (wCons (wVar 1) wNil))) wNil)) (wCons (wOp rAdd (wOp rPow (wC (.int 10)) (wC (.int 30))) (wCall 2 sp_law_take (wCons (wVar 1) (wCons (wC (.int 1000)) wNil)))) wNil)))) (wCall 2 sp_law_take (wCons (wVar 1) (wCons (wC (.int 3)) wNil)))) (gN 6))
    (w_law_part_two_t6 sp_law_draws sp_law_chance sp_law_take sp_law_cell sp_law_b_is_told sp_fair_coins sp_law_same))
@[reducible] def w_law_part_two_t4 (sp_law_draws : Spc) (sp_law_chance : Spc) (sp_law_take : Spc) (sp_law_cell : Spc) (sp_law_b_is_told : Spc) (sp_fair_coins : Spc) (sp_law_same : Spc) : WS :=
  (sSeq (sAsg (wOp rAdd (wC (.int 1)) (wCall 2 sp_law_take (wCons (wVar 1) (wCons (wVar 3) wNil)))) (gN 5))
    (w_law_part_two_t5 sp_law_draws sp_law_chance sp_law_take sp_law_cell sp_law_b_is_told sp_fair_coins sp_law_same))
@[reducible] def w_law_part_two_t3 (sp_law_draws : Spc) (sp_law_chance : Spc) (sp_law_take : Spc) (sp_law_cell : Spc) (sp_law_b_is_told : Spc) (sp_fair_coins : Spc) (sp_law_same : Spc) : WS :=
  (sSeq (sAsg (wOp rAdd (wC (.int 1)) (wCall 2 sp_law_take (wCons (wVar 1) (wCons (wVar 3) wNil)))) (gN 4))
    (w_law_part_two_t4 sp_law_draws sp_law_chance sp_law_take sp_law_cell sp_law_b_is_told sp_fair_coins sp_law_same))
@[reducible] def w_law_part_two_t2 (sp_law_draws : Spc) (sp_law_chance : Spc) (sp_law_take : Spc) (sp_law_cell : Spc) (sp_law_b_is_told : Spc) (sp_fair_coins : Spc) (sp_law_same : Spc) : WS :=
  (sSeq (sAsg (wOp rIx (wLst (wCons (wC (.int 200)) (wCons (wC (.int 40)) (wCons (wC (.int 8)) (wCons (wC (.int 8)) (wCons (wC (.int 8)) (wCons (wC (.int 8)) (wCons (wC (.int 8)) (wCons (wC (.int 8)) (wCons (wC (.int 8)) (wCons (wC (.int 8)) wNil))))))))))) (wCall 2 sp_law_take (wCons (wVar 1) (wCons (wC (.int 10)) wNil)))) (gN 3))
    (w_law_part_two_t3 sp_law_draws sp_law_chance sp_law_take sp_law_cell sp_law_b_is_told sp_fair_coins sp_law_same))
@[reducible] def w_law_part_two_t1 (sp_law_draws : Spc) (sp_law_chance : Spc) (sp_law_take : Spc) (sp_law_cell : Spc) (sp_law_b_is_told : Spc) (sp_fair_coins : Spc) (sp_law_same : Spc) : WS :=
  (sSeq (sAsg (wCall 2 sp_law_chance (wCons (wVar 0) (wCons (wVar 1) wNil))) (gN 2))
    (w_law_part_two_t2 sp_law_draws sp_law_chance sp_law_take sp_law_cell sp_law_b_is_told sp_fair_coins sp_law_same))
/-! _law_part_two(script); slots: 0 script, 1 draws, 2 p, 3 most, 4 a, 5 b, 6 coins, 7 other, 8 some, 9 number, 10 alike -/
def w_law_part_two (sp_law_draws : Spc) (sp_law_chance : Spc) (sp_law_take : Spc) (sp_law_cell : Spc) (sp_law_b_is_told : Spc) (sp_fair_coins : Spc) (sp_law_same : Spc) : WS :=
  (sSeq (sAsg (wCall 2 sp_law_draws (wCons (wVar 0) (wCons (wC (.int 60)) wNil))) (gN 1))
    (w_law_part_two_t1 sp_law_draws sp_law_chance sp_law_take sp_law_cell sp_law_b_is_told sp_fair_coins sp_law_same))
/-! law(script); slots: 0 script -/
def w_law (sp_law_part_one : Spc) (sp_law_part_two : Spc) : WS :=
  (sRet (wAnd (wCall 1 sp_law_part_one (wCons (wVar 0) wNil)) (wCall 1 sp_law_part_two (wCons (wVar 0) wNil))))
end K80
set_option Elab.async false
set_option linter.all false
set_option maxRecDepth 100000
set_option maxHeartbeats 8000000
/-! the defs of oddsweighed_k80_fair_parts_and_games_lef keep their parts -/
namespace K80
open PySem PySem.Spec DL
open L2 (V Hp HO St PE PT PW PA PS PSs PG PI PO Cx Inv RelV Vals)
def topS (i : Nat) : Stmt := PySem.Challenge.pw_oddsweighed_k80_fair_parts_and_games_lef.main.body.getD i (.Pass ⟨0, 0, 0, 0⟩)
section
variable {P : Program} {w : World} {K : PySem.W.Frag} {mg : Str → Option Value} {base : Heap}
abbrev s_divisor : Stmt := topS 2
theorem sc_divisor : L2.FnScope ["one", "other"] ["one", "other"] (L2.defScope s_divisor) := ⟨rfl, rfl, rfl, by decide +kernel, rfl, by decide +kernel, by decide +kernel⟩
theorem ok_divisor {f : Addr} {fd : FuncData} {k : Nat} {sp : Spc} (F : L2.Fun K "divisor" "divisor" s_divisor f fd) (hm : mg "divisor" = some (.ref f)) (m_gcd : mg "gcd" = some (.builtin "math.gcd")) (body : Body 2 2 (w_divisor ) sp) : Callee P w K mg base "divisor" (k + 1) 2 sp :=
  callee_of F hm (F.binds (ps := ["one", "other"]) fun _ _ _ _ _ _ us hl => match us, hl with | [_, _], _ => rfl) sc_divisor rfl rfl (fun cdv A outer s H E hr => by
    unfold w_divisor
    exact (dss_one (ds_ret (d_callF b_gcd (by rfl) m_gcd (da_cons (d_var 0) (da_cons (d_var 1) da_nil)))))) body
abbrev s_fraction : Stmt := topS 3
theorem sc_fraction : L2.FnScope ["n", "d", "common"] ["n", "d"] (L2.defScope s_fraction) := ⟨rfl, rfl, rfl, by decide +kernel, rfl, by decide +kernel, by decide +kernel⟩
theorem ok_fraction {f : Addr} {fd : FuncData} {k : Nat} {sp : Spc} (F : L2.Fun K "fraction" "fraction" s_fraction f fd) (hm : mg "fraction" = some (.ref f)) (hsee : base.NoSeer) (htree : P.given.tree = none) (h32 : 32 ≤ k) {sp_divisor : Spc} {k_divisor : Nat} (C_divisor : Callee P w K mg base "divisor" k_divisor 2 sp_divisor) (h_divisor : k_divisor ≤ k) (body : Body 3 2 (w_fraction sp_divisor) sp) : Callee P w K mg base "fraction" (k + 1) 2 sp :=
  callee_of F hm (F.binds (ps := ["n", "d"]) fun _ _ _ _ _ _ us hl => match us, hl with | [_, _], _ => rfl) sc_fraction rfl rfl (fun cdv A outer s H E hr => by
    unfold w_fraction
    exact (dss_cons (ds_set 2 sc_fraction.nd (d_calle C_divisor hr h_divisor (by rfl) (da_cons (d_var 0) (da_cons (d_var 1) da_nil))))
      (dss_cons (ds_if (dt_cmp c_lt (d_var 1) d_int) (dss_one (ds_set 2 sc_fraction.nd (d_un u_neg (d_var 2)))) dss_nil)
      (dss_one (ds_ret (d_tup (da_cons (d_op (o_divZ (big_of hsee htree rfl rfl hr h32)) (d_var 0) (d_var 2)) (da_cons (d_op (o_divZ (big_of hsee htree rfl rfl hr h32)) (d_var 1) (d_var 2)) da_nil)))))))) body
abbrev s_times : Stmt := topS 4
theorem sc_times : L2.FnScope ["one", "other"] ["one", "other"] (L2.defScope s_times) := ⟨rfl, rfl, rfl, by decide +kernel, rfl, by decide +kernel, by decide +kernel⟩
theorem ok_times {f : Addr} {fd : FuncData} {k : Nat} {sp : Spc} (F : L2.Fun K "times" "times" s_times f fd) (hm : mg "times" = some (.ref f)) {sp_fraction : Spc} {k_fraction : Nat} (C_fraction : Callee P w K mg base "fraction" k_fraction 2 sp_fraction) (h_fraction : k_fraction ≤ k) (body : Body 2 2 (w_times sp_fraction) sp) : Callee P w K mg base "times" (k + 1) 2 sp :=
  callee_of F hm (F.binds (ps := ["one", "other"]) fun _ _ _ _ _ _ us hl => match us, hl with | [_, _], _ => rfl) sc_times rfl rfl (fun cdv A outer s H E hr => by
    unfold w_times
    exact (dss_one (ds_ret (d_calle C_fraction hr h_fraction (by rfl) (da_cons (d_op o_mul (d_ix i_ix (d_var 0) d_int) (d_ix i_ix (d_var 1) d_int)) (da_cons (d_op o_mul (d_ix i_ix (d_var 0) d_int) (d_ix i_ix (d_var 1) d_int)) da_nil)))))) body
abbrev s_power : Stmt := topS 6
theorem sc_power : L2.FnScope ["n", "k", "found", "step"] ["n", "k"] (L2.defScope s_power) := ⟨rfl, rfl, rfl, by decide +kernel, rfl, by decide +kernel, by decide +kernel⟩
theorem ok_power {f : Addr} {fd : FuncData} {k : Nat} {sp : Spc} (F : L2.Fun K "power" "power" s_power f fd) (hm : mg "power" = some (.ref f)) (m_range : mg "range" = none) (body : Body 4 2 (w_power ) sp) : Callee P w K mg base "power" (k + 1) 2 sp :=
  callee_of F hm (F.binds (ps := ["n", "k"]) fun _ _ _ _ _ _ us hl => match us, hl with | [_, _], _ => rfl) sc_power rfl rfl (fun cdv A outer s H E hr => by
    unfold w_power
    exact (dss_cons (ds_set 2 sc_power.nd d_int)
      (dss_cons (ds_for rfl PassesOwn.never (di_r1 (by rfl) m_range (d_var 1)) (dg_name 3 sc_power.nd) (dss_one (ds_aug 2 sc_power.nd i_mul (d_var 0))))
      (dss_one (ds_ret (d_var 2)))))) body
abbrev s_fair_part : Stmt := topS 7
theorem sc_fair_part : L2.FnScope ["p", "a", "b", "n", "d", "ways", "lost", "total", "scale", "k"] ["p", "a", "b"] (L2.defScope s_fair_part) := ⟨rfl, rfl, rfl, by decide +kernel, rfl, by decide +kernel, by decide +kernel⟩
theorem ok_fair_part {f : Addr} {fd : FuncData} {k : Nat} {sp : Spc} (F : L2.Fun K "fair_part" "fair_part" s_fair_part f fd) (hm : mg "fair_part" = some (.ref f)) (m_range : mg "range" = none) (hsee : base.NoSeer) (htree : P.given.tree = none) (h32 : 32 ≤ k) {sp_power : Spc} {k_power : Nat} (C_power : Callee P w K mg base "power" k_power 2 sp_power) (h_power : k_power ≤ k) {sp_fraction : Spc} {k_fraction : Nat} (C_fraction : Callee P w K mg base "fraction" k_fraction 2 sp_fraction) (h_fraction : k_fraction ≤ k) (body : Body 10 3 (w_fair_part sp_power sp_fraction) sp) : Callee P w K mg base "fair_part" (k + 1) 3 sp :=
  callee_of F hm (F.binds (ps := ["p", "a", "b"]) fun _ _ _ _ _ _ us hl => match us, hl with | [_, _, _], _ => rfl) sc_fair_part rfl rfl (fun cdv A outer s H E hr => by
    unfold w_fair_part
    exact (dss_cons (ds_asg (d_var 0) (dg_tup rfl (dgs_one 3 sc_fair_part.nd (dgs_one 4 sc_fair_part.nd .nil))))
      (dss_cons (ds_set 5 sc_fair_part.nd d_int)
      (dss_cons (ds_set 6 sc_fair_part.nd d_int)
      (dss_cons (ds_set 7 sc_fair_part.nd d_int)
      (dss_cons (ds_set 8 sc_fair_part.nd (d_calle C_power hr h_power (by rfl) (da_cons (d_var 4) (da_cons (d_op o_sub (d_var 2) d_int) da_nil))))
      (dss_cons (ds_for rfl PassesOwn.never (di_r1 (by rfl) m_range (d_var 2)) (dg_name 9 sc_fair_part.nd) (dss_cons (ds_aug 7 sc_fair_part.nd i_add (d_op o_mul (d_op o_mul (d_var 5) (d_var 6)) (d_var 8)))
      (dss_cons (ds_set 5 sc_fair_part.nd (d_op (o_divZ (big_of hsee htree rfl rfl hr h32)) (d_op o_mul (d_var 5) (d_op o_add (d_var 1) (d_var 9))) (d_op o_add (d_var 9) d_int)))
      (dss_cons (ds_aug 6 sc_fair_part.nd i_mul (d_op o_sub (d_var 4) (d_var 3)))
      (dss_one (ds_aug 8 sc_fair_part.nd i_div (d_var 4)))))))
      (dss_one (ds_ret (d_calle C_fraction hr h_fraction (by rfl) (da_cons (d_op o_mul (d_var 7) (d_calle C_power hr h_power (by rfl) (da_cons (d_var 3) (da_cons (d_var 1) da_nil)))) (da_cons (d_calle C_power hr h_power (by rfl) (da_cons (d_var 4) (da_cons (d_op o_sub (d_op o_add (d_var 1) (d_var 2)) d_int) da_nil))) da_nil)))))))))))) body
abbrev s_mean_games : Stmt := topS 8
theorem sc_mean_games : L2.FnScope ["p", "a", "b", "n", "d", "row", "left", "scale", "later", "other"] ["p", "a", "b"] (L2.defScope s_mean_games) := ⟨rfl, rfl, rfl, by decide +kernel, rfl, by decide +kernel, by decide +kernel⟩
theorem ok_mean_games {f : Addr} {fd : FuncData} {k : Nat} {sp : Spc} (F : L2.Fun K "mean_games" "mean_games" s_mean_games f fd) (hm : mg "mean_games" = some (.ref f)) (m_range : mg "range" = none) {sp_power : Spc} {k_power : Nat} (C_power : Callee P w K mg base "power" k_power 2 sp_power) (h_power : k_power ≤ k) {sp_fraction : Spc} {k_fraction : Nat} (C_fraction : Callee P w K mg base "fraction" k_fraction 2 sp_fraction) (h_fraction : k_fraction ≤ k) (body : Body 10 3 (w_mean_games sp_power sp_fraction) sp) : Callee P w K mg base "mean_games" (k + 1) 3 sp :=
  callee_of F hm (F.binds (ps := ["p", "a", "b"]) fun _ _ _ _ _ _ us hl => match us, hl with | [_, _, _], _ => rfl) sc_mean_games rfl rfl (fun cdv A outer s H E hr => by
    unfold w_mean_games
    exact (dss_cons (ds_asg (d_var 0) (dg_tup rfl (dgs_one 3 sc_mean_games.nd (dgs_one 4 sc_mean_games.nd .nil))))
      (dss_cons (ds_set 5 sc_mean_games.nd (d_op o_mul (d_lst (da_cons d_int da_nil)) (d_op o_add (d_var 2) d_int)))
      (dss_cons (ds_for rfl PassesOwn.never (di_r2 (by rfl) m_range d_int (d_op o_add (d_var 1) d_int)) (dg_name 6 sc_mean_games.nd) (dss_cons (ds_set 7 sc_mean_games.nd (d_calle C_power hr h_power (by rfl) (da_cons (d_var 4) (da_cons (d_op o_sub (d_var 6) d_int) da_nil))))
      (dss_cons (ds_set 8 sc_mean_games.nd (d_lst (da_cons d_int da_nil)))
      (dss_cons (ds_for rfl PassesOwn.never (di_r2 (by rfl) m_range d_int (d_op o_add (d_var 2) d_int)) (dg_name 9 sc_mean_games.nd) (dss_cons (ds_aug 7 sc_mean_games.nd i_mul (d_var 4))
      (dss_one (ds_expr (d_m PySem.F.slot_list_append PySem.F.type_list_append m_append (d_var 8) (da_cons (d_op o_add (d_op o_add (d_var 7) (d_op o_mul (d_var 3) (d_ix i_ix (d_var 5) (d_var 9)))) (d_op o_mul (d_op o_sub (d_var 4) (d_var 3)) (d_ix i_ix (d_var 8) (d_op o_sub (d_var 9) d_int)))) da_nil))))))
      (dss_one (ds_set 5 sc_mean_games.nd (d_var 8)))))))
      (dss_one (ds_ret (d_calle C_fraction hr h_fraction (by rfl) (da_cons (d_ix i_ix (d_var 5) (d_var 2)) (da_cons (d_calle C_power hr h_power (by rfl) (da_cons (d_var 4) (da_cons (d_op o_sub (d_op o_add (d_var 1) (d_var 2)) d_int) da_nil))) da_nil))))))))) body
abbrev s_fair_coins : Stmt := topS 9
theorem sc_fair_coins : L2.FnScope ["p", "a", "b", "coins", "n", "d", "down", "rest"] ["p", "a", "b", "coins"] (L2.defScope s_fair_coins) := ⟨rfl, rfl, rfl, by decide +kernel, rfl, by decide +kernel, by decide +kernel⟩
theorem ok_fair_coins {f : Addr} {fd : FuncData} {k : Nat} {sp : Spc} (F : L2.Fun K "fair_coins" "fair_coins" s_fair_coins f fd) (hm : mg "fair_coins" = some (.ref f)) (hsee : base.NoSeer) (htree : P.given.tree = none) (h32 : 32 ≤ k) {sp_fair_part : Spc} {k_fair_part : Nat} (C_fair_part : Callee P w K mg base "fair_part" k_fair_part 3 sp_fair_part) (h_fair_part : k_fair_part ≤ k) {sp_times : Spc} {k_times : Nat} (C_times : Callee P w K mg base "times" k_times 2 sp_times) (h_times : k_times ≤ k) (body : Body 8 4 (w_fair_coins sp_fair_part sp_times) sp) : Callee P w K mg base "fair_coins" (k + 1) 4 sp :=
  callee_of F hm (F.binds (ps := ["p", "a", "b", "coins"]) fun _ _ _ _ _ _ us hl => match us, hl with | [_, _, _, _], _ => rfl) sc_fair_coins rfl rfl (fun cdv A outer s H E hr => by
    unfold w_fair_coins
    exact (dss_cons (ds_asg (d_calle C_times hr h_times (by rfl) (da_cons (d_calle C_fair_part hr h_fair_part (by rfl) (da_cons (d_var 0) (da_cons (d_var 1) (da_cons (d_var 2) da_nil)))) (da_cons (d_tup (da_cons (d_var 3) (da_cons d_int da_nil))) da_nil))) (dg_tup rfl (dgs_one 4 sc_fair_coins.nd (dgs_one 5 sc_fair_coins.nd .nil))))
      (dss_cons (ds_par 6 7 rfl sc_fair_coins.nd (d_op (o_divZ (big_of hsee htree rfl rfl hr h32)) (d_var 4) (d_var 5)) (d_op o_mul d_int (d_op o_mod (d_var 4) (d_var 5))))
      (dss_one (ds_ret (d_if (PW.pt (dw_or (dt_cmp c_gt (d_var 7) (d_var 5)) (dw_or1 (PW.pt (dw_and (dt_cmp (c_eq hr) (d_var 7) (d_var 5)) (dw_and1 (dt_cmp (c_eq hr) (d_op o_mod (d_var 6) d_int) d_int))))))) (d_op o_add (d_var 6) d_int) (d_var 6))))))) body
abbrev s_law_draws : Stmt := topS 11
theorem sc_law_draws : L2.FnScope ["script", "many", "cells", "cell", "rest", "drawn", "k", "at", "once"] ["script", "many"] (L2.defScope s_law_draws) := ⟨rfl, rfl, rfl, by decide +kernel, rfl, by decide +kernel, by decide +kernel⟩
theorem ok_law_draws {f : Addr} {fd : FuncData} {k : Nat} {sp : Spc} (F : L2.Fun K "_law_draws" "_law_draws" s_law_draws f fd) (hm : mg "_law_draws" = some (.ref f)) (m_int : mg "int" = none) (m_len : mg "len" = none) (m_list : mg "list" = none) (m_range : mg "range" = none) (body : Body 9 2 (w_law_draws ) sp) : Callee P w K mg base "_law_draws" (k + 1) 2 sp :=
  callee_of F hm (F.binds (ps := ["script", "many"]) fun _ _ _ _ _ _ us hl => match us, hl with | [_, _], _ => rfl) sc_law_draws rfl rfl (fun cdv A outer s H E hr => by
    unfold w_law_draws
    exact (dss_cons (by first | exact (ds_set 2 sc_law_draws.nd (d_lc (own := [("cell", 3)]) rfl sc_law_draws.nd (di_it (d_var 0)) (L2.blkOk_by (by rfl)) (fun _ _ _ _ _ => (dg_name 3 sc_law_draws.nd)) (fun _ _ _ _ _ => dts_nil) (fun _ _ _ _ _ => (d_callT b_int (by rfl) m_int (by decide +kernel) (da_cons (d_var 3) da_nil))))) | exact (ds_setLc 2 (own := [("cell", 3)]) rfl sc_law_draws.nd (di_it (d_var 0)) (L2.blkOk_by (by rfl)) (fun _ _ _ _ _ => (dg_name 3 sc_law_draws.nd)) (fun _ _ _ _ _ => dts_nil) (fun _ _ _ _ _ => (d_callT b_int (by rfl) m_int (by decide +kernel) (da_cons (d_var 3) da_nil))) (L2.sw_true rfl rfl rfl (by decide +kernel))))
      (dss_cons (ds_if (dt_cmp (c_eq hr) (d_callB b_len (by rfl) m_len (by decide +kernel) (da_cons (d_var 2) da_nil)) d_int) (dss_one (ds_expr (d_m PySem.F.slot_list_append PySem.F.type_list_append m_append (d_var 2) (da_cons d_int da_nil)))) dss_nil)
      (dss_cons (ds_set 4 sc_law_draws.nd (d_callT b_list (by rfl) m_list (by decide +kernel) (da_cons (d_var 2) da_nil)))
      (dss_cons (ds_set 5 sc_law_draws.nd (d_lst da_nil))
      (dss_cons (ds_for rfl PassesOwn.never (di_r1 (by rfl) m_range (d_var 1)) (dg_name 6 sc_law_draws.nd) (dss_cons (ds_set 7 sc_law_draws.nd (d_op o_mod (d_var 6) (d_callB b_len (by rfl) m_len (by decide +kernel) (da_cons (d_var 2) da_nil))))
      (dss_one (ds_if (PW.pt (dw_and (dt_cmp c_ge (d_ix i_ix (d_var 2) (d_var 7)) (d_op o_pow d_int d_int)) (dw_and1 (dt_cmp c_gt (d_ix i_ix (d_var 4) (d_var 7)) d_int)))) (dss_cons (ds_expr (d_m PySem.F.slot_list_append PySem.F.type_list_append m_append (d_var 5) (da_cons (d_op o_mod (d_callT b_int (by rfl) m_int (by decide +kernel) (da_cons (d_ix i_ix (d_var 4) (d_var 7)) da_nil)) d_int) da_nil)))
      (dss_one (ds_sub p_put (d_op o_div (d_ix i_ix (d_var 4) (d_var 7)) d_int) (d_var 4) (d_var 7)))) (dss_cons (ds_set 8 sc_law_draws.nd (d_op o_mod (d_callT b_int (by rfl) m_int (by decide +kernel) (da_cons (d_op o_add (d_op o_add (d_op o_mul (d_ix i_ix (d_var 2) (d_var 7)) d_int) (d_op o_mul (d_var 6) d_int)) d_int) da_nil)) d_int))
      (dss_one (ds_expr (d_m PySem.F.slot_list_append PySem.F.type_list_append m_append (d_var 5) (da_cons (d_op o_mod (d_callT b_int (by rfl) m_int (by decide +kernel) (da_cons (d_op o_add (d_op o_add (d_op o_mul (d_var 8) (d_var 8)) (d_op o_mul d_int (d_var 8))) (d_var 6)) da_nil)) d_int) da_nil)))))))))
      (dss_cons (ds_expr (d_m0 PySem.F.slot_list_reverse PySem.F.type_list_reverse m_reverse (d_var 5)))
      (dss_one (ds_ret (d_var 5)))))))))) body
abbrev s_law_take : Stmt := topS 12
theorem sc_law_take : L2.FnScope ["draws", "many"] ["draws", "many"] (L2.defScope s_law_take) := ⟨rfl, rfl, rfl, by decide +kernel, rfl, by decide +kernel, by decide +kernel⟩
theorem ok_law_take {f : Addr} {fd : FuncData} {k : Nat} {sp : Spc} (F : L2.Fun K "_law_take" "_law_take" s_law_take f fd) (hm : mg "_law_take" = some (.ref f)) (m_len : mg "len" = none) (m_int : mg "int" = none) (body : Body 2 2 (w_law_take ) sp) : Callee P w K mg base "_law_take" (k + 1) 2 sp :=
  callee_of F hm (F.binds (ps := ["draws", "many"]) fun _ _ _ _ _ _ us hl => match us, hl with | [_, _], _ => rfl) sc_law_take rfl rfl (fun cdv A outer s H E hr => by
    unfold w_law_take
    exact (dss_cons (ds_if (dt_cmp (c_eq hr) (d_callB b_len (by rfl) m_len (by decide +kernel) (da_cons (d_var 0) da_nil)) d_int) (dss_one (ds_ret d_int)) dss_nil)
      (dss_one (ds_ret (d_op o_mod (d_callT b_int (by rfl) m_int (by decide +kernel) (da_cons (d_m0 PySem.F.slot_list_pop PySem.F.type_list_pop m_pop (d_var 0)) da_nil)) (d_var 1)))))) body
abbrev s_law_cell : Stmt := topS 13
theorem sc_law_cell : L2.FnScope ["script", "draws"] ["script", "draws"] (L2.defScope s_law_cell) := ⟨rfl, rfl, rfl, by decide +kernel, rfl, by decide +kernel, by decide +kernel⟩
theorem ok_law_cell {f : Addr} {fd : FuncData} {k : Nat} {sp : Spc} (F : L2.Fun K "_law_cell" "_law_cell" s_law_cell f fd) (hm : mg "_law_cell" = some (.ref f)) (m_len : mg "len" = none) (m_int : mg "int" = none) {sp_law_take : Spc} {k_law_take : Nat} (C_law_take : Callee P w K mg base "_law_take" k_law_take 2 sp_law_take) (h_law_take : k_law_take ≤ k) (body : Body 2 2 (w_law_cell sp_law_take) sp) : Callee P w K mg base "_law_cell" (k + 1) 2 sp :=
  callee_of F hm (F.binds (ps := ["script", "draws"]) fun _ _ _ _ _ _ us hl => match us, hl with | [_, _], _ => rfl) sc_law_cell rfl rfl (fun cdv A outer s H E hr => by
    unfold w_law_cell
    exact (dss_cons (ds_if (dt_cmp (c_eq hr) (d_callB b_len (by rfl) m_len (by decide +kernel) (da_cons (d_var 0) da_nil)) d_int) (dss_one (ds_ret d_int)) dss_nil)
      (dss_one (ds_ret (d_callT b_int (by rfl) m_int (by decide +kernel) (da_cons (d_ix i_ix (d_var 0) (d_calle C_law_take hr h_law_take (by rfl) (da_cons (d_var 1) (da_cons (d_callB b_len (by rfl) m_len (by decide +kernel) (da_cons (d_var 0) da_nil)) da_nil)))) da_nil)))))) body
abbrev s_law_same : Stmt := topS 14
theorem sc_law_same : L2.FnScope ["actual", "due", "k"] ["actual", "due"] (L2.defScope s_law_same) := ⟨rfl, rfl, rfl, by decide +kernel, rfl, by decide +kernel, by decide +kernel⟩
theorem ok_law_same {f : Addr} {fd : FuncData} {k : Nat} {sp : Spc} (F : L2.Fun K "_law_same" "_law_same" s_law_same f fd) (hm : mg "_law_same" = some (.ref f)) (m_bool : mg "bool" = none) (m_isinstance : mg "isinstance" = none) (m_int : mg "int" = none) (m_tuple : mg "tuple" = none) (m_len : mg "len" = none) (m_range : mg "range" = none) {sp_law_same : Spc} {k_law_same : Nat} (C_law_same : Callee P w K mg base "_law_same" k_law_same 2 sp_law_same) (h_law_same : k_law_same ≤ k) (body : Body 3 2 (w_law_same sp_law_same) sp) : Callee P w K mg base "_law_same" (k + 1) 2 sp :=
  callee_of F hm (F.binds (ps := ["actual", "due"]) fun _ _ _ _ _ _ us hl => match us, hl with | [_, _], _ => rfl) sc_law_same rfl rfl (fun cdv A outer s H E hr => by
    unfold w_law_same
    exact (dss_cons (ds_if (dt_cmp c_is (d_var 1) d_non) (dss_one (ds_ret (d_cmp c_is (d_var 0) d_non))) dss_nil)
      (dss_cons (ds_if (dt_val (d_callB b_isi (by rfl) m_isinstance (by decide +kernel) (da_cons (d_var 1) (da_cons (d_ty (by rfl) m_bool (by decide +kernel)) da_nil)))) (dss_one (ds_ret (d_and (d_callB b_isi (by rfl) m_isinstance (by decide +kernel) (da_cons (d_var 0) (da_cons (d_ty (by rfl) m_bool (by decide +kernel)) da_nil))) (d_one (d_cmp (c_eq hr) (d_var 0) (d_var 1)))))) dss_nil)
      (dss_cons (ds_if (dt_val (d_callB b_isi (by rfl) m_isinstance (by decide +kernel) (da_cons (d_var 1) (da_cons (d_ty (by rfl) m_int (by decide +kernel)) da_nil)))) (dss_one (ds_ret (d_and (d_callB b_isi (by rfl) m_isinstance (by decide +kernel) (da_cons (d_var 0) (da_cons (d_ty (by rfl) m_int (by decide +kernel)) da_nil))) (d_and (d_not (d_callB b_isi (by rfl) m_isinstance (by decide +kernel) (da_cons (d_var 0) (da_cons (d_ty (by rfl) m_bool (by decide +kernel)) da_nil)))) (d_one (d_cmp (c_eq hr) (d_var 0) (d_var 1))))))) dss_nil)
      (dss_cons (ds_if (PW.pt (dw_or (dt_not (dt_val (d_callB b_isi (by rfl) m_isinstance (by decide +kernel) (da_cons (d_var 0) (da_cons (d_ty (by rfl) m_tuple (by decide +kernel)) da_nil))))) (dw_or1 (dt_cmp (c_ne hr) (d_callB b_len (by rfl) m_len (by decide +kernel) (da_cons (d_var 0) da_nil)) (d_callB b_len (by rfl) m_len (by decide +kernel) (da_cons (d_var 1) da_nil)))))) (dss_one (ds_ret d_bl)) dss_nil)
      (dss_cons (ds_for rfl PassesOwn.never (di_r1 (by rfl) m_range (d_callB b_len (by rfl) m_len (by decide +kernel) (da_cons (d_var 1) da_nil))) (dg_name 2 sc_law_same.nd) (dss_one (ds_if (dt_not (dt_val (d_calle C_law_same hr h_law_same (by rfl) (da_cons (d_ix i_ix (d_var 0) (d_var 2)) (da_cons (d_ix i_ix (d_var 1) (d_var 2)) da_nil))))) (dss_one (ds_ret d_bl)) dss_nil)))
      (dss_one (ds_ret d_bl)))))))) body
abbrev s_law_lowest : Stmt := topS 15
theorem sc_law_lowest : L2.FnScope ["n", "d", "one", "other"] ["n", "d"] (L2.defScope s_law_lowest) := ⟨rfl, rfl, rfl, by decide +kernel, rfl, by decide +kernel, by decide +kernel⟩
theorem ok_law_lowest {f : Addr} {fd : FuncData} {k : Nat} {sp : Spc} (F : L2.Fun K "_law_lowest" "_law_lowest" s_law_lowest f fd) (hm : mg "_law_lowest" = some (.ref f)) (m_abs : mg "abs" = none) (m_int : mg "int" = none) (hsee : base.NoSeer) (htree : P.given.tree = none) (h32 : 32 ≤ k) (body : Body 4 2 (w_law_lowest ) sp) : Callee P w K mg base "_law_lowest" (k + 1) 2 sp :=
  callee_of F hm (F.binds (ps := ["n", "d"]) fun _ _ _ _ _ _ us hl => match us, hl with | [_, _], _ => rfl) sc_law_lowest rfl rfl (fun cdv A outer s H E hr => by
    unfold w_law_lowest
    exact (dss_cons (ds_set 2 sc_law_lowest.nd (d_callB b_abs (by rfl) m_abs (by decide +kernel) (da_cons (d_var 0) da_nil)))
      (dss_cons (ds_set 3 sc_law_lowest.nd (d_var 1))
      (dss_cons (ds_while PassesOwn.never (dt_cmp c_gt (d_var 3) d_int) (dss_one (ds_par 2 3 rfl sc_law_lowest.nd (d_var 3) (d_op o_mod (d_callT b_int (by rfl) m_int (by decide +kernel) (da_cons (d_var 2) da_nil)) (d_var 3)))))
      (dss_one (ds_ret (d_tup (da_cons (d_op (o_divZ (big_of hsee htree rfl rfl hr h32)) (d_var 0) (d_var 2)) (da_cons (d_op (o_divZ (big_of hsee htree rfl rfl hr h32)) (d_var 1) (d_var 2)) da_nil))))))))) body
abbrev s_law_plus : Stmt := topS 16
theorem sc_law_plus : L2.FnScope ["one", "other"] ["one", "other"] (L2.defScope s_law_plus) := ⟨rfl, rfl, rfl, by decide +kernel, rfl, by decide +kernel, by decide +kernel⟩
theorem ok_law_plus {f : Addr} {fd : FuncData} {k : Nat} {sp : Spc} (F : L2.Fun K "_law_plus" "_law_plus" s_law_plus f fd) (hm : mg "_law_plus" = some (.ref f)) {sp_law_lowest : Spc} {k_law_lowest : Nat} (C_law_lowest : Callee P w K mg base "_law_lowest" k_law_lowest 2 sp_law_lowest) (h_law_lowest : k_law_lowest ≤ k) (body : Body 2 2 (w_law_plus sp_law_lowest) sp) : Callee P w K mg base "_law_plus" (k + 1) 2 sp :=
  callee_of F hm (F.binds (ps := ["one", "other"]) fun _ _ _ _ _ _ us hl => match us, hl with | [_, _], _ => rfl) sc_law_plus rfl rfl (fun cdv A outer s H E hr => by
    unfold w_law_plus
    exact (dss_one (ds_ret (d_calle C_law_lowest hr h_law_lowest (by rfl) (da_cons (d_op o_add (d_op o_mul (d_ix i_ix (d_var 0) d_int) (d_ix i_ix (d_var 1) d_int)) (d_op o_mul (d_ix i_ix (d_var 1) d_int) (d_ix i_ix (d_var 0) d_int))) (da_cons (d_op o_mul (d_ix i_ix (d_var 0) d_int) (d_ix i_ix (d_var 1) d_int)) da_nil)))))) body
abbrev s_law_chance : Stmt := topS 17
theorem sc_law_chance : L2.FnScope ["script", "draws", "kind", "d", "n"] ["script", "draws"] (L2.defScope s_law_chance) := ⟨rfl, rfl, rfl, by decide +kernel, rfl, by decide +kernel, by decide +kernel⟩
theorem ok_law_chance {f : Addr} {fd : FuncData} {k : Nat} {sp : Spc} (F : L2.Fun K "_law_chance" "_law_chance" s_law_chance f fd) (hm : mg "_law_chance" = some (.ref f)) (m_abs : mg "abs" = none) (m_int : mg "int" = none) {sp_law_take : Spc} {k_law_take : Nat} (C_law_take : Callee P w K mg base "_law_take" k_law_take 2 sp_law_take) (h_law_take : k_law_take ≤ k) {sp_law_cell : Spc} {k_law_cell : Nat} (C_law_cell : Callee P w K mg base "_law_cell" k_law_cell 2 sp_law_cell) (h_law_cell : k_law_cell ≤ k) {sp_law_lowest : Spc} {k_law_lowest : Nat} (C_law_lowest : Callee P w K mg base "_law_lowest" k_law_lowest 2 sp_law_lowest) (h_law_lowest : k_law_lowest ≤ k) (body : Body 5 2 (w_law_chance sp_law_take sp_law_cell sp_law_lowest) sp) : Callee P w K mg base "_law_chance" (k + 1) 2 sp :=
  callee_of F hm (F.binds (ps := ["script", "draws"]) fun _ _ _ _ _ _ us hl => match us, hl with | [_, _], _ => rfl) sc_law_chance rfl rfl (fun cdv A outer s H E hr => by
    unfold w_law_chance
    exact (dss_cons (ds_set 2 sc_law_chance.nd (d_calle C_law_take hr h_law_take (by rfl) (da_cons (d_var 1) (da_cons d_int da_nil))))
      (dss_cons (ds_if (dt_cmp (c_eq hr) (d_var 2) d_int) (dss_one (ds_ret (d_ix i_ix (d_lst (da_cons (d_tup (da_cons d_int (da_cons d_int da_nil))) (da_cons (d_tup (da_cons d_int (da_cons d_int da_nil))) da_nil))) (d_calle C_law_take hr h_law_take (by rfl) (da_cons (d_var 1) (da_cons d_int da_nil)))))) dss_nil)
      (dss_cons (ds_set 3 sc_law_chance.nd (d_op o_add d_int (d_calle C_law_take hr h_law_take (by rfl) (da_cons (d_var 1) (da_cons (d_ix i_ix (d_lst (da_cons d_int (da_cons d_int da_nil))) (d_calle C_law_take hr h_law_take (by rfl) (da_cons (d_var 1) (da_cons d_int da_nil)))) da_nil)))))
      (dss_cons (ds_if (dt_cmp (c_eq hr) (d_var 2) d_int) (dss_one (ds_set 3 sc_law_chance.nd (d_op o_add d_int (d_op o_mod (d_callT b_int (by rfl) m_int (by decide +kernel) (da_cons (d_callB b_abs (by rfl) m_abs (by decide +kernel) (da_cons (d_calle C_law_cell hr h_law_cell (by rfl) (da_cons (d_var 0) (da_cons (d_var 1) da_nil))) da_nil)) da_nil)) (d_op o_sub (d_op o_pow d_int d_int) d_int))))) dss_nil)
      (dss_cons (ds_set 4 sc_law_chance.nd (d_op o_mod (d_callT b_int (by rfl) m_int (by decide +kernel) (da_cons (d_op o_add (d_op o_add (d_op o_mul (d_calle C_law_take hr h_law_take (by rfl) (da_cons (d_var 1) (da_cons d_int da_nil))) (d_op o_pow d_int d_int)) (d_callB b_abs (by rfl) m_abs (by decide +kernel) (da_cons (d_calle C_law_cell hr h_law_cell (by rfl) (da_cons (d_var 0) (da_cons (d_var 1) da_nil))) da_nil))) (d_calle C_law_take hr h_law_take (by rfl) (da_cons (d_var 1) (da_cons d_int da_nil)))) da_nil)) (d_op o_add (d_var 3) d_int)))
      (dss_one (ds_ret (d_calle C_law_lowest hr h_law_lowest (by rfl) (da_cons (d_var 4) (da_cons (d_var 3) da_nil))))))))))) body
abbrev s_law_power : Stmt := topS 18
theorem sc_law_power : L2.FnScope ["n", "k", "found", "step"] ["n", "k"] (L2.defScope s_law_power) := ⟨rfl, rfl, rfl, by decide +kernel, rfl, by decide +kernel, by decide +kernel⟩
theorem ok_law_power {f : Addr} {fd : FuncData} {k : Nat} {sp : Spc} (F : L2.Fun K "_law_power" "_law_power" s_law_power f fd) (hm : mg "_law_power" = some (.ref f)) (m_range : mg "range" = none) (body : Body 4 2 (w_law_power ) sp) : Callee P w K mg base "_law_power" (k + 1) 2 sp :=
  callee_of F hm (F.binds (ps := ["n", "k"]) fun _ _ _ _ _ _ us hl => match us, hl with | [_, _], _ => rfl) sc_law_power rfl rfl (fun cdv A outer s H E hr => by
    unfold w_law_power
    exact (dss_cons (ds_set 2 sc_law_power.nd d_int)
      (dss_cons (ds_for rfl PassesOwn.never (di_r1 (by rfl) m_range (d_var 1)) (dg_name 3 sc_law_power.nd) (dss_one (ds_set 2 sc_law_power.nd (d_op o_mul (d_var 2) (d_var 0)))))
      (dss_one (ds_ret (d_var 2)))))) body
abbrev s_law_part : Stmt := topS 19
theorem sc_law_part : L2.FnScope ["p", "a", "b", "n", "d", "games", "ways", "lost", "found", "k"] ["p", "a", "b"] (L2.defScope s_law_part) := ⟨rfl, rfl, rfl, by decide +kernel, rfl, by decide +kernel, by decide +kernel⟩
theorem ok_law_part {f : Addr} {fd : FuncData} {k : Nat} {sp : Spc} (F : L2.Fun K "_law_part" "_law_part" s_law_part f fd) (hm : mg "_law_part" = some (.ref f)) (m_range : mg "range" = none) (hsee : base.NoSeer) (htree : P.given.tree = none) (h32 : 32 ≤ k) {sp_law_power : Spc} {k_law_power : Nat} (C_law_power : Callee P w K mg base "_law_power" k_law_power 2 sp_law_power) (h_law_power : k_law_power ≤ k) {sp_law_lowest : Spc} {k_law_lowest : Nat} (C_law_lowest : Callee P w K mg base "_law_lowest" k_law_lowest 2 sp_law_lowest) (h_law_lowest : k_law_lowest ≤ k) (body : Body 10 3 (w_law_part sp_law_power sp_law_lowest) sp) : Callee P w K mg base "_law_part" (k + 1) 3 sp :=
  callee_of F hm (F.binds (ps := ["p", "a", "b"]) fun _ _ _ _ _ _ us hl => match us, hl with | [_, _, _], _ => rfl) sc_law_part rfl rfl (fun cdv A outer s H E hr => by
    unfold w_law_part
    exact (dss_cons (ds_asg (d_var 0) (dg_tup rfl (dgs_one 3 sc_law_part.nd (dgs_one 4 sc_law_part.nd .nil))))
      (dss_cons (ds_set 5 sc_law_part.nd (d_op o_sub (d_op o_add (d_var 1) (d_var 2)) d_int))
      (dss_cons (ds_set 6 sc_law_part.nd d_int)
      (dss_cons (ds_set 7 sc_law_part.nd d_int)
      (dss_cons (ds_set 8 sc_law_part.nd d_int)
      (dss_cons (ds_for rfl PassesOwn.never (di_r1 (by rfl) m_range (d_var 2)) (dg_name 9 sc_law_part.nd) (dss_cons (ds_set 8 sc_law_part.nd (d_op o_add (d_op o_mul (d_var 8) (d_var 3)) (d_op o_mul (d_var 6) (d_var 7))))
      (dss_cons (ds_set 6 sc_law_part.nd (d_op (o_divZ (big_of hsee htree rfl rfl hr h32)) (d_op o_mul (d_var 6) (d_op o_sub (d_var 5) (d_var 9))) (d_op o_add (d_var 9) d_int)))
      (dss_one (ds_set 7 sc_law_part.nd (d_op o_mul (d_var 7) (d_op o_sub (d_var 4) (d_var 3))))))))
      (dss_one (ds_ret (d_calle C_law_lowest hr h_law_lowest (by rfl) (da_cons (d_op o_mul (d_var 8) (d_calle C_law_power hr h_law_power (by rfl) (da_cons (d_var 3) (da_cons (d_var 1) da_nil)))) (da_cons (d_calle C_law_power hr h_law_power (by rfl) (da_cons (d_var 4) (da_cons (d_var 5) da_nil))) da_nil)))))))))))) body
abbrev s_law_mean : Stmt := topS 20
theorem sc_law_mean : L2.FnScope ["p", "a", "b", "n", "d", "row", "won", "lost", "total_of", "games", "first", "some", "k"] ["p", "a", "b"] (L2.defScope s_law_mean) := ⟨rfl, rfl, rfl, by decide +kernel, rfl, by decide +kernel, by decide +kernel⟩
theorem ok_law_mean {f : Addr} {fd : FuncData} {k : Nat} {sp : Spc} (F : L2.Fun K "_law_mean" "_law_mean" s_law_mean f fd) (hm : mg "_law_mean" = some (.ref f)) (m_range : mg "range" = none) (m_max : mg "max" = none) (m_min : mg "min" = none) (m_sum : mg "sum" = none) {sp_law_power : Spc} {k_law_power : Nat} (C_law_power : Callee P w K mg base "_law_power" k_law_power 2 sp_law_power) (h_law_power : k_law_power ≤ k) {sp_law_lowest : Spc} {k_law_lowest : Nat} (C_law_lowest : Callee P w K mg base "_law_lowest" k_law_lowest 2 sp_law_lowest) (h_law_lowest : k_law_lowest ≤ k) (body : Body 13 3 (w_law_mean sp_law_power sp_law_lowest) sp) : Callee P w K mg base "_law_mean" (k + 1) 3 sp :=
  callee_of F hm (F.binds (ps := ["p", "a", "b"]) fun _ _ _ _ _ _ us hl => match us, hl with | [_, _, _], _ => rfl) sc_law_mean rfl rfl (fun cdv A outer s H E hr => by
    unfold w_law_mean
    exact (dss_cons (ds_asg (d_var 0) (dg_tup rfl (dgs_one 3 sc_law_mean.nd (dgs_one 4 sc_law_mean.nd .nil))))
      (dss_cons (ds_set 5 sc_law_mean.nd (d_lst (da_cons d_int da_nil)))
      (dss_cons (ds_set 6 sc_law_mean.nd (d_lst (da_cons d_int da_nil)))
      (dss_cons (ds_set 7 sc_law_mean.nd (d_lst (da_cons d_int da_nil)))
      (dss_cons (ds_set 8 sc_law_mean.nd d_int)
      (dss_cons (ds_for rfl PassesOwn.never (di_r1 (by rfl) m_range (d_op o_sub (d_op o_add (d_var 1) (d_var 2)) d_int)) (dg_name 9 sc_law_mean.nd) (dss_cons (ds_set 10 sc_law_mean.nd (d_callB (b_max2 rfl) (by rfl) m_max (by decide +kernel) (da_cons d_int (da_cons (d_op o_add (d_op o_sub (d_var 9) (d_var 2)) d_int) da_nil))))
      (dss_cons (ds_set 11 sc_law_mean.nd (d_callB (b_sum rfl) (by rfl) m_sum (by decide +kernel) (da_cons (d_lc (own := [("k", 12)]) rfl sc_law_mean.nd (di_r2 (by rfl) m_range (d_var 10) (d_op o_add (d_callB (b_min2 rfl) (by rfl) m_min (by decide +kernel) (da_cons (d_op o_sub (d_var 1) d_int) (da_cons (d_var 9) da_nil))) d_int)) (L2.blkOk_by (by rfl)) (fun _ _ _ _ _ => (dg_name 12 sc_law_mean.nd)) (fun _ _ _ _ _ => dts_nil) (fun _ _ _ _ _ => (d_op o_mul (d_op o_mul (d_ix i_ix (d_var 5) (d_var 12)) (d_ix i_ix (d_var 6) (d_var 12))) (d_ix i_ix (d_var 7) (d_op o_sub (d_var 9) (d_var 12)))))) da_nil)))
      (dss_cons (ds_set 8 sc_law_mean.nd (d_op o_add (d_op o_mul (d_var 8) (d_var 4)) (d_var 11)))
      (dss_cons (ds_set 5 sc_law_mean.nd (d_op o_add (d_op o_add (d_lst (da_cons d_int da_nil)) (d_lc (own := [("k", 12)]) rfl sc_law_mean.nd (di_r1 (by rfl) m_range (d_var 9)) (L2.blkOk_by (by rfl)) (fun _ _ _ _ _ => (dg_name 12 sc_law_mean.nd)) (fun _ _ _ _ _ => dts_nil) (fun _ _ _ _ _ => (d_op o_add (d_ix i_ix (d_var 5) (d_var 12)) (d_ix i_ix (d_var 5) (d_op o_add (d_var 12) d_int)))))) (d_lst (da_cons d_int da_nil))))
      (dss_cons (ds_expr (d_m PySem.F.slot_list_append PySem.F.type_list_append m_append (d_var 6) (da_cons (d_op o_mul (d_ix i_ix (d_var 6) (d_un u_neg d_int)) (d_var 3)) da_nil)))
      (dss_one (ds_expr (d_m PySem.F.slot_list_append PySem.F.type_list_append m_append (d_var 7) (da_cons (d_op o_mul (d_ix i_ix (d_var 7) (d_un u_neg d_int)) (d_op o_sub (d_var 4) (d_var 3))) da_nil))))))))))
      (dss_one (ds_ret (d_calle C_law_lowest hr h_law_lowest (by rfl) (da_cons (d_var 8) (da_cons (d_calle C_law_power hr h_law_power (by rfl) (da_cons (d_var 4) (da_cons (d_op o_sub (d_op o_add (d_var 1) (d_var 2)) d_int) da_nil))) da_nil)))))))))))) body
abbrev s_law_by_games : Stmt := topS 21
theorem sc_law_by_games : L2.FnScope ["p", "a", "b", "first", "other", "found", "k", "one"] ["p", "a", "b"] (L2.defScope s_law_by_games) := ⟨rfl, rfl, rfl, by decide +kernel, rfl, by decide +kernel, by decide +kernel⟩
theorem ok_law_by_games {f : Addr} {fd : FuncData} {k : Nat} {sp : Spc} (F : L2.Fun K "_law_by_games" "_law_by_games" s_law_by_games f fd) (hm : mg "_law_by_games" = some (.ref f)) (m_range : mg "range" = none) {sp_law_by_games : Spc} {k_law_by_games : Nat} (C_law_by_games : Callee P w K mg base "_law_by_games" k_law_by_games 3 sp_law_by_games) (h_law_by_games : k_law_by_games ≤ k) {sp_law_lowest : Spc} {k_law_lowest : Nat} (C_law_lowest : Callee P w K mg base "_law_lowest" k_law_lowest 2 sp_law_lowest) (h_law_lowest : k_law_lowest ≤ k) {sp_law_plus : Spc} {k_law_plus : Nat} (C_law_plus : Callee P w K mg base "_law_plus" k_law_plus 2 sp_law_plus) (h_law_plus : k_law_plus ≤ k) (body : Body 8 3 (w_law_by_games sp_law_by_games sp_law_lowest sp_law_plus) sp) : Callee P w K mg base "_law_by_games" (k + 1) 3 sp :=
  callee_of F hm (F.binds (ps := ["p", "a", "b"]) fun _ _ _ _ _ _ us hl => match us, hl with | [_, _, _], _ => rfl) sc_law_by_games rfl rfl (fun cdv A outer s H E hr => by
    unfold w_law_by_games
    exact (dss_cons (ds_if (dt_cmp (c_eq hr) (d_var 1) d_int) (dss_one (ds_ret (d_tup (da_cons (d_tup (da_cons d_int (da_cons d_int da_nil))) (da_cons (d_tup (da_cons d_int (da_cons d_int da_nil))) da_nil))))) dss_nil)
      (dss_cons (ds_if (dt_cmp (c_eq hr) (d_var 2) d_int) (dss_one (ds_ret (d_tup (da_cons (d_tup (da_cons d_int (da_cons d_int da_nil))) (da_cons (d_tup (da_cons d_int (da_cons d_int da_nil))) da_nil))))) dss_nil)
      (dss_cons (ds_set 3 sc_law_by_games.nd (d_calle C_law_by_games hr h_law_by_games (by rfl) (da_cons (d_var 0) (da_cons (d_op o_sub (d_var 1) d_int) (da_cons (d_var 2) da_nil)))))
      (dss_cons (ds_set 4 sc_law_by_games.nd (d_calle C_law_by_games hr h_law_by_games (by rfl) (da_cons (d_var 0) (da_cons (d_var 1) (da_cons (d_op o_sub (d_var 2) d_int) da_nil)))))
      (dss_cons (ds_set 5 sc_law_by_games.nd (d_lst da_nil))
      (dss_cons (ds_for rfl PassesOwn.never (di_r1 (by rfl) m_range d_int) (dg_name 6 sc_law_by_games.nd) (dss_cons (ds_set 7 sc_law_by_games.nd (d_calle C_law_lowest hr h_law_lowest (by rfl) (da_cons (d_op o_mul (d_ix i_ix (d_var 0) d_int) (d_ix i_ix (d_ix i_ix (d_var 3) (d_var 6)) d_int)) (da_cons (d_op o_mul (d_ix i_ix (d_var 0) d_int) (d_ix i_ix (d_ix i_ix (d_var 3) (d_var 6)) d_int)) da_nil))))
      (dss_one (ds_expr (d_m PySem.F.slot_list_append PySem.F.type_list_append m_append (d_var 5) (da_cons (d_calle C_law_plus hr h_law_plus (by rfl) (da_cons (d_var 7) (da_cons (d_calle C_law_lowest hr h_law_lowest (by rfl) (da_cons (d_op o_mul (d_op o_sub (d_ix i_ix (d_var 0) d_int) (d_ix i_ix (d_var 0) d_int)) (d_ix i_ix (d_ix i_ix (d_var 4) (d_var 6)) d_int)) (da_cons (d_op o_mul (d_ix i_ix (d_var 0) d_int) (d_ix i_ix (d_ix i_ix (d_var 4) (d_var 6)) d_int)) da_nil))) da_nil))) da_nil))))))
      (dss_one (ds_ret (d_tup (da_cons (d_ix i_ix (d_var 5) d_int) (da_cons (d_calle C_law_plus hr h_law_plus (by rfl) (da_cons (d_ix i_ix (d_var 5) d_int) (da_cons (d_tup (da_cons d_int (da_cons d_int da_nil))) da_nil))) da_nil)))))))))))) body
abbrev s_law_is_told : Stmt := topS 22
theorem sc_law_is_told : L2.FnScope ["p", "a", "b", "due", "mean_due"] ["p", "a", "b"] (L2.defScope s_law_is_told) := ⟨rfl, rfl, rfl, by decide +kernel, rfl, by decide +kernel, by decide +kernel⟩
theorem ok_law_is_told {f : Addr} {fd : FuncData} {k : Nat} {sp : Spc} (F : L2.Fun K "_law_is_told" "_law_is_told" s_law_is_told f fd) (hm : mg "_law_is_told" = some (.ref f)) {sp_law_part : Spc} {k_law_part : Nat} (C_law_part : Callee P w K mg base "_law_part" k_law_part 3 sp_law_part) (h_law_part : k_law_part ≤ k) {sp_fair_part : Spc} {k_fair_part : Nat} (C_fair_part : Callee P w K mg base "fair_part" k_fair_part 3 sp_fair_part) (h_fair_part : k_fair_part ≤ k) {sp_law_same : Spc} {k_law_same : Nat} (C_law_same : Callee P w K mg base "_law_same" k_law_same 2 sp_law_same) (h_law_same : k_law_same ≤ k) {sp_law_mean : Spc} {k_law_mean : Nat} (C_law_mean : Callee P w K mg base "_law_mean" k_law_mean 3 sp_law_mean) (h_law_mean : k_law_mean ≤ k) {sp_law_by_games : Spc} {k_law_by_games : Nat} (C_law_by_games : Callee P w K mg base "_law_by_games" k_law_by_games 3 sp_law_by_games) (h_law_by_games : k_law_by_games ≤ k) {sp_mean_games : Spc} {k_mean_games : Nat} (C_mean_games : Callee P w K mg base "mean_games" k_mean_games 3 sp_mean_games) (h_mean_games : k_mean_games ≤ k) (body : Body 5 3 (w_law_is_told sp_law_part sp_fair_part sp_law_same sp_law_mean sp_law_by_games sp_mean_games) sp) : Callee P w K mg base "_law_is_told" (k + 1) 3 sp :=
  callee_of F hm (F.binds (ps := ["p", "a", "b"]) fun _ _ _ _ _ _ us hl => match us, hl with | [_, _, _], _ => rfl) sc_law_is_told rfl rfl (fun cdv A outer s H E hr => by
    unfold w_law_is_told
    exact (dss_cons (ds_set 3 sc_law_is_told.nd (d_calle C_law_part hr h_law_part (by rfl) (da_cons (d_var 0) (da_cons (d_var 1) (da_cons (d_var 2) da_nil)))))
      (dss_cons (ds_if (dt_not (dt_val (d_calle C_law_same hr h_law_same (by rfl) (da_cons (d_calle C_fair_part hr h_fair_part (by rfl) (da_cons (d_var 0) (da_cons (d_var 1) (da_cons (d_var 2) da_nil)))) (da_cons (d_var 3) da_nil))))) (dss_one (ds_ret d_bl)) dss_nil)
      (dss_cons (ds_if (PW.pt (dw_and (dt_cmp c_le (d_var 1) d_int) (dw_and1 (dt_cmp c_le (d_var 2) d_int)))) (dss_cons (ds_set 4 sc_law_is_told.nd (d_calle C_law_mean hr h_law_mean (by rfl) (da_cons (d_var 0) (da_cons (d_var 1) (da_cons (d_var 2) da_nil)))))
      (dss_cons (ds_if (PW.pt (dw_and (dt_cmp c_le (d_var 1) d_int) (dw_and (dt_cmp c_le (d_var 2) d_int) (dw_and1 (dt_cmp (c_ne hr) (d_calle C_law_by_games hr h_law_by_games (by rfl) (da_cons (d_var 0) (da_cons (d_var 1) (da_cons (d_var 2) da_nil)))) (d_tup (da_cons (d_var 3) (da_cons (d_var 4) da_nil)))))))) (dss_one (ds_ret d_bl)) dss_nil)
      (dss_one (ds_if (dt_not (dt_val (d_calle C_law_same hr h_law_same (by rfl) (da_cons (d_calle C_mean_games hr h_mean_games (by rfl) (da_cons (d_var 0) (da_cons (d_var 1) (da_cons (d_var 2) da_nil)))) (da_cons (d_var 4) da_nil))))) (dss_one (ds_ret d_bl)) dss_nil)))) dss_nil)
      (dss_one (ds_ret d_bl)))))) body
abbrev s_law_coins : Stmt := topS 23
theorem sc_law_coins : L2.FnScope ["part", "coins", "n", "d", "down", "rest"] ["part", "coins"] (L2.defScope s_law_coins) := ⟨rfl, rfl, rfl, by decide +kernel, rfl, by decide +kernel, by decide +kernel⟩
theorem ok_law_coins {f : Addr} {fd : FuncData} {k : Nat} {sp : Spc} (F : L2.Fun K "_law_coins" "_law_coins" s_law_coins f fd) (hm : mg "_law_coins" = some (.ref f)) (hsee : base.NoSeer) (htree : P.given.tree = none) (h32 : 32 ≤ k) (body : Body 6 2 (w_law_coins ) sp) : Callee P w K mg base "_law_coins" (k + 1) 2 sp :=
  callee_of F hm (F.binds (ps := ["part", "coins"]) fun _ _ _ _ _ _ us hl => match us, hl with | [_, _], _ => rfl) sc_law_coins rfl rfl (fun cdv A outer s H E hr => by
    unfold w_law_coins
    exact (dss_cons (ds_set 2 sc_law_coins.nd (d_op o_mul (d_ix i_ix (d_var 0) d_int) (d_var 1)))
      (dss_cons (ds_set 3 sc_law_coins.nd (d_ix i_ix (d_var 0) d_int))
      (dss_cons (ds_set 4 sc_law_coins.nd (d_op (o_divZ (big_of hsee htree rfl rfl hr h32)) (d_var 2) (d_var 3)))
      (dss_cons (ds_set 5 sc_law_coins.nd (d_op o_mul d_int (d_op o_sub (d_var 2) (d_op o_mul (d_var 4) (d_var 3)))))
      (dss_cons (ds_if (PW.pt (dw_or (dt_cmp c_gt (d_var 5) (d_var 3)) (dw_or1 (PW.pt (dw_and (dt_cmp (c_eq hr) (d_var 5) (d_var 3)) (dw_and1 (dt_cmp (c_eq hr) (d_op o_sub (d_var 4) (d_op o_mul d_int (d_op o_div (d_var 4) d_int))) d_int))))))) (dss_one (ds_ret (d_op o_add (d_var 4) d_int))) dss_nil)
      (dss_one (ds_ret (d_var 4))))))))) body
abbrev s_law_b_is_told : Stmt := topS 24
theorem sc_law_b_is_told : L2.FnScope ["p", "a", "b", "coins"] ["p", "a", "b", "coins"] (L2.defScope s_law_b_is_told) := ⟨rfl, rfl, rfl, by decide +kernel, rfl, by decide +kernel, by decide +kernel⟩
theorem ok_law_b_is_told {f : Addr} {fd : FuncData} {k : Nat} {sp : Spc} (F : L2.Fun K "_law_b_is_told" "_law_b_is_told" s_law_b_is_told f fd) (hm : mg "_law_b_is_told" = some (.ref f)) {sp_law_part : Spc} {k_law_part : Nat} (C_law_part : Callee P w K mg base "_law_part" k_law_part 3 sp_law_part) (h_law_part : k_law_part ≤ k) {sp_law_coins : Spc} {k_law_coins : Nat} (C_law_coins : Callee P w K mg base "_law_coins" k_law_coins 2 sp_law_coins) (h_law_coins : k_law_coins ≤ k) {sp_fair_coins : Spc} {k_fair_coins : Nat} (C_fair_coins : Callee P w K mg base "fair_coins" k_fair_coins 4 sp_fair_coins) (h_fair_coins : k_fair_coins ≤ k) {sp_law_same : Spc} {k_law_same : Nat} (C_law_same : Callee P w K mg base "_law_same" k_law_same 2 sp_law_same) (h_law_same : k_law_same ≤ k) (body : Body 4 4 (w_law_b_is_told sp_law_part sp_law_coins sp_fair_coins sp_law_same) sp) : Callee P w K mg base "_law_b_is_told" (k + 1) 4 sp :=
  callee_of F hm (F.binds (ps := ["p", "a", "b", "coins"]) fun _ _ _ _ _ _ us hl => match us, hl with | [_, _, _, _], _ => rfl) sc_law_b_is_told rfl rfl (fun cdv A outer s H E hr => by
    unfold w_law_b_is_told
    exact (dss_one (ds_ret (d_calle C_law_same hr h_law_same (by rfl) (da_cons (d_calle C_fair_coins hr h_fair_coins (by rfl) (da_cons (d_var 0) (da_cons (d_var 1) (da_cons (d_var 2) (da_cons (d_var 3) da_nil))))) (da_cons (d_calle C_law_coins hr h_law_coins (by rfl) (da_cons (d_calle C_law_part hr h_law_part (by rfl) (da_cons (d_var 0) (da_cons (d_var 1) (da_cons (d_var 2) da_nil)))) (da_cons (d_var 3) da_nil))) da_nil)))))) body
abbrev s_law_part_one : Stmt := topS 25
theorem sc_law_part_one : L2.FnScope ["script", "draws", "p", "size", "most", "a", "b", "few", "other", "against"] ["script"] (L2.defScope s_law_part_one) := ⟨rfl, rfl, rfl, by decide +kernel, rfl, by decide +kernel, by decide +kernel⟩
theorem ok_law_part_one {f : Addr} {fd : FuncData} {k : Nat} {sp : Spc} (F : L2.Fun K "_law_part_one" "_law_part_one" s_law_part_one f fd) (hm : mg "_law_part_one" = some (.ref f)) (m_int : mg "int" = none) {sp_law_draws : Spc} {k_law_draws : Nat} (C_law_draws : Callee P w K mg base "_law_draws" k_law_draws 2 sp_law_draws) (h_law_draws : k_law_draws ≤ k) {sp_law_chance : Spc} {k_law_chance : Nat} (C_law_chance : Callee P w K mg base "_law_chance" k_law_chance 2 sp_law_chance) (h_law_chance : k_law_chance ≤ k) {sp_law_take : Spc} {k_law_take : Nat} (C_law_take : Callee P w K mg base "_law_take" k_law_take 2 sp_law_take) (h_law_take : k_law_take ≤ k) {sp_law_is_told : Spc} {k_law_is_told : Nat} (C_law_is_told : Callee P w K mg base "_law_is_told" k_law_is_told 3 sp_law_is_told) (h_law_is_told : k_law_is_told ≤ k) {sp_law_part : Spc} {k_law_part : Nat} (C_law_part : Callee P w K mg base "_law_part" k_law_part 3 sp_law_part) (h_law_part : k_law_part ≤ k) {sp_law_plus : Spc} {k_law_plus : Nat} (C_law_plus : Callee P w K mg base "_law_plus" k_law_plus 2 sp_law_plus) (h_law_plus : k_law_plus ≤ k) {sp_fair_part : Spc} {k_fair_part : Nat} (C_fair_part : Callee P w K mg base "fair_part" k_fair_part 3 sp_fair_part) (h_fair_part : k_fair_part ≤ k) {sp_law_same : Spc} {k_law_same : Nat} (C_law_same : Callee P w K mg base "_law_same" k_law_same 2 sp_law_same) (h_law_same : k_law_same ≤ k) {sp_mean_games : Spc} {k_mean_games : Nat} (C_mean_games : Callee P w K mg base "mean_games" k_mean_games 3 sp_mean_games) (h_mean_games : k_mean_games ≤ k) (body : Body 10 1 (w_law_part_one sp_law_draws sp_law_chance sp_law_take sp_law_is_told sp_law_part sp_law_plus sp_fair_part sp_law_same sp_mean_games) sp) : Callee P w K mg base "_law_part_one" (k + 1) 1 sp :=
  callee_of F hm (F.binds (ps := ["script"]) fun _ _ _ _ _ _ us hl => match us, hl with | [_], _ => rfl) sc_law_part_one rfl rfl (fun cdv A outer s H E hr => by
    unfold w_law_part_one
    exact (dss_cons (ds_set 1 sc_law_part_one.nd (d_calle C_law_draws hr h_law_draws (by rfl) (da_cons (d_var 0) (da_cons d_int da_nil))))
      (dss_cons (ds_set 2 sc_law_part_one.nd (d_calle C_law_chance hr h_law_chance (by rfl) (da_cons (d_var 0) (da_cons (d_var 1) da_nil))))
      (dss_cons (ds_set 3 sc_law_part_one.nd (d_calle C_law_take hr h_law_take (by rfl) (da_cons (d_var 1) (da_cons d_int da_nil))))
      (dss_cons (ds_set 4 sc_law_part_one.nd d_int)
      (dss_cons (ds_if (dt_cmp c_lt (d_var 3) d_int) (dss_one (ds_set 4 sc_law_part_one.nd (d_ix i_ix (d_lst (da_cons d_int (da_cons d_int (da_cons d_int da_nil)))) (d_var 3)))) dss_nil)
      (dss_cons (ds_set 5 sc_law_part_one.nd (d_op o_add d_int (d_calle C_law_take hr h_law_take (by rfl) (da_cons (d_var 1) (da_cons (d_var 4) da_nil)))))
      (dss_cons (ds_set 6 sc_law_part_one.nd (d_ix i_ix (d_lst (da_cons (d_op o_add d_int (d_calle C_law_take hr h_law_take (by rfl) (da_cons (d_var 1) (da_cons (d_var 4) da_nil)))) (da_cons (d_var 4) da_nil))) (d_callT b_int (by rfl) m_int (by decide +kernel) (da_cons (d_cmp (c_eq hr) (d_calle C_law_take hr h_law_take (by rfl) (da_cons (d_var 1) (da_cons d_int da_nil))) d_int) da_nil))))
      (dss_cons (ds_if (dt_not (dt_val (d_calle C_law_is_told hr h_law_is_told (by rfl) (da_cons (d_var 2) (da_cons (d_var 5) (da_cons (d_var 6) da_nil)))))) (dss_one (ds_ret d_bl)) dss_nil)
      (dss_cons (ds_set 7 sc_law_part_one.nd (d_tup (da_cons (d_op o_add d_int (d_calle C_law_take hr h_law_take (by rfl) (da_cons (d_var 1) (da_cons d_int da_nil)))) (da_cons (d_op o_add d_int (d_calle C_law_take hr h_law_take (by rfl) (da_cons (d_var 1) (da_cons d_int da_nil)))) da_nil))))
      (dss_cons (ds_set 8 sc_law_part_one.nd (d_calle C_law_chance hr h_law_chance (by rfl) (da_cons (d_var 0) (da_cons (d_var 1) da_nil))))
      (dss_cons (ds_set 9 sc_law_part_one.nd (d_tup (da_cons (d_op o_sub (d_ix i_ix (d_var 8) d_int) (d_ix i_ix (d_var 8) d_int)) (da_cons (d_ix i_ix (d_var 8) d_int) da_nil))))
      (dss_cons (ds_if (PW.pt (dw_or (dt_not (dt_val (d_calle C_law_is_told hr h_law_is_told (by rfl) (da_cons (d_var 8) (da_cons (d_ix i_ix (d_var 7) d_int) (da_cons (d_ix i_ix (d_var 7) d_int) da_nil)))))) (dw_or1 (dt_not (dt_val (d_calle C_law_is_told hr h_law_is_told (by rfl) (da_cons (d_var 9) (da_cons (d_ix i_ix (d_var 7) d_int) (da_cons (d_ix i_ix (d_var 7) d_int) da_nil))))))))) (dss_one (ds_ret d_bl)) dss_nil)
      (dss_cons (ds_if (dt_cmp (c_ne hr) (d_calle C_law_plus hr h_law_plus (by rfl) (da_cons (d_calle C_law_part hr h_law_part (by rfl) (da_cons (d_var 8) (da_cons (d_ix i_ix (d_var 7) d_int) (da_cons (d_ix i_ix (d_var 7) d_int) da_nil)))) (da_cons (d_calle C_law_part hr h_law_part (by rfl) (da_cons (d_var 9) (da_cons (d_ix i_ix (d_var 7) d_int) (da_cons (d_ix i_ix (d_var 7) d_int) da_nil)))) da_nil))) (d_tup (da_cons d_int (da_cons d_int da_nil)))) (dss_one (ds_ret d_bl)) dss_nil)
      (dss_cons (ds_if (PW.pt (dw_and (dt_cmp (c_eq hr) (d_var 4) d_int) (dw_and1 (dt_not (dt_val (d_calle C_law_is_told hr h_law_is_told (by rfl) (da_cons (d_var 2) (da_cons (d_var 5) (da_cons (d_var 6) da_nil))))))))) (dss_one (ds_ret d_bl)) dss_nil)
      (dss_cons (ds_if (PW.pt (dw_or (dt_not (dt_val (d_calle C_law_same hr h_law_same (by rfl) (da_cons (d_calle C_fair_part hr h_fair_part (by rfl) (da_cons (d_tup (da_cons d_int (da_cons d_int da_nil))) (da_cons d_int (da_cons d_int da_nil)))) (da_cons (d_tup (da_cons d_int (da_cons d_int da_nil))) da_nil))))) (dw_or1 (dt_not (dt_val (d_calle C_law_same hr h_law_same (by rfl) (da_cons (d_calle C_mean_games hr h_mean_games (by rfl) (da_cons (d_tup (da_cons d_int (da_cons d_int da_nil))) (da_cons d_int (da_cons d_int da_nil)))) (da_cons (d_tup (da_cons d_int (da_cons d_int da_nil))) da_nil)))))))) (dss_one (ds_ret d_bl)) dss_nil)
      (dss_cons (ds_if (PW.pt (dw_or (dt_not (dt_val (d_calle C_law_same hr h_law_same (by rfl) (da_cons (d_calle C_fair_part hr h_fair_part (by rfl) (da_cons (d_tup (da_cons d_int (da_cons d_int da_nil))) (da_cons (d_var 5) (da_cons (d_var 6) da_nil)))) (da_cons (d_tup (da_cons d_int (da_cons d_int da_nil))) da_nil))))) (dw_or1 (dt_not (dt_val (d_calle C_law_same hr h_law_same (by rfl) (da_cons (d_calle C_fair_part hr h_fair_part (by rfl) (da_cons (d_tup (da_cons d_int (da_cons d_int da_nil))) (da_cons (d_var 5) (da_cons (d_var 6) da_nil)))) (da_cons (d_tup (da_cons d_int (da_cons d_int da_nil))) da_nil)))))))) (dss_one (ds_ret d_bl)) dss_nil)
      (dss_one (ds_ret (d_and (d_calle C_law_same hr h_law_same (by rfl) (da_cons (d_calle C_mean_games hr h_mean_games (by rfl) (da_cons (d_tup (da_cons d_int (da_cons d_int da_nil))) (da_cons (d_ix i_ix (d_var 7) d_int) (da_cons (d_ix i_ix (d_var 7) d_int) da_nil)))) (da_cons (d_tup (da_cons (d_ix i_ix (d_var 7) d_int) (da_cons d_int da_nil))) da_nil))) (d_one (d_calle C_law_same hr h_law_same (by rfl) (da_cons (d_calle C_fair_part hr h_fair_part (by rfl) (da_cons (d_tup (da_cons d_int (da_cons d_int da_nil))) (da_cons d_int (da_cons d_int da_nil)))) (da_cons (d_tup (da_cons d_int (da_cons d_int da_nil))) da_nil)))))))))))))))))))))))) body
abbrev s_law_part_two : Stmt := topS 26
theorem sc_law_part_two : L2.FnScope ["script", "draws", "p", "most", "a", "b", "coins", "other", "some", "number", "alike"] ["script"] (L2.defScope s_law_part_two) := ⟨rfl, rfl, rfl, by decide +kernel, rfl, by decide +kernel, by decide +kernel⟩
theorem ok_law_part_two {f : Addr} {fd : FuncData} {k : Nat} {sp : Spc} (F : L2.Fun K "_law_part_two" "_law_part_two" s_law_part_two f fd) (hm : mg "_law_part_two" = some (.ref f)) (m_abs : mg "abs" = none) {sp_law_draws : Spc} {k_law_draws : Nat} (C_law_draws : Callee P w K mg base "_law_draws" k_law_draws 2 sp_law_draws) (h_law_draws : k_law_draws ≤ k) {sp_law_chance : Spc} {k_law_chance : Nat} (C_law_chance : Callee P w K mg base "_law_chance" k_law_chance 2 sp_law_chance) (h_law_chance : k_law_chance ≤ k) {sp_law_take : Spc} {k_law_take : Nat} (C_law_take : Callee P w K mg base "_law_take" k_law_take 2 sp_law_take) (h_law_take : k_law_take ≤ k) {sp_law_cell : Spc} {k_law_cell : Nat} (C_law_cell : Callee P w K mg base "_law_cell" k_law_cell 2 sp_law_cell) (h_law_cell : k_law_cell ≤ k) {sp_law_b_is_told : Spc} {k_law_b_is_told : Nat} (C_law_b_is_told : Callee P w K mg base "_law_b_is_told" k_law_b_is_told 4 sp_law_b_is_told) (h_law_b_is_told : k_law_b_is_told ≤ k) {sp_fair_coins : Spc} {k_fair_coins : Nat} (C_fair_coins : Callee P w K mg base "fair_coins" k_fair_coins 4 sp_fair_coins) (h_fair_coins : k_fair_coins ≤ k) {sp_law_same : Spc} {k_law_same : Nat} (C_law_same : Callee P w K mg base "_law_same" k_law_same 2 sp_law_same) (h_law_same : k_law_same ≤ k) (body : Body 11 1 (w_law_part_two sp_law_draws sp_law_chance sp_law_take sp_law_cell sp_law_b_is_told sp_fair_coins sp_law_same) sp) : Callee P w K mg base "_law_part_two" (k + 1) 1 sp :=
  callee_of F hm (F.binds (ps := ["script"]) fun _ _ _ _ _ _ us hl => match us, hl with | [_], _ => rfl) sc_law_part_two rfl rfl (fun cdv A outer s H E hr => by
    unfold w_law_part_two
    exact (dss_cons (ds_set 1 sc_law_part_two.nd (d_calle C_law_draws hr h_law_draws (by rfl) (da_cons (d_var 0) (da_cons d_int da_nil))))
      (dss_cons (ds_set 2 sc_law_part_two.nd (d_calle C_law_chance hr h_law_chance (by rfl) (da_cons (d_var 0) (da_cons (d_var 1) da_nil))))
      (dss_cons (ds_set 3 sc_law_part_two.nd (d_ix i_ix (d_lst (da_cons d_int (da_cons d_int (da_cons d_int (da_cons d_int (da_cons d_int (da_cons d_int (da_cons d_int (da_cons d_int (da_cons d_int (da_cons d_int da_nil))))))))))) (d_calle C_law_take hr h_law_take (by rfl) (da_cons (d_var 1) (da_cons d_int da_nil)))))
      (dss_cons (ds_set 4 sc_law_part_two.nd (d_op o_add d_int (d_calle C_law_take hr h_law_take (by rfl) (da_cons (d_var 1) (da_cons (d_var 3) da_nil)))))
      (dss_cons (ds_set 5 sc_law_part_two.nd (d_op o_add d_int (d_calle C_law_take hr h_law_take (by rfl) (da_cons (d_var 1) (da_cons (d_var 3) da_nil)))))
      (dss_cons (ds_set 6 sc_law_part_two.nd (d_ix i_ix (d_lst (da_cons (d_calle C_law_take hr h_law_take (by rfl) (da_cons (d_var 1) (da_cons d_int da_nil))) (da_cons (d_callB b_abs (by rfl) m_abs (by decide +kernel) (da_cons (d_calle C_law_cell hr h_law_cell (by rfl) (da_cons (d_var 0) (da_cons (d_var 1) da_nil))) da_nil)) (da_cons (d_op o_add (d_op o_pow d_int d_int) (d_calle C_law_take hr h_law_take (by rfl) (da_cons (d_var 1) (da_cons d_int da_nil)))) da_nil)))) (d_calle C_law_take hr h_law_take (by rfl) (da_cons (d_var 1) (da_cons d_int da_nil)))))
      (dss_cons (ds_if (PW.pt (dw_or (dt_not (dt_val (d_calle C_law_b_is_told hr h_law_b_is_told (by rfl) (da_cons (d_var 2) (da_cons (d_var 4) (da_cons (d_var 5) (da_cons (d_var 6) da_nil))))))) (dw_or1 (dt_not (dt_val (d_calle C_law_b_is_told hr h_law_b_is_told (by rfl) (da_cons (d_tup (da_cons (d_op o_sub (d_ix i_ix (d_var 2) d_int) (d_ix i_ix (d_var 2) d_int)) (da_cons (d_ix i_ix (d_var 2) d_int) da_nil))) (da_cons (d_var 5) (da_cons (d_var 4) (da_cons (d_var 6) da_nil)))))))))) (dss_one (ds_ret d_bl)) dss_nil)
      (dss_cons (ds_set 7 sc_law_part_two.nd (d_calle C_law_chance hr h_law_chance (by rfl) (da_cons (d_var 0) (da_cons (d_var 1) da_nil))))
      (dss_cons (ds_for rfl PassesOwn.never (di_it (d_lst (da_cons (d_calle C_law_take hr h_law_take (by rfl) (da_cons (d_var 1) (da_cons d_int da_nil))) (da_cons (d_calle C_law_take hr h_law_take (by rfl) (da_cons (d_var 1) (da_cons d_int da_nil))) (da_cons (d_var 6) da_nil))))) (dg_name 8 sc_law_part_two.nd) (dss_one (ds_if (dt_not (dt_val (d_calle C_law_b_is_told hr h_law_b_is_told (by rfl) (da_cons (d_var 7) (da_cons (d_op o_add d_int (d_calle C_law_take hr h_law_take (by rfl) (da_cons (d_var 1) (da_cons d_int da_nil)))) (da_cons (d_op o_add d_int (d_calle C_law_take hr h_law_take (by rfl) (da_cons (d_var 1) (da_cons d_int da_nil)))) (da_cons (d_var 8) da_nil))))))) (dss_one (ds_ret d_bl)) dss_nil)))
      (dss_cons (ds_set 9 sc_law_part_two.nd (d_op o_add (d_calle C_law_take hr h_law_take (by rfl) (da_cons (d_var 1) (da_cons d_int da_nil))) (d_op o_mul (d_callB b_abs (by rfl) m_abs (by decide +kernel) (da_cons (d_calle C_law_cell hr h_law_cell (by rfl) (da_cons (d_var 0) (da_cons (d_var 1) da_nil))) da_nil)) (d_calle C_law_take hr h_law_take (by rfl) (da_cons (d_var 1) (da_cons d_int da_nil))))))
      (dss_cons (ds_set 10 sc_law_part_two.nd (d_op o_add d_int (d_calle C_law_take hr h_law_take (by rfl) (da_cons (d_var 1) (da_cons d_int da_nil)))))
      (dss_cons (ds_if (dt_not (dt_val (d_calle C_law_same hr h_law_same (by rfl) (da_cons (d_calle C_fair_coins hr h_fair_coins (by rfl) (da_cons (d_tup (da_cons d_int (da_cons d_int da_nil))) (da_cons (d_var 10) (da_cons (d_var 10) (da_cons (d_op o_add (d_op o_mul d_int (d_var 9)) d_int) da_nil))))) (da_cons (d_op o_mul d_int (d_var 9)) da_nil))))) (dss_one (ds_ret d_bl)) dss_nil)
      (dss_cons (ds_if (dt_not (dt_val (d_calle C_law_same hr h_law_same (by rfl) (da_cons (d_calle C_fair_coins hr h_fair_coins (by rfl) (da_cons (d_tup (da_cons d_int (da_cons d_int da_nil))) (da_cons (d_var 10) (da_cons (d_var 10) (da_cons (d_op o_add (d_op o_mul d_int (d_var 9)) d_int) da_nil))))) (da_cons (d_op o_add (d_op o_mul d_int (d_var 9)) d_int) da_nil))))) (dss_one (ds_ret d_bl)) dss_nil)
      (dss_cons (ds_if (dt_not (dt_val (d_calle C_law_same hr h_law_same (by rfl) (da_cons (d_calle C_fair_coins hr h_fair_coins (by rfl) (da_cons (d_tup (da_cons d_int (da_cons d_int da_nil))) (da_cons d_int (da_cons d_int (da_cons (d_op o_add (d_op o_mul d_int (d_var 9)) d_int) da_nil))))) (da_cons (d_op o_mul d_int (d_var 9)) da_nil))))) (dss_one (ds_ret d_bl)) dss_nil)
      (dss_cons (ds_if (dt_not (dt_val (d_calle C_law_same hr h_law_same (by rfl) (da_cons (d_calle C_fair_coins hr h_fair_coins (by rfl) (da_cons (d_tup (da_cons d_int (da_cons d_int da_nil))) (da_cons d_int (da_cons d_int (da_cons (d_op o_add (d_op o_mul d_int (d_var 9)) d_int) da_nil))))) (da_cons (d_op o_add (d_op o_mul d_int (d_var 9)) d_int) da_nil))))) (dss_one (ds_ret d_bl)) dss_nil)
      (dss_one (ds_ret (d_and (d_calle C_law_same hr h_law_same (by rfl) (da_cons (d_calle C_fair_coins hr h_fair_coins (by rfl) (da_cons (d_var 2) (da_cons (d_var 4) (da_cons (d_var 5) (da_cons d_int da_nil))))) (da_cons d_int da_nil))) (d_one (d_or (d_cmp c_gt (d_var 3) d_int) (d_one (d_calle C_law_b_is_told hr h_law_b_is_told (by rfl) (da_cons (d_var 2) (da_cons (d_var 4) (da_cons (d_var 5) (da_cons (d_var 6) da_nil))))))))))))))))))))))))))) body
abbrev s_law : Stmt := topS 27
theorem sc_law : L2.FnScope ["script"] ["script"] (L2.defScope s_law) := ⟨rfl, rfl, rfl, by decide +kernel, rfl, by decide +kernel, by decide +kernel⟩
theorem ok_law {f : Addr} {fd : FuncData} {k : Nat} {sp : Spc} (F : L2.Fun K "law" "law" s_law f fd) (hm : mg "law" = some (.ref f)) {sp_law_part_one : Spc} {k_law_part_one : Nat} (C_law_part_one : Callee P w K mg base "_law_part_one" k_law_part_one 1 sp_law_part_one) (h_law_part_one : k_law_part_one ≤ k) {sp_law_part_two : Spc} {k_law_part_two : Nat} (C_law_part_two : Callee P w K mg base "_law_part_two" k_law_part_two 1 sp_law_part_two) (h_law_part_two : k_law_part_two ≤ k) (body : Body 1 1 (w_law sp_law_part_one sp_law_part_two) sp) : L2.FnOk P w K mg base L2.CX0 (k + 1) f fd ["script"] (spOf K 1 sp) :=
  fn_body F sc_law rfl rfl (fun cdv A outer s H E hr => by
    unfold w_law
    exact (dss_one (ds_ret (d_and (d_calle C_law_part_one hr h_law_part_one (by rfl) (da_cons (d_var 0) da_nil)) (d_one (d_calle C_law_part_two hr h_law_part_two (by rfl) (da_cons (d_var 0) da_nil))))))) body
end
end K80
set_option linter.all false
set_option maxRecDepth 100000
set_option maxHeartbeats 4000000
namespace K80
open DL
@[reducible] def sp_take : Spc := fun ds S Q => ∃ n many, ds = [.ref n, .int many] ∧ 0 < many ∧ Dr n S ∧ ∀ r S', 0 ≤ r → r < many → Dr n S' → Ch n S S' → Q (.int r) S'
theorem body_law_take : Body 2 2 w_law_take sp_take := by
  rintro ds S Q _ ⟨n, many, rfl, hm, ⟨ns, hS⟩, k⟩
  unfold w_law_take
  (simp only [start, List.map_cons, List.map_nil, List.length_cons, List.length_nil, Nat.reduceAdd, Nat.reduceSub, List.replicate_succ, List.replicate_zero, List.cons_append, List.nil_append, Nat.sub_self, Nat.zero_add])
  ((with_reducible conv => whnf); repeat (first | (refine And.intro (okII _ _) ?_; rw [eqD_ii]; with_reducible conv => whnf) | (refine And.intro (by first | assumption | exact Exists.intro _ (by assumption) | exact ⟨rfl, rfl, by decide, by decide⟩ | exact Nat.le_of_ble_eq_true rfl | exact rfl) ?_; with_reducible conv => whnf) | (rw [isLst_at (by assumption)]; with_reducible conv => whnf) | (refine ifT rfl ?_; with_reducible conv => whnf) | (refine ifF rfl ?_; with_reducible conv => whnf) | (refine it_at (by assumption) ?_; with_reducible conv => whnf)))
  refine ite_d (fun hc => k 0 S (Int.le_refl _) hm ⟨ns, hS⟩ (Ch.refl _ _)) fun hc => ?_
  ((with_reducible conv => whnf); repeat (first | (refine And.intro (okII _ _) ?_; rw [eqD_ii]; with_reducible conv => whnf) | (refine And.intro (by first | assumption | exact Exists.intro _ (by assumption) | exact ⟨rfl, rfl, by decide, by decide⟩ | exact Nat.le_of_ble_eq_true rfl | exact rfl) ?_; with_reducible conv => whnf) | (rw [isLst_at (by assumption)]; with_reducible conv => whnf) | (refine ifT rfl ?_; with_reducible conv => whnf) | (refine ifF rfl ?_; with_reducible conv => whnf) | (refine it_at (by assumption) ?_; with_reducible conv => whnf)))
  have hl : 0 < ns.length := by
    rw [List.length_map] at hc
    omega
  refine ⟨.int ns[ns.length - 1], ?_, ?_⟩
  · rw [List.length_map]
    exact intD_at (List.getElem?_eq_getElem (by omega))
  · ((with_reducible conv => whnf); repeat (first | (refine And.intro (okII _ _) ?_; rw [eqD_ii]; with_reducible conv => whnf) | (refine And.intro (by first | assumption | exact Exists.intro _ (by assumption) | exact ⟨rfl, rfl, by decide, by decide⟩ | exact Nat.le_of_ble_eq_true rfl | exact rfl) ?_; with_reducible conv => whnf) | (rw [isLst_at (by assumption)]; with_reducible conv => whnf) | (refine ifT rfl ?_; with_reducible conv => whnf) | (refine ifF rfl ?_; with_reducible conv => whnf) | (refine it_at (by assumption) ?_; with_reducible conv => whnf)))
    obtain ⟨h0, h1⟩ := fmod_lt (a := ns[ns.length - 1]) hm
    refine ⟨by omega, k _ _ h0 h1 ⟨ns.dropLast, ?_⟩ (Ch.set _ _)⟩
    rw [at_set hS, ← List.map_dropLast]
@[reducible] def sp_draws : Spc := fun ds S Q => ∃ ns many, ds = [.rol (intD ns), .int many] ∧ ns.length ≤ 63 ∧ 0 ≤ many ∧ many ≤ 1000 ∧ ∀ n S', Dr n S' → Sub S S' → S.length ≤ n → Q (.ref n) S'
theorem body_law_draws : Body 9 2 w_law_draws sp_draws := by
  rintro ds S Q _ ⟨ns, many, rfl, hl, hm, hm2, k⟩
  unfold w_law_draws
  (simp only [start, List.map_cons, List.map_nil, List.length_cons, List.length_nil, Nat.reduceAdd, Nat.reduceSub, List.replicate_succ, List.replicate_zero, List.cons_append, List.nil_append, Nat.sub_self, Nat.zero_add])
  ((with_reducible conv => whnf); repeat (first | (refine And.intro (okII _ _) ?_; rw [eqD_ii]; with_reducible conv => whnf) | (refine And.intro (by first | assumption | exact Exists.intro _ (by assumption) | exact ⟨rfl, rfl, by decide, by decide⟩ | exact Nat.le_of_ble_eq_true rfl | exact rfl) ?_; with_reducible conv => whnf) | (rw [isLst_at (by assumption)]; with_reducible conv => whnf) | (refine ifT rfl ?_; with_reducible conv => whnf) | (refine ifF rfl ?_; with_reducible conv => whnf) | (refine it_at (by assumption) ?_; with_reducible conv => whnf)))
  refine Lc_fun (fun d => some d) ?_ (fun _ _ => trivial) (fun i d S' R hi hs hR => ?_) fun S1 hs1 => ?_
  · rw [List.length_map]; unfold szL; omega
  · obtain ⟨x, _, rfl⟩ := intD_get hi
    ((with_reducible conv => whnf); repeat (first | (refine And.intro (okII _ _) ?_; rw [eqD_ii]; with_reducible conv => whnf) | (refine And.intro (by first | assumption | exact Exists.intro _ (by assumption) | exact ⟨rfl, rfl, by decide, by decide⟩ | exact Nat.le_of_ble_eq_true rfl | exact rfl) ?_; with_reducible conv => whnf) | (rw [isLst_at (by assumption)]; with_reducible conv => whnf) | (refine ifT rfl ?_; with_reducible conv => whnf) | (refine ifF rfl ?_; with_reducible conv => whnf) | (refine it_at (by assumption) ?_; with_reducible conv => whnf)))
    exact hR _ (Sub.refl _)
  rw [List.filterMap_some]
  have h2 := at_push S1 (.lst (intD ns))
  have hS1 := hs1.app [.lst (intD ns)]
  have hln : S.length ≤ S1.length := by
    false_or_by_contra
    rename_i hc
    cases S with
    | nil => simp at hc
    | cons o r =>
      have := at_lt (hs1 ((o :: r).length - 1) _ (List.getElem?_eq_getElem (by simp)))
      simp at this hc
      omega
  generalize hm0 : S1.length = m0 at *
  generalize S1 ++ [.lst (intD ns)] = S2 at *
  -- from here: cells cs at m0
  have main : ∀ (cs : List Int) S3, 0 < cs.length → cs.length ≤ 63 → S3[m0]? = some (.lst (intD cs)) → Sub S S3 → sSeq (sAsg (wB rList (wCons (wVar 2) wNil)) (gN 4))
    (sSeq (sAsg (wLst wNil) (gN 5))
    (sSeq (sFor (wR1 (wVar 1)) (gN 6) (sSeq (sAsg (wOp rMod (wVar 6) (wB rLen (wCons (wVar 2) wNil))) (gN 7))
    (sIf (wtAnd (wtVal (wOp rGe (wOp rIx (wVar 2) (wVar 7)) (wOp rPow (wC (.int 10)) (wC (.int 18))))) (wtVal (wOp rGt (wOp rIx (wVar 4) (wVar 7)) (wC (.int 0))))) (sSeq (sDrop (wM rAppend (wVar 5) (wCons (wOp rMod (wB rInt (wCons (wOp rIx (wVar 4) (wVar 7)) wNil)) (wC (.int 1000))) wNil)))
    (sSub rPut (wOp rDiv (wOp rIx (wVar 4) (wVar 7)) (wC (.int 1000))) (wVar 4) (wVar 7))) (sSeq (sAsg (wOp rMod (wB rInt (wCons (wOp rAdd (wOp rAdd (wOp rMul (wOp rIx (wVar 2) (wVar 7)) (wC (.int 48271))) (wOp rMul (wVar 6) (wC (.int 69621)))) (wC (.int 11))) wNil)) (wC (.int 2147483647))) (gN 8))
    (sDrop (wM rAppend (wVar 5) (wCons (wOp rMod (wB rInt (wCons (wOp rAdd (wOp rAdd (wOp rMul (wVar 8) (wVar 8)) (wOp rMul (wC (.int 3)) (wVar 8))) (wVar 6)) wNil)) (wC (.int 1000003))) wNil)))))))
    (sSeq (sDrop (wM0 rReverse (wVar 5)))
    (sRet (wVar 5))))) { nx := fun x S' => Q D.non S', rt := Q, bk := fun x x_1 => False, ct := fun x x_1 => False } [some (.rol (intD ns)), some (.int many), some (.ref m0), none, none, none, none, none, none] S3 := by
    intro cs S3 hc0 hc1 e3 s3
    ((with_reducible conv => whnf); repeat (first | (refine And.intro (okII _ _) ?_; rw [eqD_ii]; with_reducible conv => whnf) | (refine And.intro (by first | assumption | exact Exists.intro _ (by assumption) | exact ⟨rfl, rfl, by decide, by decide⟩ | exact Nat.le_of_ble_eq_true rfl | exact rfl) ?_; with_reducible conv => whnf) | (rw [isLst_at (by assumption)]; with_reducible conv => whnf) | (refine ifT rfl ?_; with_reducible conv => whnf) | (refine ifF rfl ?_; with_reducible conv => whnf) | (refine it_at (by assumption) ?_; with_reducible conv => whnf)))
    refine ⟨⟨by omega, by omega⟩, ?_⟩
    have e4 := push_at e3 [.lst (intD cs)]
    have e5 := at_push S3 (.lst (intD cs))
    have s4 := s3.app [.lst (intD cs)]
    have l3 := at_lt e3
    generalize hm4 : S3.length = m4 at *
    have hm5 : (S3 ++ [O.lst (intD cs)]).length = m4 + 1 := by simp [hm4]
    generalize S3 ++ [.lst (intD cs)] = S4 at *
    have e6 := push_at e4 [.lst []]
    have e7 := push_at e5 [.lst []]
    have e8 := at_push S4 (.lst [])
    have s5 := s4.app [.lst []]
    rw [hm5] at e8 ⊢
    generalize S4 ++ [.lst []] = S5 at *
    refine Loop_mk (fun i ρ S' => ∃ o6 o7 o8 rs ws, ρ = [some (.rol (intD ns)), some (.int many), some (.ref m0), none, some (.ref m4), some (.ref (m4 + 1)), o6, o7, o8] ∧ S'[m0]? = some (.lst (intD cs)) ∧ S'[m4]? = some (.lst (intD rs)) ∧ rs.length = cs.length ∧ S'[m4 + 1]? = some (.lst (intD ws)) ∧ ws.length = i ∧ Sub S S') ?_ ?_ ?_ ?_
    · exact ⟨none, none, none, cs, [], rfl, e6, e7, rfl, e8, rfl, s5⟩
    · intros; trivial
    · rintro i d ρ' S' hi ⟨o6, o7, o8, rs, ws, rfl, f0, f1, f2, f3, f4, f5⟩
      obtain ⟨hi1, rfl⟩ := rangeD_get hi
      ((with_reducible conv => whnf); repeat (first | (refine And.intro (okII _ _) ?_; rw [eqD_ii]; with_reducible conv => whnf) | (refine And.intro (by first | assumption | exact Exists.intro _ (by assumption) | exact ⟨rfl, rfl, by decide, by decide⟩ | exact Nat.le_of_ble_eq_true rfl | exact rfl) ?_; with_reducible conv => whnf) | (rw [isLst_at (by assumption)]; with_reducible conv => whnf) | (refine ifT rfl ?_; with_reducible conv => whnf) | (refine ifF rfl ?_; with_reducible conv => whnf) | (refine it_at (by assumption) ?_; with_reducible conv => whnf)))
      have hz : ((intD cs).length : Int) ≠ 0 := by rw [List.length_map]; omega
      have hz0 : (0 : Int) < ((intD cs).length : Int) := by rw [List.length_map]; omega
      obtain ⟨g0, g1⟩ := fmod_lt (a := 0 + (i : Int)) hz0
      refine ⟨hz, ?_⟩
      generalize hat : (0 + (i : Int)).fmod ((intD cs).length : Int) = at' at *
      rw [List.length_map] at g1
      ((with_reducible conv => whnf); repeat (first | (refine And.intro (okII _ _) ?_; rw [eqD_ii]; with_reducible conv => whnf) | (refine And.intro (by first | assumption | exact Exists.intro _ (by assumption) | exact ⟨rfl, rfl, by decide, by decide⟩ | exact Nat.le_of_ble_eq_true rfl | exact rfl) ?_; with_reducible conv => whnf) | (rw [isLst_at (by assumption)]; with_reducible conv => whnf) | (refine ifT rfl ?_; with_reducible conv => whnf) | (refine ifF rfl ?_; with_reducible conv => whnf) | (refine it_at (by assumption) ?_; with_reducible conv => whnf)))
      refine ⟨_, atZ_intD g0 g1, ?_⟩
      ((with_reducible conv => whnf); repeat (first | (refine And.intro (okII _ _) ?_; rw [eqD_ii]; with_reducible conv => whnf) | (refine And.intro (by first | assumption | exact Exists.intro _ (by assumption) | exact ⟨rfl, rfl, by decide, by decide⟩ | exact Nat.le_of_ble_eq_true rfl | exact rfl) ?_; with_reducible conv => whnf) | (rw [isLst_at (by assumption)]; with_reducible conv => whnf) | (refine ifT rfl ?_; with_reducible conv => whnf) | (refine ifF rfl ?_; with_reducible conv => whnf) | (refine it_at (by assumption) ?_; with_reducible conv => whnf)))
      refine ⟨⟨by omega, by omega, by decide⟩, ?_⟩
      ((with_reducible conv => whnf); repeat (first | (refine And.intro (okII _ _) ?_; rw [eqD_ii]; with_reducible conv => whnf) | (refine And.intro (by first | assumption | exact Exists.intro _ (by assumption) | exact ⟨rfl, rfl, by decide, by decide⟩ | exact Nat.le_of_ble_eq_true rfl | exact rfl) ?_; with_reducible conv => whnf) | (rw [isLst_at (by assumption)]; with_reducible conv => whnf) | (refine ifT rfl ?_; with_reducible conv => whnf) | (refine ifF rfl ?_; with_reducible conv => whnf) | (refine it_at (by assumption) ?_; with_reducible conv => whnf)))
      have push : ∀ (c : Int) o7 o8 rs, S'[m4]? = some (.lst (intD rs)) → rs.length = cs.length → ∀ S6, S6 = S'.set (m4 + 1) (.lst (intD (ws ++ [c]))) → ∃ o6' o7' o8' rs' ws', [some (D.rol (intD ns)), some (D.int many), some (D.ref m0), none, some (D.ref m4), some (D.ref (m4 + 1)), some (.int (0 + i)), o7, o8] =
          [some (D.rol (intD ns)), some (D.int many), some (D.ref m0), none, some (D.ref m4), some (D.ref (m4 + 1)), o6', o7', o8'] ∧ S6[m0]? = some (.lst (intD cs)) ∧ S6[m4]? = some (.lst (intD rs')) ∧ rs'.length = cs.length ∧ S6[m4 + 1]? = some (.lst (intD ws')) ∧ ws'.length = i + 1 ∧ Sub S S6 := by
        rintro c o7 o8 rs q1 q2 S6 rfl
        refine ⟨_, _, _, rs, ws ++ [c], rfl, ?_, ?_, q2, ?_, by simp [f4], f5.put (by omega)⟩
        · rw [at_set_ne (by omega), f0]
        · rw [at_set_ne (by omega), q1]
        · rw [at_set f3]
      have hw : (intD ws).length < szL := by rw [List.length_map]; unfold szL; omega
      have hw2 : ∀ c : Int, intD ws ++ [D.int c] = intD (ws ++ [c]) := fun c => by simp [intD]
      refine ite_i (fun hc => ?_) fun hc => ?_
      · ((with_reducible conv => whnf); repeat (first | (refine And.intro (okII _ _) ?_; rw [eqD_ii]; with_reducible conv => whnf) | (refine And.intro (by first | assumption | exact Exists.intro _ (by assumption) | exact ⟨rfl, rfl, by decide, by decide⟩ | exact Nat.le_of_ble_eq_true rfl | exact rfl) ?_; with_reducible conv => whnf) | (rw [isLst_at (by assumption)]; with_reducible conv => whnf) | (refine ifT rfl ?_; with_reducible conv => whnf) | (refine ifF rfl ?_; with_reducible conv => whnf) | (refine it_at (by assumption) ?_; with_reducible conv => whnf)))
        refine ⟨_, atZ_intD g0 (by rw [f2]; exact g1), ?_⟩
        ((with_reducible conv => whnf); repeat (first | (refine And.intro (okII _ _) ?_; rw [eqD_ii]; with_reducible conv => whnf) | (refine And.intro (by first | assumption | exact Exists.intro _ (by assumption) | exact ⟨rfl, rfl, by decide, by decide⟩ | exact Nat.le_of_ble_eq_true rfl | exact rfl) ?_; with_reducible conv => whnf) | (rw [isLst_at (by assumption)]; with_reducible conv => whnf) | (refine ifT rfl ?_; with_reducible conv => whnf) | (refine ifF rfl ?_; with_reducible conv => whnf) | (refine it_at (by assumption) ?_; with_reducible conv => whnf)))
        refine ite_d (fun hc2 => ?_) fun hc2 => ?_
        · ((with_reducible conv => whnf); repeat (first | (refine And.intro (okII _ _) ?_; rw [eqD_ii]; with_reducible conv => whnf) | (refine And.intro (by first | assumption | exact Exists.intro _ (by assumption) | exact ⟨rfl, rfl, by decide, by decide⟩ | exact Nat.le_of_ble_eq_true rfl | exact rfl) ?_; with_reducible conv => whnf) | (rw [isLst_at (by assumption)]; with_reducible conv => whnf) | (refine ifT rfl ?_; with_reducible conv => whnf) | (refine ifF rfl ?_; with_reducible conv => whnf) | (refine it_at (by assumption) ?_; with_reducible conv => whnf)))
          refine ⟨_, atZ_intD g0 (by rw [f2]; exact g1), ?_⟩
          ((with_reducible conv => whnf); repeat (first | (refine And.intro (okII _ _) ?_; rw [eqD_ii]; with_reducible conv => whnf) | (refine And.intro (by first | assumption | exact Exists.intro _ (by assumption) | exact ⟨rfl, rfl, by decide, by decide⟩ | exact Nat.le_of_ble_eq_true rfl | exact rfl) ?_; with_reducible conv => whnf) | (rw [isLst_at (by assumption)]; with_reducible conv => whnf) | (refine ifT rfl ?_; with_reducible conv => whnf) | (refine ifF rfl ?_; with_reducible conv => whnf) | (refine it_at (by assumption) ?_; with_reducible conv => whnf)))
          refine ⟨by decide, ?_⟩
          ((with_reducible conv => whnf); repeat (first | (refine And.intro (okII _ _) ?_; rw [eqD_ii]; with_reducible conv => whnf) | (refine And.intro (by first | assumption | exact Exists.intro _ (by assumption) | exact ⟨rfl, rfl, by decide, by decide⟩ | exact Nat.le_of_ble_eq_true rfl | exact rfl) ?_; with_reducible conv => whnf) | (rw [isLst_at (by assumption)]; with_reducible conv => whnf) | (refine ifT rfl ?_; with_reducible conv => whnf) | (refine ifF rfl ?_; with_reducible conv => whnf) | (refine it_at (by assumption) ?_; with_reducible conv => whnf)))
          rw [hw2]
          have q4 : (S'.set (m4 + 1) (.lst (intD (ws ++ [(rs.getD at'.toNat 0).fmod 1000]))))[m4]? = some (.lst (intD rs)) := by rw [at_set_ne (by omega), f1]
          ((with_reducible conv => whnf); repeat (first | (refine And.intro (okII _ _) ?_; rw [eqD_ii]; with_reducible conv => whnf) | (refine And.intro (by first | assumption | exact Exists.intro _ (by assumption) | exact ⟨rfl, rfl, by decide, by decide⟩ | exact Nat.le_of_ble_eq_true rfl | exact rfl) ?_; with_reducible conv => whnf) | (rw [isLst_at (by assumption)]; with_reducible conv => whnf) | (refine ifT rfl ?_; with_reducible conv => whnf) | (refine ifF rfl ?_; with_reducible conv => whnf) | (refine it_at (by assumption) ?_; with_reducible conv => whnf)))
          refine ⟨_, atZ_intD g0 (by rw [f2]; exact g1), ?_⟩
          ((with_reducible conv => whnf); repeat (first | (refine And.intro (okII _ _) ?_; rw [eqD_ii]; with_reducible conv => whnf) | (refine And.intro (by first | assumption | exact Exists.intro _ (by assumption) | exact ⟨rfl, rfl, by decide, by decide⟩ | exact Nat.le_of_ble_eq_true rfl | exact rfl) ?_; with_reducible conv => whnf) | (rw [isLst_at (by assumption)]; with_reducible conv => whnf) | (refine ifT rfl ?_; with_reducible conv => whnf) | (refine ifF rfl ?_; with_reducible conv => whnf) | (refine it_at (by assumption) ?_; with_reducible conv => whnf)))
          refine ⟨⟨by decide, by decide⟩, ?_⟩
          ((with_reducible conv => whnf); repeat (first | (refine And.intro (okII _ _) ?_; rw [eqD_ii]; with_reducible conv => whnf) | (refine And.intro (by first | assumption | exact Exists.intro _ (by assumption) | exact ⟨rfl, rfl, by decide, by decide⟩ | exact Nat.le_of_ble_eq_true rfl | exact rfl) ?_; with_reducible conv => whnf) | (rw [isLst_at (by assumption)]; with_reducible conv => whnf) | (refine ifT rfl ?_; with_reducible conv => whnf) | (refine ifF rfl ?_; with_reducible conv => whnf) | (refine it_at (by assumption) ?_; with_reducible conv => whnf)))
          refine ⟨_, ixZ_ok g0 (by rw [List.length_map, f2]; exact g1), ?_⟩
          ((with_reducible conv => whnf); repeat (first | (refine And.intro (okII _ _) ?_; rw [eqD_ii]; with_reducible conv => whnf) | (refine And.intro (by first | assumption | exact Exists.intro _ (by assumption) | exact ⟨rfl, rfl, by decide, by decide⟩ | exact Nat.le_of_ble_eq_true rfl | exact rfl) ?_; with_reducible conv => whnf) | (rw [isLst_at (by assumption)]; with_reducible conv => whnf) | (refine ifT rfl ?_; with_reducible conv => whnf) | (refine ifF rfl ?_; with_reducible conv => whnf) | (refine it_at (by assumption) ?_; with_reducible conv => whnf)))
          rw [intD_set]
          obtain ⟨a1, a2, a3, a4, a5, a6, a7, a8, a9, a10, a11, a12⟩ := push ((rs.getD at'.toNat 0).fmod 1000) (some (.int at')) o8 rs f1 f2 _ rfl
          refine ⟨_, _, _, rs.set at'.toNat _, a5, rfl, ?_, at_set a8, by rw [List.length_set, f2], ?_, a11, a12.put (by omega)⟩
          · rw [at_set_ne (by omega), a7]
          · rw [at_set_ne (by omega), a10]
        · ((with_reducible conv => whnf); repeat (first | (refine And.intro (okII _ _) ?_; rw [eqD_ii]; with_reducible conv => whnf) | (refine And.intro (by first | assumption | exact Exists.intro _ (by assumption) | exact ⟨rfl, rfl, by decide, by decide⟩ | exact Nat.le_of_ble_eq_true rfl | exact rfl) ?_; with_reducible conv => whnf) | (rw [isLst_at (by assumption)]; with_reducible conv => whnf) | (refine ifT rfl ?_; with_reducible conv => whnf) | (refine ifF rfl ?_; with_reducible conv => whnf) | (refine it_at (by assumption) ?_; with_reducible conv => whnf)))
          refine ⟨_, atZ_intD g0 g1, ?_⟩
          ((with_reducible conv => whnf); repeat (first | (refine And.intro (okII _ _) ?_; rw [eqD_ii]; with_reducible conv => whnf) | (refine And.intro (by first | assumption | exact Exists.intro _ (by assumption) | exact ⟨rfl, rfl, by decide, by decide⟩ | exact Nat.le_of_ble_eq_true rfl | exact rfl) ?_; with_reducible conv => whnf) | (rw [isLst_at (by assumption)]; with_reducible conv => whnf) | (refine ifT rfl ?_; with_reducible conv => whnf) | (refine ifF rfl ?_; with_reducible conv => whnf) | (refine it_at (by assumption) ?_; with_reducible conv => whnf)))
          refine ⟨smallMul (by decide), ?_⟩
          ((with_reducible conv => whnf); repeat (first | (refine And.intro (okII _ _) ?_; rw [eqD_ii]; with_reducible conv => whnf) | (refine And.intro (by first | assumption | exact Exists.intro _ (by assumption) | exact ⟨rfl, rfl, by decide, by decide⟩ | exact Nat.le_of_ble_eq_true rfl | exact rfl) ?_; with_reducible conv => whnf) | (rw [isLst_at (by assumption)]; with_reducible conv => whnf) | (refine ifT rfl ?_; with_reducible conv => whnf) | (refine ifF rfl ?_; with_reducible conv => whnf) | (refine it_at (by assumption) ?_; with_reducible conv => whnf)))
          refine ⟨smallMul (by decide), ?_⟩
          ((with_reducible conv => whnf); repeat (first | (refine And.intro (okII _ _) ?_; rw [eqD_ii]; with_reducible conv => whnf) | (refine And.intro (by first | assumption | exact Exists.intro _ (by assumption) | exact ⟨rfl, rfl, by decide, by decide⟩ | exact Nat.le_of_ble_eq_true rfl | exact rfl) ?_; with_reducible conv => whnf) | (rw [isLst_at (by assumption)]; with_reducible conv => whnf) | (refine ifT rfl ?_; with_reducible conv => whnf) | (refine ifF rfl ?_; with_reducible conv => whnf) | (refine it_at (by assumption) ?_; with_reducible conv => whnf)))
          refine ⟨by decide, ?_⟩
          ((with_reducible conv => whnf); repeat (first | (refine And.intro (okII _ _) ?_; rw [eqD_ii]; with_reducible conv => whnf) | (refine And.intro (by first | assumption | exact Exists.intro _ (by assumption) | exact ⟨rfl, rfl, by decide, by decide⟩ | exact Nat.le_of_ble_eq_true rfl | exact rfl) ?_; with_reducible conv => whnf) | (rw [isLst_at (by assumption)]; with_reducible conv => whnf) | (refine ifT rfl ?_; with_reducible conv => whnf) | (refine ifF rfl ?_; with_reducible conv => whnf) | (refine it_at (by assumption) ?_; with_reducible conv => whnf)))
          obtain ⟨h0, h1⟩ := fmod_lt (a := (cs.getD at'.toNat 0) * 48271 + (0 + (i : Int)) * 69621 + 11) (b := 2147483647) (by decide)
          refine ⟨smallMul (by omega), ?_⟩
          ((with_reducible conv => whnf); repeat (first | (refine And.intro (okII _ _) ?_; rw [eqD_ii]; with_reducible conv => whnf) | (refine And.intro (by first | assumption | exact Exists.intro _ (by assumption) | exact ⟨rfl, rfl, by decide, by decide⟩ | exact Nat.le_of_ble_eq_true rfl | exact rfl) ?_; with_reducible conv => whnf) | (rw [isLst_at (by assumption)]; with_reducible conv => whnf) | (refine ifT rfl ?_; with_reducible conv => whnf) | (refine ifF rfl ?_; with_reducible conv => whnf) | (refine it_at (by assumption) ?_; with_reducible conv => whnf)))
          refine ⟨smallMul' (by decide), ?_⟩
          ((with_reducible conv => whnf); repeat (first | (refine And.intro (okII _ _) ?_; rw [eqD_ii]; with_reducible conv => whnf) | (refine And.intro (by first | assumption | exact Exists.intro _ (by assumption) | exact ⟨rfl, rfl, by decide, by decide⟩ | exact Nat.le_of_ble_eq_true rfl | exact rfl) ?_; with_reducible conv => whnf) | (rw [isLst_at (by assumption)]; with_reducible conv => whnf) | (refine ifT rfl ?_; with_reducible conv => whnf) | (refine ifF rfl ?_; with_reducible conv => whnf) | (refine it_at (by assumption) ?_; with_reducible conv => whnf)))
          refine ⟨by decide, ?_⟩
          ((with_reducible conv => whnf); repeat (first | (refine And.intro (okII _ _) ?_; rw [eqD_ii]; with_reducible conv => whnf) | (refine And.intro (by first | assumption | exact Exists.intro _ (by assumption) | exact ⟨rfl, rfl, by decide, by decide⟩ | exact Nat.le_of_ble_eq_true rfl | exact rfl) ?_; with_reducible conv => whnf) | (rw [isLst_at (by assumption)]; with_reducible conv => whnf) | (refine ifT rfl ?_; with_reducible conv => whnf) | (refine ifF rfl ?_; with_reducible conv => whnf) | (refine it_at (by assumption) ?_; with_reducible conv => whnf)))
          rw [hw2]
          exact push _ _ _ rs f1 f2 _ rfl
      · ((with_reducible conv => whnf); repeat (first | (refine And.intro (okII _ _) ?_; rw [eqD_ii]; with_reducible conv => whnf) | (refine And.intro (by first | assumption | exact Exists.intro _ (by assumption) | exact ⟨rfl, rfl, by decide, by decide⟩ | exact Nat.le_of_ble_eq_true rfl | exact rfl) ?_; with_reducible conv => whnf) | (rw [isLst_at (by assumption)]; with_reducible conv => whnf) | (refine ifT rfl ?_; with_reducible conv => whnf) | (refine ifF rfl ?_; with_reducible conv => whnf) | (refine it_at (by assumption) ?_; with_reducible conv => whnf)))
        refine ⟨_, atZ_intD g0 g1, ?_⟩
        ((with_reducible conv => whnf); repeat (first | (refine And.intro (okII _ _) ?_; rw [eqD_ii]; with_reducible conv => whnf) | (refine And.intro (by first | assumption | exact Exists.intro _ (by assumption) | exact ⟨rfl, rfl, by decide, by decide⟩ | exact Nat.le_of_ble_eq_true rfl | exact rfl) ?_; with_reducible conv => whnf) | (rw [isLst_at (by assumption)]; with_reducible conv => whnf) | (refine ifT rfl ?_; with_reducible conv => whnf) | (refine ifF rfl ?_; with_reducible conv => whnf) | (refine it_at (by assumption) ?_; with_reducible conv => whnf)))
        refine ⟨smallMul (by decide), ?_⟩
        ((with_reducible conv => whnf); repeat (first | (refine And.intro (okII _ _) ?_; rw [eqD_ii]; with_reducible conv => whnf) | (refine And.intro (by first | assumption | exact Exists.intro _ (by assumption) | exact ⟨rfl, rfl, by decide, by decide⟩ | exact Nat.le_of_ble_eq_true rfl | exact rfl) ?_; with_reducible conv => whnf) | (rw [isLst_at (by assumption)]; with_reducible conv => whnf) | (refine ifT rfl ?_; with_reducible conv => whnf) | (refine ifF rfl ?_; with_reducible conv => whnf) | (refine it_at (by assumption) ?_; with_reducible conv => whnf)))
        refine ⟨smallMul (by decide), ?_⟩
        ((with_reducible conv => whnf); repeat (first | (refine And.intro (okII _ _) ?_; rw [eqD_ii]; with_reducible conv => whnf) | (refine And.intro (by first | assumption | exact Exists.intro _ (by assumption) | exact ⟨rfl, rfl, by decide, by decide⟩ | exact Nat.le_of_ble_eq_true rfl | exact rfl) ?_; with_reducible conv => whnf) | (rw [isLst_at (by assumption)]; with_reducible conv => whnf) | (refine ifT rfl ?_; with_reducible conv => whnf) | (refine ifF rfl ?_; with_reducible conv => whnf) | (refine it_at (by assumption) ?_; with_reducible conv => whnf)))
        refine ⟨by decide, ?_⟩
        ((with_reducible conv => whnf); repeat (first | (refine And.intro (okII _ _) ?_; rw [eqD_ii]; with_reducible conv => whnf) | (refine And.intro (by first | assumption | exact Exists.intro _ (by assumption) | exact ⟨rfl, rfl, by decide, by decide⟩ | exact Nat.le_of_ble_eq_true rfl | exact rfl) ?_; with_reducible conv => whnf) | (rw [isLst_at (by assumption)]; with_reducible conv => whnf) | (refine ifT rfl ?_; with_reducible conv => whnf) | (refine ifF rfl ?_; with_reducible conv => whnf) | (refine it_at (by assumption) ?_; with_reducible conv => whnf)))
        obtain ⟨h0, h1⟩ := fmod_lt (a := (cs.getD at'.toNat 0) * 48271 + (0 + (i : Int)) * 69621 + 11) (b := 2147483647) (by decide)
        refine ⟨smallMul (by omega), ?_⟩
        ((with_reducible conv => whnf); repeat (first | (refine And.intro (okII _ _) ?_; rw [eqD_ii]; with_reducible conv => whnf) | (refine And.intro (by first | assumption | exact Exists.intro _ (by assumption) | exact ⟨rfl, rfl, by decide, by decide⟩ | exact Nat.le_of_ble_eq_true rfl | exact rfl) ?_; with_reducible conv => whnf) | (rw [isLst_at (by assumption)]; with_reducible conv => whnf) | (refine ifT rfl ?_; with_reducible conv => whnf) | (refine ifF rfl ?_; with_reducible conv => whnf) | (refine it_at (by assumption) ?_; with_reducible conv => whnf)))
        refine ⟨smallMul' (by decide), ?_⟩
        ((with_reducible conv => whnf); repeat (first | (refine And.intro (okII _ _) ?_; rw [eqD_ii]; with_reducible conv => whnf) | (refine And.intro (by first | assumption | exact Exists.intro _ (by assumption) | exact ⟨rfl, rfl, by decide, by decide⟩ | exact Nat.le_of_ble_eq_true rfl | exact rfl) ?_; with_reducible conv => whnf) | (rw [isLst_at (by assumption)]; with_reducible conv => whnf) | (refine ifT rfl ?_; with_reducible conv => whnf) | (refine ifF rfl ?_; with_reducible conv => whnf) | (refine it_at (by assumption) ?_; with_reducible conv => whnf)))
        refine ⟨by decide, ?_⟩
        ((with_reducible conv => whnf); repeat (first | (refine And.intro (okII _ _) ?_; rw [eqD_ii]; with_reducible conv => whnf) | (refine And.intro (by first | assumption | exact Exists.intro _ (by assumption) | exact ⟨rfl, rfl, by decide, by decide⟩ | exact Nat.le_of_ble_eq_true rfl | exact rfl) ?_; with_reducible conv => whnf) | (rw [isLst_at (by assumption)]; with_reducible conv => whnf) | (refine ifT rfl ?_; with_reducible conv => whnf) | (refine ifF rfl ?_; with_reducible conv => whnf) | (refine it_at (by assumption) ?_; with_reducible conv => whnf)))
        rw [hw2]
        exact push _ _ _ rs f1 f2 _ rfl
    · rintro ρ' S' ⟨o6, o7, o8, rs, ws, rfl, f0, f1, f2, f3, f4, f5⟩
      ((with_reducible conv => whnf); repeat (first | (refine And.intro (okII _ _) ?_; rw [eqD_ii]; with_reducible conv => whnf) | (refine And.intro (by first | assumption | exact Exists.intro _ (by assumption) | exact ⟨rfl, rfl, by decide, by decide⟩ | exact Nat.le_of_ble_eq_true rfl | exact rfl) ?_; with_reducible conv => whnf) | (rw [isLst_at (by assumption)]; with_reducible conv => whnf) | (refine ifT rfl ?_; with_reducible conv => whnf) | (refine ifF rfl ?_; with_reducible conv => whnf) | (refine it_at (by assumption) ?_; with_reducible conv => whnf)))
      refine k _ _ ⟨ws.reverse, ?_⟩ (f5.put (by omega)) (by omega)
      rw [at_set f3, ← List.map_reverse]
  ((with_reducible conv => whnf); repeat (first | (refine And.intro (okII _ _) ?_; rw [eqD_ii]; with_reducible conv => whnf) | (refine And.intro (by first | assumption | exact Exists.intro _ (by assumption) | exact ⟨rfl, rfl, by decide, by decide⟩ | exact Nat.le_of_ble_eq_true rfl | exact rfl) ?_; with_reducible conv => whnf) | (rw [isLst_at (by assumption)]; with_reducible conv => whnf) | (refine ifT rfl ?_; with_reducible conv => whnf) | (refine ifF rfl ?_; with_reducible conv => whnf) | (refine it_at (by assumption) ?_; with_reducible conv => whnf)))
  refine ite_d (fun hc => ?_) fun hc => ?_
  · ((with_reducible conv => whnf); repeat (first | (refine And.intro (okII _ _) ?_; rw [eqD_ii]; with_reducible conv => whnf) | (refine And.intro (by first | assumption | exact Exists.intro _ (by assumption) | exact ⟨rfl, rfl, by decide, by decide⟩ | exact Nat.le_of_ble_eq_true rfl | exact rfl) ?_; with_reducible conv => whnf) | (rw [isLst_at (by assumption)]; with_reducible conv => whnf) | (refine ifT rfl ?_; with_reducible conv => whnf) | (refine ifF rfl ?_; with_reducible conv => whnf) | (refine it_at (by assumption) ?_; with_reducible conv => whnf)))
    have hn : ns = [] := by
      rw [List.length_map] at hc
      exact List.length_eq_zero_iff.mp (by omega)
    subst hn
    refine ⟨by decide, ?_⟩
    exact main [0] _ (by decide) (by decide) (at_set h2) (hS1.put hln)
  · rw [List.length_map] at hc
    exact main ns S2 (by omega) hl h2 hS1


@[reducible] def sp_cell : Spc := fun ds S Q => ∃ ns n, ds = [.rol (intD ns), .ref n] ∧ ns.length ≤ 63 ∧ (∀ z ∈ ns, z.natAbs < 2 ^ 1048576) ∧ Dr n S ∧ ∀ c S', c.natAbs < 2 ^ 1048576 → Dr n S' → Ch n S S' → Q (.int c) S'
theorem body_law_cell : Body 2 2 (w_law_cell sp_take) sp_cell := by
  rintro ds S Q _ ⟨ns, n, rfl, hl, hb, hd, k⟩
  unfold w_law_cell
  (simp only [start, List.map_cons, List.map_nil, List.length_cons, List.length_nil, Nat.reduceAdd, Nat.reduceSub, List.replicate_succ, List.replicate_zero, List.cons_append, List.nil_append, Nat.sub_self, Nat.zero_add])
  ((with_reducible conv => whnf); repeat (first | (refine And.intro (okII _ _) ?_; rw [eqD_ii]; with_reducible conv => whnf) | (refine And.intro (by first | assumption | exact Exists.intro _ (by assumption) | exact ⟨rfl, rfl, by decide, by decide⟩ | exact Nat.le_of_ble_eq_true rfl | exact rfl) ?_; with_reducible conv => whnf) | (rw [isLst_at (by assumption)]; with_reducible conv => whnf) | (refine ifT rfl ?_; with_reducible conv => whnf) | (refine ifF rfl ?_; with_reducible conv => whnf) | (refine it_at (by assumption) ?_; with_reducible conv => whnf)))
  refine ite_d (fun hc => k 0 S (Nat.pow_pos (by decide)) hd (Ch.refl _ _)) fun hc => ?_
  ((with_reducible conv => whnf); repeat (first | (refine And.intro (okII _ _) ?_; rw [eqD_ii]; with_reducible conv => whnf) | (refine And.intro (by first | assumption | exact Exists.intro _ (by assumption) | exact ⟨rfl, rfl, by decide, by decide⟩ | exact Nat.le_of_ble_eq_true rfl | exact rfl) ?_; with_reducible conv => whnf) | (rw [isLst_at (by assumption)]; with_reducible conv => whnf) | (refine ifT rfl ?_; with_reducible conv => whnf) | (refine ifF rfl ?_; with_reducible conv => whnf) | (refine it_at (by assumption) ?_; with_reducible conv => whnf)))
  rw [List.length_map] at hc ⊢
  refine ⟨_, _, rfl, by omega, hd, fun r S' h0 h1 hd' hc' => ?_⟩
  ((with_reducible conv => whnf); repeat (first | (refine And.intro (okII _ _) ?_; rw [eqD_ii]; with_reducible conv => whnf) | (refine And.intro (by first | assumption | exact Exists.intro _ (by assumption) | exact ⟨rfl, rfl, by decide, by decide⟩ | exact Nat.le_of_ble_eq_true rfl | exact rfl) ?_; with_reducible conv => whnf) | (rw [isLst_at (by assumption)]; with_reducible conv => whnf) | (refine ifT rfl ?_; with_reducible conv => whnf) | (refine ifF rfl ?_; with_reducible conv => whnf) | (refine it_at (by assumption) ?_; with_reducible conv => whnf)))
  refine ⟨_, atZ_intD h0 h1, ?_⟩
  ((with_reducible conv => whnf); repeat (first | (refine And.intro (okII _ _) ?_; rw [eqD_ii]; with_reducible conv => whnf) | (refine And.intro (by first | assumption | exact Exists.intro _ (by assumption) | exact ⟨rfl, rfl, by decide, by decide⟩ | exact Nat.le_of_ble_eq_true rfl | exact rfl) ?_; with_reducible conv => whnf) | (rw [isLst_at (by assumption)]; with_reducible conv => whnf) | (refine ifT rfl ?_; with_reducible conv => whnf) | (refine ifF rfl ?_; with_reducible conv => whnf) | (refine it_at (by assumption) ?_; with_reducible conv => whnf)))
  refine k _ _ (hb _ ?_) hd' hc'
  rw [List.getD_eq_getElem?_getD, List.getElem?_eq_getElem (show r.toNat < ns.length by omega)]
  exact List.getElem_mem _
mutual
def noS : D → Bool
  | .str _ => false
  | .tup xs => noSs xs
  | _ => true
def noSs : List D → Bool
  | [] => true
  | x :: xs => noS x && noSs xs
end
theorem noSs_get {xs : List D} {i : Nat} {d : D} : noSs xs = true → xs[i]? = some d → noS d = true := by
  induction xs generalizing i with
  | nil => intro _ h; cases h
  | cons x xs ih =>
    intro h e
    have h := Bool.and_eq_true_iff.mp (show (noS x && noSs xs) = true from h)
    cases i with
    | zero => rw [← Option.some.inj e]; exact h.1
    | succ i => exact ih h.2 e
@[reducible] def sp_same (N : Nat) : Spc := fun ds S Q => ∃ d, ds = [d, d] ∧ (flat d = true ∧ noS d = true) ∧ slim d = true ∧ deep d ≤ N ∧ ∀ S', Sub S S' → Q (.bl true) S'
@[reducible] def spNo : Spc := fun _ _ _ => False
theorem body_law_same (sp : Spc) (N : Nat) (hN : N ≤ 60) (hsp : N = 0 ∨ ∃ M, N = M + 1 ∧ sp = sp_same M) : Body 3 2 (w_law_same sp) (sp_same N) := by
  rintro ds S Q _ ⟨d, rfl, ⟨hf, hns⟩, hsl, hd, k⟩
  unfold w_law_same
  have hself := eqD_self d hf
  have k0 := k S (Sub.refl _)
  (simp only [start, List.map_cons, List.map_nil, List.length_cons, List.length_nil, Nat.reduceAdd, Nat.reduceSub, List.replicate_succ, List.replicate_zero, List.cons_append, List.nil_append, Nat.sub_self, Nat.zero_add])
  cases d with
  | rol xs => cases hf
  | ref xs => cases hf
  | ty xs => cases hf
  | non =>
    ((with_reducible conv => whnf); repeat (first | (refine And.intro (okII _ _) ?_; rw [eqD_ii]; with_reducible conv => whnf) | (refine And.intro (by first | assumption | exact Exists.intro _ (by assumption) | exact ⟨rfl, rfl, by decide, by decide⟩ | exact Nat.le_of_ble_eq_true rfl | exact rfl) ?_; with_reducible conv => whnf) | (rw [isLst_at (by assumption)]; with_reducible conv => whnf) | (refine ifT rfl ?_; with_reducible conv => whnf) | (refine ifF rfl ?_; with_reducible conv => whnf) | (refine it_at (by assumption) ?_; with_reducible conv => whnf)))
    exact k0
  | bl b =>
    ((with_reducible conv => whnf); repeat (first | (refine And.intro (okII _ _) ?_; rw [eqD_ii]; with_reducible conv => whnf) | (refine And.intro (by first | assumption | exact Exists.intro _ (by assumption) | exact ⟨rfl, rfl, by decide, by decide⟩ | exact Nat.le_of_ble_eq_true rfl | exact rfl) ?_; with_reducible conv => whnf) | (rw [isLst_at (by assumption)]; with_reducible conv => whnf) | (refine ifT rfl ?_; with_reducible conv => whnf) | (refine ifF rfl ?_; with_reducible conv => whnf) | (refine it_at (by assumption) ?_; with_reducible conv => whnf)))
    refine ⟨true, rfl, ?_⟩
    ((with_reducible conv => whnf); repeat (first | (refine And.intro (okII _ _) ?_; rw [eqD_ii]; with_reducible conv => whnf) | (refine And.intro (by first | assumption | exact Exists.intro _ (by assumption) | exact ⟨rfl, rfl, by decide, by decide⟩ | exact Nat.le_of_ble_eq_true rfl | exact rfl) ?_; with_reducible conv => whnf) | (rw [isLst_at (by assumption)]; with_reducible conv => whnf) | (refine ifT rfl ?_; with_reducible conv => whnf) | (refine ifF rfl ?_; with_reducible conv => whnf) | (refine it_at (by assumption) ?_; with_reducible conv => whnf)))
    refine ⟨true, rfl, ?_⟩
    ((with_reducible conv => whnf); repeat (first | (refine And.intro (okII _ _) ?_; rw [eqD_ii]; with_reducible conv => whnf) | (refine And.intro (by first | assumption | exact Exists.intro _ (by assumption) | exact ⟨rfl, rfl, by decide, by decide⟩ | exact Nat.le_of_ble_eq_true rfl | exact rfl) ?_; with_reducible conv => whnf) | (rw [isLst_at (by assumption)]; with_reducible conv => whnf) | (refine ifT rfl ?_; with_reducible conv => whnf) | (refine ifF rfl ?_; with_reducible conv => whnf) | (refine it_at (by assumption) ?_; with_reducible conv => whnf)))
    refine ⟨⟨hf, hf, Nat.zero_le _, Nat.zero_le _⟩, ?_⟩
    rw [hself]
    exact k0
  | int i =>
    ((with_reducible conv => whnf); repeat (first | (refine And.intro (okII _ _) ?_; rw [eqD_ii]; with_reducible conv => whnf) | (refine And.intro (by first | assumption | exact Exists.intro _ (by assumption) | exact ⟨rfl, rfl, by decide, by decide⟩ | exact Nat.le_of_ble_eq_true rfl | exact rfl) ?_; with_reducible conv => whnf) | (rw [isLst_at (by assumption)]; with_reducible conv => whnf) | (refine ifT rfl ?_; with_reducible conv => whnf) | (refine ifF rfl ?_; with_reducible conv => whnf) | (refine it_at (by assumption) ?_; with_reducible conv => whnf)))
    refine ⟨false, rfl, ?_⟩
    ((with_reducible conv => whnf); repeat (first | (refine And.intro (okII _ _) ?_; rw [eqD_ii]; with_reducible conv => whnf) | (refine And.intro (by first | assumption | exact Exists.intro _ (by assumption) | exact ⟨rfl, rfl, by decide, by decide⟩ | exact Nat.le_of_ble_eq_true rfl | exact rfl) ?_; with_reducible conv => whnf) | (rw [isLst_at (by assumption)]; with_reducible conv => whnf) | (refine ifT rfl ?_; with_reducible conv => whnf) | (refine ifF rfl ?_; with_reducible conv => whnf) | (refine it_at (by assumption) ?_; with_reducible conv => whnf)))
    refine ⟨true, rfl, ?_⟩
    ((with_reducible conv => whnf); repeat (first | (refine And.intro (okII _ _) ?_; rw [eqD_ii]; with_reducible conv => whnf) | (refine And.intro (by first | assumption | exact Exists.intro _ (by assumption) | exact ⟨rfl, rfl, by decide, by decide⟩ | exact Nat.le_of_ble_eq_true rfl | exact rfl) ?_; with_reducible conv => whnf) | (rw [isLst_at (by assumption)]; with_reducible conv => whnf) | (refine ifT rfl ?_; with_reducible conv => whnf) | (refine ifF rfl ?_; with_reducible conv => whnf) | (refine it_at (by assumption) ?_; with_reducible conv => whnf)))
    refine ⟨true, rfl, ?_⟩
    ((with_reducible conv => whnf); repeat (first | (refine And.intro (okII _ _) ?_; rw [eqD_ii]; with_reducible conv => whnf) | (refine And.intro (by first | assumption | exact Exists.intro _ (by assumption) | exact ⟨rfl, rfl, by decide, by decide⟩ | exact Nat.le_of_ble_eq_true rfl | exact rfl) ?_; with_reducible conv => whnf) | (rw [isLst_at (by assumption)]; with_reducible conv => whnf) | (refine ifT rfl ?_; with_reducible conv => whnf) | (refine ifF rfl ?_; with_reducible conv => whnf) | (refine it_at (by assumption) ?_; with_reducible conv => whnf)))
    refine ⟨false, rfl, ?_⟩
    ((with_reducible conv => whnf); repeat (first | (refine And.intro (okII _ _) ?_; rw [eqD_ii]; with_reducible conv => whnf) | (refine And.intro (by first | assumption | exact Exists.intro _ (by assumption) | exact ⟨rfl, rfl, by decide, by decide⟩ | exact Nat.le_of_ble_eq_true rfl | exact rfl) ?_; with_reducible conv => whnf) | (rw [isLst_at (by assumption)]; with_reducible conv => whnf) | (refine ifT rfl ?_; with_reducible conv => whnf) | (refine ifF rfl ?_; with_reducible conv => whnf) | (refine it_at (by assumption) ?_; with_reducible conv => whnf)))
    rw [decide_eq_true rfl]
    exact k0
  | str x => cases hns
  | tup xs =>
    ((with_reducible conv => whnf); repeat (first | (refine And.intro (okII _ _) ?_; rw [eqD_ii]; with_reducible conv => whnf) | (refine And.intro (by first | assumption | exact Exists.intro _ (by assumption) | exact ⟨rfl, rfl, by decide, by decide⟩ | exact Nat.le_of_ble_eq_true rfl | exact rfl) ?_; with_reducible conv => whnf) | (rw [isLst_at (by assumption)]; with_reducible conv => whnf) | (refine ifT rfl ?_; with_reducible conv => whnf) | (refine ifF rfl ?_; with_reducible conv => whnf) | (refine it_at (by assumption) ?_; with_reducible conv => whnf)))
    refine ⟨false, rfl, ?_⟩
    ((with_reducible conv => whnf); repeat (first | (refine And.intro (okII _ _) ?_; rw [eqD_ii]; with_reducible conv => whnf) | (refine And.intro (by first | assumption | exact Exists.intro _ (by assumption) | exact ⟨rfl, rfl, by decide, by decide⟩ | exact Nat.le_of_ble_eq_true rfl | exact rfl) ?_; with_reducible conv => whnf) | (rw [isLst_at (by assumption)]; with_reducible conv => whnf) | (refine ifT rfl ?_; with_reducible conv => whnf) | (refine ifF rfl ?_; with_reducible conv => whnf) | (refine it_at (by assumption) ?_; with_reducible conv => whnf)))
    refine ⟨false, rfl, ?_⟩
    ((with_reducible conv => whnf); repeat (first | (refine And.intro (okII _ _) ?_; rw [eqD_ii]; with_reducible conv => whnf) | (refine And.intro (by first | assumption | exact Exists.intro _ (by assumption) | exact ⟨rfl, rfl, by decide, by decide⟩ | exact Nat.le_of_ble_eq_true rfl | exact rfl) ?_; with_reducible conv => whnf) | (rw [isLst_at (by assumption)]; with_reducible conv => whnf) | (refine ifT rfl ?_; with_reducible conv => whnf) | (refine ifF rfl ?_; with_reducible conv => whnf) | (refine it_at (by assumption) ?_; with_reducible conv => whnf)))
    refine ⟨true, rfl, ?_⟩
    ((with_reducible conv => whnf); repeat (first | (refine And.intro (okII _ _) ?_; rw [eqD_ii]; with_reducible conv => whnf) | (refine And.intro (by first | assumption | exact Exists.intro _ (by assumption) | exact ⟨rfl, rfl, by decide, by decide⟩ | exact Nat.le_of_ble_eq_true rfl | exact rfl) ?_; with_reducible conv => whnf) | (rw [isLst_at (by assumption)]; with_reducible conv => whnf) | (refine ifT rfl ?_; with_reducible conv => whnf) | (refine ifF rfl ?_; with_reducible conv => whnf) | (refine it_at (by assumption) ?_; with_reducible conv => whnf)))
    rw [if_neg (by simp)]
    have hsl := Bool.and_eq_true_iff.mp (show (decide (xs.length ≤ szL) && slims xs) = true from hsl)
    have hz := of_decide_eq_true hsl.1
    unfold szL at hz
    ((with_reducible conv => whnf); repeat (first | (refine And.intro (okII _ _) ?_; rw [eqD_ii]; with_reducible conv => whnf) | (refine And.intro (by first | assumption | exact Exists.intro _ (by assumption) | exact ⟨rfl, rfl, by decide, by decide⟩ | exact Nat.le_of_ble_eq_true rfl | exact rfl) ?_; with_reducible conv => whnf) | (rw [isLst_at (by assumption)]; with_reducible conv => whnf) | (refine ifT rfl ?_; with_reducible conv => whnf) | (refine ifF rfl ?_; with_reducible conv => whnf) | (refine it_at (by assumption) ?_; with_reducible conv => whnf)))
    refine ⟨⟨by omega, by omega⟩, ?_⟩
    refine Loop_mk (fun _ ρ S' => ∃ o, ρ = [some (.tup xs), some (.tup xs), o] ∧ Sub S S') ⟨_, rfl, Sub.refl _⟩ (by intros; trivial) ?_ ?_
    · rintro i d ρ' S' hi ⟨o, rfl, hs⟩
      obtain ⟨hi1, rfl⟩ := rangeD_get hi
      have hl : i < xs.length := by omega
      have e := List.getElem?_eq_getElem hl
      have ez := atZ_nat e
      rw [show ((i : Nat) : Int) = 0 + i by omega] at ez
      ((with_reducible conv => whnf); repeat (first | (refine And.intro (okII _ _) ?_; rw [eqD_ii]; with_reducible conv => whnf) | (refine And.intro (by first | assumption | exact Exists.intro _ (by assumption) | exact ⟨rfl, rfl, by decide, by decide⟩ | exact Nat.le_of_ble_eq_true rfl | exact rfl) ?_; with_reducible conv => whnf) | (rw [isLst_at (by assumption)]; with_reducible conv => whnf) | (refine ifT rfl ?_; with_reducible conv => whnf) | (refine ifF rfl ?_; with_reducible conv => whnf) | (refine it_at (by assumption) ?_; with_reducible conv => whnf)))
      refine ⟨_, ez, ?_⟩
      ((with_reducible conv => whnf); repeat (first | (refine And.intro (okII _ _) ?_; rw [eqD_ii]; with_reducible conv => whnf) | (refine And.intro (by first | assumption | exact Exists.intro _ (by assumption) | exact ⟨rfl, rfl, by decide, by decide⟩ | exact Nat.le_of_ble_eq_true rfl | exact rfl) ?_; with_reducible conv => whnf) | (rw [isLst_at (by assumption)]; with_reducible conv => whnf) | (refine ifT rfl ?_; with_reducible conv => whnf) | (refine ifF rfl ?_; with_reducible conv => whnf) | (refine it_at (by assumption) ?_; with_reducible conv => whnf)))
      refine ⟨_, ez, ?_⟩
      ((with_reducible conv => whnf); repeat (first | (refine And.intro (okII _ _) ?_; rw [eqD_ii]; with_reducible conv => whnf) | (refine And.intro (by first | assumption | exact Exists.intro _ (by assumption) | exact ⟨rfl, rfl, by decide, by decide⟩ | exact Nat.le_of_ble_eq_true rfl | exact rfl) ?_; with_reducible conv => whnf) | (rw [isLst_at (by assumption)]; with_reducible conv => whnf) | (refine ifT rfl ?_; with_reducible conv => whnf) | (refine ifF rfl ?_; with_reducible conv => whnf) | (refine it_at (by assumption) ?_; with_reducible conv => whnf)))
      have hdd : deep (.tup xs) = deeps xs + 1 := rfl
      rcases hsp with h0 | ⟨M, hM, rfl⟩
      · omega
      ((with_reducible conv => whnf); repeat (first | (refine And.intro (okII _ _) ?_; rw [eqD_ii]; with_reducible conv => whnf) | (refine And.intro (by first | assumption | exact Exists.intro _ (by assumption) | exact ⟨rfl, rfl, by decide, by decide⟩ | exact Nat.le_of_ble_eq_true rfl | exact rfl) ?_; with_reducible conv => whnf) | (rw [isLst_at (by assumption)]; with_reducible conv => whnf) | (refine ifT rfl ?_; with_reducible conv => whnf) | (refine ifF rfl ?_; with_reducible conv => whnf) | (refine it_at (by assumption) ?_; with_reducible conv => whnf)))
      have := deeps_get e
      refine ⟨_, rfl, ⟨flats_get hf e, noSs_get hns e⟩, slims_get hsl.2 e, by omega, fun S2 hs2 => ?_⟩
      ((with_reducible conv => whnf); repeat (first | (refine And.intro (okII _ _) ?_; rw [eqD_ii]; with_reducible conv => whnf) | (refine And.intro (by first | assumption | exact Exists.intro _ (by assumption) | exact ⟨rfl, rfl, by decide, by decide⟩ | exact Nat.le_of_ble_eq_true rfl | exact rfl) ?_; with_reducible conv => whnf) | (rw [isLst_at (by assumption)]; with_reducible conv => whnf) | (refine ifT rfl ?_; with_reducible conv => whnf) | (refine ifF rfl ?_; with_reducible conv => whnf) | (refine it_at (by assumption) ?_; with_reducible conv => whnf)))
      exact ⟨_, rfl, hs.trans hs2⟩
    · rintro ρ' S' ⟨o, rfl, hs⟩
      ((with_reducible conv => whnf); repeat (first | (refine And.intro (okII _ _) ?_; rw [eqD_ii]; with_reducible conv => whnf) | (refine And.intro (by first | assumption | exact Exists.intro _ (by assumption) | exact ⟨rfl, rfl, by decide, by decide⟩ | exact Nat.le_of_ble_eq_true rfl | exact rfl) ?_; with_reducible conv => whnf) | (rw [isLst_at (by assumption)]; with_reducible conv => whnf) | (refine ifT rfl ?_; with_reducible conv => whnf) | (refine ifF rfl ?_; with_reducible conv => whnf) | (refine it_at (by assumption) ?_; with_reducible conv => whnf)))
      exact k _ hs
@[reducible] def sp_gcd : Spc := fun ds S Q => ∃ n d, ds = [.int n, .int d] ∧ ∀ S', Sub S S' → Q (.int (Nat.gcd n.natAbs d.natAbs : Nat)) S'
theorem body_divisor : Body 2 2 w_divisor sp_gcd := by
  rintro ds S Q _ ⟨n, d, rfl, k⟩
  unfold w_divisor
  (simp only [start, List.map_cons, List.map_nil, List.length_cons, List.length_nil, Nat.reduceAdd, Nat.reduceSub, List.replicate_succ, List.replicate_zero, List.cons_append, List.nil_append, Nat.sub_self, Nat.zero_add])
  ((with_reducible conv => whnf); repeat (first | (rw [natD_len]; with_reducible conv => whnf) | (rw [intD_len]; with_reducible conv => whnf) | (refine Exists.intro _ (And.intro (rfl : _ = some _) ?_); with_reducible conv => whnf) | (refine And.intro (okII _ _) ?_; rw [eqD_ii]; with_reducible conv => whnf) | (refine And.intro (by first | assumption | exact Exists.intro _ (by assumption) | exact ⟨rfl, rfl, by decide, by decide⟩ | exact Nat.le_of_ble_eq_true rfl | exact rfl) ?_; with_reducible conv => whnf) | (rw [isLst_at (by assumption)]; with_reducible conv => whnf) | (refine ifT rfl ?_; with_reducible conv => whnf) | (refine ifF rfl ?_; with_reducible conv => whnf) | (refine it_at (by assumption) ?_; with_reducible conv => whnf)))
  exact k _ (Sub.refl _)
/-- n divided by d, of any size -/
@[reducible] def sp_ratio : Spc := fun ds S Q => ∃ n d, ds = [.int n, .int d] ∧ d ≠ 0 ∧ ∀ S', Sub S S' → Q (qD (Rat.divInt n d)) S'
theorem body_fraction : Body 3 2 (w_fraction sp_gcd) sp_ratio := by
  rintro ds S Q _ ⟨n, d, rfl, h0, k⟩
  unfold w_fraction
  (simp only [start, List.map_cons, List.map_nil, List.length_cons, List.length_nil, Nat.reduceAdd, Nat.reduceSub, List.replicate_succ, List.replicate_zero, List.cons_append, List.nil_append, Nat.sub_self, Nat.zero_add])
  ((with_reducible conv => whnf); repeat (first | (rw [natD_len]; with_reducible conv => whnf) | (rw [intD_len]; with_reducible conv => whnf) | (refine Exists.intro _ (And.intro (rfl : _ = some _) ?_); with_reducible conv => whnf) | (refine And.intro (okII _ _) ?_; rw [eqD_ii]; with_reducible conv => whnf) | (refine And.intro (by first | assumption | exact Exists.intro _ (by assumption) | exact ⟨rfl, rfl, by decide, by decide⟩ | exact Nat.le_of_ble_eq_true rfl | exact rfl) ?_; with_reducible conv => whnf) | (rw [isLst_at (by assumption)]; with_reducible conv => whnf) | (refine ifT rfl ?_; with_reducible conv => whnf) | (refine ifF rfl ?_; with_reducible conv => whnf) | (refine it_at (by assumption) ?_; with_reducible conv => whnf)))
  refine ⟨_, _, rfl, fun S1 h1 => ?_⟩
  have hg : 0 < Nat.gcd n.natAbs d.natAbs := Nat.gcd_pos_of_pos_right _ (by omega)
  have e := ratio_eq (n := n) h0
  have k := k S1 h1
  unfold qD at k
  rw [← e.1, ← e.2] at k
  ((with_reducible conv => whnf); repeat (first | (rw [natD_len]; with_reducible conv => whnf) | (rw [intD_len]; with_reducible conv => whnf) | (refine Exists.intro _ (And.intro (rfl : _ = some _) ?_); with_reducible conv => whnf) | (refine And.intro (okII _ _) ?_; rw [eqD_ii]; with_reducible conv => whnf) | (refine And.intro (by first | assumption | exact Exists.intro _ (by assumption) | exact ⟨rfl, rfl, by decide, by decide⟩ | exact Nat.le_of_ble_eq_true rfl | exact rfl) ?_; with_reducible conv => whnf) | (rw [isLst_at (by assumption)]; with_reducible conv => whnf) | (refine ifT rfl ?_; with_reducible conv => whnf) | (refine ifF rfl ?_; with_reducible conv => whnf) | (refine it_at (by assumption) ?_; with_reducible conv => whnf)))
  refine ite_d (fun hc => ?_) fun hc => ?_
  · rw [if_pos hc] at k
    ((with_reducible conv => whnf); repeat (first | (rw [natD_len]; with_reducible conv => whnf) | (rw [intD_len]; with_reducible conv => whnf) | (refine Exists.intro _ (And.intro (rfl : _ = some _) ?_); with_reducible conv => whnf) | (refine And.intro (okII _ _) ?_; rw [eqD_ii]; with_reducible conv => whnf) | (refine And.intro (by first | assumption | exact Exists.intro _ (by assumption) | exact ⟨rfl, rfl, by decide, by decide⟩ | exact Nat.le_of_ble_eq_true rfl | exact rfl) ?_; with_reducible conv => whnf) | (rw [isLst_at (by assumption)]; with_reducible conv => whnf) | (refine ifT rfl ?_; with_reducible conv => whnf) | (refine ifF rfl ?_; with_reducible conv => whnf) | (refine it_at (by assumption) ?_; with_reducible conv => whnf)))
    refine ⟨by omega, ?_⟩
    ((with_reducible conv => whnf); repeat (first | (rw [natD_len]; with_reducible conv => whnf) | (rw [intD_len]; with_reducible conv => whnf) | (refine Exists.intro _ (And.intro (rfl : _ = some _) ?_); with_reducible conv => whnf) | (refine And.intro (okII _ _) ?_; rw [eqD_ii]; with_reducible conv => whnf) | (refine And.intro (by first | assumption | exact Exists.intro _ (by assumption) | exact ⟨rfl, rfl, by decide, by decide⟩ | exact Nat.le_of_ble_eq_true rfl | exact rfl) ?_; with_reducible conv => whnf) | (rw [isLst_at (by assumption)]; with_reducible conv => whnf) | (refine ifT rfl ?_; with_reducible conv => whnf) | (refine ifF rfl ?_; with_reducible conv => whnf) | (refine it_at (by assumption) ?_; with_reducible conv => whnf)))
    refine ⟨by omega, ?_⟩
    ((with_reducible conv => whnf); repeat (first | (rw [natD_len]; with_reducible conv => whnf) | (rw [intD_len]; with_reducible conv => whnf) | (refine Exists.intro _ (And.intro (rfl : _ = some _) ?_); with_reducible conv => whnf) | (refine And.intro (okII _ _) ?_; rw [eqD_ii]; with_reducible conv => whnf) | (refine And.intro (by first | assumption | exact Exists.intro _ (by assumption) | exact ⟨rfl, rfl, by decide, by decide⟩ | exact Nat.le_of_ble_eq_true rfl | exact rfl) ?_; with_reducible conv => whnf) | (rw [isLst_at (by assumption)]; with_reducible conv => whnf) | (refine ifT rfl ?_; with_reducible conv => whnf) | (refine ifF rfl ?_; with_reducible conv => whnf) | (refine it_at (by assumption) ?_; with_reducible conv => whnf)))
    exact k
  · rw [if_neg hc] at k
    ((with_reducible conv => whnf); repeat (first | (rw [natD_len]; with_reducible conv => whnf) | (rw [intD_len]; with_reducible conv => whnf) | (refine Exists.intro _ (And.intro (rfl : _ = some _) ?_); with_reducible conv => whnf) | (refine And.intro (okII _ _) ?_; rw [eqD_ii]; with_reducible conv => whnf) | (refine And.intro (by first | assumption | exact Exists.intro _ (by assumption) | exact ⟨rfl, rfl, by decide, by decide⟩ | exact Nat.le_of_ble_eq_true rfl | exact rfl) ?_; with_reducible conv => whnf) | (rw [isLst_at (by assumption)]; with_reducible conv => whnf) | (refine ifT rfl ?_; with_reducible conv => whnf) | (refine ifF rfl ?_; with_reducible conv => whnf) | (refine it_at (by assumption) ?_; with_reducible conv => whnf)))
    refine ⟨by omega, ?_⟩
    ((with_reducible conv => whnf); repeat (first | (rw [natD_len]; with_reducible conv => whnf) | (rw [intD_len]; with_reducible conv => whnf) | (refine Exists.intro _ (And.intro (rfl : _ = some _) ?_); with_reducible conv => whnf) | (refine And.intro (okII _ _) ?_; rw [eqD_ii]; with_reducible conv => whnf) | (refine And.intro (by first | assumption | exact Exists.intro _ (by assumption) | exact ⟨rfl, rfl, by decide, by decide⟩ | exact Nat.le_of_ble_eq_true rfl | exact rfl) ?_; with_reducible conv => whnf) | (rw [isLst_at (by assumption)]; with_reducible conv => whnf) | (refine ifT rfl ?_; with_reducible conv => whnf) | (refine ifF rfl ?_; with_reducible conv => whnf) | (refine it_at (by assumption) ?_; with_reducible conv => whnf)))
    refine ⟨by omega, ?_⟩
    ((with_reducible conv => whnf); repeat (first | (rw [natD_len]; with_reducible conv => whnf) | (rw [intD_len]; with_reducible conv => whnf) | (refine Exists.intro _ (And.intro (rfl : _ = some _) ?_); with_reducible conv => whnf) | (refine And.intro (okII _ _) ?_; rw [eqD_ii]; with_reducible conv => whnf) | (refine And.intro (by first | assumption | exact Exists.intro _ (by assumption) | exact ⟨rfl, rfl, by decide, by decide⟩ | exact Nat.le_of_ble_eq_true rfl | exact rfl) ?_; with_reducible conv => whnf) | (rw [isLst_at (by assumption)]; with_reducible conv => whnf) | (refine ifT rfl ?_; with_reducible conv => whnf) | (refine ifF rfl ?_; with_reducible conv => whnf) | (refine it_at (by assumption) ?_; with_reducible conv => whnf)))
    exact k
@[reducible] def sp_low : Spc := fun ds S Q => ∃ (n : Int) (d : Nat), ds = [.int n, .int d] ∧ d ≠ 0 ∧ ∀ S', Sub S S' → Q (qD (Rat.divInt n d)) S'
theorem body_law_lowest : Body 4 2 w_law_lowest sp_low := by
  rintro ds S Q _ ⟨n, d, rfl, h0, k⟩
  unfold w_law_lowest
  (simp only [start, List.map_cons, List.map_nil, List.length_cons, List.length_nil, Nat.reduceAdd, Nat.reduceSub, List.replicate_succ, List.replicate_zero, List.cons_append, List.nil_append, Nat.sub_self, Nat.zero_add])
  ((with_reducible conv => whnf); repeat (first | (rw [natD_len]; with_reducible conv => whnf) | (rw [intD_len]; with_reducible conv => whnf) | (refine Exists.intro _ (And.intro (rfl : _ = some _) ?_); with_reducible conv => whnf) | (refine And.intro (okII _ _) ?_; rw [eqD_ii]; with_reducible conv => whnf) | (refine And.intro (by first | assumption | exact Exists.intro _ (by assumption) | exact ⟨rfl, rfl, by decide, by decide⟩ | exact Nat.le_of_ble_eq_true rfl | exact rfl) ?_; with_reducible conv => whnf) | (rw [isLst_at (by assumption)]; with_reducible conv => whnf) | (refine ifT rfl ?_; with_reducible conv => whnf) | (refine ifF rfl ?_; with_reducible conv => whnf) | (refine it_at (by assumption) ?_; with_reducible conv => whnf)))
  refine ⟨fun m ρ S' => ∃ (a b : Nat), m = b ∧ ρ = [some (.int n), some (.int d), some (.int a), some (.int b)] ∧ Nat.gcd a b = Nat.gcd n.natAbs d ∧ S' = S, ⟨_, n.natAbs, d, rfl, rfl, rfl, rfl⟩, ?_⟩
  rintro m ρ' S' ⟨a, b, hmb, rfl, hg, rfl⟩
  ((with_reducible conv => whnf); repeat (first | (rw [natD_len]; with_reducible conv => whnf) | (rw [intD_len]; with_reducible conv => whnf) | (refine Exists.intro _ (And.intro (rfl : _ = some _) ?_); with_reducible conv => whnf) | (refine And.intro (okII _ _) ?_; rw [eqD_ii]; with_reducible conv => whnf) | (refine And.intro (by first | assumption | exact Exists.intro _ (by assumption) | exact ⟨rfl, rfl, by decide, by decide⟩ | exact Nat.le_of_ble_eq_true rfl | exact rfl) ?_; with_reducible conv => whnf) | (rw [isLst_at (by assumption)]; with_reducible conv => whnf) | (refine ifT rfl ?_; with_reducible conv => whnf) | (refine ifF rfl ?_; with_reducible conv => whnf) | (refine it_at (by assumption) ?_; with_reducible conv => whnf)))
  refine ite_d (fun hc => ?_) fun hc => ?_
  · ((with_reducible conv => whnf); repeat (first | (rw [natD_len]; with_reducible conv => whnf) | (rw [intD_len]; with_reducible conv => whnf) | (refine Exists.intro _ (And.intro (rfl : _ = some _) ?_); with_reducible conv => whnf) | (refine And.intro (okII _ _) ?_; rw [eqD_ii]; with_reducible conv => whnf) | (refine And.intro (by first | assumption | exact Exists.intro _ (by assumption) | exact ⟨rfl, rfl, by decide, by decide⟩ | exact Nat.le_of_ble_eq_true rfl | exact rfl) ?_; with_reducible conv => whnf) | (rw [isLst_at (by assumption)]; with_reducible conv => whnf) | (refine ifT rfl ?_; with_reducible conv => whnf) | (refine ifF rfl ?_; with_reducible conv => whnf) | (refine it_at (by assumption) ?_; with_reducible conv => whnf)))
    refine ⟨by omega, ?_⟩
    rw [show (a : Int).fmod (b : Int) = ((a % b : Nat) : Int) by rw [Int.fmod_eq_emod_of_nonneg _ (by omega), Int.natCast_emod]]
    (with_reducible conv => whnf)
    refine ⟨a % b, by rw [hmb]; exact Nat.mod_lt _ (by omega), b, a % b, rfl, rfl, ?_, rfl⟩
    rw [← hg, Nat.gcd_comm a b, Nat.gcd_rec b a, Nat.gcd_comm]
  · obtain rfl : b = 0 := by omega
    rw [Nat.gcd_zero_right] at hg
    subst hg
    have hg : 0 < Nat.gcd n.natAbs d := Nat.gcd_pos_of_pos_right _ (by omega)
    have e := ratio_eq (n := n) (d := (d : Int)) (by omega)
    rw [if_neg (by omega), Int.natAbs_natCast] at e
    have k := k S' (Sub.refl _)
    unfold qD at k
    rw [← e.1, ← e.2] at k
    ((with_reducible conv => whnf); repeat (first | (rw [natD_len]; with_reducible conv => whnf) | (rw [intD_len]; with_reducible conv => whnf) | (refine Exists.intro _ (And.intro (rfl : _ = some _) ?_); with_reducible conv => whnf) | (refine And.intro (okII _ _) ?_; rw [eqD_ii]; with_reducible conv => whnf) | (refine And.intro (by first | assumption | exact Exists.intro _ (by assumption) | exact ⟨rfl, rfl, by decide, by decide⟩ | exact Nat.le_of_ble_eq_true rfl | exact rfl) ?_; with_reducible conv => whnf) | (rw [isLst_at (by assumption)]; with_reducible conv => whnf) | (refine ifT rfl ?_; with_reducible conv => whnf) | (refine ifF rfl ?_; with_reducible conv => whnf) | (refine it_at (by assumption) ?_; with_reducible conv => whnf)))
    refine ⟨by omega, ?_⟩
    ((with_reducible conv => whnf); repeat (first | (rw [natD_len]; with_reducible conv => whnf) | (rw [intD_len]; with_reducible conv => whnf) | (refine Exists.intro _ (And.intro (rfl : _ = some _) ?_); with_reducible conv => whnf) | (refine And.intro (okII _ _) ?_; rw [eqD_ii]; with_reducible conv => whnf) | (refine And.intro (by first | assumption | exact Exists.intro _ (by assumption) | exact ⟨rfl, rfl, by decide, by decide⟩ | exact Nat.le_of_ble_eq_true rfl | exact rfl) ?_; with_reducible conv => whnf) | (rw [isLst_at (by assumption)]; with_reducible conv => whnf) | (refine ifT rfl ?_; with_reducible conv => whnf) | (refine ifF rfl ?_; with_reducible conv => whnf) | (refine it_at (by assumption) ?_; with_reducible conv => whnf)))
    refine ⟨by omega, ?_⟩
    ((with_reducible conv => whnf); repeat (first | (rw [natD_len]; with_reducible conv => whnf) | (rw [intD_len]; with_reducible conv => whnf) | (refine Exists.intro _ (And.intro (rfl : _ = some _) ?_); with_reducible conv => whnf) | (refine And.intro (okII _ _) ?_; rw [eqD_ii]; with_reducible conv => whnf) | (refine And.intro (by first | assumption | exact Exists.intro _ (by assumption) | exact ⟨rfl, rfl, by decide, by decide⟩ | exact Nat.le_of_ble_eq_true rfl | exact rfl) ?_; with_reducible conv => whnf) | (rw [isLst_at (by assumption)]; with_reducible conv => whnf) | (refine ifT rfl ?_; with_reducible conv => whnf) | (refine ifF rfl ?_; with_reducible conv => whnf) | (refine it_at (by assumption) ?_; with_reducible conv => whnf)))
    exact k
end K80
set_option linter.all false
set_option maxRecDepth 100000
set_option maxHeartbeats 4000000
namespace K80
open DL
/-- a chance of the law -/
structure Chc (p : Rat) : Prop where
  lo : 0 ≤ p
  hi : p ≤ 1
  den : p.den < 2 ^ 100
/-- its number as a natural, and what is missing to the denominator -/
theorem Chc.nat {p : Rat} (h : Chc p) : ∃ n m : Nat, p.num = (n : Int) ∧ p.den = n + m ∧ (n : Rat) = p * (p.den : Rat) ∧ (m : Rat) = (1 - p) * (p.den : Rat) := by
  have e := q_den p
  have hd : (0 : Rat) < (p.den : Rat) := by exact_mod_cast p.den_pos
  have h1 : (0 : Rat) ≤ (p.num : Rat) := by rw [← e]; exact Rat.mul_nonneg h.lo (Rat.le_of_lt hd)
  have h2 : (p.num : Rat) ≤ (p.den : Rat) := by
    have := Rat.mul_le_mul_of_nonneg_right h.hi (Rat.le_of_lt hd)
    grind
  have i1 : 0 ≤ p.num := by exact_mod_cast h1
  have i2 : p.num ≤ (p.den : Int) := by exact_mod_cast h2
  obtain ⟨n, hn⟩ := Int.eq_ofNat_of_zero_le i1
  obtain ⟨m, hm⟩ : ∃ m, p.den = n + m := ⟨p.den - n, by omega⟩
  have c : (n : Rat) = p * (p.den : Rat) := by rw [e, hn]; rfl
  refine ⟨n, m, hn, hm, c, ?_⟩
  have : (p.den : Rat) = (n : Rat) + (m : Rat) := by rw [hm, Rat.natCast_add]
  grind
theorem mulB {i j : Int} (hi : i.natAbs < 2 ^ 100000) (hj : j.natAbs < 2 ^ 100000) : MulOk i j := sm_mul hi hj
theorem natB {n a : Nat} (h : n < 2 ^ a) (ha : a ≤ 100000) : ((n : Int)).natAbs < 2 ^ 100000 := by rw [Int.natAbs_natCast]; exact Nat.lt_of_lt_of_le h (Nat.pow_le_pow_right (by decide) ha)
theorem mulN {n m a b : Nat} (h1 : n < 2 ^ a) (h2 : m < 2 ^ b) (ha : a ≤ 100000) (hb : b ≤ 100000) : MulOk (n : Int) (m : Int) := mulB (natB h1 ha) (natB h2 hb)
theorem mul_lt {n m a b : Nat} (h1 : n < 2 ^ a) (h2 : m < 2 ^ b) : n * m < 2 ^ (a + b) := by rw [Nat.pow_add]; exact Nat.mul_lt_mul'' h1 h2
theorem pow_lt {n a : Nat} (h : n < 2 ^ a) (k : Nat) : n ^ k < 2 ^ (a * k + 1) := by
  refine Nat.lt_of_le_of_lt (Nat.pow_le_pow_left (Nat.le_of_lt h) k) ?_
  rw [← Nat.pow_mul]
  exact Nat.pow_lt_pow_right (by decide) (by omega)
@[reducible] def sp_pow : Spc := fun ds S Q => ∃ n k : Nat, ds = [.int n, .int k] ∧ n < 2 ^ 100 ∧ k ≤ 500 ∧ ∀ S', Sub S S' → Q (.int ((n ^ k : Nat) : Int)) S'
theorem body_power : Body 4 2 w_power sp_pow := by
  rintro ds S Q _ ⟨n, kk, rfl, hn, hk, k⟩
  unfold w_power
  (simp only [start, List.map_cons, List.map_nil, List.length_cons, List.length_nil, Nat.reduceAdd, Nat.reduceSub, List.replicate_succ, List.replicate_zero, List.cons_append, List.nil_append, Nat.sub_self, Nat.zero_add])
  ((with_reducible conv => whnf); repeat (first | (rw [natD_len]; with_reducible conv => whnf) | (rw [intD_len]; with_reducible conv => whnf) | (refine Exists.intro _ (And.intro (rfl : _ = some _) ?_); with_reducible conv => whnf) | (refine And.intro (okII _ _) ?_; rw [eqD_ii]; with_reducible conv => whnf) | (refine And.intro (by first | assumption | exact Exists.intro _ (by assumption) | exact ⟨rfl, rfl, by decide, by decide⟩ | exact Nat.le_of_ble_eq_true rfl | exact rfl) ?_; with_reducible conv => whnf) | (rw [isLst_at (by assumption)]; with_reducible conv => whnf) | (refine ifT rfl ?_; with_reducible conv => whnf) | (refine ifF rfl ?_; with_reducible conv => whnf) | (refine it_at (by assumption) ?_; with_reducible conv => whnf)))
  refine ⟨⟨by omega, by omega⟩, ?_⟩
  refine Loop_mk (fun i ρ S' => ∃ o3, ρ = [some (.int n), some (.int kk), some (.int ((n ^ i : Nat) : Int)), o3] ∧ Sub S S') ⟨none, rfl, Sub.refl _⟩ (by intros; trivial) ?_ ?_
  · rintro i d ρ' S' hi ⟨o3, rfl, s1⟩
    obtain ⟨hi1, rfl⟩ := rangeD_get hi
    ((with_reducible conv => whnf); repeat (first | (rw [natD_len]; with_reducible conv => whnf) | (rw [intD_len]; with_reducible conv => whnf) | (refine Exists.intro _ (And.intro (rfl : _ = some _) ?_); with_reducible conv => whnf) | (refine And.intro (okII _ _) ?_; rw [eqD_ii]; with_reducible conv => whnf) | (refine And.intro (by first | assumption | exact Exists.intro _ (by assumption) | exact ⟨rfl, rfl, by decide, by decide⟩ | exact Nat.le_of_ble_eq_true rfl | exact rfl) ?_; with_reducible conv => whnf) | (rw [isLst_at (by assumption)]; with_reducible conv => whnf) | (refine ifT rfl ?_; with_reducible conv => whnf) | (refine ifF rfl ?_; with_reducible conv => whnf) | (refine it_at (by assumption) ?_; with_reducible conv => whnf)))
    refine ⟨mulN (pow_lt hn i) hn (by omega) (by omega), ?_⟩
    ((with_reducible conv => whnf); repeat (first | (rw [natD_len]; with_reducible conv => whnf) | (rw [intD_len]; with_reducible conv => whnf) | (refine Exists.intro _ (And.intro (rfl : _ = some _) ?_); with_reducible conv => whnf) | (refine And.intro (okII _ _) ?_; rw [eqD_ii]; with_reducible conv => whnf) | (refine And.intro (by first | assumption | exact Exists.intro _ (by assumption) | exact ⟨rfl, rfl, by decide, by decide⟩ | exact Nat.le_of_ble_eq_true rfl | exact rfl) ?_; with_reducible conv => whnf) | (rw [isLst_at (by assumption)]; with_reducible conv => whnf) | (refine ifT rfl ?_; with_reducible conv => whnf) | (refine ifF rfl ?_; with_reducible conv => whnf) | (refine it_at (by assumption) ?_; with_reducible conv => whnf)))
    refine ⟨some (.int (0 + (i : Int))), ?_, s1⟩
    rw [Nat.pow_succ, Int.natCast_mul]
  · rintro ρ' S' ⟨o3, rfl, s1⟩
    rw [rangeD_len, show ((kk : Int) - 0).toNat = kk by omega]
    ((with_reducible conv => whnf); repeat (first | (rw [natD_len]; with_reducible conv => whnf) | (rw [intD_len]; with_reducible conv => whnf) | (refine Exists.intro _ (And.intro (rfl : _ = some _) ?_); with_reducible conv => whnf) | (refine And.intro (okII _ _) ?_; rw [eqD_ii]; with_reducible conv => whnf) | (refine And.intro (by first | assumption | exact Exists.intro _ (by assumption) | exact ⟨rfl, rfl, by decide, by decide⟩ | exact Nat.le_of_ble_eq_true rfl | exact rfl) ?_; with_reducible conv => whnf) | (rw [isLst_at (by assumption)]; with_reducible conv => whnf) | (refine ifT rfl ?_; with_reducible conv => whnf) | (refine ifF rfl ?_; with_reducible conv => whnf) | (refine it_at (by assumption) ?_; with_reducible conv => whnf)))
    exact k _ s1
theorem body_law_power : Body 4 2 w_law_power sp_pow := by
  rintro ds S Q _ ⟨n, kk, rfl, hn, hk, k⟩
  unfold w_law_power
  (simp only [start, List.map_cons, List.map_nil, List.length_cons, List.length_nil, Nat.reduceAdd, Nat.reduceSub, List.replicate_succ, List.replicate_zero, List.cons_append, List.nil_append, Nat.sub_self, Nat.zero_add])
  ((with_reducible conv => whnf); repeat (first | (rw [natD_len]; with_reducible conv => whnf) | (rw [intD_len]; with_reducible conv => whnf) | (refine Exists.intro _ (And.intro (rfl : _ = some _) ?_); with_reducible conv => whnf) | (refine And.intro (okII _ _) ?_; rw [eqD_ii]; with_reducible conv => whnf) | (refine And.intro (by first | assumption | exact Exists.intro _ (by assumption) | exact ⟨rfl, rfl, by decide, by decide⟩ | exact Nat.le_of_ble_eq_true rfl | exact rfl) ?_; with_reducible conv => whnf) | (rw [isLst_at (by assumption)]; with_reducible conv => whnf) | (refine ifT rfl ?_; with_reducible conv => whnf) | (refine ifF rfl ?_; with_reducible conv => whnf) | (refine it_at (by assumption) ?_; with_reducible conv => whnf)))
  refine ⟨⟨by omega, by omega⟩, ?_⟩
  refine Loop_mk (fun i ρ S' => ∃ o3, ρ = [some (.int n), some (.int kk), some (.int ((n ^ i : Nat) : Int)), o3] ∧ Sub S S') ⟨none, rfl, Sub.refl _⟩ (by intros; trivial) ?_ ?_
  · rintro i d ρ' S' hi ⟨o3, rfl, s1⟩
    obtain ⟨hi1, rfl⟩ := rangeD_get hi
    ((with_reducible conv => whnf); repeat (first | (rw [natD_len]; with_reducible conv => whnf) | (rw [intD_len]; with_reducible conv => whnf) | (refine Exists.intro _ (And.intro (rfl : _ = some _) ?_); with_reducible conv => whnf) | (refine And.intro (okII _ _) ?_; rw [eqD_ii]; with_reducible conv => whnf) | (refine And.intro (by first | assumption | exact Exists.intro _ (by assumption) | exact ⟨rfl, rfl, by decide, by decide⟩ | exact Nat.le_of_ble_eq_true rfl | exact rfl) ?_; with_reducible conv => whnf) | (rw [isLst_at (by assumption)]; with_reducible conv => whnf) | (refine ifT rfl ?_; with_reducible conv => whnf) | (refine ifF rfl ?_; with_reducible conv => whnf) | (refine it_at (by assumption) ?_; with_reducible conv => whnf)))
    refine ⟨mulN (pow_lt hn i) hn (by omega) (by omega), ?_⟩
    ((with_reducible conv => whnf); repeat (first | (rw [natD_len]; with_reducible conv => whnf) | (rw [intD_len]; with_reducible conv => whnf) | (refine Exists.intro _ (And.intro (rfl : _ = some _) ?_); with_reducible conv => whnf) | (refine And.intro (okII _ _) ?_; rw [eqD_ii]; with_reducible conv => whnf) | (refine And.intro (by first | assumption | exact Exists.intro _ (by assumption) | exact ⟨rfl, rfl, by decide, by decide⟩ | exact Nat.le_of_ble_eq_true rfl | exact rfl) ?_; with_reducible conv => whnf) | (rw [isLst_at (by assumption)]; with_reducible conv => whnf) | (refine ifT rfl ?_; with_reducible conv => whnf) | (refine ifF rfl ?_; with_reducible conv => whnf) | (refine it_at (by assumption) ?_; with_reducible conv => whnf)))
    refine ⟨some (.int (0 + (i : Int))), ?_, s1⟩
    rw [Nat.pow_succ, Int.natCast_mul]
  · rintro ρ' S' ⟨o3, rfl, s1⟩
    rw [rangeD_len, show ((kk : Int) - 0).toNat = kk by omega]
    ((with_reducible conv => whnf); repeat (first | (rw [natD_len]; with_reducible conv => whnf) | (rw [intD_len]; with_reducible conv => whnf) | (refine Exists.intro _ (And.intro (rfl : _ = some _) ?_); with_reducible conv => whnf) | (refine And.intro (okII _ _) ?_; rw [eqD_ii]; with_reducible conv => whnf) | (refine And.intro (by first | assumption | exact Exists.intro _ (by assumption) | exact ⟨rfl, rfl, by decide, by decide⟩ | exact Nat.le_of_ble_eq_true rfl | exact rfl) ?_; with_reducible conv => whnf) | (rw [isLst_at (by assumption)]; with_reducible conv => whnf) | (refine ifT rfl ?_; with_reducible conv => whnf) | (refine ifF rfl ?_; with_reducible conv => whnf) | (refine it_at (by assumption) ?_; with_reducible conv => whnf)))
    exact k _ s1
/-- the total that fair_part keeps -/
def ttl (m d a B : Nat) : Nat → Nat
  | 0 => 0
  | k + 1 => ttl m d a B k + chs (a + k) k * m ^ k * (d ^ B / d ^ k)
theorem ttl_le {m d a B : Nat} (hm : m ≤ d) (hd : 0 < d) : ∀ k, k ≤ B + 1 → ttl m d a B k ≤ k * (2 ^ (a + B) * d ^ B)
  | 0, _ => by show 0 ≤ _; omega
  | k + 1, h => by
    have ih := ttl_le (a := a) (B := B) hm hd k (by omega)
    have h1 : chs (a + k) k ≤ 2 ^ (a + B) := Nat.le_trans (chs_le (a + k) k) (Nat.pow_le_pow_right (by decide) (show a + k ≤ a + B by omega))
    have e : d ^ B / d ^ k = d ^ (B - k) := Nat.pow_div (show k ≤ B by omega) hd
    have h2 : m ^ k * d ^ (B - k) ≤ d ^ B := by
      have := Nat.mul_le_mul_right (d ^ (B - k)) (Nat.pow_le_pow_left hm k)
      rw [← Nat.pow_add, show k + (B - k) = B by omega] at this
      exact this
    have h3 := Nat.mul_le_mul h1 h2
    show ttl m d a B k + chs (a + k) k * m ^ k * (d ^ B / d ^ k) ≤ (k + 1) * (2 ^ (a + B) * d ^ B)
    rw [e, Nat.mul_assoc, Nat.succ_mul]
    omega
theorem ttl_Q {m d a B : Nat} {q : Rat} (hq : (m : Rat) = q * (d : Rat)) (hd : 0 < d) : ∀ k, k ≤ B + 1 → ((ttl m d a B k : Nat) : Rat) = Af q a k * (d : Rat) ^ B
  | 0, _ => by show ((0 : Nat) : Rat) = 0 * _; have : ((0 : Nat) : Rat) = 0 := rfl; grind
  | k + 1, h => by
    have ih := ttl_Q (a := a) (B := B) hq hd k (by omega)
    have e : d ^ B / d ^ k = d ^ (B - k) := Nat.pow_div (show k ≤ B by omega) hd
    show ((ttl m d a B k + chs (a + k) k * m ^ k * (d ^ B / d ^ k) : Nat) : Rat) = (Af q a k + _) * _
    rw [e, Rat.natCast_add, ih, Rat.natCast_mul, Rat.natCast_mul, natPow, natPow, hq, mulPow]
    have e2 : (d : Rat) ^ B = (d : Rat) ^ k * (d : Rat) ^ (B - k) := by rw [← addPow]; congr 1; omega
    rw [e2]
    grind
@[reducible] def sp_part : Spc := fun ds S Q => ∃ (p : Rat) (a b : Nat), ds = [qD p, .int a, .int b] ∧ Chc p ∧ 1 ≤ a ∧ a ≤ 200 ∧ 1 ≤ b ∧ b ≤ 200 ∧ ∀ S', Sub S S' → Q (qD (FP p a b)) S'
theorem body_fair_part : Body 10 3 (w_fair_part sp_pow sp_ratio) sp_part := by
  rintro ds S Q _ ⟨p, a1, b1, rfl, hp, ha1, ha2, hb1, hb2, k⟩
  obtain ⟨a, rfl⟩ : ∃ a, a1 = a + 1 := ⟨a1 - 1, by omega⟩
  obtain ⟨b, rfl⟩ : ∃ b, b1 = b + 1 := ⟨b1 - 1, by omega⟩
  obtain ⟨n, m, hn, hd, hnq, hmq⟩ := hp.nat
  have hden := hp.den
  have hd0 := p.den_pos
  unfold w_fair_part
  (simp only [start, List.map_cons, List.map_nil, List.length_cons, List.length_nil, Nat.reduceAdd, Nat.reduceSub, List.replicate_succ, List.replicate_zero, List.cons_append, List.nil_append, Nat.sub_self, Nat.zero_add])
  ((with_reducible conv => whnf); repeat (first | (rw [natD_len]; with_reducible conv => whnf) | (rw [intD_len]; with_reducible conv => whnf) | (refine Exists.intro _ (And.intro (rfl : _ = some _) ?_); with_reducible conv => whnf) | (refine And.intro (okII _ _) ?_; rw [eqD_ii]; with_reducible conv => whnf) | (refine And.intro (by first | assumption | exact Exists.intro _ (by assumption) | exact ⟨rfl, rfl, by decide, by decide⟩ | exact Nat.le_of_ble_eq_true rfl | exact rfl) ?_; with_reducible conv => whnf) | (rw [isLst_at (by assumption)]; with_reducible conv => whnf) | (refine ifT rfl ?_; with_reducible conv => whnf) | (refine ifF rfl ?_; with_reducible conv => whnf) | (refine it_at (by assumption) ?_; with_reducible conv => whnf)))
  rw [hn, show ((b + 1 : Nat) : Int) - 1 = (b : Int) by omega]
  refine ⟨p.den, b, rfl, hden, by omega, fun S1 s1 => ?_⟩
  ((with_reducible conv => whnf); repeat (first | (rw [natD_len]; with_reducible conv => whnf) | (rw [intD_len]; with_reducible conv => whnf) | (refine Exists.intro _ (And.intro (rfl : _ = some _) ?_); with_reducible conv => whnf) | (refine And.intro (okII _ _) ?_; rw [eqD_ii]; with_reducible conv => whnf) | (refine And.intro (by first | assumption | exact Exists.intro _ (by assumption) | exact ⟨rfl, rfl, by decide, by decide⟩ | exact Nat.le_of_ble_eq_true rfl | exact rfl) ?_; with_reducible conv => whnf) | (rw [isLst_at (by assumption)]; with_reducible conv => whnf) | (refine ifT rfl ?_; with_reducible conv => whnf) | (refine ifF rfl ?_; with_reducible conv => whnf) | (refine it_at (by assumption) ?_; with_reducible conv => whnf)))
  refine ⟨⟨by omega, by omega⟩, ?_⟩
  refine Loop_mk (fun i ρ S' => ∃ o9, ρ = [some (qD p), some (.int ((a + 1 : Nat) : Int)), some (.int ((b + 1 : Nat) : Int)), some (.int n), some (.int p.den), some (.int ((chs (a + i) i : Nat) : Int)), some (.int ((m ^ i : Nat) : Int)), some (.int ((ttl m p.den a b i : Nat) : Int)), some (.int ((p.den ^ b / p.den ^ i : Nat) : Int)), o9] ∧ Sub S S')
    ⟨none, by rw [chs_0, Nat.pow_zero, Nat.pow_zero, Nat.div_one]; rfl, s1⟩ (by intros; trivial) ?_ ?_
  · clear s1 S1
    rintro i d ρ' S' hi ⟨o9, rfl, s1⟩
    obtain ⟨hi1, rfl⟩ := rangeD_get hi
    have hib : i ≤ b := by omega
    have l1 : chs (a + i) i < 2 ^ 401 := Nat.lt_of_le_of_lt (chs_le _ _) (Nat.pow_lt_pow_right (by decide) (by omega))
    have l2 : m ^ i < 2 ^ 20001 := Nat.lt_of_lt_of_le (pow_lt (show m < 2 ^ 100 by omega) i) (Nat.pow_le_pow_right (by decide) (by omega))
    have l3 : p.den ^ b / p.den ^ i < 2 ^ 20001 := Nat.lt_of_le_of_lt (Nat.div_le_self _ _) (Nat.lt_of_lt_of_le (pow_lt hden b) (Nat.pow_le_pow_right (by decide) (by omega)))
    ((with_reducible conv => whnf); repeat (first | (rw [natD_len]; with_reducible conv => whnf) | (rw [intD_len]; with_reducible conv => whnf) | (refine Exists.intro _ (And.intro (rfl : _ = some _) ?_); with_reducible conv => whnf) | (refine And.intro (okII _ _) ?_; rw [eqD_ii]; with_reducible conv => whnf) | (refine And.intro (by first | assumption | exact Exists.intro _ (by assumption) | exact ⟨rfl, rfl, by decide, by decide⟩ | exact Nat.le_of_ble_eq_true rfl | exact rfl) ?_; with_reducible conv => whnf) | (rw [isLst_at (by assumption)]; with_reducible conv => whnf) | (refine ifT rfl ?_; with_reducible conv => whnf) | (refine ifF rfl ?_; with_reducible conv => whnf) | (refine it_at (by assumption) ?_; with_reducible conv => whnf)))
    refine ⟨mulN l1 l2 (by omega) (by omega), ?_⟩
    (with_reducible conv => whnf)
    rw [← Int.natCast_mul]
    refine ⟨mulN (mul_lt l1 l2) l3 (by omega) (by omega), ?_⟩
    ((with_reducible conv => whnf); repeat (first | (rw [natD_len]; with_reducible conv => whnf) | (rw [intD_len]; with_reducible conv => whnf) | (refine Exists.intro _ (And.intro (rfl : _ = some _) ?_); with_reducible conv => whnf) | (refine And.intro (okII _ _) ?_; rw [eqD_ii]; with_reducible conv => whnf) | (refine And.intro (by first | assumption | exact Exists.intro _ (by assumption) | exact ⟨rfl, rfl, by decide, by decide⟩ | exact Nat.le_of_ble_eq_true rfl | exact rfl) ?_; with_reducible conv => whnf) | (rw [isLst_at (by assumption)]; with_reducible conv => whnf) | (refine ifT rfl ?_; with_reducible conv => whnf) | (refine ifF rfl ?_; with_reducible conv => whnf) | (refine it_at (by assumption) ?_; with_reducible conv => whnf)))
    refine ⟨smallMul (by omega), ?_⟩
    ((with_reducible conv => whnf); repeat (first | (rw [natD_len]; with_reducible conv => whnf) | (rw [intD_len]; with_reducible conv => whnf) | (refine Exists.intro _ (And.intro (rfl : _ = some _) ?_); with_reducible conv => whnf) | (refine And.intro (okII _ _) ?_; rw [eqD_ii]; with_reducible conv => whnf) | (refine And.intro (by first | assumption | exact Exists.intro _ (by assumption) | exact ⟨rfl, rfl, by decide, by decide⟩ | exact Nat.le_of_ble_eq_true rfl | exact rfl) ?_; with_reducible conv => whnf) | (rw [isLst_at (by assumption)]; with_reducible conv => whnf) | (refine ifT rfl ?_; with_reducible conv => whnf) | (refine ifF rfl ?_; with_reducible conv => whnf) | (refine it_at (by assumption) ?_; with_reducible conv => whnf)))
    refine ⟨by omega, ?_⟩
    ((with_reducible conv => whnf); repeat (first | (rw [natD_len]; with_reducible conv => whnf) | (rw [intD_len]; with_reducible conv => whnf) | (refine Exists.intro _ (And.intro (rfl : _ = some _) ?_); with_reducible conv => whnf) | (refine And.intro (okII _ _) ?_; rw [eqD_ii]; with_reducible conv => whnf) | (refine And.intro (by first | assumption | exact Exists.intro _ (by assumption) | exact ⟨rfl, rfl, by decide, by decide⟩ | exact Nat.le_of_ble_eq_true rfl | exact rfl) ?_; with_reducible conv => whnf) | (rw [isLst_at (by assumption)]; with_reducible conv => whnf) | (refine ifT rfl ?_; with_reducible conv => whnf) | (refine ifF rfl ?_; with_reducible conv => whnf) | (refine it_at (by assumption) ?_; with_reducible conv => whnf)))
    refine ⟨mulN l2 (show m < 2 ^ 100 by omega) (by omega) (by omega) |> fun h => by rw [show (p.den : Int) - (n : Int) = (m : Int) by omega]; exact h, ?_⟩
    ((with_reducible conv => whnf); repeat (first | (rw [natD_len]; with_reducible conv => whnf) | (rw [intD_len]; with_reducible conv => whnf) | (refine Exists.intro _ (And.intro (rfl : _ = some _) ?_); with_reducible conv => whnf) | (refine And.intro (okII _ _) ?_; rw [eqD_ii]; with_reducible conv => whnf) | (refine And.intro (by first | assumption | exact Exists.intro _ (by assumption) | exact ⟨rfl, rfl, by decide, by decide⟩ | exact Nat.le_of_ble_eq_true rfl | exact rfl) ?_; with_reducible conv => whnf) | (rw [isLst_at (by assumption)]; with_reducible conv => whnf) | (refine ifT rfl ?_; with_reducible conv => whnf) | (refine ifF rfl ?_; with_reducible conv => whnf) | (refine it_at (by assumption) ?_; with_reducible conv => whnf)))
    refine ⟨⟨by omega, by rw [Int.natAbs_natCast]; exact Nat.lt_of_lt_of_le hden (Nat.pow_le_pow_right (by decide) (by decide))⟩, ?_⟩
    ((with_reducible conv => whnf); repeat (first | (rw [natD_len]; with_reducible conv => whnf) | (rw [intD_len]; with_reducible conv => whnf) | (refine Exists.intro _ (And.intro (rfl : _ = some _) ?_); with_reducible conv => whnf) | (refine And.intro (okII _ _) ?_; rw [eqD_ii]; with_reducible conv => whnf) | (refine And.intro (by first | assumption | exact Exists.intro _ (by assumption) | exact ⟨rfl, rfl, by decide, by decide⟩ | exact Nat.le_of_ble_eq_true rfl | exact rfl) ?_; with_reducible conv => whnf) | (rw [isLst_at (by assumption)]; with_reducible conv => whnf) | (refine ifT rfl ?_; with_reducible conv => whnf) | (refine ifF rfl ?_; with_reducible conv => whnf) | (refine it_at (by assumption) ?_; with_reducible conv => whnf)))
    refine ⟨some (.int (0 + (i : Int))), ?_, s1⟩
    have e1 : (((chs (a + i) i : Nat) : Int) * (((a + 1 : Nat) : Int) + (0 + (i : Int)))).fdiv (0 + (i : Int) + 1) = ((chs (a + (i + 1)) (i + 1) : Nat) : Int) := by
      rw [show ((a + 1 : Nat) : Int) + (0 + (i : Int)) = ((a + 1 + i : Nat) : Int) by omega, show (0 + (i : Int) + 1) = ((i + 1 : Nat) : Int) by omega, ← Int.natCast_mul, Int.fdiv_eq_ediv_of_nonneg _ (by omega), ← Int.natCast_ediv, ways_next]
    have e2 : ((m ^ i : Nat) : Int) * ((p.den : Int) - (n : Int)) = ((m ^ (i + 1) : Nat) : Int) := by
      rw [show (p.den : Int) - (n : Int) = (m : Int) by omega, ← Int.natCast_mul, Nat.pow_succ]
    have e3 : ((p.den ^ b / p.den ^ i : Nat) : Int).fdiv (p.den : Int) = ((p.den ^ b / p.den ^ (i + 1) : Nat) : Int) := by
      rw [Int.fdiv_eq_ediv_of_nonneg _ (by omega), ← Int.natCast_ediv, Nat.div_div_eq_div_mul, ← Nat.pow_succ]
    have e4 : ((ttl m p.den a b i : Nat) : Int) + ((chs (a + i) i * m ^ i : Nat) : Int) * ((p.den ^ b / p.den ^ i : Nat) : Int) = ((ttl m p.den a b (i + 1) : Nat) : Int) := by
      rw [← Int.natCast_mul, ← Int.natCast_add]; rfl
    rw [← e1, ← e2, ← e3, ← e4]
  · clear s1 S1
    rintro ρ' S' ⟨o9, rfl, s1⟩
    rw [rangeD_len, show (((b + 1 : Nat) : Int) - 0).toNat = b + 1 by omega]
    ((with_reducible conv => whnf); repeat (first | (rw [natD_len]; with_reducible conv => whnf) | (rw [intD_len]; with_reducible conv => whnf) | (refine Exists.intro _ (And.intro (rfl : _ = some _) ?_); with_reducible conv => whnf) | (refine And.intro (okII _ _) ?_; rw [eqD_ii]; with_reducible conv => whnf) | (refine And.intro (by first | assumption | exact Exists.intro _ (by assumption) | exact ⟨rfl, rfl, by decide, by decide⟩ | exact Nat.le_of_ble_eq_true rfl | exact rfl) ?_; with_reducible conv => whnf) | (rw [isLst_at (by assumption)]; with_reducible conv => whnf) | (refine ifT rfl ?_; with_reducible conv => whnf) | (refine ifF rfl ?_; with_reducible conv => whnf) | (refine it_at (by assumption) ?_; with_reducible conv => whnf)))
    refine ⟨n, a + 1, rfl, by omega, by omega, fun S2 s2 => ?_⟩
    have t1 := ttl_le (a := a) (B := b) (show m ≤ p.den by omega) hd0 (b + 1) (by omega)
    have t2 : p.den ^ b < 2 ^ 20001 := Nat.lt_of_lt_of_le (pow_lt hden b) (Nat.pow_le_pow_right (by decide) (by omega))
    have t3 : ttl m p.den a b (b + 1) < 2 ^ 21000 := by
      refine Nat.lt_of_le_of_lt t1 (Nat.lt_of_lt_of_le (mul_lt (show b + 1 < 2 ^ 8 by omega) (mul_lt (show 2 ^ (a + b) < 2 ^ 400 from Nat.pow_lt_pow_right (by decide) (by omega)) t2)) (Nat.pow_le_pow_right (by decide) (by decide)))
    have t4 : n ^ (a + 1) < 2 ^ 20001 := Nat.lt_of_lt_of_le (pow_lt (show n < 2 ^ 100 by omega) (a + 1)) (Nat.pow_le_pow_right (by decide) (by omega))
    ((with_reducible conv => whnf); repeat (first | (rw [natD_len]; with_reducible conv => whnf) | (rw [intD_len]; with_reducible conv => whnf) | (refine Exists.intro _ (And.intro (rfl : _ = some _) ?_); with_reducible conv => whnf) | (refine And.intro (okII _ _) ?_; rw [eqD_ii]; with_reducible conv => whnf) | (refine And.intro (by first | assumption | exact Exists.intro _ (by assumption) | exact ⟨rfl, rfl, by decide, by decide⟩ | exact Nat.le_of_ble_eq_true rfl | exact rfl) ?_; with_reducible conv => whnf) | (rw [isLst_at (by assumption)]; with_reducible conv => whnf) | (refine ifT rfl ?_; with_reducible conv => whnf) | (refine ifF rfl ?_; with_reducible conv => whnf) | (refine it_at (by assumption) ?_; with_reducible conv => whnf)))
    refine ⟨mulN t3 t4 (by omega) (by omega), ?_⟩
    (with_reducible conv => whnf)
    rw [show ((a + 1 : Nat) : Int) + ((b + 1 : Nat) : Int) - 1 = ((a + 1 + b : Nat) : Int) by omega]
    ((with_reducible conv => whnf); repeat (first | (rw [natD_len]; with_reducible conv => whnf) | (rw [intD_len]; with_reducible conv => whnf) | (refine Exists.intro _ (And.intro (rfl : _ = some _) ?_); with_reducible conv => whnf) | (refine And.intro (okII _ _) ?_; rw [eqD_ii]; with_reducible conv => whnf) | (refine And.intro (by first | assumption | exact Exists.intro _ (by assumption) | exact ⟨rfl, rfl, by decide, by decide⟩ | exact Nat.le_of_ble_eq_true rfl | exact rfl) ?_; with_reducible conv => whnf) | (rw [isLst_at (by assumption)]; with_reducible conv => whnf) | (refine ifT rfl ?_; with_reducible conv => whnf) | (refine ifF rfl ?_; with_reducible conv => whnf) | (refine it_at (by assumption) ?_; with_reducible conv => whnf)))
    refine ⟨p.den, a + 1 + b, rfl, hden, by omega, fun S3 s3 => ?_⟩
    have hpp : 0 < p.den ^ (a + 1 + b) := Nat.pow_pos hd0
    ((with_reducible conv => whnf); repeat (first | (rw [natD_len]; with_reducible conv => whnf) | (rw [intD_len]; with_reducible conv => whnf) | (refine Exists.intro _ (And.intro (rfl : _ = some _) ?_); with_reducible conv => whnf) | (refine And.intro (okII _ _) ?_; rw [eqD_ii]; with_reducible conv => whnf) | (refine And.intro (by first | assumption | exact Exists.intro _ (by assumption) | exact ⟨rfl, rfl, by decide, by decide⟩ | exact Nat.le_of_ble_eq_true rfl | exact rfl) ?_; with_reducible conv => whnf) | (rw [isLst_at (by assumption)]; with_reducible conv => whnf) | (refine ifT rfl ?_; with_reducible conv => whnf) | (refine ifF rfl ?_; with_reducible conv => whnf) | (refine it_at (by assumption) ?_; with_reducible conv => whnf)))
    refine ⟨_, _, rfl, by omega, fun S4 s4 => ?_⟩
    rw [divInt_of (x := FP p (a + 1) (b + 1)) ?_ (by omega)]
    · exact k _ (s1.trans (s2.trans (s3.trans s4)))
    · rw [FP_Af, ← Int.natCast_mul]
      show ((ttl m p.den a b (b + 1) * n ^ (a + 1) : Nat) : Rat) = _
      rw [Rat.natCast_mul, ttl_Q (d := p.den) hmq hd0 (b + 1) (by omega), natPow, natPow, hnq, mulPow, addPow]
      grind
end K80
set_option linter.all false
set_option maxRecDepth 100000
set_option maxHeartbeats 4000000
namespace K80
open DL
/-- what the law keeps -/
def hrn (n m g : Nat) : Nat → Nat
  | 0 => 0
  | k + 1 => hrn n m g k * n + chs g k * m ^ k
theorem hrn_le {n m g D : Nat} (hn : n ≤ D) (hm : m ≤ D) (hD : 0 < D) : ∀ k, hrn n m g k ≤ k * (2 ^ g * D ^ k)
  | 0 => by show 0 ≤ _; omega
  | k + 1 => by
    have ih := hrn_le (g := g) hn hm hD k
    have h1 := Nat.mul_le_mul ih hn
    have h2 := Nat.mul_le_mul (chs_le g k) (Nat.pow_le_pow_left hm k)
    have h3 : 2 ^ g * D ^ k ≤ 2 ^ g * D ^ (k + 1) := Nat.mul_le_mul_left _ (Nat.pow_le_pow_right hD (by omega))
    have e : k * (2 ^ g * D ^ k) * D = k * (2 ^ g * D ^ (k + 1)) := by rw [Nat.mul_assoc, Nat.mul_assoc, ← Nat.pow_succ]
    show hrn n m g k * n + chs g k * m ^ k ≤ (k + 1) * (2 ^ g * D ^ (k + 1))
    rw [Nat.succ_mul]
    omega
theorem hrn_Q {n m g d : Nat} {p q : Rat} (hn : (n : Rat) = p * (d : Rat)) (hm : (m : Rat) = q * (d : Rat)) : ∀ k, ((hrn n m g (k + 1) : Nat) : Rat) = Bf p q g (k + 1) * (d : Rat) ^ k
  | 0 => by
    show ((0 * n + chs g 0 * m ^ 0 : Nat) : Rat) = (0 * p + (chs g 0 : Nat) * q ^ 0) * (d : Rat) ^ 0
    rw [chs_0, Nat.pow_zero, Nat.zero_mul, Rat.pow_zero, Rat.pow_zero]
    have : ((0 + 1 * 1 : Nat) : Rat) = 1 := rfl
    rw [this]
    have e1 : ((1 : Nat) : Rat) = 1 := rfl
    grind
  | k + 1 => by
    have ih := hrn_Q (g := g) hn hm k
    show ((hrn n m g (k + 1) * n + chs g (k + 1) * m ^ (k + 1) : Nat) : Rat) = (Bf p q g (k + 1) * p + (chs g (k + 1) : Nat) * q ^ (k + 1)) * (d : Rat) ^ (k + 1)
    rw [Rat.natCast_add, Rat.natCast_mul, ih, hn, Rat.natCast_mul, natPow, hm, mulPow, Rat.pow_succ (d : Rat) k]
    grind
theorem body_law_part : Body 10 3 (w_law_part sp_pow sp_low) sp_part := by
  rintro ds S Q _ ⟨p, a1, b1, rfl, hp, ha1, ha2, hb1, hb2, k⟩
  obtain ⟨a, rfl⟩ : ∃ a, a1 = a + 1 := ⟨a1 - 1, by omega⟩
  obtain ⟨b, rfl⟩ : ∃ b, b1 = b + 1 := ⟨b1 - 1, by omega⟩
  obtain ⟨n, m, hn, hd, hnq, hmq⟩ := hp.nat
  have hden := hp.den
  have hd0 := p.den_pos
  unfold w_law_part
  (simp only [start, List.map_cons, List.map_nil, List.length_cons, List.length_nil, Nat.reduceAdd, Nat.reduceSub, List.replicate_succ, List.replicate_zero, List.cons_append, List.nil_append, Nat.sub_self, Nat.zero_add])
  ((with_reducible conv => whnf); repeat (first | (rw [natD_len]; with_reducible conv => whnf) | (rw [intD_len]; with_reducible conv => whnf) | (refine Exists.intro _ (And.intro (rfl : _ = some _) ?_); with_reducible conv => whnf) | (refine And.intro (okII _ _) ?_; rw [eqD_ii]; with_reducible conv => whnf) | (refine And.intro (by first | assumption | exact Exists.intro _ (by assumption) | exact ⟨rfl, rfl, by decide, by decide⟩ | exact Nat.le_of_ble_eq_true rfl | exact rfl) ?_; with_reducible conv => whnf) | (rw [isLst_at (by assumption)]; with_reducible conv => whnf) | (refine ifT rfl ?_; with_reducible conv => whnf) | (refine ifF rfl ?_; with_reducible conv => whnf) | (refine it_at (by assumption) ?_; with_reducible conv => whnf)))
  rw [hn, show ((a + 1 : Nat) : Int) + ((b + 1 : Nat) : Int) - 1 = ((a + (b + 1) : Nat) : Int) by omega]
  refine ⟨⟨by omega, by omega⟩, ?_⟩
  refine Loop_mk (fun i ρ S' => ∃ o9, ρ = [some (qD p), some (.int ((a + 1 : Nat) : Int)), some (.int ((b + 1 : Nat) : Int)), some (.int n), some (.int p.den), some (.int ((a + (b + 1) : Nat) : Int)), some (.int ((chs (a + (b + 1)) i : Nat) : Int)), some (.int ((m ^ i : Nat) : Int)), some (.int ((hrn n m (a + (b + 1)) i : Nat) : Int)), o9] ∧ Sub S S')
    ⟨none, by rw [chs_0, Nat.pow_zero]; rfl, Sub.refl _⟩ (by intros; trivial) ?_ ?_
  · rintro i d ρ' S' hi ⟨o9, rfl, s1⟩
    obtain ⟨hi1, rfl⟩ := rangeD_get hi
    have hib : i ≤ b := by omega
    have l1 : chs (a + (b + 1)) i < 2 ^ 401 := Nat.lt_of_le_of_lt (chs_le _ _) (Nat.pow_lt_pow_right (by decide) (by omega))
    have l2 : m ^ i < 2 ^ 20001 := Nat.lt_of_lt_of_le (pow_lt (show m < 2 ^ 100 by omega) i) (Nat.pow_le_pow_right (by decide) (by omega))
    have l3 : hrn n m (a + (b + 1)) i < 2 ^ 21000 := by
      refine Nat.lt_of_le_of_lt (hrn_le (D := p.den) (by omega) (by omega) hd0 i) (Nat.lt_of_lt_of_le (mul_lt (show i < 2 ^ 8 by omega) (mul_lt (show 2 ^ (a + (b + 1)) < 2 ^ 401 from Nat.pow_lt_pow_right (by decide) (by omega)) (Nat.lt_of_lt_of_le (pow_lt hden i) (Nat.pow_le_pow_right (by decide) (show 100 * i + 1 ≤ 20001 by omega))))) (Nat.pow_le_pow_right (by decide) (by decide)))
    ((with_reducible conv => whnf); repeat (first | (rw [natD_len]; with_reducible conv => whnf) | (rw [intD_len]; with_reducible conv => whnf) | (refine Exists.intro _ (And.intro (rfl : _ = some _) ?_); with_reducible conv => whnf) | (refine And.intro (okII _ _) ?_; rw [eqD_ii]; with_reducible conv => whnf) | (refine And.intro (by first | assumption | exact Exists.intro _ (by assumption) | exact ⟨rfl, rfl, by decide, by decide⟩ | exact Nat.le_of_ble_eq_true rfl | exact rfl) ?_; with_reducible conv => whnf) | (rw [isLst_at (by assumption)]; with_reducible conv => whnf) | (refine ifT rfl ?_; with_reducible conv => whnf) | (refine ifF rfl ?_; with_reducible conv => whnf) | (refine it_at (by assumption) ?_; with_reducible conv => whnf)))
    refine ⟨mulN l3 (show n < 2 ^ 100 by omega) (by omega) (by omega), ?_⟩
    ((with_reducible conv => whnf); repeat (first | (rw [natD_len]; with_reducible conv => whnf) | (rw [intD_len]; with_reducible conv => whnf) | (refine Exists.intro _ (And.intro (rfl : _ = some _) ?_); with_reducible conv => whnf) | (refine And.intro (okII _ _) ?_; rw [eqD_ii]; with_reducible conv => whnf) | (refine And.intro (by first | assumption | exact Exists.intro _ (by assumption) | exact ⟨rfl, rfl, by decide, by decide⟩ | exact Nat.le_of_ble_eq_true rfl | exact rfl) ?_; with_reducible conv => whnf) | (rw [isLst_at (by assumption)]; with_reducible conv => whnf) | (refine ifT rfl ?_; with_reducible conv => whnf) | (refine ifF rfl ?_; with_reducible conv => whnf) | (refine it_at (by assumption) ?_; with_reducible conv => whnf)))
    refine ⟨mulN l1 l2 (by omega) (by omega), ?_⟩
    ((with_reducible conv => whnf); repeat (first | (rw [natD_len]; with_reducible conv => whnf) | (rw [intD_len]; with_reducible conv => whnf) | (refine Exists.intro _ (And.intro (rfl : _ = some _) ?_); with_reducible conv => whnf) | (refine And.intro (okII _ _) ?_; rw [eqD_ii]; with_reducible conv => whnf) | (refine And.intro (by first | assumption | exact Exists.intro _ (by assumption) | exact ⟨rfl, rfl, by decide, by decide⟩ | exact Nat.le_of_ble_eq_true rfl | exact rfl) ?_; with_reducible conv => whnf) | (rw [isLst_at (by assumption)]; with_reducible conv => whnf) | (refine ifT rfl ?_; with_reducible conv => whnf) | (refine ifF rfl ?_; with_reducible conv => whnf) | (refine it_at (by assumption) ?_; with_reducible conv => whnf)))
    refine ⟨smallMul (by omega), ?_⟩
    ((with_reducible conv => whnf); repeat (first | (rw [natD_len]; with_reducible conv => whnf) | (rw [intD_len]; with_reducible conv => whnf) | (refine Exists.intro _ (And.intro (rfl : _ = some _) ?_); with_reducible conv => whnf) | (refine And.intro (okII _ _) ?_; rw [eqD_ii]; with_reducible conv => whnf) | (refine And.intro (by first | assumption | exact Exists.intro _ (by assumption) | exact ⟨rfl, rfl, by decide, by decide⟩ | exact Nat.le_of_ble_eq_true rfl | exact rfl) ?_; with_reducible conv => whnf) | (rw [isLst_at (by assumption)]; with_reducible conv => whnf) | (refine ifT rfl ?_; with_reducible conv => whnf) | (refine ifF rfl ?_; with_reducible conv => whnf) | (refine it_at (by assumption) ?_; with_reducible conv => whnf)))
    refine ⟨by omega, ?_⟩
    ((with_reducible conv => whnf); repeat (first | (rw [natD_len]; with_reducible conv => whnf) | (rw [intD_len]; with_reducible conv => whnf) | (refine Exists.intro _ (And.intro (rfl : _ = some _) ?_); with_reducible conv => whnf) | (refine And.intro (okII _ _) ?_; rw [eqD_ii]; with_reducible conv => whnf) | (refine And.intro (by first | assumption | exact Exists.intro _ (by assumption) | exact ⟨rfl, rfl, by decide, by decide⟩ | exact Nat.le_of_ble_eq_true rfl | exact rfl) ?_; with_reducible conv => whnf) | (rw [isLst_at (by assumption)]; with_reducible conv => whnf) | (refine ifT rfl ?_; with_reducible conv => whnf) | (refine ifF rfl ?_; with_reducible conv => whnf) | (refine it_at (by assumption) ?_; with_reducible conv => whnf)))
    refine ⟨mulN l2 (show m < 2 ^ 100 by omega) (by omega) (by omega) |> fun h => by rw [show (p.den : Int) - (n : Int) = (m : Int) by omega]; exact h, ?_⟩
    ((with_reducible conv => whnf); repeat (first | (rw [natD_len]; with_reducible conv => whnf) | (rw [intD_len]; with_reducible conv => whnf) | (refine Exists.intro _ (And.intro (rfl : _ = some _) ?_); with_reducible conv => whnf) | (refine And.intro (okII _ _) ?_; rw [eqD_ii]; with_reducible conv => whnf) | (refine And.intro (by first | assumption | exact Exists.intro _ (by assumption) | exact ⟨rfl, rfl, by decide, by decide⟩ | exact Nat.le_of_ble_eq_true rfl | exact rfl) ?_; with_reducible conv => whnf) | (rw [isLst_at (by assumption)]; with_reducible conv => whnf) | (refine ifT rfl ?_; with_reducible conv => whnf) | (refine ifF rfl ?_; with_reducible conv => whnf) | (refine it_at (by assumption) ?_; with_reducible conv => whnf)))
    refine ⟨some (.int (0 + (i : Int))), ?_, s1⟩
    have e1 : (((chs (a + (b + 1)) i : Nat) : Int) * (((a + (b + 1) : Nat) : Int) - (0 + (i : Int)))).fdiv (0 + (i : Int) + 1) = ((chs (a + (b + 1)) (i + 1) : Nat) : Int) := by
      rw [show ((a + (b + 1) : Nat) : Int) - (0 + (i : Int)) = ((a + (b + 1) - i : Nat) : Int) by omega, show (0 + (i : Int) + 1) = ((i + 1 : Nat) : Int) by omega, ← Int.natCast_mul, Int.fdiv_eq_ediv_of_nonneg _ (by omega), ← Int.natCast_ediv, chs_b (by omega)]
    have e2 : ((m ^ i : Nat) : Int) * ((p.den : Int) - (n : Int)) = ((m ^ (i + 1) : Nat) : Int) := by
      rw [show (p.den : Int) - (n : Int) = (m : Int) by omega, ← Int.natCast_mul, Nat.pow_succ]
    have e4 : ((hrn n m (a + (b + 1)) i : Nat) : Int) * (n : Int) + ((chs (a + (b + 1)) i : Nat) : Int) * ((m ^ i : Nat) : Int) = ((hrn n m (a + (b + 1)) (i + 1) : Nat) : Int) := by
      rw [← Int.natCast_mul, ← Int.natCast_mul, ← Int.natCast_add]; rfl
    rw [← e1, ← e2, ← e4]
  · rintro ρ' S' ⟨o9, rfl, s1⟩
    rw [rangeD_len, show (((b + 1 : Nat) : Int) - 0).toNat = b + 1 by omega]
    ((with_reducible conv => whnf); repeat (first | (rw [natD_len]; with_reducible conv => whnf) | (rw [intD_len]; with_reducible conv => whnf) | (refine Exists.intro _ (And.intro (rfl : _ = some _) ?_); with_reducible conv => whnf) | (refine And.intro (okII _ _) ?_; rw [eqD_ii]; with_reducible conv => whnf) | (refine And.intro (by first | assumption | exact Exists.intro _ (by assumption) | exact ⟨rfl, rfl, by decide, by decide⟩ | exact Nat.le_of_ble_eq_true rfl | exact rfl) ?_; with_reducible conv => whnf) | (rw [isLst_at (by assumption)]; with_reducible conv => whnf) | (refine ifT rfl ?_; with_reducible conv => whnf) | (refine ifF rfl ?_; with_reducible conv => whnf) | (refine it_at (by assumption) ?_; with_reducible conv => whnf)))
    refine ⟨n, a + 1, rfl, by omega, by omega, fun S2 s2 => ?_⟩
    have l3 : hrn n m (a + (b + 1)) (b + 1) < 2 ^ 21000 := by
      refine Nat.lt_of_le_of_lt (hrn_le (D := p.den) (by omega) (by omega) hd0 (b + 1)) (Nat.lt_of_lt_of_le (mul_lt (show b + 1 < 2 ^ 8 by omega) (mul_lt (show 2 ^ (a + (b + 1)) < 2 ^ 401 from Nat.pow_lt_pow_right (by decide) (by omega)) (Nat.lt_of_lt_of_le (pow_lt hden (b + 1)) (Nat.pow_le_pow_right (by decide) (show 100 * (b + 1) + 1 ≤ 20001 by omega))))) (Nat.pow_le_pow_right (by decide) (by decide)))
    have t4 : n ^ (a + 1) < 2 ^ 20001 := Nat.lt_of_lt_of_le (pow_lt (show n < 2 ^ 100 by omega) (a + 1)) (Nat.pow_le_pow_right (by decide) (by omega))
    ((with_reducible conv => whnf); repeat (first | (rw [natD_len]; with_reducible conv => whnf) | (rw [intD_len]; with_reducible conv => whnf) | (refine Exists.intro _ (And.intro (rfl : _ = some _) ?_); with_reducible conv => whnf) | (refine And.intro (okII _ _) ?_; rw [eqD_ii]; with_reducible conv => whnf) | (refine And.intro (by first | assumption | exact Exists.intro _ (by assumption) | exact ⟨rfl, rfl, by decide, by decide⟩ | exact Nat.le_of_ble_eq_true rfl | exact rfl) ?_; with_reducible conv => whnf) | (rw [isLst_at (by assumption)]; with_reducible conv => whnf) | (refine ifT rfl ?_; with_reducible conv => whnf) | (refine ifF rfl ?_; with_reducible conv => whnf) | (refine it_at (by assumption) ?_; with_reducible conv => whnf)))
    refine ⟨mulN l3 t4 (by omega) (by omega), ?_⟩
    ((with_reducible conv => whnf); repeat (first | (rw [natD_len]; with_reducible conv => whnf) | (rw [intD_len]; with_reducible conv => whnf) | (refine Exists.intro _ (And.intro (rfl : _ = some _) ?_); with_reducible conv => whnf) | (refine And.intro (okII _ _) ?_; rw [eqD_ii]; with_reducible conv => whnf) | (refine And.intro (by first | assumption | exact Exists.intro _ (by assumption) | exact ⟨rfl, rfl, by decide, by decide⟩ | exact Nat.le_of_ble_eq_true rfl | exact rfl) ?_; with_reducible conv => whnf) | (rw [isLst_at (by assumption)]; with_reducible conv => whnf) | (refine ifT rfl ?_; with_reducible conv => whnf) | (refine ifF rfl ?_; with_reducible conv => whnf) | (refine it_at (by assumption) ?_; with_reducible conv => whnf)))
    refine ⟨p.den, a + (b + 1), rfl, hden, by omega, fun S3 s3 => ?_⟩
    have hpp : 0 < p.den ^ (a + (b + 1)) := Nat.pow_pos hd0
    ((with_reducible conv => whnf); repeat (first | (rw [natD_len]; with_reducible conv => whnf) | (rw [intD_len]; with_reducible conv => whnf) | (refine Exists.intro _ (And.intro (rfl : _ = some _) ?_); with_reducible conv => whnf) | (refine And.intro (okII _ _) ?_; rw [eqD_ii]; with_reducible conv => whnf) | (refine And.intro (by first | assumption | exact Exists.intro _ (by assumption) | exact ⟨rfl, rfl, by decide, by decide⟩ | exact Nat.le_of_ble_eq_true rfl | exact rfl) ?_; with_reducible conv => whnf) | (rw [isLst_at (by assumption)]; with_reducible conv => whnf) | (refine ifT rfl ?_; with_reducible conv => whnf) | (refine ifF rfl ?_; with_reducible conv => whnf) | (refine it_at (by assumption) ?_; with_reducible conv => whnf)))
    rw [← Int.natCast_mul]
    refine ⟨((hrn n m (a + (b + 1)) (b + 1) * n ^ (a + 1) : Nat) : Int), p.den ^ (a + (b + 1)), rfl, by omega, fun S4 s4 => ?_⟩
    rw [divInt_of (x := FP p (a + 1) (b + 1)) ?_ (by omega)]
    · exact k _ (s1.trans (s2.trans (s3.trans s4)))
    · rw [FP_Af, ← Bf_Af (p := p) (q := 1 - p) (by grind) a (b + 1)]
      show ((hrn n m (a + (b + 1)) (b + 1) * n ^ (a + 1) : Nat) : Rat) = _
      rw [Rat.natCast_mul, hrn_Q (d := p.den) hnq hmq b, natPow, natPow, hnq, mulPow, show a + (b + 1) = a + 1 + b by omega, addPow]
      grind
/-- the table of the mean, row by row -/
@[reducible] def sp_mean : Spc := fun ds S Q => ∃ (p : Rat) (a b : Nat), ds = [qD p, .int a, .int b] ∧ Chc p ∧ 1 ≤ a ∧ a ≤ 40 ∧ 1 ≤ b ∧ b ≤ 40 ∧ ∀ S', Sub S S' → Q (qD (MG p a b)) S'
def MZ (n m d : Nat) : Nat → Nat → Nat
  | 0, _ => 0
  | _ + 1, 0 => 0
  | a + 1, b + 1 => d ^ (a + b + 1) + n * MZ n m d a (b + 1) + m * MZ n m d (a + 1) b
theorem mz0 (n m d b : Nat) : MZ n m d 0 b = 0 := by rw [MZ]
theorem mzz (n m d a : Nat) : MZ n m d (a + 1) 0 = 0 := by rw [MZ]
theorem mzs (n m d a b : Nat) : MZ n m d (a + 1) (b + 1) = d ^ (a + b + 1) + n * MZ n m d a (b + 1) + m * MZ n m d (a + 1) b := by rw [MZ]
theorem MZ_le {n m d : Nat} (h : n + m = d) (hd : 0 < d) : ∀ a b, MZ n m d a b ≤ (a + b) * d ^ (a + b)
  | 0, b => by rw [mz0]; omega
  | a + 1, 0 => by rw [mzz]; omega
  | a + 1, b + 1 => by
    have i1 := MZ_le h hd a (b + 1)
    have i2 := MZ_le h hd (a + 1) b
    rw [mzs]
    rw [show a + (b + 1) = a + b + 1 by omega] at i1
    rw [show a + 1 + b = a + b + 1 by omega] at i2
    have j1 := Nat.mul_le_mul_left n i1
    have j2 := Nat.mul_le_mul_left m i2
    have e : n * ((a + b + 1) * d ^ (a + b + 1)) + m * ((a + b + 1) * d ^ (a + b + 1)) = (a + b + 1) * d ^ (a + b + 2) := by
      rw [← Nat.add_mul, h, show a + b + 2 = (a + b + 1) + 1 by omega, Nat.pow_succ d (a + b + 1)]
      grind
    have f : d ^ (a + b + 1) ≤ d ^ (a + b + 2) := Nat.pow_le_pow_right hd (by omega)
    rw [show a + 1 + (b + 1) = a + b + 2 by omega, show (a + b + 2) * d ^ (a + b + 2) = (a + b + 1) * d ^ (a + b + 2) + d ^ (a + b + 2) by rw [← Nat.succ_mul]]
    omega
theorem MZ_Q {n m d : Nat} {p : Rat} (hn : (n : Rat) = p * (d : Rat)) (hm : (m : Rat) = (1 - p) * (d : Rat)) : ∀ a b, (((MZ n m d a b : Nat) : Rat)) * (d : Rat) = MG p a b * (d : Rat) ^ (a + b)
  | 0, b => by rw [mz0, mg0]; have : ((0 : Nat) : Rat) = 0 := rfl; grind
  | a + 1, 0 => by rw [mzz, mgz]; have : ((0 : Nat) : Rat) = 0 := rfl; grind
  | a + 1, b + 1 => by
    have i1 := MZ_Q hn hm a (b + 1)
    have i2 := MZ_Q hn hm (a + 1) b
    rw [show a + (b + 1) = a + b + 1 by omega] at i1
    rw [show a + 1 + b = a + b + 1 by omega] at i2
    rw [mzs, mgs, Rat.natCast_add, Rat.natCast_add, Rat.natCast_mul, Rat.natCast_mul, natPow, hn, hm, show a + 1 + (b + 1) = (a + b + 1) + 1 by omega, Rat.pow_succ (d : Rat) (a + b + 1)]
    grind
end K80
set_option linter.all false
set_option maxRecDepth 100000
set_option maxHeartbeats 4000000
namespace K80
open DL
theorem rangeM (f : Nat → Nat) (N : Nat) : natD ((List.range N).map f) ++ [D.int ((f N : Nat) : Int)] = natD ((List.range (N + 1)).map f) := by
  rw [natD_app, List.range_succ, List.map_append]; rfl
theorem rmLen (f : Nat → Nat) (N : Nat) : ((List.range N).map f).length = N := by rw [List.length_map, List.length_range]
theorem rmGet (f : Nat → Nat) {N j : Nat} (h : j < N) : ((List.range N).map f).getD j 0 = f j := by
  rw [List.getD_eq_getElem?_getD, List.getElem?_map, List.getElem?_range h]; rfl
theorem rmAt (f : Nat → Nat) {N j : Nat} (h : j < N) : atZ (natD ((List.range N).map f)) (j : Int) = some (.int ((f j : Nat) : Int)) := by
  rw [natD_atZ (by rw [rmLen]; exact h), rmGet f h]
theorem MZ_lt {n m d a b : Nat} (h : n + m = d) (hd : 0 < d) (hb : d < 2 ^ 100) (hab : a + b ≤ 90) : MZ n m d a b < 2 ^ 9100 := by
  refine Nat.lt_of_le_of_lt (MZ_le h hd a b) (Nat.lt_of_lt_of_le (mul_lt (show a + b < 2 ^ 7 by omega) (pow_lt hb (a + b))) (Nat.pow_le_pow_right (by decide) (by omega)))
theorem body_mean_games : Body 10 3 (w_mean_games sp_pow sp_ratio) sp_mean := by
  rintro ds S Q _ ⟨p, a, b, rfl, hp, ha1, ha2, hb1, hb2, k⟩
  obtain ⟨n, m, hn, hd, hnq, hmq⟩ := hp.nat
  have hden := hp.den
  have hd0 := p.den_pos
  unfold w_mean_games
  (simp only [start, List.map_cons, List.map_nil, List.length_cons, List.length_nil, Nat.reduceAdd, Nat.reduceSub, List.replicate_succ, List.replicate_zero, List.cons_append, List.nil_append, Nat.sub_self, Nat.zero_add])
  ((with_reducible conv => whnf); repeat (first | (rw [natD_len]; with_reducible conv => whnf) | (rw [intD_len]; with_reducible conv => whnf) | (refine Exists.intro _ (And.intro (rfl : _ = some _) ?_); with_reducible conv => whnf) | (refine And.intro (okII _ _) ?_; rw [eqD_ii]; with_reducible conv => whnf) | (refine And.intro (by first | assumption | exact Exists.intro _ (by assumption) | exact ⟨rfl, rfl, by decide, by decide⟩ | exact Nat.le_of_ble_eq_true rfl | exact rfl) ?_; with_reducible conv => whnf) | (rw [isLst_at (by assumption)]; with_reducible conv => whnf) | (refine ifT rfl ?_; with_reducible conv => whnf) | (refine ifF rfl ?_; with_reducible conv => whnf) | (refine it_at (by assumption) ?_; with_reducible conv => whnf)))
  rw [hn, isLst_at (at_push S (.lst [.int 0]))]
  refine ⟨⟨by omega, by omega⟩, by rw [List.length_singleton]; unfold szL; omega, ?_⟩
  rw [show ((b : Int) + 1).toNat = b + 1 by omega, show (List.replicate (b + 1) [D.int 0]).flatten = natD (List.replicate (b + 1) 0) from natD_rep (b + 1) 0,
    show List.replicate (b + 1) 0 = (List.range (b + 1)).map (MZ n m p.den 0) by rw [show MZ n m p.den 0 = fun _ => 0 from funext fun j => mz0 _ _ _ j, List.map_const', List.length_range]]
  have e0 := at_push (S ++ [.lst [.int 0]]) (.lst (natD ((List.range (b + 1)).map (MZ n m p.den 0))))
  have s0 := ((Sub.refl S).app [.lst [.int 0]]).app [.lst (natD ((List.range (b + 1)).map (MZ n m p.den 0)))]
  generalize S ++ [O.lst [.int 0]] ++ [O.lst (natD ((List.range (b + 1)).map (MZ n m p.den 0)))] = S0 at *
  generalize (S ++ [O.lst [.int 0]]).length = p0 at *
  ((with_reducible conv => whnf); repeat (first | (rw [natD_len]; with_reducible conv => whnf) | (rw [intD_len]; with_reducible conv => whnf) | (refine Exists.intro _ (And.intro (rfl : _ = some _) ?_); with_reducible conv => whnf) | (refine And.intro (okII _ _) ?_; rw [eqD_ii]; with_reducible conv => whnf) | (refine And.intro (by first | assumption | exact Exists.intro _ (by assumption) | exact ⟨rfl, rfl, by decide, by decide⟩ | exact Nat.le_of_ble_eq_true rfl | exact rfl) ?_; with_reducible conv => whnf) | (rw [isLst_at (by assumption)]; with_reducible conv => whnf) | (refine ifT rfl ?_; with_reducible conv => whnf) | (refine ifF rfl ?_; with_reducible conv => whnf) | (refine it_at (by assumption) ?_; with_reducible conv => whnf)))
  refine ⟨⟨by omega, by omega⟩, ⟨by omega, by omega⟩, ?_⟩
  refine Loop_mk (fun i ρ S' => ∃ r o6 o7 o8 o9, ρ = [some (qD p), some (.int a), some (.int b), some (.int n), some (.int p.den), some (.ref r), o6, o7, o8, o9] ∧ S'[r]? = some (.lst (natD ((List.range (b + 1)).map (MZ n m p.den i)))) ∧ Sub S S') ⟨_, none, none, none, none, rfl, e0, s0⟩ (by intros; trivial) ?_ ?_
  · clear e0 s0 S0
    rintro i d ρ' S' hi ⟨r, o6, o7, o8, o9, rfl, e1, s1⟩
    obtain ⟨hi1, rfl⟩ := rangeD_get hi
    ((with_reducible conv => whnf); repeat (first | (rw [natD_len]; with_reducible conv => whnf) | (rw [intD_len]; with_reducible conv => whnf) | (refine Exists.intro _ (And.intro (rfl : _ = some _) ?_); with_reducible conv => whnf) | (refine And.intro (okII _ _) ?_; rw [eqD_ii]; with_reducible conv => whnf) | (refine And.intro (by first | assumption | exact Exists.intro _ (by assumption) | exact ⟨rfl, rfl, by decide, by decide⟩ | exact Nat.le_of_ble_eq_true rfl | exact rfl) ?_; with_reducible conv => whnf) | (rw [isLst_at (by assumption)]; with_reducible conv => whnf) | (refine ifT rfl ?_; with_reducible conv => whnf) | (refine ifF rfl ?_; with_reducible conv => whnf) | (refine it_at (by assumption) ?_; with_reducible conv => whnf)))
    rw [show (1 : Int) + (i : Int) - 1 = (i : Int) by omega]
    refine ⟨p.den, i, rfl, hden, by omega, fun S1 s2 => ?_⟩
    replace e1 := s2 _ _ e1
    replace s1 := s1.trans s2
    clear s2
    ((with_reducible conv => whnf); repeat (first | (rw [natD_len]; with_reducible conv => whnf) | (rw [intD_len]; with_reducible conv => whnf) | (refine Exists.intro _ (And.intro (rfl : _ = some _) ?_); with_reducible conv => whnf) | (refine And.intro (okII _ _) ?_; rw [eqD_ii]; with_reducible conv => whnf) | (refine And.intro (by first | assumption | exact Exists.intro _ (by assumption) | exact ⟨rfl, rfl, by decide, by decide⟩ | exact Nat.le_of_ble_eq_true rfl | exact rfl) ?_; with_reducible conv => whnf) | (rw [isLst_at (by assumption)]; with_reducible conv => whnf) | (refine ifT rfl ?_; with_reducible conv => whnf) | (refine ifF rfl ?_; with_reducible conv => whnf) | (refine it_at (by assumption) ?_; with_reducible conv => whnf)))
    have e2 := push_at e1 [.lst [.int 0]]
    have f2 := at_push S1 (.lst [.int 0])
    have s2 := s1.app [.lst [.int 0]]
    have hne : r ≠ S1.length := by have := at_lt e1; omega
    have hS : S.length ≤ S1.length := s1.len
    generalize S1 ++ [O.lst [.int 0]] = S2 at *
    generalize S1.length = q at *
    clear e1 s1
    refine ⟨⟨by omega, by omega⟩, ⟨by omega, by omega⟩, ?_⟩
    refine Loop_mk (fun j ρ S' => ∃ o9, ρ = [some (qD p), some (.int a), some (.int b), some (.int n), some (.int p.den), some (.ref r), some (.int (1 + (i : Int))), some (.int ((p.den ^ (i + j) : Nat) : Int)), some (.ref q), o9] ∧ S'[r]? = some (.lst (natD ((List.range (b + 1)).map (MZ n m p.den i)))) ∧ S'[q]? = some (.lst (natD ((List.range (j + 1)).map (MZ n m p.den (i + 1))))) ∧ Sub S S')
      ⟨o9, rfl, e2, by rw [f2, List.range_one, List.map_singleton, mzz]; rfl, s2⟩ (by intros; trivial) ?_ ?_
    · clear e2 f2 s2 S2
      rintro j d ρ' S' hj ⟨o9, rfl, e1, f1, s1⟩
      obtain ⟨hj1, rfl⟩ := rangeD_get hj
      have l1 : p.den ^ (i + j) < 2 ^ 9100 := Nat.lt_of_lt_of_le (pow_lt hden (i + j)) (Nat.pow_le_pow_right (by decide) (by omega))
      have l2 := MZ_lt (a := i) (b := j + 1) hd.symm hd0 hden (by omega)
      have l3 := MZ_lt (a := i + 1) (b := j) hd.symm hd0 hden (by omega)
      ((with_reducible conv => whnf); repeat (first | (rw [natD_len]; with_reducible conv => whnf) | (rw [intD_len]; with_reducible conv => whnf) | (refine Exists.intro _ (And.intro (rfl : _ = some _) ?_); with_reducible conv => whnf) | (refine And.intro (okII _ _) ?_; rw [eqD_ii]; with_reducible conv => whnf) | (refine And.intro (by first | assumption | exact Exists.intro _ (by assumption) | exact ⟨rfl, rfl, by decide, by decide⟩ | exact Nat.le_of_ble_eq_true rfl | exact rfl) ?_; with_reducible conv => whnf) | (rw [isLst_at (by assumption)]; with_reducible conv => whnf) | (refine ifT rfl ?_; with_reducible conv => whnf) | (refine ifF rfl ?_; with_reducible conv => whnf) | (refine it_at (by assumption) ?_; with_reducible conv => whnf)))
      refine ⟨mulN l1 hden (by omega) (by omega), ?_⟩
      ((with_reducible conv => whnf); repeat (first | (rw [natD_len]; with_reducible conv => whnf) | (rw [intD_len]; with_reducible conv => whnf) | (refine Exists.intro _ (And.intro (rfl : _ = some _) ?_); with_reducible conv => whnf) | (refine And.intro (okII _ _) ?_; rw [eqD_ii]; with_reducible conv => whnf) | (refine And.intro (by first | assumption | exact Exists.intro _ (by assumption) | exact ⟨rfl, rfl, by decide, by decide⟩ | exact Nat.le_of_ble_eq_true rfl | exact rfl) ?_; with_reducible conv => whnf) | (rw [isLst_at (by assumption)]; with_reducible conv => whnf) | (refine ifT rfl ?_; with_reducible conv => whnf) | (refine ifF rfl ?_; with_reducible conv => whnf) | (refine it_at (by assumption) ?_; with_reducible conv => whnf)))
      rw [show (1 : Int) + (j : Int) = ((j + 1 : Nat) : Int) by omega]
      refine ⟨_, rmAt _ (by omega), ?_⟩
      ((with_reducible conv => whnf); repeat (first | (rw [natD_len]; with_reducible conv => whnf) | (rw [intD_len]; with_reducible conv => whnf) | (refine Exists.intro _ (And.intro (rfl : _ = some _) ?_); with_reducible conv => whnf) | (refine And.intro (okII _ _) ?_; rw [eqD_ii]; with_reducible conv => whnf) | (refine And.intro (by first | assumption | exact Exists.intro _ (by assumption) | exact ⟨rfl, rfl, by decide, by decide⟩ | exact Nat.le_of_ble_eq_true rfl | exact rfl) ?_; with_reducible conv => whnf) | (rw [isLst_at (by assumption)]; with_reducible conv => whnf) | (refine ifT rfl ?_; with_reducible conv => whnf) | (refine ifF rfl ?_; with_reducible conv => whnf) | (refine it_at (by assumption) ?_; with_reducible conv => whnf)))
      refine ⟨mulN (show n < 2 ^ 100 by omega) l2 (by omega) (by omega), ?_⟩
      ((with_reducible conv => whnf); repeat (first | (rw [natD_len]; with_reducible conv => whnf) | (rw [intD_len]; with_reducible conv => whnf) | (refine Exists.intro _ (And.intro (rfl : _ = some _) ?_); with_reducible conv => whnf) | (refine And.intro (okII _ _) ?_; rw [eqD_ii]; with_reducible conv => whnf) | (refine And.intro (by first | assumption | exact Exists.intro _ (by assumption) | exact ⟨rfl, rfl, by decide, by decide⟩ | exact Nat.le_of_ble_eq_true rfl | exact rfl) ?_; with_reducible conv => whnf) | (rw [isLst_at (by assumption)]; with_reducible conv => whnf) | (refine ifT rfl ?_; with_reducible conv => whnf) | (refine ifF rfl ?_; with_reducible conv => whnf) | (refine it_at (by assumption) ?_; with_reducible conv => whnf)))
      rw [show ((j + 1 : Nat) : Int) - 1 = (j : Int) by omega]
      refine ⟨_, rmAt _ (by omega), ?_⟩
      rw [show (p.den : Int) - (n : Int) = (m : Int) by omega]
      ((with_reducible conv => whnf); repeat (first | (rw [natD_len]; with_reducible conv => whnf) | (rw [intD_len]; with_reducible conv => whnf) | (refine Exists.intro _ (And.intro (rfl : _ = some _) ?_); with_reducible conv => whnf) | (refine And.intro (okII _ _) ?_; rw [eqD_ii]; with_reducible conv => whnf) | (refine And.intro (by first | assumption | exact Exists.intro _ (by assumption) | exact ⟨rfl, rfl, by decide, by decide⟩ | exact Nat.le_of_ble_eq_true rfl | exact rfl) ?_; with_reducible conv => whnf) | (rw [isLst_at (by assumption)]; with_reducible conv => whnf) | (refine ifT rfl ?_; with_reducible conv => whnf) | (refine ifF rfl ?_; with_reducible conv => whnf) | (refine it_at (by assumption) ?_; with_reducible conv => whnf)))
      refine ⟨mulN (show m < 2 ^ 100 by omega) l3 (by omega) (by omega), ?_⟩
      ((with_reducible conv => whnf); repeat (first | (rw [natD_len]; with_reducible conv => whnf) | (rw [intD_len]; with_reducible conv => whnf) | (refine Exists.intro _ (And.intro (rfl : _ = some _) ?_); with_reducible conv => whnf) | (refine And.intro (okII _ _) ?_; rw [eqD_ii]; with_reducible conv => whnf) | (refine And.intro (by first | assumption | exact Exists.intro _ (by assumption) | exact ⟨rfl, rfl, by decide, by decide⟩ | exact Nat.le_of_ble_eq_true rfl | exact rfl) ?_; with_reducible conv => whnf) | (rw [isLst_at (by assumption)]; with_reducible conv => whnf) | (refine ifT rfl ?_; with_reducible conv => whnf) | (refine ifF rfl ?_; with_reducible conv => whnf) | (refine it_at (by assumption) ?_; with_reducible conv => whnf)))
      refine ⟨by rw [rmLen]; unfold szL; omega, ?_⟩
      (with_reducible conv => whnf)
      rw [show ((p.den ^ (i + j) : Nat) : Int) * (p.den : Int) + (n : Int) * ((MZ n m p.den i (j + 1) : Nat) : Int) + (m : Int) * ((MZ n m p.den (i + 1) j : Nat) : Int) = ((MZ n m p.den (i + 1) (j + 1) : Nat) : Int) by
        rw [mzs, Nat.pow_succ, Int.natCast_add, Int.natCast_add, Int.natCast_mul, Int.natCast_mul, Int.natCast_mul]]
      rw [rangeM]
      refine ⟨some (.int ((j + 1 : Nat) : Int)), ?_, ?_, at_set f1, s1.put hS⟩
      · rw [show i + (j + 1) = i + j + 1 by omega, Nat.pow_succ, Int.natCast_mul]
      · rw [at_set_ne hne, e1]
    · clear e2 f2 s2 S2
      rintro ρ' S' ⟨o9, rfl, e1, f1, s1⟩
      rw [rangeD_len, show ((b : Int) + 1 - 1).toNat = b by omega] at f1
      ((with_reducible conv => whnf); repeat (first | (rw [natD_len]; with_reducible conv => whnf) | (rw [intD_len]; with_reducible conv => whnf) | (refine Exists.intro _ (And.intro (rfl : _ = some _) ?_); with_reducible conv => whnf) | (refine And.intro (okII _ _) ?_; rw [eqD_ii]; with_reducible conv => whnf) | (refine And.intro (by first | assumption | exact Exists.intro _ (by assumption) | exact ⟨rfl, rfl, by decide, by decide⟩ | exact Nat.le_of_ble_eq_true rfl | exact rfl) ?_; with_reducible conv => whnf) | (rw [isLst_at (by assumption)]; with_reducible conv => whnf) | (refine ifT rfl ?_; with_reducible conv => whnf) | (refine ifF rfl ?_; with_reducible conv => whnf) | (refine it_at (by assumption) ?_; with_reducible conv => whnf)))
      exact ⟨_, _, _, _, _, rfl, f1, s1⟩
  · clear e0 s0 S0
    rintro ρ' S' ⟨r, o6, o7, o8, o9, rfl, e1, s1⟩
    rw [rangeD_len, show ((a : Int) + 1 - 1).toNat = a by omega] at e1
    have hpp : 0 < p.den ^ (a + b - 1) := Nat.pow_pos hd0
    ((with_reducible conv => whnf); repeat (first | (rw [natD_len]; with_reducible conv => whnf) | (rw [intD_len]; with_reducible conv => whnf) | (refine Exists.intro _ (And.intro (rfl : _ = some _) ?_); with_reducible conv => whnf) | (refine And.intro (okII _ _) ?_; rw [eqD_ii]; with_reducible conv => whnf) | (refine And.intro (by first | assumption | exact Exists.intro _ (by assumption) | exact ⟨rfl, rfl, by decide, by decide⟩ | exact Nat.le_of_ble_eq_true rfl | exact rfl) ?_; with_reducible conv => whnf) | (rw [isLst_at (by assumption)]; with_reducible conv => whnf) | (refine ifT rfl ?_; with_reducible conv => whnf) | (refine ifF rfl ?_; with_reducible conv => whnf) | (refine it_at (by assumption) ?_; with_reducible conv => whnf)))
    refine ⟨_, rmAt _ (by omega), ?_⟩
    ((with_reducible conv => whnf); repeat (first | (rw [natD_len]; with_reducible conv => whnf) | (rw [intD_len]; with_reducible conv => whnf) | (refine Exists.intro _ (And.intro (rfl : _ = some _) ?_); with_reducible conv => whnf) | (refine And.intro (okII _ _) ?_; rw [eqD_ii]; with_reducible conv => whnf) | (refine And.intro (by first | assumption | exact Exists.intro _ (by assumption) | exact ⟨rfl, rfl, by decide, by decide⟩ | exact Nat.le_of_ble_eq_true rfl | exact rfl) ?_; with_reducible conv => whnf) | (rw [isLst_at (by assumption)]; with_reducible conv => whnf) | (refine ifT rfl ?_; with_reducible conv => whnf) | (refine ifF rfl ?_; with_reducible conv => whnf) | (refine it_at (by assumption) ?_; with_reducible conv => whnf)))
    rw [show (a : Int) + b - 1 = ((a + b - 1 : Nat) : Int) by omega]
    refine ⟨p.den, a + b - 1, rfl, hden, by omega, fun S2 s2 => ?_⟩
    ((with_reducible conv => whnf); repeat (first | (rw [natD_len]; with_reducible conv => whnf) | (rw [intD_len]; with_reducible conv => whnf) | (refine Exists.intro _ (And.intro (rfl : _ = some _) ?_); with_reducible conv => whnf) | (refine And.intro (okII _ _) ?_; rw [eqD_ii]; with_reducible conv => whnf) | (refine And.intro (by first | assumption | exact Exists.intro _ (by assumption) | exact ⟨rfl, rfl, by decide, by decide⟩ | exact Nat.le_of_ble_eq_true rfl | exact rfl) ?_; with_reducible conv => whnf) | (rw [isLst_at (by assumption)]; with_reducible conv => whnf) | (refine ifT rfl ?_; with_reducible conv => whnf) | (refine ifF rfl ?_; with_reducible conv => whnf) | (refine it_at (by assumption) ?_; with_reducible conv => whnf)))
    refine ⟨_, _, rfl, by omega, fun S3 s3 => ?_⟩
    rw [divInt_of (x := MG p a b) ?_ (by omega)]
    · exact k _ (s1.trans (s2.trans s3))
    · have := MZ_Q (d := p.den) hnq hmq a b
      have hz : ((p.den : Nat) : Rat) ≠ 0 := fun e => by have := p.den_nz; exact this (by exact_mod_cast e)
      show ((MZ n m p.den a b : Nat) : Rat) = _
      rw [natPow]
      rw [show a + b = (a + b - 1) + 1 by omega, Rat.pow_succ] at this
      have h2 : (((MZ n m p.den a b : Nat) : Rat) - MG p a b * (p.den : Rat) ^ (a + b - 1)) * (p.den : Rat) = 0 := by grind
      rcases Rat.mul_eq_zero.mp h2 with h | h
      · grind
      · exact absurd h hz
end K80
set_option linter.all false
set_option maxRecDepth 100000
set_option maxHeartbeats 4000000
namespace K80
open DL
/-- a part of a range -/
theorem rs_win (f : Nat → Rat) (lo c : Nat) : ∀ N, lo + c ≤ N → rs (List.range c) (fun i => f (lo + i)) = rs (List.range N) (fun k => if lo ≤ k ∧ k < lo + c then f k else 0) := by
  induction c with
  | zero =>
    intro N _
    rw [List.range_zero, rs_nil, rs_congr (g := fun _ => 0) fun k _ => if_neg (by omega), rs_zero]
  | succ c ih =>
    intro N hN
    rw [rs_range_s, ih N (by omega)]
    have h := rs_delta N (lo + c) (f (lo + c))
    rw [if_pos (by omega)] at h
    rw [← h, ← rs_add]
    refine rs_congr fun k _ => ?_
    by_cases c1 : lo + c = k
    · rw [if_pos c1, if_neg (by omega), if_pos (by omega), c1]; grind
    · rw [if_neg c1]
      by_cases c2 : lo ≤ k ∧ k < lo + c
      · rw [if_pos c2, if_pos (by omega)]; grind
      · rw [if_neg c2, if_neg (by omega)]; grind
def trm (n m g k : Nat) : Nat := chs g k * n ^ k * m ^ (g - k)
def SN (n m a b g : Nat) : Nat := ((List.range (min (a - 1) g + 1 - (g + 1 - b))).map fun i => trm n m g (g + 1 - b + i)).sum
theorem SN_Q {n m d a b g : Nat} {p q : Rat} (hn : (n : Rat) = p * (d : Rat)) (hm : (m : Rat) = q * (d : Rat)) (ha : 1 ≤ a) (hb : 1 ≤ b) (hg : g + 2 ≤ a + b) : ((SN n m a b g : Nat) : Rat) = Sg p q g a b * (d : Rat) ^ g := by
  unfold SN Sg
  rw [← rs_nat, rs_win (fun k => ((trm n m g k : Nat) : Rat)) _ _ (g + 1) (by omega), ← rs_mul]
  refine rs_congr fun k hk => ?_
  have hk := List.mem_range.mp hk
  by_cases c : k < a ∧ g - k < b
  · rw [if_pos c, if_pos (by omega)]
    unfold trm
    rw [Rat.natCast_mul, Rat.natCast_mul, natPow, natPow, hn, hm, mulPow, mulPow]
    have e : (d : Rat) ^ g = (d : Rat) ^ k * (d : Rat) ^ (g - k) := by rw [← addPow]; congr 1; omega
    rw [e]; grind
  · rw [if_neg c, if_neg (by omega)]; grind
theorem trm_le {n m d g k : Nat} (hn : n ≤ d) (hm : m ≤ d) (hk : k ≤ g) : trm n m g k ≤ 2 ^ g * d ^ g := by
  unfold trm
  have h1 := Nat.mul_le_mul (Nat.mul_le_mul (chs_le g k) (Nat.pow_le_pow_left hn k)) (Nat.pow_le_pow_left hm (g - k))
  rw [Nat.mul_assoc (2 ^ g), ← Nat.pow_add, show k + (g - k) = g by omega] at h1
  exact h1
theorem sum_le {l : List Nat} {B : Nat} (h : ∀ x ∈ l, x ≤ B) : l.sum ≤ l.length * B := by
  induction l with
  | nil => exact Nat.zero_le _
  | cons x l ih =>
    rw [List.sum_cons, List.length_cons, Nat.succ_mul]
    have := h x List.mem_cons_self
    have := ih fun y hy => h y (List.mem_cons_of_mem _ hy)
    omega
theorem SN_le {n m d a b g : Nat} (hn : n ≤ d) (hm : m ≤ d) (ha : 1 ≤ a) (hb : 1 ≤ b) (hg : g + 2 ≤ a + b) : SN n m a b g ≤ (g + 1) * (2 ^ g * d ^ g) := by
  have h := sum_le (l := (List.range (min (a - 1) g + 1 - (g + 1 - b))).map fun i => trm n m g (g + 1 - b + i)) (B := 2 ^ g * d ^ g) (by
    intro x hx
    obtain ⟨i, hi, rfl⟩ := List.mem_map.mp hx
    have hi := List.mem_range.mp hi
    exact trm_le hn hm (by omega))
  rw [List.length_map, List.length_range] at h
  exact Nat.le_trans h (Nat.mul_le_mul_right _ (by omega))
def TT (n m d a b : Nat) : Nat → Nat
  | 0 => 0
  | g + 1 => TT n m d a b g * d + SN n m a b g
theorem TT_Q {n m d a b : Nat} {p : Rat} (hn : (n : Rat) = p * (d : Rat)) (hm : (m : Rat) = (1 - p) * (d : Rat)) (ha : 1 ≤ a) (hb : 1 ≤ b) : ∀ g, g + 1 ≤ a + b → ((TT n m d a b g : Nat) : Rat) * (d : Rat) = rs (List.range g) (fun i => Sg p (1 - p) i a b) * (d : Rat) ^ g
  | 0, _ => by rw [List.range_zero, rs_nil]; show ((0 : Nat) : Rat) * _ = _; have : ((0 : Nat) : Rat) = 0 := rfl; grind
  | g + 1, h => by
    have ih := TT_Q hn hm ha hb g (by omega)
    show ((TT n m d a b g * d + SN n m a b g : Nat) : Rat) * (d : Rat) = _
    rw [Rat.natCast_add, Rat.natCast_mul, ih, SN_Q hn hm ha hb (by omega), rs_range_s, Rat.pow_succ]
    grind
theorem TT_le {n m d a b : Nat} (hn : n ≤ d) (hm : m ≤ d) (hd : 0 < d) (ha : 1 ≤ a) (hb : 1 ≤ b) : ∀ g, g + 1 ≤ a + b → TT n m d a b g ≤ g * ((a + b) * (2 ^ (a + b) * d ^ (a + b)))
  | 0, _ => by show 0 ≤ _; omega
  | g + 1, h => by
    have gen : ∀ g, g + 1 ≤ a + b → TT n m d a b g ≤ g * ((a + b) * (2 ^ (a + b) * d ^ g)) := by
      intro g
      induction g with
      | zero => intro _; show 0 ≤ _; omega
      | succ g ih =>
        intro h
        have i1 := Nat.mul_le_mul_right d (ih (by omega))
        have i2 := SN_le (g := g) hn hm ha hb (by omega)
        have e : g * ((a + b) * (2 ^ (a + b) * d ^ g)) * d = g * ((a + b) * (2 ^ (a + b) * d ^ (g + 1))) := by rw [Nat.pow_succ]; grind
        have f : (g + 1) * (2 ^ g * d ^ g) ≤ (a + b) * (2 ^ (a + b) * d ^ (g + 1)) := Nat.mul_le_mul (by omega) (Nat.mul_le_mul (Nat.pow_le_pow_right (by decide) (by omega)) (Nat.pow_le_pow_right hd (by omega)))
        show TT n m d a b g * d + SN n m a b g ≤ (g + 1) * _
        rw [Nat.succ_mul]
        omega
    exact Nat.le_trans (gen (g + 1) h) (Nat.mul_le_mul_left _ (Nat.mul_le_mul_left _ (Nat.mul_le_mul_left _ (Nat.pow_le_pow_right hd (by omega)))))
theorem TT_lt {n m d a b g : Nat} (hn : n ≤ d) (hm : m ≤ d) (hd : 0 < d) (hdb : d < 2 ^ 100) (ha : 1 ≤ a) (hb : 1 ≤ b) (hab : a + b ≤ 80) (h : g + 1 ≤ a + b) : TT n m d a b g < 2 ^ 9000 := by
  refine Nat.lt_of_le_of_lt (TT_le hn hm hd ha hb g h) ?_
  refine Nat.lt_of_lt_of_le (mul_lt (show g < 2 ^ 7 by omega) (mul_lt (show a + b < 2 ^ 7 by omega) (mul_lt (show 2 ^ (a + b) < 2 ^ 81 from Nat.pow_lt_pow_right (by decide) (by omega)) (pow_lt hdb (a + b))))) (Nat.pow_le_pow_right (by decide) (by omega))
theorem rm_last (f : Nat → Nat) (N : Nat) : atZ (natD ((List.range (N + 1)).map f)) (-1) = some (.int ((f N : Nat) : Int)) := by
  rw [← rangeM]
  exact lastD
theorem pasc (g : Nat) : [D.int 1] ++ (List.range g).map (fun k => D.int ((chs g k : Nat) + (chs g (k + 1) : Nat))) ++ [D.int 1] = natD ((List.range (g + 1 + 1)).map (chs (g + 1))) := by
  rw [← rangeM, List.range_succ_eq_map, List.map_cons, List.map_map, chs_0, chs_self, natD_map, List.map_cons, List.map_map, List.singleton_append]
  rfl
theorem body_law_mean : Body 13 3 (w_law_mean sp_pow sp_low) sp_mean := by
  rintro ds S Q _ ⟨p, a, b, rfl, hp, ha1, ha2, hb1, hb2, k⟩
  obtain ⟨n, m, hn, hd, hnq, hmq⟩ := hp.nat
  have hden := hp.den
  have hd0 := p.den_pos
  unfold w_law_mean
  (simp only [start, List.map_cons, List.map_nil, List.length_cons, List.length_nil, Nat.reduceAdd, Nat.reduceSub, List.replicate_succ, List.replicate_zero, List.cons_append, List.nil_append, Nat.sub_self, Nat.zero_add])
  ((with_reducible conv => whnf); repeat (first | (rw [natD_len]; with_reducible conv => whnf) | (rw [intD_len]; with_reducible conv => whnf) | (refine Exists.intro _ (And.intro (rfl : _ = some _) ?_); with_reducible conv => whnf) | (refine And.intro (okII _ _) ?_; rw [eqD_ii]; with_reducible conv => whnf) | (refine And.intro (by first | assumption | exact Exists.intro _ (by assumption) | exact ⟨rfl, rfl, by decide, by decide⟩ | exact Nat.le_of_ble_eq_true rfl | exact rfl) ?_; with_reducible conv => whnf) | (rw [isLst_at (by assumption)]; with_reducible conv => whnf) | (refine ifT rfl ?_; with_reducible conv => whnf) | (refine ifF rfl ?_; with_reducible conv => whnf) | (refine it_at (by assumption) ?_; with_reducible conv => whnf)))
  rw [hn]
  have hlen : ∀ (S : Sto) o, (S ++ [o] : Sto).length = S.length + 1 := fun S o => by simp
  rw [hlen, hlen, hlen]
  have e5 : (S ++ [O.lst [.int 1]] ++ [O.lst [.int 1]] ++ [O.lst [.int 1]])[S.length]? = some (.lst [.int 1]) := push_at (push_at (at_push S _) _) _
  have e6 : (S ++ [O.lst [.int 1]] ++ [O.lst [.int 1]] ++ [O.lst [.int 1]])[S.length + 1]? = some (.lst [.int 1]) := by have := push_at (at_push (S ++ [O.lst [.int 1]]) (.lst [.int 1])) [.lst [.int 1]]; rwa [hlen] at this
  have e7 : (S ++ [O.lst [.int 1]] ++ [O.lst [.int 1]] ++ [O.lst [.int 1]])[S.length + 1 + 1]? = some (.lst [.int 1]) := by have := at_push (S ++ [O.lst [.int 1]] ++ [O.lst [.int 1]]) (.lst [.int 1]); rwa [hlen, hlen] at this
  have s0 := (((Sub.refl S).app [.lst [.int 1]]).app [.lst [.int 1]]).app [.lst [.int 1]]
  generalize S ++ [O.lst [.int 1]] ++ [O.lst [.int 1]] ++ [O.lst [.int 1]] = S0 at *
  generalize hz : S.length = z at *
  refine ⟨⟨by omega, by omega⟩, ?_⟩
  refine Loop_mk (fun g ρ S' => ∃ r o9 o10 o11 o12, ρ = [some (qD p), some (.int a), some (.int b), some (.int n), some (.int p.den), some (.ref r), some (.ref (z + 1)), some (.ref (z + 1 + 1)), some (.int ((TT n m p.den a b g : Nat) : Int)), o9, o10, o11, o12] ∧
      r ≠ z + 1 ∧ r ≠ z + 1 + 1 ∧ S'[r]? = some (.lst (natD ((List.range (g + 1)).map (chs g)))) ∧ S'[z + 1]? = some (.lst (natD ((List.range (g + 1)).map (n ^ ·)))) ∧ S'[z + 1 + 1]? = some (.lst (natD ((List.range (g + 1)).map (m ^ ·)))) ∧ Sub S S')
      ⟨z, none, none, none, none, rfl, by omega, by omega, e5, by rw [e6, List.range_one, List.map_singleton, Nat.pow_zero]; rfl, by rw [e7, List.range_one, List.map_singleton, Nat.pow_zero]; rfl, s0⟩ (by intros; trivial) ?_ ?_
  · clear e5 e6 e7 s0 S0
    rintro g d ρ' S' hi ⟨r, o9, o10, o11, o12, rfl, n1, n2, e5, e6, e7, s1⟩
    obtain ⟨hi1, rfl⟩ := rangeD_get hi
    rw [Int.zero_add]
    have hg : g + 2 ≤ a + b := by omega
    ((with_reducible conv => whnf); repeat (first | (rw [natD_len]; with_reducible conv => whnf) | (rw [intD_len]; with_reducible conv => whnf) | (refine Exists.intro _ (And.intro (rfl : _ = some _) ?_); with_reducible conv => whnf) | (refine And.intro (okII _ _) ?_; rw [eqD_ii]; with_reducible conv => whnf) | (refine And.intro (by first | assumption | exact Exists.intro _ (by assumption) | exact ⟨rfl, rfl, by decide, by decide⟩ | exact Nat.le_of_ble_eq_true rfl | exact rfl) ?_; with_reducible conv => whnf) | (rw [isLst_at (by assumption)]; with_reducible conv => whnf) | (refine ifT rfl ?_; with_reducible conv => whnf) | (refine ifF rfl ?_; with_reducible conv => whnf) | (refine it_at (by assumption) ?_; with_reducible conv => whnf)))
    rw [show max 0 ((g : Int) - b + 1) = ((g + 1 - b : Nat) : Int) by omega, show min ((a : Int) - 1) (g : Int) + 1 = ((min (a - 1) g + 1 : Nat) : Int) by omega]
    refine ⟨⟨by omega, by omega⟩, ⟨by omega, by omega⟩, ?_⟩
    generalize hlo : g + 1 - b = lo at *
    generalize hc : min (a - 1) g + 1 - lo = c at *
    rw [show rangeD (lo : Int) ((min (a - 1) g + 1 : Nat) : Int) = (List.range c).map fun (i : Nat) => D.int ((lo : Int) + i) by unfold rangeD; rw [show (((min (a - 1) g + 1 : Nat) : Int) - (lo : Int)).toNat = c by omega]]
    have hcl : c ≤ 50 := by omega
    refine Lc_lm (xs := List.range c) (e := fun (i : Nat) => D.int ((lo : Int) + i)) (fun i => D.int ((trm n m g (lo + i) : Nat) : Int)) (by rw [List.length_range]; unfold szL; omega) (fun _ _ => trivial) ?_ ?_
    · intro i S2 R hi s2 hR
      have hi := List.mem_range.mp hi
      have hk : lo + i ≤ g := by omega
      have f5 := s2 _ _ e5
      have f6 := s2 _ _ e6
      have f7 := s2 _ _ e7
      have l1 : chs g (lo + i) < 2 ^ 81 := Nat.lt_of_le_of_lt (chs_le _ _) (Nat.pow_lt_pow_right (by decide) (by omega))
      have l2 : n ^ (lo + i) < 2 ^ 9000 := Nat.lt_of_lt_of_le (pow_lt (show n < 2 ^ 100 by omega) _) (Nat.pow_le_pow_right (by decide) (by omega))
      have l3 : m ^ (g - (lo + i)) < 2 ^ 9000 := Nat.lt_of_lt_of_le (pow_lt (show m < 2 ^ 100 by omega) _) (Nat.pow_le_pow_right (by decide) (by omega))
      ((with_reducible conv => whnf); repeat (first | (rw [natD_len]; with_reducible conv => whnf) | (rw [intD_len]; with_reducible conv => whnf) | (refine Exists.intro _ (And.intro (rfl : _ = some _) ?_); with_reducible conv => whnf) | (refine And.intro (okII _ _) ?_; rw [eqD_ii]; with_reducible conv => whnf) | (refine And.intro (by first | assumption | exact Exists.intro _ (by assumption) | exact ⟨rfl, rfl, by decide, by decide⟩ | exact Nat.le_of_ble_eq_true rfl | exact rfl) ?_; with_reducible conv => whnf) | (rw [isLst_at (by assumption)]; with_reducible conv => whnf) | (refine ifT rfl ?_; with_reducible conv => whnf) | (refine ifF rfl ?_; with_reducible conv => whnf) | (refine it_at (by assumption) ?_; with_reducible conv => whnf)))
      rw [show (lo : Int) + (i : Int) = ((lo + i : Nat) : Int) by omega]
      refine ⟨_, rmAt _ (by omega), ?_⟩
      ((with_reducible conv => whnf); repeat (first | (rw [natD_len]; with_reducible conv => whnf) | (rw [intD_len]; with_reducible conv => whnf) | (refine Exists.intro _ (And.intro (rfl : _ = some _) ?_); with_reducible conv => whnf) | (refine And.intro (okII _ _) ?_; rw [eqD_ii]; with_reducible conv => whnf) | (refine And.intro (by first | assumption | exact Exists.intro _ (by assumption) | exact ⟨rfl, rfl, by decide, by decide⟩ | exact Nat.le_of_ble_eq_true rfl | exact rfl) ?_; with_reducible conv => whnf) | (rw [isLst_at (by assumption)]; with_reducible conv => whnf) | (refine ifT rfl ?_; with_reducible conv => whnf) | (refine ifF rfl ?_; with_reducible conv => whnf) | (refine it_at (by assumption) ?_; with_reducible conv => whnf)))
      refine ⟨_, rmAt _ (by omega), ?_⟩
      ((with_reducible conv => whnf); repeat (first | (rw [natD_len]; with_reducible conv => whnf) | (rw [intD_len]; with_reducible conv => whnf) | (refine Exists.intro _ (And.intro (rfl : _ = some _) ?_); with_reducible conv => whnf) | (refine And.intro (okII _ _) ?_; rw [eqD_ii]; with_reducible conv => whnf) | (refine And.intro (by first | assumption | exact Exists.intro _ (by assumption) | exact ⟨rfl, rfl, by decide, by decide⟩ | exact Nat.le_of_ble_eq_true rfl | exact rfl) ?_; with_reducible conv => whnf) | (rw [isLst_at (by assumption)]; with_reducible conv => whnf) | (refine ifT rfl ?_; with_reducible conv => whnf) | (refine ifF rfl ?_; with_reducible conv => whnf) | (refine it_at (by assumption) ?_; with_reducible conv => whnf)))
      refine ⟨mulN l1 l2 (by omega) (by omega), ?_⟩
      ((with_reducible conv => whnf); repeat (first | (rw [natD_len]; with_reducible conv => whnf) | (rw [intD_len]; with_reducible conv => whnf) | (refine Exists.intro _ (And.intro (rfl : _ = some _) ?_); with_reducible conv => whnf) | (refine And.intro (okII _ _) ?_; rw [eqD_ii]; with_reducible conv => whnf) | (refine And.intro (by first | assumption | exact Exists.intro _ (by assumption) | exact ⟨rfl, rfl, by decide, by decide⟩ | exact Nat.le_of_ble_eq_true rfl | exact rfl) ?_; with_reducible conv => whnf) | (rw [isLst_at (by assumption)]; with_reducible conv => whnf) | (refine ifT rfl ?_; with_reducible conv => whnf) | (refine ifF rfl ?_; with_reducible conv => whnf) | (refine it_at (by assumption) ?_; with_reducible conv => whnf)))
      rw [show (g : Int) - ((lo + i : Nat) : Int) = ((g - (lo + i) : Nat) : Int) by omega]
      refine ⟨_, rmAt _ (by omega), ?_⟩
      ((with_reducible conv => whnf); repeat (first | (rw [natD_len]; with_reducible conv => whnf) | (rw [intD_len]; with_reducible conv => whnf) | (refine Exists.intro _ (And.intro (rfl : _ = some _) ?_); with_reducible conv => whnf) | (refine And.intro (okII _ _) ?_; rw [eqD_ii]; with_reducible conv => whnf) | (refine And.intro (by first | assumption | exact Exists.intro _ (by assumption) | exact ⟨rfl, rfl, by decide, by decide⟩ | exact Nat.le_of_ble_eq_true rfl | exact rfl) ?_; with_reducible conv => whnf) | (rw [isLst_at (by assumption)]; with_reducible conv => whnf) | (refine ifT rfl ?_; with_reducible conv => whnf) | (refine ifF rfl ?_; with_reducible conv => whnf) | (refine it_at (by assumption) ?_; with_reducible conv => whnf)))
      rw [← Int.natCast_mul]
      refine ⟨mulN (mul_lt l1 l2) l3 (by omega) (by omega), ?_⟩
      rw [← Int.natCast_mul]
      exact hR _ (Sub.refl _)
    intro S2 s2
    have hnd : (List.range c).map (fun i => D.int ((trm n m g (lo + i) : Nat) : Int)) = natD ((List.range c).map fun i => trm n m g (lo + i)) := by rw [natD_map, List.map_map]; rfl
    rw [hnd]
    replace e5 := push_at (s2 _ _ e5) [.lst (natD ((List.range c).map fun i => trm n m g (lo + i)))]
    replace e6 := push_at (s2 _ _ e6) [.lst (natD ((List.range c).map fun i => trm n m g (lo + i)))]
    replace e7 := push_at (s2 _ _ e7) [.lst (natD ((List.range c).map fun i => trm n m g (lo + i)))]
    have e8 := at_push S2 (.lst (natD ((List.range c).map fun i => trm n m g (lo + i))))
    replace s1 := (s1.trans s2).app [.lst (natD ((List.range c).map fun i => trm n m g (lo + i)))]
    clear s2
    generalize S2 ++ [O.lst (natD ((List.range c).map fun i => trm n m g (lo + i)))] = S3 at *
    generalize S2.length = p3 at *
    (with_reducible conv => whnf)
    refine ⟨_, itemsR e8, ?_⟩
    (with_reducible conv => whnf)
    rw [sum_cast, show ((List.range c).map fun i => trm n m g (lo + i)).sum = SN n m a b g by unfold SN; rw [hlo, hc]]
    have lT := TT_lt (g := g) (show n ≤ p.den by omega) (show m ≤ p.den by omega) hd0 hden ha1 hb1 (by omega) (by omega)
    ((with_reducible conv => whnf); repeat (first | (rw [natD_len]; with_reducible conv => whnf) | (rw [intD_len]; with_reducible conv => whnf) | (refine Exists.intro _ (And.intro (rfl : _ = some _) ?_); with_reducible conv => whnf) | (refine And.intro (okII _ _) ?_; rw [eqD_ii]; with_reducible conv => whnf) | (refine And.intro (by first | assumption | exact Exists.intro _ (by assumption) | exact ⟨rfl, rfl, by decide, by decide⟩ | exact Nat.le_of_ble_eq_true rfl | exact rfl) ?_; with_reducible conv => whnf) | (rw [isLst_at (by assumption)]; with_reducible conv => whnf) | (refine ifT rfl ?_; with_reducible conv => whnf) | (refine ifF rfl ?_; with_reducible conv => whnf) | (refine it_at (by assumption) ?_; with_reducible conv => whnf)))
    refine ⟨mulN lT hden (by omega) (by omega), ?_⟩
    ((with_reducible conv => whnf); repeat (first | (rw [natD_len]; with_reducible conv => whnf) | (rw [intD_len]; with_reducible conv => whnf) | (refine Exists.intro _ (And.intro (rfl : _ = some _) ?_); with_reducible conv => whnf) | (refine And.intro (okII _ _) ?_; rw [eqD_ii]; with_reducible conv => whnf) | (refine And.intro (by first | assumption | exact Exists.intro _ (by assumption) | exact ⟨rfl, rfl, by decide, by decide⟩ | exact Nat.le_of_ble_eq_true rfl | exact rfl) ?_; with_reducible conv => whnf) | (rw [isLst_at (by assumption)]; with_reducible conv => whnf) | (refine ifT rfl ?_; with_reducible conv => whnf) | (refine ifF rfl ?_; with_reducible conv => whnf) | (refine it_at (by assumption) ?_; with_reducible conv => whnf)))
    have f5 := push_at e5 [.lst [.int 1]]
    have f6 := push_at e6 [.lst [.int 1]]
    have f7 := push_at e7 [.lst [.int 1]]
    have f8 := at_push S3 (.lst [.int 1])
    replace s1 := s1.app [.lst [.int 1]]
    generalize S3 ++ [O.lst [.int 1]] = S4 at *
    generalize S3.length = p4 at *
    refine ⟨⟨by omega, by omega⟩, ?_⟩
    refine Lc_rm (fun k => D.int ((chs g k : Nat) + (chs g (k + 1) : Nat))) (by unfold szL; omega) (fun _ _ => trivial) ?_ ?_
    · intro i S5 R hi s5 hR
      have f5 := s5 _ _ f5
      ((with_reducible conv => whnf); repeat (first | (rw [natD_len]; with_reducible conv => whnf) | (rw [intD_len]; with_reducible conv => whnf) | (refine Exists.intro _ (And.intro (rfl : _ = some _) ?_); with_reducible conv => whnf) | (refine And.intro (okII _ _) ?_; rw [eqD_ii]; with_reducible conv => whnf) | (refine And.intro (by first | assumption | exact Exists.intro _ (by assumption) | exact ⟨rfl, rfl, by decide, by decide⟩ | exact Nat.le_of_ble_eq_true rfl | exact rfl) ?_; with_reducible conv => whnf) | (rw [isLst_at (by assumption)]; with_reducible conv => whnf) | (refine ifT rfl ?_; with_reducible conv => whnf) | (refine ifF rfl ?_; with_reducible conv => whnf) | (refine it_at (by assumption) ?_; with_reducible conv => whnf)))
      refine ⟨_, rmAt _ (by omega), ?_⟩
      ((with_reducible conv => whnf); repeat (first | (rw [natD_len]; with_reducible conv => whnf) | (rw [intD_len]; with_reducible conv => whnf) | (refine Exists.intro _ (And.intro (rfl : _ = some _) ?_); with_reducible conv => whnf) | (refine And.intro (okII _ _) ?_; rw [eqD_ii]; with_reducible conv => whnf) | (refine And.intro (by first | assumption | exact Exists.intro _ (by assumption) | exact ⟨rfl, rfl, by decide, by decide⟩ | exact Nat.le_of_ble_eq_true rfl | exact rfl) ?_; with_reducible conv => whnf) | (rw [isLst_at (by assumption)]; with_reducible conv => whnf) | (refine ifT rfl ?_; with_reducible conv => whnf) | (refine ifF rfl ?_; with_reducible conv => whnf) | (refine it_at (by assumption) ?_; with_reducible conv => whnf)))
      rw [show (i : Int) + 1 = ((i + 1 : Nat) : Int) by omega]
      refine ⟨_, rmAt _ (by omega), ?_⟩
      ((with_reducible conv => whnf); repeat (first | (rw [natD_len]; with_reducible conv => whnf) | (rw [intD_len]; with_reducible conv => whnf) | (refine Exists.intro _ (And.intro (rfl : _ = some _) ?_); with_reducible conv => whnf) | (refine And.intro (okII _ _) ?_; rw [eqD_ii]; with_reducible conv => whnf) | (refine And.intro (by first | assumption | exact Exists.intro _ (by assumption) | exact ⟨rfl, rfl, by decide, by decide⟩ | exact Nat.le_of_ble_eq_true rfl | exact rfl) ?_; with_reducible conv => whnf) | (rw [isLst_at (by assumption)]; with_reducible conv => whnf) | (refine ifT rfl ?_; with_reducible conv => whnf) | (refine ifF rfl ?_; with_reducible conv => whnf) | (refine it_at (by assumption) ?_; with_reducible conv => whnf)))
      exact hR _ (Sub.refl _)
    intro S5 s5
    have g5 := push_at (s5 _ _ f5) [.lst ((List.range g).map fun k => D.int ((chs g k : Nat) + (chs g (k + 1) : Nat)))]
    have g6 := push_at (s5 _ _ f6) [.lst ((List.range g).map fun k => D.int ((chs g k : Nat) + (chs g (k + 1) : Nat)))]
    have g7 := push_at (s5 _ _ f7) [.lst ((List.range g).map fun k => D.int ((chs g k : Nat) + (chs g (k + 1) : Nat)))]
    have g8 := push_at (s5 _ _ f8) [.lst ((List.range g).map fun k => D.int ((chs g k : Nat) + (chs g (k + 1) : Nat)))]
    have g9 := at_push S5 (.lst ((List.range g).map fun k => D.int ((chs g k : Nat) + (chs g (k + 1) : Nat))))
    replace s1 := (s1.trans s5).app [.lst ((List.range g).map fun k => D.int ((chs g k : Nat) + (chs g (k + 1) : Nat)))]
    clear s5 f5 f6 f7 f8 e5 e6 e7 e8
    generalize S5 ++ [O.lst ((List.range g).map fun k => D.int ((chs g k : Nat) + (chs g (k + 1) : Nat)))] = S6 at *
    generalize S5.length = p6 at *
    ((with_reducible conv => whnf); repeat (first | (rw [natD_len]; with_reducible conv => whnf) | (rw [intD_len]; with_reducible conv => whnf) | (refine Exists.intro _ (And.intro (rfl : _ = some _) ?_); with_reducible conv => whnf) | (refine And.intro (okII _ _) ?_; rw [eqD_ii]; with_reducible conv => whnf) | (refine And.intro (by first | assumption | exact Exists.intro _ (by assumption) | exact ⟨rfl, rfl, by decide, by decide⟩ | exact Nat.le_of_ble_eq_true rfl | exact rfl) ?_; with_reducible conv => whnf) | (rw [isLst_at (by assumption)]; with_reducible conv => whnf) | (refine ifT rfl ?_; with_reducible conv => whnf) | (refine ifF rfl ?_; with_reducible conv => whnf) | (refine it_at (by assumption) ?_; with_reducible conv => whnf)))
    refine ⟨by rw [List.length_map, List.length_range, List.length_singleton]; unfold szL; omega, ?_⟩
    have t5 := push_at g5 [.lst ([D.int 1] ++ (List.range g).map fun k => D.int ((chs g k : Nat) + (chs g (k + 1) : Nat)))]
    have t6 := push_at g6 [.lst ([D.int 1] ++ (List.range g).map fun k => D.int ((chs g k : Nat) + (chs g (k + 1) : Nat)))]
    have t7 := push_at g7 [.lst ([D.int 1] ++ (List.range g).map fun k => D.int ((chs g k : Nat) + (chs g (k + 1) : Nat)))]
    have t8 := at_push S6 (.lst ([D.int 1] ++ (List.range g).map fun k => D.int ((chs g k : Nat) + (chs g (k + 1) : Nat))))
    replace s1 := s1.app [.lst ([D.int 1] ++ (List.range g).map fun k => D.int ((chs g k : Nat) + (chs g (k + 1) : Nat)))]
    generalize S6 ++ [O.lst ([D.int 1] ++ (List.range g).map fun k => D.int ((chs g k : Nat) + (chs g (k + 1) : Nat)))] = S7 at *
    generalize S6.length = p7 at *
    clear g5 g6 g7 g8 g9
    ((with_reducible conv => whnf); repeat (first | (rw [natD_len]; with_reducible conv => whnf) | (rw [intD_len]; with_reducible conv => whnf) | (refine Exists.intro _ (And.intro (rfl : _ = some _) ?_); with_reducible conv => whnf) | (refine And.intro (okII _ _) ?_; rw [eqD_ii]; with_reducible conv => whnf) | (refine And.intro (by first | assumption | exact Exists.intro _ (by assumption) | exact ⟨rfl, rfl, by decide, by decide⟩ | exact Nat.le_of_ble_eq_true rfl | exact rfl) ?_; with_reducible conv => whnf) | (rw [isLst_at (by assumption)]; with_reducible conv => whnf) | (refine ifT rfl ?_; with_reducible conv => whnf) | (refine ifF rfl ?_; with_reducible conv => whnf) | (refine it_at (by assumption) ?_; with_reducible conv => whnf)))
    have u5 := push_at t5 [.lst [.int 1]]
    have u6 := push_at t6 [.lst [.int 1]]
    have u7 := push_at t7 [.lst [.int 1]]
    have u8 := push_at t8 [.lst [.int 1]]
    have u9 := at_push S7 (.lst [.int 1])
    replace s1 := s1.app [.lst [.int 1]]
    generalize S7 ++ [O.lst [.int 1]] = S8 at *
    generalize S7.length = p8 at *
    clear t5 t6 t7 t8
    rw [isLst_at u8]
    (with_reducible conv => whnf)
    rw [isLst_at u9]
    (with_reducible conv => whnf)
    refine ⟨by rw [List.length_append, List.length_map, List.length_range, List.length_singleton]; unfold szL; omega, ?_⟩
    rw [pasc]
    have v6 := push_at u6 [.lst (natD ((List.range (g + 1 + 1)).map (chs (g + 1))))]
    have v7 := push_at u7 [.lst (natD ((List.range (g + 1 + 1)).map (chs (g + 1))))]
    have v9 := at_push S8 (.lst (natD ((List.range (g + 1 + 1)).map (chs (g + 1)))))
    have m1 : S8.length ≠ z + 1 := by have := at_lt u6; omega
    have m2 : S8.length ≠ z + 1 + 1 := by have := at_lt u7; omega
    replace s1 := s1.app [.lst (natD ((List.range (g + 1 + 1)).map (chs (g + 1))))]
    generalize S8 ++ [O.lst (natD ((List.range (g + 1 + 1)).map (chs (g + 1))))] = S9 at *
    generalize S8.length = p9 at *
    clear u5 u6 u7 u8 u9
    have l2 : n ^ g < 2 ^ 9000 := Nat.lt_of_lt_of_le (pow_lt (show n < 2 ^ 100 by omega) _) (Nat.pow_le_pow_right (by decide) (by omega))
    have l3 : m ^ g < 2 ^ 9000 := Nat.lt_of_lt_of_le (pow_lt (show m < 2 ^ 100 by omega) _) (Nat.pow_le_pow_right (by decide) (by omega))
    ((with_reducible conv => whnf); repeat (first | (rw [natD_len]; with_reducible conv => whnf) | (rw [intD_len]; with_reducible conv => whnf) | (refine Exists.intro _ (And.intro (rfl : _ = some _) ?_); with_reducible conv => whnf) | (refine And.intro (okII _ _) ?_; rw [eqD_ii]; with_reducible conv => whnf) | (refine And.intro (by first | assumption | exact Exists.intro _ (by assumption) | exact ⟨rfl, rfl, by decide, by decide⟩ | exact Nat.le_of_ble_eq_true rfl | exact rfl) ?_; with_reducible conv => whnf) | (rw [isLst_at (by assumption)]; with_reducible conv => whnf) | (refine ifT rfl ?_; with_reducible conv => whnf) | (refine ifF rfl ?_; with_reducible conv => whnf) | (refine it_at (by assumption) ?_; with_reducible conv => whnf)))
    refine ⟨_, rm_last _ _, ?_⟩
    ((with_reducible conv => whnf); repeat (first | (rw [natD_len]; with_reducible conv => whnf) | (rw [intD_len]; with_reducible conv => whnf) | (refine Exists.intro _ (And.intro (rfl : _ = some _) ?_); with_reducible conv => whnf) | (refine And.intro (okII _ _) ?_; rw [eqD_ii]; with_reducible conv => whnf) | (refine And.intro (by first | assumption | exact Exists.intro _ (by assumption) | exact ⟨rfl, rfl, by decide, by decide⟩ | exact Nat.le_of_ble_eq_true rfl | exact rfl) ?_; with_reducible conv => whnf) | (rw [isLst_at (by assumption)]; with_reducible conv => whnf) | (refine ifT rfl ?_; with_reducible conv => whnf) | (refine ifF rfl ?_; with_reducible conv => whnf) | (refine it_at (by assumption) ?_; with_reducible conv => whnf)))
    refine ⟨mulN l2 (show n < 2 ^ 100 by omega) (by omega) (by omega), ?_⟩
    ((with_reducible conv => whnf); repeat (first | (rw [natD_len]; with_reducible conv => whnf) | (rw [intD_len]; with_reducible conv => whnf) | (refine Exists.intro _ (And.intro (rfl : _ = some _) ?_); with_reducible conv => whnf) | (refine And.intro (okII _ _) ?_; rw [eqD_ii]; with_reducible conv => whnf) | (refine And.intro (by first | assumption | exact Exists.intro _ (by assumption) | exact ⟨rfl, rfl, by decide, by decide⟩ | exact Nat.le_of_ble_eq_true rfl | exact rfl) ?_; with_reducible conv => whnf) | (rw [isLst_at (by assumption)]; with_reducible conv => whnf) | (refine ifT rfl ?_; with_reducible conv => whnf) | (refine ifF rfl ?_; with_reducible conv => whnf) | (refine it_at (by assumption) ?_; with_reducible conv => whnf)))
    refine ⟨by rw [rmLen]; unfold szL; omega, ?_⟩
    rw [show (((fun x => n ^ x) g : Nat) : Int) * (n : Int) = (((fun x => n ^ x) (g + 1) : Nat) : Int) by
      show ((n ^ g : Nat) : Int) * (n : Int) = ((n ^ (g + 1) : Nat) : Int)
      rw [Nat.pow_succ, Int.natCast_mul], rangeM (n ^ ·)]
    have w6 : (S9.set (z + 1) (.lst (natD ((List.range (g + 1 + 1)).map (n ^ ·)))))[z + 1]? = some (.lst (natD ((List.range (g + 1 + 1)).map (n ^ ·)))) := at_set v6
    have w7 : (S9.set (z + 1) (.lst (natD ((List.range (g + 1 + 1)).map (n ^ ·)))))[z + 1 + 1]? = some (.lst (natD ((List.range (g + 1)).map (m ^ ·)))) := by rw [at_set_ne (by omega), v7]
    have w9 : (S9.set (z + 1) (.lst (natD ((List.range (g + 1 + 1)).map (n ^ ·)))))[p9]? = some (.lst (natD ((List.range (g + 1 + 1)).map (chs (g + 1))))) := by rw [at_set_ne m1, v9]
    replace s1 : Sub S (S9.set (z + 1) (.lst (natD ((List.range (g + 1 + 1)).map (n ^ ·))))) := s1.put (by omega)
    clear v6 v7 v9
    generalize S9.set (z + 1) (.lst (natD ((List.range (g + 1 + 1)).map (n ^ ·)))) = T1 at *
    ((with_reducible conv => whnf); repeat (first | (rw [natD_len]; with_reducible conv => whnf) | (rw [intD_len]; with_reducible conv => whnf) | (refine Exists.intro _ (And.intro (rfl : _ = some _) ?_); with_reducible conv => whnf) | (refine And.intro (okII _ _) ?_; rw [eqD_ii]; with_reducible conv => whnf) | (refine And.intro (by first | assumption | exact Exists.intro _ (by assumption) | exact ⟨rfl, rfl, by decide, by decide⟩ | exact Nat.le_of_ble_eq_true rfl | exact rfl) ?_; with_reducible conv => whnf) | (rw [isLst_at (by assumption)]; with_reducible conv => whnf) | (refine ifT rfl ?_; with_reducible conv => whnf) | (refine ifF rfl ?_; with_reducible conv => whnf) | (refine it_at (by assumption) ?_; with_reducible conv => whnf)))
    refine ⟨_, rm_last _ _, ?_⟩
    (with_reducible conv => whnf)
    rw [show (p.den : Int) - (n : Int) = (m : Int) by omega]
    ((with_reducible conv => whnf); repeat (first | (rw [natD_len]; with_reducible conv => whnf) | (rw [intD_len]; with_reducible conv => whnf) | (refine Exists.intro _ (And.intro (rfl : _ = some _) ?_); with_reducible conv => whnf) | (refine And.intro (okII _ _) ?_; rw [eqD_ii]; with_reducible conv => whnf) | (refine And.intro (by first | assumption | exact Exists.intro _ (by assumption) | exact ⟨rfl, rfl, by decide, by decide⟩ | exact Nat.le_of_ble_eq_true rfl | exact rfl) ?_; with_reducible conv => whnf) | (rw [isLst_at (by assumption)]; with_reducible conv => whnf) | (refine ifT rfl ?_; with_reducible conv => whnf) | (refine ifF rfl ?_; with_reducible conv => whnf) | (refine it_at (by assumption) ?_; with_reducible conv => whnf)))
    refine ⟨mulN l3 (show m < 2 ^ 100 by omega) (by omega) (by omega), ?_⟩
    ((with_reducible conv => whnf); repeat (first | (rw [natD_len]; with_reducible conv => whnf) | (rw [intD_len]; with_reducible conv => whnf) | (refine Exists.intro _ (And.intro (rfl : _ = some _) ?_); with_reducible conv => whnf) | (refine And.intro (okII _ _) ?_; rw [eqD_ii]; with_reducible conv => whnf) | (refine And.intro (by first | assumption | exact Exists.intro _ (by assumption) | exact ⟨rfl, rfl, by decide, by decide⟩ | exact Nat.le_of_ble_eq_true rfl | exact rfl) ?_; with_reducible conv => whnf) | (rw [isLst_at (by assumption)]; with_reducible conv => whnf) | (refine ifT rfl ?_; with_reducible conv => whnf) | (refine ifF rfl ?_; with_reducible conv => whnf) | (refine it_at (by assumption) ?_; with_reducible conv => whnf)))
    refine ⟨by rw [rmLen]; unfold szL; omega, ?_⟩
    rw [show (((fun x => m ^ x) g : Nat) : Int) * (m : Int) = (((fun x => m ^ x) (g + 1) : Nat) : Int) by
      show ((m ^ g : Nat) : Int) * (m : Int) = ((m ^ (g + 1) : Nat) : Int)
      rw [Nat.pow_succ, Int.natCast_mul], rangeM (m ^ ·)]
    (with_reducible conv => whnf)
    refine ⟨p9, some (.int (g : Int)), some (.int (lo : Int)), some (.int ((SN n m a b g : Nat) : Int)), o12, ?_, m1, m2, ?_, ?_, at_set w7, s1.put (by omega)⟩
    · rw [show ((TT n m p.den a b (g + 1) : Nat) : Int) = ((TT n m p.den a b g : Nat) : Int) * (p.den : Int) + ((SN n m a b g : Nat) : Int) by rw [← Int.natCast_mul, ← Int.natCast_add]; rfl]
    · rw [at_set_ne m2, w9]
    · rw [at_set_ne (by omega), w6]
  · clear e5 e6 e7 s0 S0
    rintro ρ' S' ⟨r, o9, o10, o11, o12, rfl, n1, n2, e5, e6, e7, s1⟩
    rw [rangeD_len, show ((a : Int) + b - 1 - 0).toNat = a + b - 1 by omega]
    have hpp : 0 < p.den ^ (a + b - 2) := Nat.pow_pos hd0
    ((with_reducible conv => whnf); repeat (first | (rw [natD_len]; with_reducible conv => whnf) | (rw [intD_len]; with_reducible conv => whnf) | (refine Exists.intro _ (And.intro (rfl : _ = some _) ?_); with_reducible conv => whnf) | (refine And.intro (okII _ _) ?_; rw [eqD_ii]; with_reducible conv => whnf) | (refine And.intro (by first | assumption | exact Exists.intro _ (by assumption) | exact ⟨rfl, rfl, by decide, by decide⟩ | exact Nat.le_of_ble_eq_true rfl | exact rfl) ?_; with_reducible conv => whnf) | (rw [isLst_at (by assumption)]; with_reducible conv => whnf) | (refine ifT rfl ?_; with_reducible conv => whnf) | (refine ifF rfl ?_; with_reducible conv => whnf) | (refine it_at (by assumption) ?_; with_reducible conv => whnf)))
    rw [show (a : Int) + b - 2 = ((a + b - 2 : Nat) : Int) by omega]
    refine ⟨p.den, a + b - 2, rfl, hden, by omega, fun S2 s2 => ?_⟩
    ((with_reducible conv => whnf); repeat (first | (rw [natD_len]; with_reducible conv => whnf) | (rw [intD_len]; with_reducible conv => whnf) | (refine Exists.intro _ (And.intro (rfl : _ = some _) ?_); with_reducible conv => whnf) | (refine And.intro (okII _ _) ?_; rw [eqD_ii]; with_reducible conv => whnf) | (refine And.intro (by first | assumption | exact Exists.intro _ (by assumption) | exact ⟨rfl, rfl, by decide, by decide⟩ | exact Nat.le_of_ble_eq_true rfl | exact rfl) ?_; with_reducible conv => whnf) | (rw [isLst_at (by assumption)]; with_reducible conv => whnf) | (refine ifT rfl ?_; with_reducible conv => whnf) | (refine ifF rfl ?_; with_reducible conv => whnf) | (refine it_at (by assumption) ?_; with_reducible conv => whnf)))
    refine ⟨_, p.den ^ (a + b - 2), rfl, by omega, fun S3 s3 => ?_⟩
    rw [divInt_of (x := MG p a b) ?_ (by omega)]
    · exact k _ (s1.trans (s2.trans s3))
    · have := TT_Q (d := p.den) hnq hmq ha1 hb1 (a + b - 1) (by omega)
      rw [Sg_sum p (a + b - 1) a b (by omega)] at this
      have hz : ((p.den : Nat) : Rat) ≠ 0 := fun e => by have := p.den_nz; exact this (by exact_mod_cast e)
      show ((TT n m p.den a b (a + b - 1) : Nat) : Rat) = _
      rw [natPow]
      have e : (p.den : Rat) ^ (a + b - 1) = (p.den : Rat) ^ (a + b - 2) * (p.den : Rat) := by rw [← Rat.pow_succ]; congr 1; omega
      rw [e] at this
      have h2 : (((TT n m p.den a b (a + b - 1) : Nat) : Rat) - MG p a b * (p.den : Rat) ^ (a + b - 2)) * (p.den : Rat) = 0 := by grind
      rcases Rat.mul_eq_zero.mp h2 with h | h
      · grind
      · exact absurd h hz
end K80
set_option linter.all false
set_option maxRecDepth 100000
set_option maxHeartbeats 4000000
namespace K80
open DL
theorem lowR {n : Int} {d : Nat} {x : Rat} (h : (n : Rat) = x * (d : Rat)) (hd : d ≠ 0) : Rat.divInt n d = x := divInt_of h hd
/-- fractions not too great -/
def mid (q : Rat) : Prop := q.den < 2 ^ 50000 ∧ q.num.natAbs < 2 ^ 50000
theorem mid_of {q : Rat} (h0 : 0 ≤ q) (h1 : q ≤ 1) (hd : q.den < 2 ^ 50000) : mid q := by
  refine ⟨hd, ?_⟩
  have e := q_den q
  have hd0 : (0 : Rat) < (q.den : Rat) := by exact_mod_cast q.den_pos
  have h2 : (0 : Rat) ≤ (q.num : Rat) := by rw [← e]; exact Rat.mul_nonneg h0 (Rat.le_of_lt hd0)
  have h3 : (q.num : Rat) ≤ (q.den : Rat) := by
    have := Rat.mul_le_mul_of_nonneg_right h1 (Rat.le_of_lt hd0)
    grind
  have i1 : 0 ≤ q.num := by exact_mod_cast h2
  have i2 : q.num ≤ (q.den : Int) := by exact_mod_cast h3
  omega
theorem mB {i : Int} (h : i.natAbs < 2 ^ 50000) : i.natAbs < 2 ^ 100000 := Nat.lt_of_lt_of_le h (Nat.pow_le_pow_right (by decide) (by decide))
theorem mBn {i : Nat} (h : i < 2 ^ 50000) : ((i : Int)).natAbs < 2 ^ 100000 := by rw [Int.natAbs_natCast]; exact Nat.lt_of_lt_of_le h (Nat.pow_le_pow_right (by decide) (by decide))
@[reducible] def sp_plus : Spc := fun ds S Q => ∃ a b, ds = [qD a, qD b] ∧ mid a ∧ mid b ∧ ∀ S', Sub S S' → Q (qD (a + b)) S'
theorem body_law_plus : Body 2 2 (w_law_plus sp_low) sp_plus := by
  rintro ds S Q _ ⟨a, b, rfl, ha, hb, k⟩
  unfold w_law_plus
  (simp only [start, List.map_cons, List.map_nil, List.length_cons, List.length_nil, Nat.reduceAdd, Nat.reduceSub, List.replicate_succ, List.replicate_zero, List.cons_append, List.nil_append, Nat.sub_self, Nat.zero_add])
  ((with_reducible conv => whnf); repeat (first | (rw [natD_len]; with_reducible conv => whnf) | (rw [intD_len]; with_reducible conv => whnf) | (refine Exists.intro _ (And.intro (rfl : _ = some _) ?_); with_reducible conv => whnf) | (refine And.intro (okII _ _) ?_; rw [eqD_ii]; with_reducible conv => whnf) | (refine And.intro (by first | assumption | exact Exists.intro _ (by assumption) | exact ⟨rfl, rfl, by decide, by decide⟩ | exact Nat.le_of_ble_eq_true rfl | exact rfl) ?_; with_reducible conv => whnf) | (rw [isLst_at (by assumption)]; with_reducible conv => whnf) | (refine ifT rfl ?_; with_reducible conv => whnf) | (refine ifF rfl ?_; with_reducible conv => whnf) | (refine it_at (by assumption) ?_; with_reducible conv => whnf)))
  refine ⟨mulB (mB ha.2) (mBn hb.1), ?_⟩
  ((with_reducible conv => whnf); repeat (first | (rw [natD_len]; with_reducible conv => whnf) | (rw [intD_len]; with_reducible conv => whnf) | (refine Exists.intro _ (And.intro (rfl : _ = some _) ?_); with_reducible conv => whnf) | (refine And.intro (okII _ _) ?_; rw [eqD_ii]; with_reducible conv => whnf) | (refine And.intro (by first | assumption | exact Exists.intro _ (by assumption) | exact ⟨rfl, rfl, by decide, by decide⟩ | exact Nat.le_of_ble_eq_true rfl | exact rfl) ?_; with_reducible conv => whnf) | (rw [isLst_at (by assumption)]; with_reducible conv => whnf) | (refine ifT rfl ?_; with_reducible conv => whnf) | (refine ifF rfl ?_; with_reducible conv => whnf) | (refine it_at (by assumption) ?_; with_reducible conv => whnf)))
  refine ⟨mulB (mB hb.2) (mBn ha.1), ?_⟩
  ((with_reducible conv => whnf); repeat (first | (rw [natD_len]; with_reducible conv => whnf) | (rw [intD_len]; with_reducible conv => whnf) | (refine Exists.intro _ (And.intro (rfl : _ = some _) ?_); with_reducible conv => whnf) | (refine And.intro (okII _ _) ?_; rw [eqD_ii]; with_reducible conv => whnf) | (refine And.intro (by first | assumption | exact Exists.intro _ (by assumption) | exact ⟨rfl, rfl, by decide, by decide⟩ | exact Nat.le_of_ble_eq_true rfl | exact rfl) ?_; with_reducible conv => whnf) | (rw [isLst_at (by assumption)]; with_reducible conv => whnf) | (refine ifT rfl ?_; with_reducible conv => whnf) | (refine ifF rfl ?_; with_reducible conv => whnf) | (refine it_at (by assumption) ?_; with_reducible conv => whnf)))
  refine ⟨mulB (mBn ha.1) (mBn hb.1), ?_⟩
  rw [← Int.natCast_mul]
  ((with_reducible conv => whnf); repeat (first | (rw [natD_len]; with_reducible conv => whnf) | (rw [intD_len]; with_reducible conv => whnf) | (refine Exists.intro _ (And.intro (rfl : _ = some _) ?_); with_reducible conv => whnf) | (refine And.intro (okII _ _) ?_; rw [eqD_ii]; with_reducible conv => whnf) | (refine And.intro (by first | assumption | exact Exists.intro _ (by assumption) | exact ⟨rfl, rfl, by decide, by decide⟩ | exact Nat.le_of_ble_eq_true rfl | exact rfl) ?_; with_reducible conv => whnf) | (rw [isLst_at (by assumption)]; with_reducible conv => whnf) | (refine ifT rfl ?_; with_reducible conv => whnf) | (refine ifF rfl ?_; with_reducible conv => whnf) | (refine it_at (by assumption) ?_; with_reducible conv => whnf)))
  have h1 := a.den_pos
  have h2 := b.den_pos
  refine ⟨_, _, rfl, Nat.mul_ne_zero (by omega) (by omega), fun S' h => ?_⟩
  rw [Int.natCast_mul, q_plus]
  exact k S' h
@[reducible] def sp_bg (N : Nat) : Spc := fun ds S Q => ∃ (p : Rat) (a b : Nat), ds = [qD p, .int a, .int b] ∧ Chc p ∧ a + b ≤ N ∧ N ≤ 20 ∧ ∀ S', Sub S S' → Q (.tup [qD (FP p a b), qD (MG p a b)]) S'
theorem FPov {p : Rat} : ∀ a b, Ov (p.den ^ (a + b)) (FP p a b)
  | 0, b => by rw [fp0]; exact Ov_int _ 1
  | a + 1, 0 => by rw [fpz]; exact Ov_int _ 0
  | a + 1, b + 1 => by
    have i1 := FPov (p := p) a (b + 1)
    have i2 := FPov (p := p) (a + 1) b
    have o1 : Ov p.den (1 - p) := by have := (Ov_int p.den 1).sub (Ov_self p); exact this
    rw [fps, show a + 1 + (b + 1) = (a + b + 1) + 1 by omega, Nat.pow_succ, Nat.mul_comm]
    rw [show a + (b + 1) = a + b + 1 by omega] at i1
    rw [show a + 1 + b = a + b + 1 by omega] at i2
    exact ((Ov_self p).mul i1).add (o1.mul i2)
theorem MGov {p : Rat} : ∀ a b, Ov (p.den ^ (a + b)) (MG p a b)
  | 0, b => by rw [mg0]; exact Ov_int _ 0
  | a + 1, 0 => by rw [mgz]; exact Ov_int _ 0
  | a + 1, b + 1 => by
    have i1 := MGov (p := p) a (b + 1)
    have i2 := MGov (p := p) (a + 1) b
    have o1 : Ov p.den (1 - p) := by have := (Ov_int p.den 1).sub (Ov_self p); exact this
    rw [mgs, show a + 1 + (b + 1) = (a + b + 1) + 1 by omega, Nat.pow_succ, Nat.mul_comm]
    rw [show a + (b + 1) = a + b + 1 by omega] at i1
    rw [show a + 1 + b = a + b + 1 by omega] at i2
    exact ((show Ov (p.den * p.den ^ (a + b + 1)) (1 : Rat) from Ov_int _ 1).add ((Ov_self p).mul i1)).add (o1.mul i2)
theorem MG_01 {p : Rat} (h0 : 0 ≤ p) (h1 : p ≤ 1) : ∀ a b, 0 ≤ MG p a b ∧ MG p a b ≤ ((a + b : Nat) : Rat)
  | 0, b => by rw [mg0]; exact ⟨by decide, by exact_mod_cast Nat.zero_le _⟩
  | a + 1, 0 => by rw [mgz]; exact ⟨by decide, by exact_mod_cast Nat.zero_le _⟩
  | a + 1, b + 1 => by
    have i1 := MG_01 h0 h1 a (b + 1)
    have i2 := MG_01 h0 h1 (a + 1) b
    rw [mgs, show a + 1 + (b + 1) = (a + b + 1) + 1 by omega, Rat.natCast_add]
    rw [show a + (b + 1) = a + b + 1 by omega] at i1
    rw [show a + 1 + b = a + b + 1 by omega] at i2
    have g : 0 ≤ 1 - p := by grind
    have a1 := Rat.mul_nonneg h0 i1.1
    have a2 := Rat.mul_nonneg g i2.1
    have a3 := Rat.mul_le_mul_of_nonneg_left i1.2 h0
    have a4 := Rat.mul_le_mul_of_nonneg_left i2.2 g
    have e1 : ((1 : Nat) : Rat) = 1 := rfl
    exact ⟨by grind, by grind⟩
theorem den_lt {p : Rat} (hp : Chc p) {N : Nat} (h : N ≤ 410) {x : Rat} (o : Ov (p.den ^ N) x) : x.den < 2 ^ 42000 :=
  Nat.lt_of_le_of_lt (Nat.le_of_dvd (Nat.pow_pos p.den_pos) o) (Nat.lt_of_lt_of_le (pow_lt hp.den N) (Nat.pow_le_pow_right (by decide) (by omega)))
theorem mid_M {x : Rat} {M : Nat} (h0 : 0 ≤ x) (h1 : x ≤ (M : Rat)) (hM : M < 2 ^ 20) (hd : x.den < 2 ^ 42000) : mid x := by
  refine ⟨Nat.lt_of_lt_of_le hd (Nat.pow_le_pow_right (by decide) (by decide)), ?_⟩
  have e := q_den x
  have hd0 : (0 : Rat) < (x.den : Rat) := by exact_mod_cast x.den_pos
  have h2 : (0 : Rat) ≤ (x.num : Rat) := by rw [← e]; exact Rat.mul_nonneg h0 (Rat.le_of_lt hd0)
  have h3 : (x.num : Rat) ≤ ((M * x.den : Nat) : Rat) := by
    have := Rat.mul_le_mul_of_nonneg_right h1 (Rat.le_of_lt hd0)
    rw [Rat.natCast_mul]
    grind
  have i1 : 0 ≤ x.num := by exact_mod_cast h2
  have i2 : x.num ≤ ((M * x.den : Nat) : Int) := by exact_mod_cast h3
  have i3 : M * x.den < 2 ^ 20 * 2 ^ 42000 := Nat.mul_lt_mul'' hM hd
  rw [← Nat.pow_add] at i3
  have i4 : 2 ^ (20 + 42000) ≤ 2 ^ 50000 := Nat.pow_le_pow_right (by decide) (by decide)
  omega
theorem FP_mid {p : Rat} (hp : Chc p) {a b : Nat} (h : a + b ≤ 400) : mid (FP p a b) := by
  have h1 := FP_01 hp.lo hp.hi a b
  exact mid_M (M := 1) h1.1 (by have : ((1 : Nat) : Rat) = 1 := rfl; grind) (by decide) (den_lt hp (N := a + b) (by omega) (FPov a b))
theorem MG_mid {p : Rat} (hp : Chc p) {a b : Nat} (h : a + b ≤ 400) : mid (MG p a b) := by
  have h1 := MG_01 hp.lo hp.hi a b
  exact mid_M (M := a + b) h1.1 h1.2 (by omega) (den_lt hp (N := a + b) (by omega) (MGov a b))
/-- a chance times such -/
theorem pmul {p x : Rat} (hp : Chc p) (hx : mid x) : MulOk p.num x.num ∧ MulOk (p.den : Int) (x.den : Int) ∧ MulOk ((p.den : Int) - p.num) x.num := by
  obtain ⟨n, m, hn, hd, _⟩ := hp.nat
  have hden := hp.den
  rw [hn]
  refine ⟨mulB (natB (show n < 2 ^ 100 by omega) (by omega)) (mB hx.2), mulB (natB hden (by omega)) (mBn hx.1), ?_⟩
  rw [show (p.den : Int) - (n : Int) = (m : Int) by omega]
  exact mulB (natB (show m < 2 ^ 100 by omega) (by omega)) (mB hx.2)
theorem pm1 {p x : Rat} : Rat.divInt (p.num * x.num) ((p.den * x.den : Nat) : Int) = p * x := by
  have := q_times p x
  rw [← Int.natCast_mul] at this
  exact this
theorem pm2 {p x : Rat} : Rat.divInt (((p.den : Int) - p.num) * x.num) ((p.den * x.den : Nat) : Int) = (1 - p) * x := by
  refine divInt_of ?_ (Nat.mul_ne_zero p.den_nz x.den_nz)
  rw [Rat.intCast_mul, Rat.natCast_mul]
  have e1 := q_den p
  have e2 := q_den x
  have e3 : (((p.den : Int) - p.num : Int) : Rat) = (p.den : Rat) - (p.num : Rat) := by rw [Rat.intCast_sub]; rfl
  rw [e3]
  grind
theorem body_law_by_games (sp : Spc) (N : Nat) (hsp : N = 0 ∨ ∃ M, N = M + 1 ∧ sp = sp_bg M) : Body 8 3 (w_law_by_games sp sp_low sp_plus) (sp_bg N) := by
  rintro ds S Q _ ⟨p, a, b, rfl, hp, hN, hN2, k⟩
  unfold w_law_by_games
  (simp only [start, List.map_cons, List.map_nil, List.length_cons, List.length_nil, Nat.reduceAdd, Nat.reduceSub, List.replicate_succ, List.replicate_zero, List.cons_append, List.nil_append, Nat.sub_self, Nat.zero_add])
  ((with_reducible conv => whnf); repeat (first | (rw [natD_len]; with_reducible conv => whnf) | (rw [intD_len]; with_reducible conv => whnf) | (refine Exists.intro _ (And.intro (rfl : _ = some _) ?_); with_reducible conv => whnf) | (refine And.intro (okII _ _) ?_; rw [eqD_ii]; with_reducible conv => whnf) | (refine And.intro (by first | assumption | exact Exists.intro _ (by assumption) | exact ⟨rfl, rfl, by decide, by decide⟩ | exact Nat.le_of_ble_eq_true rfl | exact rfl) ?_; with_reducible conv => whnf) | (rw [isLst_at (by assumption)]; with_reducible conv => whnf) | (refine ifT rfl ?_; with_reducible conv => whnf) | (refine ifF rfl ?_; with_reducible conv => whnf) | (refine it_at (by assumption) ?_; with_reducible conv => whnf)))
  refine ite_d (fun hc => ?_) fun hc => ?_
  · obtain rfl : a = 0 := by omega
    rw [fp0, mg0] at k
    ((with_reducible conv => whnf); repeat (first | (rw [natD_len]; with_reducible conv => whnf) | (rw [intD_len]; with_reducible conv => whnf) | (refine Exists.intro _ (And.intro (rfl : _ = some _) ?_); with_reducible conv => whnf) | (refine And.intro (okII _ _) ?_; rw [eqD_ii]; with_reducible conv => whnf) | (refine And.intro (by first | assumption | exact Exists.intro _ (by assumption) | exact ⟨rfl, rfl, by decide, by decide⟩ | exact Nat.le_of_ble_eq_true rfl | exact rfl) ?_; with_reducible conv => whnf) | (rw [isLst_at (by assumption)]; with_reducible conv => whnf) | (refine ifT rfl ?_; with_reducible conv => whnf) | (refine ifF rfl ?_; with_reducible conv => whnf) | (refine it_at (by assumption) ?_; with_reducible conv => whnf)))
    exact k _ (Sub.refl _)
  · obtain ⟨a, rfl⟩ : ∃ x, a = x + 1 := ⟨a - 1, by omega⟩
    ((with_reducible conv => whnf); repeat (first | (rw [natD_len]; with_reducible conv => whnf) | (rw [intD_len]; with_reducible conv => whnf) | (refine Exists.intro _ (And.intro (rfl : _ = some _) ?_); with_reducible conv => whnf) | (refine And.intro (okII _ _) ?_; rw [eqD_ii]; with_reducible conv => whnf) | (refine And.intro (by first | assumption | exact Exists.intro _ (by assumption) | exact ⟨rfl, rfl, by decide, by decide⟩ | exact Nat.le_of_ble_eq_true rfl | exact rfl) ?_; with_reducible conv => whnf) | (rw [isLst_at (by assumption)]; with_reducible conv => whnf) | (refine ifT rfl ?_; with_reducible conv => whnf) | (refine ifF rfl ?_; with_reducible conv => whnf) | (refine it_at (by assumption) ?_; with_reducible conv => whnf)))
    refine ite_d (fun hc => ?_) fun hc => ?_
    · obtain rfl : b = 0 := by omega
      rw [fpz, mgz] at k
      ((with_reducible conv => whnf); repeat (first | (rw [natD_len]; with_reducible conv => whnf) | (rw [intD_len]; with_reducible conv => whnf) | (refine Exists.intro _ (And.intro (rfl : _ = some _) ?_); with_reducible conv => whnf) | (refine And.intro (okII _ _) ?_; rw [eqD_ii]; with_reducible conv => whnf) | (refine And.intro (by first | assumption | exact Exists.intro _ (by assumption) | exact ⟨rfl, rfl, by decide, by decide⟩ | exact Nat.le_of_ble_eq_true rfl | exact rfl) ?_; with_reducible conv => whnf) | (rw [isLst_at (by assumption)]; with_reducible conv => whnf) | (refine ifT rfl ?_; with_reducible conv => whnf) | (refine ifF rfl ?_; with_reducible conv => whnf) | (refine it_at (by assumption) ?_; with_reducible conv => whnf)))
      exact k _ (Sub.refl _)
    · obtain ⟨b, rfl⟩ : ∃ x, b = x + 1 := ⟨b - 1, by omega⟩
      rcases hsp with h0 | ⟨M, rfl, rfl⟩
      · omega
      ((with_reducible conv => whnf); repeat (first | (rw [natD_len]; with_reducible conv => whnf) | (rw [intD_len]; with_reducible conv => whnf) | (refine Exists.intro _ (And.intro (rfl : _ = some _) ?_); with_reducible conv => whnf) | (refine And.intro (okII _ _) ?_; rw [eqD_ii]; with_reducible conv => whnf) | (refine And.intro (by first | assumption | exact Exists.intro _ (by assumption) | exact ⟨rfl, rfl, by decide, by decide⟩ | exact Nat.le_of_ble_eq_true rfl | exact rfl) ?_; with_reducible conv => whnf) | (rw [isLst_at (by assumption)]; with_reducible conv => whnf) | (refine ifT rfl ?_; with_reducible conv => whnf) | (refine ifF rfl ?_; with_reducible conv => whnf) | (refine it_at (by assumption) ?_; with_reducible conv => whnf)))
      rw [show ((a + 1 : Nat) : Int) - 1 = (a : Int) by omega]
      refine ⟨p, a, b + 1, rfl, hp, by omega, by omega, fun S1 s1 => ?_⟩
      ((with_reducible conv => whnf); repeat (first | (rw [natD_len]; with_reducible conv => whnf) | (rw [intD_len]; with_reducible conv => whnf) | (refine Exists.intro _ (And.intro (rfl : _ = some _) ?_); with_reducible conv => whnf) | (refine And.intro (okII _ _) ?_; rw [eqD_ii]; with_reducible conv => whnf) | (refine And.intro (by first | assumption | exact Exists.intro _ (by assumption) | exact ⟨rfl, rfl, by decide, by decide⟩ | exact Nat.le_of_ble_eq_true rfl | exact rfl) ?_; with_reducible conv => whnf) | (rw [isLst_at (by assumption)]; with_reducible conv => whnf) | (refine ifT rfl ?_; with_reducible conv => whnf) | (refine ifF rfl ?_; with_reducible conv => whnf) | (refine it_at (by assumption) ?_; with_reducible conv => whnf)))
      rw [show ((b + 1 : Nat) : Int) - 1 = (b : Int) by omega]
      refine ⟨p, a + 1, b, rfl, hp, by omega, by omega, fun S2 s2 => ?_⟩
      have e5 := at_push S2 (.lst [])
      have s3 := (s1.trans s2).app [.lst []]
      have hS : S.length ≤ S2.length := (s1.trans s2).len
      ((with_reducible conv => whnf); repeat (first | (rw [natD_len]; with_reducible conv => whnf) | (rw [intD_len]; with_reducible conv => whnf) | (refine Exists.intro _ (And.intro (rfl : _ = some _) ?_); with_reducible conv => whnf) | (refine And.intro (okII _ _) ?_; rw [eqD_ii]; with_reducible conv => whnf) | (refine And.intro (by first | assumption | exact Exists.intro _ (by assumption) | exact ⟨rfl, rfl, by decide, by decide⟩ | exact Nat.le_of_ble_eq_true rfl | exact rfl) ?_; with_reducible conv => whnf) | (rw [isLst_at (by assumption)]; with_reducible conv => whnf) | (refine ifT rfl ?_; with_reducible conv => whnf) | (refine ifF rfl ?_; with_reducible conv => whnf) | (refine it_at (by assumption) ?_; with_reducible conv => whnf)))
      generalize S2 ++ [O.lst []] = S3 at *
      generalize S2.length = q at *
      refine ⟨⟨by decide, by decide⟩, ?_⟩
      have mF := FP_mid hp (a := a) (b := b + 1) (by omega)
      have mF2 := FP_mid hp (a := a + 1) (b := b) (by omega)
      have mM := MG_mid hp (a := a) (b := b + 1) (by omega)
      have mM2 := MG_mid hp (a := a + 1) (b := b) (by omega)
      have o1 : Ov p.den (1 - p) := by have := (Ov_int p.den 1).sub (Ov_self p); exact this
      have g0 : 0 ≤ 1 - p := by have := hp.hi; grind
      have g1 : 1 - p ≤ 1 := by have := hp.lo; grind
      have ub : ∀ {u x : Rat} {M : Nat}, 0 ≤ u → u ≤ 1 → 0 ≤ x → x ≤ (M : Rat) → 0 ≤ u * x ∧ u * x ≤ (M : Rat) := fun h1 h2 h3 h4 => ⟨Rat.mul_nonneg h1 h3, by have := Rat.mul_le_mul_of_nonneg_right h2 h3; grind⟩
      have c1 : ((1 : Nat) : Rat) = 1 := rfl
      have F1 := FP_01 hp.lo hp.hi a (b + 1)
      have F2 := FP_01 hp.lo hp.hi (a + 1) b
      have M1 := MG_01 hp.lo hp.hi a (b + 1)
      have M2 := MG_01 hp.lo hp.hi (a + 1) b
      have u1 := ub (M := 1) hp.lo hp.hi F1.1 (by rw [c1]; exact F1.2)
      have u2 := ub (M := 1) g0 g1 F2.1 (by rw [c1]; exact F2.2)
      have u3 := ub hp.lo hp.hi M1.1 M1.2
      have u4 := ub g0 g1 M2.1 M2.2
      have pF : mid (p * FP p a (b + 1)) := mid_M u1.1 u1.2 (by decide) (den_lt hp (N := a + (b + 1) + 1) (by omega) (by rw [Nat.pow_succ, Nat.mul_comm]; exact (Ov_self p).mul (FPov _ _)))
      have pF2 : mid ((1 - p) * FP p (a + 1) b) := mid_M u2.1 u2.2 (by decide) (den_lt hp (N := a + 1 + b + 1) (by omega) (by rw [Nat.pow_succ, Nat.mul_comm]; exact o1.mul (FPov _ _)))
      have pM : mid (p * MG p a (b + 1)) := mid_M u3.1 u3.2 (by omega) (den_lt hp (N := a + (b + 1) + 1) (by omega) (by rw [Nat.pow_succ, Nat.mul_comm]; exact (Ov_self p).mul (MGov _ _)))
      have pM2 : mid ((1 - p) * MG p (a + 1) b) := mid_M u4.1 u4.2 (by omega) (den_lt hp (N := a + 1 + b + 1) (by omega) (by rw [Nat.pow_succ, Nat.mul_comm]; exact o1.mul (MGov _ _)))
      have pS : mid (p * MG p a (b + 1) + (1 - p) * MG p (a + 1) b) := mid_M (M := a + (b + 1) + (a + 1 + b)) (by have := u3.1; have := u4.1; grind) (by rw [Rat.natCast_add]; have := u3.2; have := u4.2; grind) (by omega) (den_lt hp (N := a + b + 1 + 1) (by omega) (by
        rw [Nat.pow_succ, Nat.mul_comm]
        have v1 := (Ov_self p).mul (MGov (p := p) a (b + 1))
        have v2 := o1.mul (MGov (p := p) (a + 1) b)
        rw [show a + (b + 1) = a + b + 1 by omega] at v1
        rw [show a + 1 + b = a + b + 1 by omega] at v2
        exact v1.add v2))
      refine Loop_mk (fun i ρ S' => ∃ o6 o7, ρ = [some (qD p), some (.int ((a + 1 : Nat) : Int)), some (.int ((b + 1 : Nat) : Int)), some (.tup [qD (FP p a (b + 1)), qD (MG p a (b + 1))]), some (.tup [qD (FP p (a + 1) b), qD (MG p (a + 1) b)]), some (.ref q), o6, o7] ∧
        S'[q]? = some (.lst (([p * FP p a (b + 1) + (1 - p) * FP p (a + 1) b, p * MG p a (b + 1) + (1 - p) * MG p (a + 1) b].map qD).take i)) ∧ Sub S S') ⟨none, none, rfl, e5, s3⟩ (by intros; trivial) ?_ ?_
      · clear e5 s1 s2 s3 S1 S2 S3
        rintro i d ρ' S' hi ⟨o6, o7, rfl, e1, s1⟩
        obtain ⟨hi1, rfl⟩ := rangeD_get hi
        rcases (show i = 0 ∨ i = 1 by omega) with rfl | rfl
        · have e1 : S'[q]? = some (.lst []) := e1
          ((with_reducible conv => whnf); repeat (first | (rw [natD_len]; with_reducible conv => whnf) | (rw [intD_len]; with_reducible conv => whnf) | (refine Exists.intro _ (And.intro (rfl : _ = some _) ?_); with_reducible conv => whnf) | (refine And.intro (okII _ _) ?_; rw [eqD_ii]; with_reducible conv => whnf) | (refine And.intro (by first | assumption | exact Exists.intro _ (by assumption) | exact ⟨rfl, rfl, by decide, by decide⟩ | exact Nat.le_of_ble_eq_true rfl | exact rfl) ?_; with_reducible conv => whnf) | (rw [isLst_at (by assumption)]; with_reducible conv => whnf) | (refine ifT rfl ?_; with_reducible conv => whnf) | (refine ifF rfl ?_; with_reducible conv => whnf) | (refine it_at (by assumption) ?_; with_reducible conv => whnf)))
          refine ⟨(pmul hp mF).1, ?_⟩
          ((with_reducible conv => whnf); repeat (first | (rw [natD_len]; with_reducible conv => whnf) | (rw [intD_len]; with_reducible conv => whnf) | (refine Exists.intro _ (And.intro (rfl : _ = some _) ?_); with_reducible conv => whnf) | (refine And.intro (okII _ _) ?_; rw [eqD_ii]; with_reducible conv => whnf) | (refine And.intro (by first | assumption | exact Exists.intro _ (by assumption) | exact ⟨rfl, rfl, by decide, by decide⟩ | exact Nat.le_of_ble_eq_true rfl | exact rfl) ?_; with_reducible conv => whnf) | (rw [isLst_at (by assumption)]; with_reducible conv => whnf) | (refine ifT rfl ?_; with_reducible conv => whnf) | (refine ifF rfl ?_; with_reducible conv => whnf) | (refine it_at (by assumption) ?_; with_reducible conv => whnf)))
          refine ⟨(pmul hp mF).2.1, ?_⟩
          rw [← Int.natCast_mul]
          ((with_reducible conv => whnf); repeat (first | (rw [natD_len]; with_reducible conv => whnf) | (rw [intD_len]; with_reducible conv => whnf) | (refine Exists.intro _ (And.intro (rfl : _ = some _) ?_); with_reducible conv => whnf) | (refine And.intro (okII _ _) ?_; rw [eqD_ii]; with_reducible conv => whnf) | (refine And.intro (by first | assumption | exact Exists.intro _ (by assumption) | exact ⟨rfl, rfl, by decide, by decide⟩ | exact Nat.le_of_ble_eq_true rfl | exact rfl) ?_; with_reducible conv => whnf) | (rw [isLst_at (by assumption)]; with_reducible conv => whnf) | (refine ifT rfl ?_; with_reducible conv => whnf) | (refine ifF rfl ?_; with_reducible conv => whnf) | (refine it_at (by assumption) ?_; with_reducible conv => whnf)))
          refine ⟨_, _, rfl, Nat.mul_ne_zero p.den_nz (Rat.den_nz _), fun S4 s4 => ?_⟩
          rw [pm1]
          replace e1 := s4 _ _ e1
          replace s1 := s1.trans s4
          clear s4
          ((with_reducible conv => whnf); repeat (first | (rw [natD_len]; with_reducible conv => whnf) | (rw [intD_len]; with_reducible conv => whnf) | (refine Exists.intro _ (And.intro (rfl : _ = some _) ?_); with_reducible conv => whnf) | (refine And.intro (okII _ _) ?_; rw [eqD_ii]; with_reducible conv => whnf) | (refine And.intro (by first | assumption | exact Exists.intro _ (by assumption) | exact ⟨rfl, rfl, by decide, by decide⟩ | exact Nat.le_of_ble_eq_true rfl | exact rfl) ?_; with_reducible conv => whnf) | (rw [isLst_at (by assumption)]; with_reducible conv => whnf) | (refine ifT rfl ?_; with_reducible conv => whnf) | (refine ifF rfl ?_; with_reducible conv => whnf) | (refine it_at (by assumption) ?_; with_reducible conv => whnf)))
          refine ⟨(pmul hp mF2).2.2, ?_⟩
          ((with_reducible conv => whnf); repeat (first | (rw [natD_len]; with_reducible conv => whnf) | (rw [intD_len]; with_reducible conv => whnf) | (refine Exists.intro _ (And.intro (rfl : _ = some _) ?_); with_reducible conv => whnf) | (refine And.intro (okII _ _) ?_; rw [eqD_ii]; with_reducible conv => whnf) | (refine And.intro (by first | assumption | exact Exists.intro _ (by assumption) | exact ⟨rfl, rfl, by decide, by decide⟩ | exact Nat.le_of_ble_eq_true rfl | exact rfl) ?_; with_reducible conv => whnf) | (rw [isLst_at (by assumption)]; with_reducible conv => whnf) | (refine ifT rfl ?_; with_reducible conv => whnf) | (refine ifF rfl ?_; with_reducible conv => whnf) | (refine it_at (by assumption) ?_; with_reducible conv => whnf)))
          refine ⟨(pmul hp mF2).2.1, ?_⟩
          rw [← Int.natCast_mul]
          ((with_reducible conv => whnf); repeat (first | (rw [natD_len]; with_reducible conv => whnf) | (rw [intD_len]; with_reducible conv => whnf) | (refine Exists.intro _ (And.intro (rfl : _ = some _) ?_); with_reducible conv => whnf) | (refine And.intro (okII _ _) ?_; rw [eqD_ii]; with_reducible conv => whnf) | (refine And.intro (by first | assumption | exact Exists.intro _ (by assumption) | exact ⟨rfl, rfl, by decide, by decide⟩ | exact Nat.le_of_ble_eq_true rfl | exact rfl) ?_; with_reducible conv => whnf) | (rw [isLst_at (by assumption)]; with_reducible conv => whnf) | (refine ifT rfl ?_; with_reducible conv => whnf) | (refine ifF rfl ?_; with_reducible conv => whnf) | (refine it_at (by assumption) ?_; with_reducible conv => whnf)))
          refine ⟨_, _, rfl, Nat.mul_ne_zero p.den_nz (Rat.den_nz _), fun S5 s5 => ?_⟩
          rw [pm2]
          replace e1 := s5 _ _ e1
          replace s1 := s1.trans s5
          clear s5
          ((with_reducible conv => whnf); repeat (first | (rw [natD_len]; with_reducible conv => whnf) | (rw [intD_len]; with_reducible conv => whnf) | (refine Exists.intro _ (And.intro (rfl : _ = some _) ?_); with_reducible conv => whnf) | (refine And.intro (okII _ _) ?_; rw [eqD_ii]; with_reducible conv => whnf) | (refine And.intro (by first | assumption | exact Exists.intro _ (by assumption) | exact ⟨rfl, rfl, by decide, by decide⟩ | exact Nat.le_of_ble_eq_true rfl | exact rfl) ?_; with_reducible conv => whnf) | (rw [isLst_at (by assumption)]; with_reducible conv => whnf) | (refine ifT rfl ?_; with_reducible conv => whnf) | (refine ifF rfl ?_; with_reducible conv => whnf) | (refine it_at (by assumption) ?_; with_reducible conv => whnf)))
          refine ⟨_, _, rfl, pF, pF2, fun S6 s6 => ?_⟩
          replace e1 := s6 _ _ e1
          replace s1 := s1.trans s6
          clear s6
          ((with_reducible conv => whnf); repeat (first | (rw [natD_len]; with_reducible conv => whnf) | (rw [intD_len]; with_reducible conv => whnf) | (refine Exists.intro _ (And.intro (rfl : _ = some _) ?_); with_reducible conv => whnf) | (refine And.intro (okII _ _) ?_; rw [eqD_ii]; with_reducible conv => whnf) | (refine And.intro (by first | assumption | exact Exists.intro _ (by assumption) | exact ⟨rfl, rfl, by decide, by decide⟩ | exact Nat.le_of_ble_eq_true rfl | exact rfl) ?_; with_reducible conv => whnf) | (rw [isLst_at (by assumption)]; with_reducible conv => whnf) | (refine ifT rfl ?_; with_reducible conv => whnf) | (refine ifF rfl ?_; with_reducible conv => whnf) | (refine it_at (by assumption) ?_; with_reducible conv => whnf)))
          exact ⟨_, _, rfl, at_set e1, s1.put hS⟩
        · have e1 : S'[q]? = some (.lst [qD (p * FP p a (b + 1) + (1 - p) * FP p (a + 1) b)]) := e1
          ((with_reducible conv => whnf); repeat (first | (rw [natD_len]; with_reducible conv => whnf) | (rw [intD_len]; with_reducible conv => whnf) | (refine Exists.intro _ (And.intro (rfl : _ = some _) ?_); with_reducible conv => whnf) | (refine And.intro (okII _ _) ?_; rw [eqD_ii]; with_reducible conv => whnf) | (refine And.intro (by first | assumption | exact Exists.intro _ (by assumption) | exact ⟨rfl, rfl, by decide, by decide⟩ | exact Nat.le_of_ble_eq_true rfl | exact rfl) ?_; with_reducible conv => whnf) | (rw [isLst_at (by assumption)]; with_reducible conv => whnf) | (refine ifT rfl ?_; with_reducible conv => whnf) | (refine ifF rfl ?_; with_reducible conv => whnf) | (refine it_at (by assumption) ?_; with_reducible conv => whnf)))
          refine ⟨(pmul hp mM).1, ?_⟩
          ((with_reducible conv => whnf); repeat (first | (rw [natD_len]; with_reducible conv => whnf) | (rw [intD_len]; with_reducible conv => whnf) | (refine Exists.intro _ (And.intro (rfl : _ = some _) ?_); with_reducible conv => whnf) | (refine And.intro (okII _ _) ?_; rw [eqD_ii]; with_reducible conv => whnf) | (refine And.intro (by first | assumption | exact Exists.intro _ (by assumption) | exact ⟨rfl, rfl, by decide, by decide⟩ | exact Nat.le_of_ble_eq_true rfl | exact rfl) ?_; with_reducible conv => whnf) | (rw [isLst_at (by assumption)]; with_reducible conv => whnf) | (refine ifT rfl ?_; with_reducible conv => whnf) | (refine ifF rfl ?_; with_reducible conv => whnf) | (refine it_at (by assumption) ?_; with_reducible conv => whnf)))
          refine ⟨(pmul hp mM).2.1, ?_⟩
          rw [← Int.natCast_mul]
          ((with_reducible conv => whnf); repeat (first | (rw [natD_len]; with_reducible conv => whnf) | (rw [intD_len]; with_reducible conv => whnf) | (refine Exists.intro _ (And.intro (rfl : _ = some _) ?_); with_reducible conv => whnf) | (refine And.intro (okII _ _) ?_; rw [eqD_ii]; with_reducible conv => whnf) | (refine And.intro (by first | assumption | exact Exists.intro _ (by assumption) | exact ⟨rfl, rfl, by decide, by decide⟩ | exact Nat.le_of_ble_eq_true rfl | exact rfl) ?_; with_reducible conv => whnf) | (rw [isLst_at (by assumption)]; with_reducible conv => whnf) | (refine ifT rfl ?_; with_reducible conv => whnf) | (refine ifF rfl ?_; with_reducible conv => whnf) | (refine it_at (by assumption) ?_; with_reducible conv => whnf)))
          refine ⟨_, _, rfl, Nat.mul_ne_zero p.den_nz (Rat.den_nz _), fun S4 s4 => ?_⟩
          rw [pm1]
          replace e1 := s4 _ _ e1
          replace s1 := s1.trans s4
          clear s4
          ((with_reducible conv => whnf); repeat (first | (rw [natD_len]; with_reducible conv => whnf) | (rw [intD_len]; with_reducible conv => whnf) | (refine Exists.intro _ (And.intro (rfl : _ = some _) ?_); with_reducible conv => whnf) | (refine And.intro (okII _ _) ?_; rw [eqD_ii]; with_reducible conv => whnf) | (refine And.intro (by first | assumption | exact Exists.intro _ (by assumption) | exact ⟨rfl, rfl, by decide, by decide⟩ | exact Nat.le_of_ble_eq_true rfl | exact rfl) ?_; with_reducible conv => whnf) | (rw [isLst_at (by assumption)]; with_reducible conv => whnf) | (refine ifT rfl ?_; with_reducible conv => whnf) | (refine ifF rfl ?_; with_reducible conv => whnf) | (refine it_at (by assumption) ?_; with_reducible conv => whnf)))
          refine ⟨(pmul hp mM2).2.2, ?_⟩
          ((with_reducible conv => whnf); repeat (first | (rw [natD_len]; with_reducible conv => whnf) | (rw [intD_len]; with_reducible conv => whnf) | (refine Exists.intro _ (And.intro (rfl : _ = some _) ?_); with_reducible conv => whnf) | (refine And.intro (okII _ _) ?_; rw [eqD_ii]; with_reducible conv => whnf) | (refine And.intro (by first | assumption | exact Exists.intro _ (by assumption) | exact ⟨rfl, rfl, by decide, by decide⟩ | exact Nat.le_of_ble_eq_true rfl | exact rfl) ?_; with_reducible conv => whnf) | (rw [isLst_at (by assumption)]; with_reducible conv => whnf) | (refine ifT rfl ?_; with_reducible conv => whnf) | (refine ifF rfl ?_; with_reducible conv => whnf) | (refine it_at (by assumption) ?_; with_reducible conv => whnf)))
          refine ⟨(pmul hp mM2).2.1, ?_⟩
          rw [← Int.natCast_mul]
          ((with_reducible conv => whnf); repeat (first | (rw [natD_len]; with_reducible conv => whnf) | (rw [intD_len]; with_reducible conv => whnf) | (refine Exists.intro _ (And.intro (rfl : _ = some _) ?_); with_reducible conv => whnf) | (refine And.intro (okII _ _) ?_; rw [eqD_ii]; with_reducible conv => whnf) | (refine And.intro (by first | assumption | exact Exists.intro _ (by assumption) | exact ⟨rfl, rfl, by decide, by decide⟩ | exact Nat.le_of_ble_eq_true rfl | exact rfl) ?_; with_reducible conv => whnf) | (rw [isLst_at (by assumption)]; with_reducible conv => whnf) | (refine ifT rfl ?_; with_reducible conv => whnf) | (refine ifF rfl ?_; with_reducible conv => whnf) | (refine it_at (by assumption) ?_; with_reducible conv => whnf)))
          refine ⟨_, _, rfl, Nat.mul_ne_zero p.den_nz (Rat.den_nz _), fun S5 s5 => ?_⟩
          rw [pm2]
          replace e1 := s5 _ _ e1
          replace s1 := s1.trans s5
          clear s5
          ((with_reducible conv => whnf); repeat (first | (rw [natD_len]; with_reducible conv => whnf) | (rw [intD_len]; with_reducible conv => whnf) | (refine Exists.intro _ (And.intro (rfl : _ = some _) ?_); with_reducible conv => whnf) | (refine And.intro (okII _ _) ?_; rw [eqD_ii]; with_reducible conv => whnf) | (refine And.intro (by first | assumption | exact Exists.intro _ (by assumption) | exact ⟨rfl, rfl, by decide, by decide⟩ | exact Nat.le_of_ble_eq_true rfl | exact rfl) ?_; with_reducible conv => whnf) | (rw [isLst_at (by assumption)]; with_reducible conv => whnf) | (refine ifT rfl ?_; with_reducible conv => whnf) | (refine ifF rfl ?_; with_reducible conv => whnf) | (refine it_at (by assumption) ?_; with_reducible conv => whnf)))
          refine ⟨_, _, rfl, pM, pM2, fun S6 s6 => ?_⟩
          replace e1 := s6 _ _ e1
          replace s1 := s1.trans s6
          clear s6
          ((with_reducible conv => whnf); repeat (first | (rw [natD_len]; with_reducible conv => whnf) | (rw [intD_len]; with_reducible conv => whnf) | (refine Exists.intro _ (And.intro (rfl : _ = some _) ?_); with_reducible conv => whnf) | (refine And.intro (okII _ _) ?_; rw [eqD_ii]; with_reducible conv => whnf) | (refine And.intro (by first | assumption | exact Exists.intro _ (by assumption) | exact ⟨rfl, rfl, by decide, by decide⟩ | exact Nat.le_of_ble_eq_true rfl | exact rfl) ?_; with_reducible conv => whnf) | (rw [isLst_at (by assumption)]; with_reducible conv => whnf) | (refine ifT rfl ?_; with_reducible conv => whnf) | (refine ifF rfl ?_; with_reducible conv => whnf) | (refine it_at (by assumption) ?_; with_reducible conv => whnf)))
          exact ⟨_, _, rfl, at_set e1, s1.put hS⟩
      · clear e5 s1 s2 s3 S1 S2 S3
        rintro ρ' S' ⟨o6, o7, rfl, e1, s1⟩
        have e1 : S'[q]? = some (.lst [qD (p * FP p a (b + 1) + (1 - p) * FP p (a + 1) b), qD (p * MG p a (b + 1) + (1 - p) * MG p (a + 1) b)]) := e1
        rw [fps, mgs] at k
        ((with_reducible conv => whnf); repeat (first | (rw [natD_len]; with_reducible conv => whnf) | (rw [intD_len]; with_reducible conv => whnf) | (refine Exists.intro _ (And.intro (rfl : _ = some _) ?_); with_reducible conv => whnf) | (refine And.intro (okII _ _) ?_; rw [eqD_ii]; with_reducible conv => whnf) | (refine And.intro (by first | assumption | exact Exists.intro _ (by assumption) | exact ⟨rfl, rfl, by decide, by decide⟩ | exact Nat.le_of_ble_eq_true rfl | exact rfl) ?_; with_reducible conv => whnf) | (rw [isLst_at (by assumption)]; with_reducible conv => whnf) | (refine ifT rfl ?_; with_reducible conv => whnf) | (refine ifF rfl ?_; with_reducible conv => whnf) | (refine it_at (by assumption) ?_; with_reducible conv => whnf)))
        refine ⟨p * MG p a (b + 1) + (1 - p) * MG p (a + 1) b, 1, rfl, pS, mid_of (by decide) (by decide) (Nat.one_lt_two_pow (by decide)), fun S4 s4 => ?_⟩
        have k := k _ (s1.trans s4)
        rw [show 1 + p * MG p a (b + 1) + (1 - p) * MG p (a + 1) b = p * MG p a (b + 1) + (1 - p) * MG p (a + 1) b + 1 by grind] at k
        ((with_reducible conv => whnf); repeat (first | (rw [natD_len]; with_reducible conv => whnf) | (rw [intD_len]; with_reducible conv => whnf) | (refine Exists.intro _ (And.intro (rfl : _ = some _) ?_); with_reducible conv => whnf) | (refine And.intro (okII _ _) ?_; rw [eqD_ii]; with_reducible conv => whnf) | (refine And.intro (by first | assumption | exact Exists.intro _ (by assumption) | exact ⟨rfl, rfl, by decide, by decide⟩ | exact Nat.le_of_ble_eq_true rfl | exact rfl) ?_; with_reducible conv => whnf) | (rw [isLst_at (by assumption)]; with_reducible conv => whnf) | (refine ifT rfl ?_; with_reducible conv => whnf) | (refine ifF rfl ?_; with_reducible conv => whnf) | (refine it_at (by assumption) ?_; with_reducible conv => whnf)))
        exact k
end K80
set_option linter.all false
set_option maxRecDepth 100000
set_option maxHeartbeats 4000000
namespace K80
open DL
theorem dq1 (q : Rat) : deep (qD q) ≤ 1 := by show max 0 (max 0 0) + 1 ≤ 1; decide
theorem slq (q : Rat) : (flat (qD q) = true ∧ noS (qD q) = true) ∧ slim (qD q) = true ∧ deep (qD q) ≤ 1 := ⟨⟨rfl, rfl⟩, by show (decide (2 ≤ szL) && true) = true; decide, dq1 q⟩
theorem sli (i : Int) : (flat (.int i) = true ∧ noS (.int i) = true) ∧ slim (.int i) = true ∧ deep (.int i) ≤ 1 := ⟨⟨rfl, rfl⟩, rfl, Nat.zero_le _⟩
@[reducible] def sp_told : Spc := fun ds S Q => ∃ (p : Rat) (a b : Nat), ds = [qD p, .int a, .int b] ∧ Chc p ∧ 1 ≤ a ∧ a ≤ 200 ∧ 1 ≤ b ∧ b ≤ 200 ∧ ∀ S', Sub S S' → Q (.bl true) S'
theorem ok2 (a b : Rat) : flat (.tup [qD a, qD b]) = true ∧ flat (.tup [qD a, qD b]) = true ∧ deep (.tup [qD a, qD b]) ≤ 64 ∧ deep (.tup [qD a, qD b]) ≤ 64 := by
  have h : deep (.tup [qD a, qD b]) ≤ 64 := by show max (max 0 (max 0 0) + 1) (max (max 0 (max 0 0) + 1) 0) + 1 ≤ 64; decide
  exact ⟨rfl, rfl, h, h⟩
theorem body_law_is_told : Body 5 3 (w_law_is_told sp_part sp_part (sp_same 1) sp_mean (sp_bg 10) sp_mean) sp_told := by
  rintro ds S Q _ ⟨p, a, b, rfl, hp, ha1, ha2, hb1, hb2, k⟩
  unfold w_law_is_told
  (simp only [start, List.map_cons, List.map_nil, List.length_cons, List.length_nil, Nat.reduceAdd, Nat.reduceSub, List.replicate_succ, List.replicate_zero, List.cons_append, List.nil_append, Nat.sub_self, Nat.zero_add])
  ((with_reducible conv => whnf); repeat (first | (rw [natD_len]; with_reducible conv => whnf) | (rw [intD_len]; with_reducible conv => whnf) | (refine Exists.intro _ (And.intro (rfl : _ = some _) ?_); with_reducible conv => whnf) | (refine And.intro (okII _ _) ?_; rw [eqD_ii]; with_reducible conv => whnf) | (refine And.intro (by first | assumption | exact Exists.intro _ (by assumption) | exact ⟨rfl, rfl, by decide, by decide⟩ | exact Nat.le_of_ble_eq_true rfl | exact rfl) ?_; with_reducible conv => whnf) | (rw [isLst_at (by assumption)]; with_reducible conv => whnf) | (refine ifT rfl ?_; with_reducible conv => whnf) | (refine ifF rfl ?_; with_reducible conv => whnf) | (refine it_at (by assumption) ?_; with_reducible conv => whnf)))
  refine ⟨p, a, b, rfl, hp, ha1, ha2, hb1, hb2, fun S1 s1 => ?_⟩
  ((with_reducible conv => whnf); repeat (first | (rw [natD_len]; with_reducible conv => whnf) | (rw [intD_len]; with_reducible conv => whnf) | (refine Exists.intro _ (And.intro (rfl : _ = some _) ?_); with_reducible conv => whnf) | (refine And.intro (okII _ _) ?_; rw [eqD_ii]; with_reducible conv => whnf) | (refine And.intro (by first | assumption | exact Exists.intro _ (by assumption) | exact ⟨rfl, rfl, by decide, by decide⟩ | exact Nat.le_of_ble_eq_true rfl | exact rfl) ?_; with_reducible conv => whnf) | (rw [isLst_at (by assumption)]; with_reducible conv => whnf) | (refine ifT rfl ?_; with_reducible conv => whnf) | (refine ifF rfl ?_; with_reducible conv => whnf) | (refine it_at (by assumption) ?_; with_reducible conv => whnf)))
  refine ⟨p, a, b, rfl, hp, ha1, ha2, hb1, hb2, fun S2 s2 => ?_⟩
  ((with_reducible conv => whnf); repeat (first | (rw [natD_len]; with_reducible conv => whnf) | (rw [intD_len]; with_reducible conv => whnf) | (refine Exists.intro _ (And.intro (rfl : _ = some _) ?_); with_reducible conv => whnf) | (refine And.intro (okII _ _) ?_; rw [eqD_ii]; with_reducible conv => whnf) | (refine And.intro (by first | assumption | exact Exists.intro _ (by assumption) | exact ⟨rfl, rfl, by decide, by decide⟩ | exact Nat.le_of_ble_eq_true rfl | exact rfl) ?_; with_reducible conv => whnf) | (rw [isLst_at (by assumption)]; with_reducible conv => whnf) | (refine ifT rfl ?_; with_reducible conv => whnf) | (refine ifF rfl ?_; with_reducible conv => whnf) | (refine it_at (by assumption) ?_; with_reducible conv => whnf)))
  refine ⟨_, rfl, (slq _).1, (slq _).2.1, (slq _).2.2, fun S3 s3 => ?_⟩
  have s := s1.trans (s2.trans s3)
  clear s1 s2 s3
  ((with_reducible conv => whnf); repeat (first | (rw [natD_len]; with_reducible conv => whnf) | (rw [intD_len]; with_reducible conv => whnf) | (refine Exists.intro _ (And.intro (rfl : _ = some _) ?_); with_reducible conv => whnf) | (refine And.intro (okII _ _) ?_; rw [eqD_ii]; with_reducible conv => whnf) | (refine And.intro (by first | assumption | exact Exists.intro _ (by assumption) | exact ⟨rfl, rfl, by decide, by decide⟩ | exact Nat.le_of_ble_eq_true rfl | exact rfl) ?_; with_reducible conv => whnf) | (rw [isLst_at (by assumption)]; with_reducible conv => whnf) | (refine ifT rfl ?_; with_reducible conv => whnf) | (refine ifF rfl ?_; with_reducible conv => whnf) | (refine it_at (by assumption) ?_; with_reducible conv => whnf)))
  refine ite_d (fun hc => ?_) fun hc => ?_
  · ((with_reducible conv => whnf); repeat (first | (rw [natD_len]; with_reducible conv => whnf) | (rw [intD_len]; with_reducible conv => whnf) | (refine Exists.intro _ (And.intro (rfl : _ = some _) ?_); with_reducible conv => whnf) | (refine And.intro (okII _ _) ?_; rw [eqD_ii]; with_reducible conv => whnf) | (refine And.intro (by first | assumption | exact Exists.intro _ (by assumption) | exact ⟨rfl, rfl, by decide, by decide⟩ | exact Nat.le_of_ble_eq_true rfl | exact rfl) ?_; with_reducible conv => whnf) | (rw [isLst_at (by assumption)]; with_reducible conv => whnf) | (refine ifT rfl ?_; with_reducible conv => whnf) | (refine ifF rfl ?_; with_reducible conv => whnf) | (refine it_at (by assumption) ?_; with_reducible conv => whnf)))
    refine ite_d (fun hc2 => ?_) fun hc2 => ?_
    · ((with_reducible conv => whnf); repeat (first | (rw [natD_len]; with_reducible conv => whnf) | (rw [intD_len]; with_reducible conv => whnf) | (refine Exists.intro _ (And.intro (rfl : _ = some _) ?_); with_reducible conv => whnf) | (refine And.intro (okII _ _) ?_; rw [eqD_ii]; with_reducible conv => whnf) | (refine And.intro (by first | assumption | exact Exists.intro _ (by assumption) | exact ⟨rfl, rfl, by decide, by decide⟩ | exact Nat.le_of_ble_eq_true rfl | exact rfl) ?_; with_reducible conv => whnf) | (rw [isLst_at (by assumption)]; with_reducible conv => whnf) | (refine ifT rfl ?_; with_reducible conv => whnf) | (refine ifF rfl ?_; with_reducible conv => whnf) | (refine it_at (by assumption) ?_; with_reducible conv => whnf)))
      refine ⟨p, a, b, rfl, hp, ha1, by omega, hb1, by omega, fun S4 s4 => ?_⟩
      have rest : ∀ S5, Sub S S5 → sSeq (sIf (wtNot (wtVal (wCall 2 (sp_same 1) (wCons (wCall 3 sp_mean (wCons (wVar 0) (wCons (wVar 1) (wCons (wVar 2) wNil)))) (wCons (wVar 4) wNil))))) (sRet (wC (.bl false))) sNext) (sRet (wC (.bl true)))
          { nx := fun _ S' => Q .non S', rt := Q, bk := fun _ _ => False, ct := fun _ _ => False } [some (qD p), some (.int a), some (.int b), some (qD (FP p a b)), some (qD (MG p a b))] S5 := fun S5 s5 => by
        ((with_reducible conv => whnf); repeat (first | (rw [natD_len]; with_reducible conv => whnf) | (rw [intD_len]; with_reducible conv => whnf) | (refine Exists.intro _ (And.intro (rfl : _ = some _) ?_); with_reducible conv => whnf) | (refine And.intro (okII _ _) ?_; rw [eqD_ii]; with_reducible conv => whnf) | (refine And.intro (by first | assumption | exact Exists.intro _ (by assumption) | exact ⟨rfl, rfl, by decide, by decide⟩ | exact Nat.le_of_ble_eq_true rfl | exact rfl) ?_; with_reducible conv => whnf) | (rw [isLst_at (by assumption)]; with_reducible conv => whnf) | (refine ifT rfl ?_; with_reducible conv => whnf) | (refine ifF rfl ?_; with_reducible conv => whnf) | (refine it_at (by assumption) ?_; with_reducible conv => whnf)))
        refine ⟨p, a, b, rfl, hp, ha1, by omega, hb1, by omega, fun S6 s6 => ?_⟩
        ((with_reducible conv => whnf); repeat (first | (rw [natD_len]; with_reducible conv => whnf) | (rw [intD_len]; with_reducible conv => whnf) | (refine Exists.intro _ (And.intro (rfl : _ = some _) ?_); with_reducible conv => whnf) | (refine And.intro (okII _ _) ?_; rw [eqD_ii]; with_reducible conv => whnf) | (refine And.intro (by first | assumption | exact Exists.intro _ (by assumption) | exact ⟨rfl, rfl, by decide, by decide⟩ | exact Nat.le_of_ble_eq_true rfl | exact rfl) ?_; with_reducible conv => whnf) | (rw [isLst_at (by assumption)]; with_reducible conv => whnf) | (refine ifT rfl ?_; with_reducible conv => whnf) | (refine ifF rfl ?_; with_reducible conv => whnf) | (refine it_at (by assumption) ?_; with_reducible conv => whnf)))
        refine ⟨_, rfl, (slq _).1, (slq _).2.1, (slq _).2.2, fun S7 s7 => ?_⟩
        ((with_reducible conv => whnf); repeat (first | (rw [natD_len]; with_reducible conv => whnf) | (rw [intD_len]; with_reducible conv => whnf) | (refine Exists.intro _ (And.intro (rfl : _ = some _) ?_); with_reducible conv => whnf) | (refine And.intro (okII _ _) ?_; rw [eqD_ii]; with_reducible conv => whnf) | (refine And.intro (by first | assumption | exact Exists.intro _ (by assumption) | exact ⟨rfl, rfl, by decide, by decide⟩ | exact Nat.le_of_ble_eq_true rfl | exact rfl) ?_; with_reducible conv => whnf) | (rw [isLst_at (by assumption)]; with_reducible conv => whnf) | (refine ifT rfl ?_; with_reducible conv => whnf) | (refine ifF rfl ?_; with_reducible conv => whnf) | (refine it_at (by assumption) ?_; with_reducible conv => whnf)))
        exact k _ (s5.trans (s6.trans s7))
      ((with_reducible conv => whnf); repeat (first | (rw [natD_len]; with_reducible conv => whnf) | (rw [intD_len]; with_reducible conv => whnf) | (refine Exists.intro _ (And.intro (rfl : _ = some _) ?_); with_reducible conv => whnf) | (refine And.intro (okII _ _) ?_; rw [eqD_ii]; with_reducible conv => whnf) | (refine And.intro (by first | assumption | exact Exists.intro _ (by assumption) | exact ⟨rfl, rfl, by decide, by decide⟩ | exact Nat.le_of_ble_eq_true rfl | exact rfl) ?_; with_reducible conv => whnf) | (rw [isLst_at (by assumption)]; with_reducible conv => whnf) | (refine ifT rfl ?_; with_reducible conv => whnf) | (refine ifF rfl ?_; with_reducible conv => whnf) | (refine it_at (by assumption) ?_; with_reducible conv => whnf)))
      refine ite_d (fun hc3 => ?_) fun hc3 => ?_
      · ((with_reducible conv => whnf); repeat (first | (rw [natD_len]; with_reducible conv => whnf) | (rw [intD_len]; with_reducible conv => whnf) | (refine Exists.intro _ (And.intro (rfl : _ = some _) ?_); with_reducible conv => whnf) | (refine And.intro (okII _ _) ?_; rw [eqD_ii]; with_reducible conv => whnf) | (refine And.intro (by first | assumption | exact Exists.intro _ (by assumption) | exact ⟨rfl, rfl, by decide, by decide⟩ | exact Nat.le_of_ble_eq_true rfl | exact rfl) ?_; with_reducible conv => whnf) | (rw [isLst_at (by assumption)]; with_reducible conv => whnf) | (refine ifT rfl ?_; with_reducible conv => whnf) | (refine ifF rfl ?_; with_reducible conv => whnf) | (refine it_at (by assumption) ?_; with_reducible conv => whnf)))
        refine ite_d (fun hc4 => ?_) fun hc4 => ?_
        · ((with_reducible conv => whnf); repeat (first | (rw [natD_len]; with_reducible conv => whnf) | (rw [intD_len]; with_reducible conv => whnf) | (refine Exists.intro _ (And.intro (rfl : _ = some _) ?_); with_reducible conv => whnf) | (refine And.intro (okII _ _) ?_; rw [eqD_ii]; with_reducible conv => whnf) | (refine And.intro (by first | assumption | exact Exists.intro _ (by assumption) | exact ⟨rfl, rfl, by decide, by decide⟩ | exact Nat.le_of_ble_eq_true rfl | exact rfl) ?_; with_reducible conv => whnf) | (rw [isLst_at (by assumption)]; with_reducible conv => whnf) | (refine ifT rfl ?_; with_reducible conv => whnf) | (refine ifF rfl ?_; with_reducible conv => whnf) | (refine it_at (by assumption) ?_; with_reducible conv => whnf)))
          refine ⟨p, a, b, rfl, hp, by omega, by omega, fun S5 s5 => ?_⟩
          ((with_reducible conv => whnf); repeat (first | (rw [natD_len]; with_reducible conv => whnf) | (rw [intD_len]; with_reducible conv => whnf) | (refine Exists.intro _ (And.intro (rfl : _ = some _) ?_); with_reducible conv => whnf) | (refine And.intro (okII _ _) ?_; rw [eqD_ii]; with_reducible conv => whnf) | (refine And.intro (by first | assumption | exact Exists.intro _ (by assumption) | exact ⟨rfl, rfl, by decide, by decide⟩ | exact Nat.le_of_ble_eq_true rfl | exact rfl) ?_; with_reducible conv => whnf) | (rw [isLst_at (by assumption)]; with_reducible conv => whnf) | (refine ifT rfl ?_; with_reducible conv => whnf) | (refine ifF rfl ?_; with_reducible conv => whnf) | (refine it_at (by assumption) ?_; with_reducible conv => whnf)))
          refine ⟨ok2 _ _, ?_⟩
          rw [eqD_self _ (show flat (.tup [qD (FP p a b), qD (MG p a b)]) = true from rfl)]
          exact rest _ (s.trans (s4.trans s5))
        · exact rest _ (s.trans s4)
      · exact rest _ (s.trans s4)
    · ((with_reducible conv => whnf); repeat (first | (rw [natD_len]; with_reducible conv => whnf) | (rw [intD_len]; with_reducible conv => whnf) | (refine Exists.intro _ (And.intro (rfl : _ = some _) ?_); with_reducible conv => whnf) | (refine And.intro (okII _ _) ?_; rw [eqD_ii]; with_reducible conv => whnf) | (refine And.intro (by first | assumption | exact Exists.intro _ (by assumption) | exact ⟨rfl, rfl, by decide, by decide⟩ | exact Nat.le_of_ble_eq_true rfl | exact rfl) ?_; with_reducible conv => whnf) | (rw [isLst_at (by assumption)]; with_reducible conv => whnf) | (refine ifT rfl ?_; with_reducible conv => whnf) | (refine ifF rfl ?_; with_reducible conv => whnf) | (refine it_at (by assumption) ?_; with_reducible conv => whnf)))
      exact k _ s
  · ((with_reducible conv => whnf); repeat (first | (rw [natD_len]; with_reducible conv => whnf) | (rw [intD_len]; with_reducible conv => whnf) | (refine Exists.intro _ (And.intro (rfl : _ = some _) ?_); with_reducible conv => whnf) | (refine And.intro (okII _ _) ?_; rw [eqD_ii]; with_reducible conv => whnf) | (refine And.intro (by first | assumption | exact Exists.intro _ (by assumption) | exact ⟨rfl, rfl, by decide, by decide⟩ | exact Nat.le_of_ble_eq_true rfl | exact rfl) ?_; with_reducible conv => whnf) | (rw [isLst_at (by assumption)]; with_reducible conv => whnf) | (refine ifT rfl ?_; with_reducible conv => whnf) | (refine ifF rfl ?_; with_reducible conv => whnf) | (refine it_at (by assumption) ?_; with_reducible conv => whnf)))
    exact k _ s
theorem q1 (p : Rat) : D.tup [.int ((p.den : Int) - p.num), .int (p.den : Int)] = qD (1 - p) := by
  have hc : Nat.Coprime ((p.den : Int) - p.num).natAbs p.den := by
    have h := p.reduced
    have e : Int.gcd ((p.den : Int) - p.num) p.den = Int.gcd p.num p.den := Int.gcd_self_sub_left _ _
    exact e.trans h
  have hy : (⟨(p.den : Int) - p.num, p.den, p.den_nz, hc⟩ : Rat) = 1 - p := by
    generalize hyy : (⟨(p.den : Int) - p.num, p.den, p.den_nz, hc⟩ : Rat) = y
    have e1 := q_den y
    have e2 := q_den p
    have n1 : y.num = (p.den : Int) - p.num := by rw [← hyy]
    have n2 : y.den = p.den := by rw [← hyy]
    rw [n1, n2, Rat.intCast_sub] at e1
    have e3 : ((p.den : Int) : Rat) = (p.den : Rat) := rfl
    rw [e3] at e1
    have hz : ((p.den : Nat) : Rat) ≠ 0 := fun e => p.den_nz (by exact_mod_cast e)
    have h2 : (y - (1 - p)) * (p.den : Rat) = 0 := by grind
    rcases Rat.mul_eq_zero.mp h2 with h | h
    · grind
    · exact absurd h hz
  rw [← hy]
theorem Chc.sub {p : Rat} (h : Chc p) : Chc (1 - p) := by
  refine ⟨by have := h.hi; grind, by have := h.lo; grind, ?_⟩
  have o1 : Ov p.den (1 - p) := by have := (Ov_int p.den 1).sub (Ov_self p); exact this
  exact Nat.lt_of_le_of_lt (Nat.le_of_dvd p.den_pos o1) h.den
theorem chc_div {n : Int} {d : Nat} (h0 : 0 ≤ n) (h1 : n ≤ d) (hd : 0 < d) (hb : d < 2 ^ 100) : Chc (Rat.divInt n d) := by
  have d0 : (0 : Rat) < (d : Rat) := by exact_mod_cast hd
  have e := divInt_eq n d
  have e2 : ((d : Int) : Rat) = (d : Rat) := rfl
  rw [e2] at e
  have hm : Rat.divInt n d * (d : Rat) = (n : Rat) := by rw [e]; exact Rat.div_mul_cancel (fun h => by rw [h] at d0; exact absurd d0 (by decide))
  have n0 : (0 : Rat) ≤ (n : Rat) := by exact_mod_cast h0
  have n1 : (n : Rat) ≤ (d : Rat) := by rw [← e2]; exact_mod_cast h1
  have hi : (0 : Rat) ≤ (d : Rat)⁻¹ := Rat.le_of_lt (Rat.inv_pos.mpr d0)
  have hdd : (d : Rat) * (d : Rat)⁻¹ = 1 := Rat.mul_inv_cancel _ (fun h => by rw [h] at d0; exact absurd d0 (by decide))
  refine ⟨by rw [e, Rat.div_def]; exact Rat.mul_nonneg n0 hi, by rw [e, Rat.div_def, ← hdd]; exact Rat.mul_le_mul_of_nonneg_right n1 hi, ?_⟩
  exact Nat.lt_of_le_of_lt (Nat.le_of_dvd hd (Ov_iff.mpr ⟨n, hm⟩)) hb
theorem t100 {w : Int} (h : w < 999999999999999999999999999999) : (1 + w).toNat < 2 ^ 100 := by
  have : (2 : Nat) ^ 100 = 1267650600228229401496703205376 := by decide
  omega
@[reducible] def sp_chance : Spc := fun ds S Q => ∃ ns n, ds = [.rol (intD ns), .ref n] ∧ ns.length ≤ 63 ∧ (∀ z ∈ ns, z.natAbs < 2 ^ 1048576) ∧ Dr n S ∧ ∀ p S', Chc p → Dr n S' → Ch n S S' → Q (qD p) S'
theorem body_law_chance : Body 5 2 (w_law_chance sp_take sp_cell sp_low) sp_chance := by
  rintro ds S Q _ ⟨ns, n0, rfl, hl, hb, d0, k⟩
  unfold w_law_chance
  (simp only [start, List.map_cons, List.map_nil, List.length_cons, List.length_nil, Nat.reduceAdd, Nat.reduceSub, List.replicate_succ, List.replicate_zero, List.cons_append, List.nil_append, Nat.sub_self, Nat.zero_add])
  ((with_reducible conv => whnf); repeat (first | (rw [natD_len]; with_reducible conv => whnf) | (rw [intD_len]; with_reducible conv => whnf) | (refine Exists.intro _ (And.intro (rfl : _ = some _) ?_); with_reducible conv => whnf) | (refine And.intro (okII _ _) ?_; rw [eqD_ii]; with_reducible conv => whnf) | (refine And.intro (by first | assumption | exact Exists.intro _ (by assumption) | exact ⟨rfl, rfl, by decide, by decide⟩ | exact Nat.le_of_ble_eq_true rfl | exact rfl) ?_; with_reducible conv => whnf) | (rw [isLst_at (by assumption)]; with_reducible conv => whnf) | (refine ifT rfl ?_; with_reducible conv => whnf) | (refine ifF rfl ?_; with_reducible conv => whnf) | (refine it_at (by assumption) ?_; with_reducible conv => whnf)))
  refine ⟨n0, 9, rfl, by decide, d0, fun kd S1 k0 k1 d1 c1 => ?_⟩
  ((with_reducible conv => whnf); repeat (first | (rw [natD_len]; with_reducible conv => whnf) | (rw [intD_len]; with_reducible conv => whnf) | (refine Exists.intro _ (And.intro (rfl : _ = some _) ?_); with_reducible conv => whnf) | (refine And.intro (okII _ _) ?_; rw [eqD_ii]; with_reducible conv => whnf) | (refine And.intro (by first | assumption | exact Exists.intro _ (by assumption) | exact ⟨rfl, rfl, by decide, by decide⟩ | exact Nat.le_of_ble_eq_true rfl | exact rfl) ?_; with_reducible conv => whnf) | (rw [isLst_at (by assumption)]; with_reducible conv => whnf) | (refine ifT rfl ?_; with_reducible conv => whnf) | (refine ifF rfl ?_; with_reducible conv => whnf) | (refine it_at (by assumption) ?_; with_reducible conv => whnf)))
  refine ite_d (fun hc => ?_) fun hc => ?_
  · ((with_reducible conv => whnf); repeat (first | (rw [natD_len]; with_reducible conv => whnf) | (rw [intD_len]; with_reducible conv => whnf) | (refine Exists.intro _ (And.intro (rfl : _ = some _) ?_); with_reducible conv => whnf) | (refine And.intro (okII _ _) ?_; rw [eqD_ii]; with_reducible conv => whnf) | (refine And.intro (by first | assumption | exact Exists.intro _ (by assumption) | exact ⟨rfl, rfl, by decide, by decide⟩ | exact Nat.le_of_ble_eq_true rfl | exact rfl) ?_; with_reducible conv => whnf) | (rw [isLst_at (by assumption)]; with_reducible conv => whnf) | (refine ifT rfl ?_; with_reducible conv => whnf) | (refine ifF rfl ?_; with_reducible conv => whnf) | (refine it_at (by assumption) ?_; with_reducible conv => whnf)))
    have ea := at_push S1 (.lst [.tup [.int 0, .int 1], .tup [.int 1, .int 1]])
    have d2 := d1.app [.lst [.tup [.int 0, .int 1], .tup [.int 1, .int 1]]]
    have c2 := c1.app [.lst [.tup [.int 0, .int 1], .tup [.int 1, .int 1]]]
    have hne : S1.length ≠ n0 := by have := d1.lt; omega
    generalize S1 ++ [O.lst [.tup [.int 0, .int 1], .tup [.int 1, .int 1]]] = S2 at *
    generalize S1.length = a at *
    refine ⟨n0, 2, rfl, by decide, d2, fun r S3 r0 r1 d3 c3 => ?_⟩
    (with_reducible conv => whnf)
    rw [isLst_at (c3 _ _ hne ea)]
    rcases (show r = 0 ∨ r = 1 by omega) with rfl | rfl
    · exact ⟨qD 0, rfl, k 0 _ ⟨by decide, by decide, Nat.one_lt_two_pow (by decide)⟩ d3 (c2.trans c3)⟩
    · exact ⟨qD 1, rfl, k 1 _ ⟨by decide, by decide, Nat.one_lt_two_pow (by decide)⟩ d3 (c2.trans c3)⟩
  · ((with_reducible conv => whnf); repeat (first | (rw [natD_len]; with_reducible conv => whnf) | (rw [intD_len]; with_reducible conv => whnf) | (refine Exists.intro _ (And.intro (rfl : _ = some _) ?_); with_reducible conv => whnf) | (refine And.intro (okII _ _) ?_; rw [eqD_ii]; with_reducible conv => whnf) | (refine And.intro (by first | assumption | exact Exists.intro _ (by assumption) | exact ⟨rfl, rfl, by decide, by decide⟩ | exact Nat.le_of_ble_eq_true rfl | exact rfl) ?_; with_reducible conv => whnf) | (rw [isLst_at (by assumption)]; with_reducible conv => whnf) | (refine ifT rfl ?_; with_reducible conv => whnf) | (refine ifF rfl ?_; with_reducible conv => whnf) | (refine it_at (by assumption) ?_; with_reducible conv => whnf)))
    have ea := at_push S1 (.lst [.int 6, .int 40])
    have d2 := d1.app [.lst [.int 6, .int 40]]
    have c2 := c1.app [.lst [.int 6, .int 40]]
    have hne : S1.length ≠ n0 := by have := d1.lt; omega
    generalize S1 ++ [O.lst [.int 6, .int 40]] = S2 at *
    generalize S1.length = a at *
    refine ⟨n0, 2, rfl, by decide, d2, fun r S3 r0 r1 d3 c3 => ?_⟩
    (with_reducible conv => whnf)
    rw [isLst_at (c3 _ _ hne ea)]
    obtain ⟨v, v0, v1, hv⟩ : ∃ v : Int, 0 < v ∧ v ≤ 40 ∧ atZ [D.int 6, .int 40] r = some (.int v) := by
      rcases (show r = 0 ∨ r = 1 by omega) with rfl | rfl
      · exact ⟨6, by decide, by decide, rfl⟩
      · exact ⟨40, by decide, by decide, rfl⟩
    refine ⟨_, hv, ?_⟩
    ((with_reducible conv => whnf); repeat (first | (rw [natD_len]; with_reducible conv => whnf) | (rw [intD_len]; with_reducible conv => whnf) | (refine Exists.intro _ (And.intro (rfl : _ = some _) ?_); with_reducible conv => whnf) | (refine And.intro (okII _ _) ?_; rw [eqD_ii]; with_reducible conv => whnf) | (refine And.intro (by first | assumption | exact Exists.intro _ (by assumption) | exact ⟨rfl, rfl, by decide, by decide⟩ | exact Nat.le_of_ble_eq_true rfl | exact rfl) ?_; with_reducible conv => whnf) | (rw [isLst_at (by assumption)]; with_reducible conv => whnf) | (refine ifT rfl ?_; with_reducible conv => whnf) | (refine ifF rfl ?_; with_reducible conv => whnf) | (refine it_at (by assumption) ?_; with_reducible conv => whnf)))
    refine ⟨n0, v, rfl, v0, d3, fun t S4 t0 t1 d4 c4 => ?_⟩
    have c14 := c2.trans (c3.trans c4)
    -- with the denominator
    have rest : ∀ (dd : Nat) S5, 0 < dd → dd < 2 ^ 100 → Dr n0 S5 → Ch n0 S S5 → sSeq (sAsg (wOp rMod (wB rInt (wCons (wOp rAdd (wOp rAdd (wOp rMul (wCall 2 sp_take (wCons (wVar 1) (wCons (wC (.int 1000)) wNil))) (wOp rPow (wC (.int 10)) (wC (.int 27)))) (wB rAbs (wCons (wCall 2 sp_cell (wCons (wVar 0) (wCons (wVar 1) wNil))) wNil))) (wCall 2 sp_take (wCons (wVar 1) (wCons (wC (.int 1000)) wNil)))) wNil)) (wOp rAdd (wVar 3) (wC (.int 1)))) (gN 4))
        (sRet (wCall 2 sp_low (wCons (wVar 4) (wCons (wVar 3) wNil)))) { nx := fun _ S' => Q .non S', rt := Q, bk := fun _ _ => False, ct := fun _ _ => False } [some (.rol (intD ns)), some (.ref n0), some (.int kd), some (.int (dd : Int)), none] S5 := by
      intro dd S5 h0 h1 d5 c5
      ((with_reducible conv => whnf); repeat (first | (rw [natD_len]; with_reducible conv => whnf) | (rw [intD_len]; with_reducible conv => whnf) | (refine Exists.intro _ (And.intro (rfl : _ = some _) ?_); with_reducible conv => whnf) | (refine And.intro (okII _ _) ?_; rw [eqD_ii]; with_reducible conv => whnf) | (refine And.intro (by first | assumption | exact Exists.intro _ (by assumption) | exact ⟨rfl, rfl, by decide, by decide⟩ | exact Nat.le_of_ble_eq_true rfl | exact rfl) ?_; with_reducible conv => whnf) | (rw [isLst_at (by assumption)]; with_reducible conv => whnf) | (refine ifT rfl ?_; with_reducible conv => whnf) | (refine ifF rfl ?_; with_reducible conv => whnf) | (refine it_at (by assumption) ?_; with_reducible conv => whnf)))
      refine ⟨n0, 1000, rfl, by decide, d5, fun x S6 x0 x1 d6 c6 => ?_⟩
      ((with_reducible conv => whnf); repeat (first | (rw [natD_len]; with_reducible conv => whnf) | (rw [intD_len]; with_reducible conv => whnf) | (refine Exists.intro _ (And.intro (rfl : _ = some _) ?_); with_reducible conv => whnf) | (refine And.intro (okII _ _) ?_; rw [eqD_ii]; with_reducible conv => whnf) | (refine And.intro (by first | assumption | exact Exists.intro _ (by assumption) | exact ⟨rfl, rfl, by decide, by decide⟩ | exact Nat.le_of_ble_eq_true rfl | exact rfl) ?_; with_reducible conv => whnf) | (rw [isLst_at (by assumption)]; with_reducible conv => whnf) | (refine ifT rfl ?_; with_reducible conv => whnf) | (refine ifF rfl ?_; with_reducible conv => whnf) | (refine it_at (by assumption) ?_; with_reducible conv => whnf)))
      refine ⟨⟨by decide, by decide, by decide⟩, ?_⟩
      ((with_reducible conv => whnf); repeat (first | (rw [natD_len]; with_reducible conv => whnf) | (rw [intD_len]; with_reducible conv => whnf) | (refine Exists.intro _ (And.intro (rfl : _ = some _) ?_); with_reducible conv => whnf) | (refine And.intro (okII _ _) ?_; rw [eqD_ii]; with_reducible conv => whnf) | (refine And.intro (by first | assumption | exact Exists.intro _ (by assumption) | exact ⟨rfl, rfl, by decide, by decide⟩ | exact Nat.le_of_ble_eq_true rfl | exact rfl) ?_; with_reducible conv => whnf) | (rw [isLst_at (by assumption)]; with_reducible conv => whnf) | (refine ifT rfl ?_; with_reducible conv => whnf) | (refine ifF rfl ?_; with_reducible conv => whnf) | (refine it_at (by assumption) ?_; with_reducible conv => whnf)))
      refine ⟨smallMul' (by omega), ?_⟩
      ((with_reducible conv => whnf); repeat (first | (rw [natD_len]; with_reducible conv => whnf) | (rw [intD_len]; with_reducible conv => whnf) | (refine Exists.intro _ (And.intro (rfl : _ = some _) ?_); with_reducible conv => whnf) | (refine And.intro (okII _ _) ?_; rw [eqD_ii]; with_reducible conv => whnf) | (refine And.intro (by first | assumption | exact Exists.intro _ (by assumption) | exact ⟨rfl, rfl, by decide, by decide⟩ | exact Nat.le_of_ble_eq_true rfl | exact rfl) ?_; with_reducible conv => whnf) | (rw [isLst_at (by assumption)]; with_reducible conv => whnf) | (refine ifT rfl ?_; with_reducible conv => whnf) | (refine ifF rfl ?_; with_reducible conv => whnf) | (refine it_at (by assumption) ?_; with_reducible conv => whnf)))
      refine ⟨ns, n0, rfl, hl, hb, d6, fun c S7 cb d7 c7 => ?_⟩
      ((with_reducible conv => whnf); repeat (first | (rw [natD_len]; with_reducible conv => whnf) | (rw [intD_len]; with_reducible conv => whnf) | (refine Exists.intro _ (And.intro (rfl : _ = some _) ?_); with_reducible conv => whnf) | (refine And.intro (okII _ _) ?_; rw [eqD_ii]; with_reducible conv => whnf) | (refine And.intro (by first | assumption | exact Exists.intro _ (by assumption) | exact ⟨rfl, rfl, by decide, by decide⟩ | exact Nat.le_of_ble_eq_true rfl | exact rfl) ?_; with_reducible conv => whnf) | (rw [isLst_at (by assumption)]; with_reducible conv => whnf) | (refine ifT rfl ?_; with_reducible conv => whnf) | (refine ifF rfl ?_; with_reducible conv => whnf) | (refine it_at (by assumption) ?_; with_reducible conv => whnf)))
      refine ⟨n0, 1000, rfl, by decide, d7, fun y S8 y0 y1 d8 c8 => ?_⟩
      ((with_reducible conv => whnf); repeat (first | (rw [natD_len]; with_reducible conv => whnf) | (rw [intD_len]; with_reducible conv => whnf) | (refine Exists.intro _ (And.intro (rfl : _ = some _) ?_); with_reducible conv => whnf) | (refine And.intro (okII _ _) ?_; rw [eqD_ii]; with_reducible conv => whnf) | (refine And.intro (by first | assumption | exact Exists.intro _ (by assumption) | exact ⟨rfl, rfl, by decide, by decide⟩ | exact Nat.le_of_ble_eq_true rfl | exact rfl) ?_; with_reducible conv => whnf) | (rw [isLst_at (by assumption)]; with_reducible conv => whnf) | (refine ifT rfl ?_; with_reducible conv => whnf) | (refine ifF rfl ?_; with_reducible conv => whnf) | (refine it_at (by assumption) ?_; with_reducible conv => whnf)))
      refine ⟨by omega, ?_⟩
      obtain ⟨z0, z1⟩ := fmod_lt (a := x * 10 ^ (27 : Int).toNat + ((c.natAbs : Nat) : Int) + y) (b := (dd : Int) + 1) (by omega)
      generalize (x * 10 ^ (27 : Int).toNat + ((c.natAbs : Nat) : Int) + y).fmod ((dd : Int) + 1) = w at *
      ((with_reducible conv => whnf); repeat (first | (rw [natD_len]; with_reducible conv => whnf) | (rw [intD_len]; with_reducible conv => whnf) | (refine Exists.intro _ (And.intro (rfl : _ = some _) ?_); with_reducible conv => whnf) | (refine And.intro (okII _ _) ?_; rw [eqD_ii]; with_reducible conv => whnf) | (refine And.intro (by first | assumption | exact Exists.intro _ (by assumption) | exact ⟨rfl, rfl, by decide, by decide⟩ | exact Nat.le_of_ble_eq_true rfl | exact rfl) ?_; with_reducible conv => whnf) | (rw [isLst_at (by assumption)]; with_reducible conv => whnf) | (refine ifT rfl ?_; with_reducible conv => whnf) | (refine ifF rfl ?_; with_reducible conv => whnf) | (refine it_at (by assumption) ?_; with_reducible conv => whnf)))
      refine ⟨w, dd, rfl, by omega, fun S9 s9 => ?_⟩
      exact k _ _ (chc_div z0 (by omega) h0 h1) (d8.sub s9) (c5.trans (c6.trans (c7.trans (c8.trans s9.ch))))
    ((with_reducible conv => whnf); repeat (first | (rw [natD_len]; with_reducible conv => whnf) | (rw [intD_len]; with_reducible conv => whnf) | (refine Exists.intro _ (And.intro (rfl : _ = some _) ?_); with_reducible conv => whnf) | (refine And.intro (okII _ _) ?_; rw [eqD_ii]; with_reducible conv => whnf) | (refine And.intro (by first | assumption | exact Exists.intro _ (by assumption) | exact ⟨rfl, rfl, by decide, by decide⟩ | exact Nat.le_of_ble_eq_true rfl | exact rfl) ?_; with_reducible conv => whnf) | (rw [isLst_at (by assumption)]; with_reducible conv => whnf) | (refine ifT rfl ?_; with_reducible conv => whnf) | (refine ifF rfl ?_; with_reducible conv => whnf) | (refine it_at (by assumption) ?_; with_reducible conv => whnf)))
    refine ite_d (fun hk => ?_) fun hk => ?_
    · ((with_reducible conv => whnf); repeat (first | (rw [natD_len]; with_reducible conv => whnf) | (rw [intD_len]; with_reducible conv => whnf) | (refine Exists.intro _ (And.intro (rfl : _ = some _) ?_); with_reducible conv => whnf) | (refine And.intro (okII _ _) ?_; rw [eqD_ii]; with_reducible conv => whnf) | (refine And.intro (by first | assumption | exact Exists.intro _ (by assumption) | exact ⟨rfl, rfl, by decide, by decide⟩ | exact Nat.le_of_ble_eq_true rfl | exact rfl) ?_; with_reducible conv => whnf) | (rw [isLst_at (by assumption)]; with_reducible conv => whnf) | (refine ifT rfl ?_; with_reducible conv => whnf) | (refine ifF rfl ?_; with_reducible conv => whnf) | (refine it_at (by assumption) ?_; with_reducible conv => whnf)))
      refine ⟨ns, n0, rfl, hl, hb, d4, fun c S5 cb d5 c5 => ?_⟩
      ((with_reducible conv => whnf); repeat (first | (rw [natD_len]; with_reducible conv => whnf) | (rw [intD_len]; with_reducible conv => whnf) | (refine Exists.intro _ (And.intro (rfl : _ = some _) ?_); with_reducible conv => whnf) | (refine And.intro (okII _ _) ?_; rw [eqD_ii]; with_reducible conv => whnf) | (refine And.intro (by first | assumption | exact Exists.intro _ (by assumption) | exact ⟨rfl, rfl, by decide, by decide⟩ | exact Nat.le_of_ble_eq_true rfl | exact rfl) ?_; with_reducible conv => whnf) | (rw [isLst_at (by assumption)]; with_reducible conv => whnf) | (refine ifT rfl ?_; with_reducible conv => whnf) | (refine ifF rfl ?_; with_reducible conv => whnf) | (refine it_at (by assumption) ?_; with_reducible conv => whnf)))
      refine ⟨⟨by decide, by decide, by decide⟩, ?_⟩
      ((with_reducible conv => whnf); repeat (first | (rw [natD_len]; with_reducible conv => whnf) | (rw [intD_len]; with_reducible conv => whnf) | (refine Exists.intro _ (And.intro (rfl : _ = some _) ?_); with_reducible conv => whnf) | (refine And.intro (okII _ _) ?_; rw [eqD_ii]; with_reducible conv => whnf) | (refine And.intro (by first | assumption | exact Exists.intro _ (by assumption) | exact ⟨rfl, rfl, by decide, by decide⟩ | exact Nat.le_of_ble_eq_true rfl | exact rfl) ?_; with_reducible conv => whnf) | (rw [isLst_at (by assumption)]; with_reducible conv => whnf) | (refine ifT rfl ?_; with_reducible conv => whnf) | (refine ifF rfl ?_; with_reducible conv => whnf) | (refine it_at (by assumption) ?_; with_reducible conv => whnf)))
      have hM : (10 : Int) ^ (30 : Int).toNat - 1 = 999999999999999999999999999999 := by decide
      rw [hM]
      refine ⟨by decide, ?_⟩
      obtain ⟨z0, z1⟩ := fmod_lt (a := ((c.natAbs : Nat) : Int)) (b := 999999999999999999999999999999) (by decide)
      generalize ((c.natAbs : Nat) : Int).fmod 999999999999999999999999999999 = w at *
      have := rest (1 + w).toNat S5 (by omega) (t100 z1) d5 (c14.trans c5)
      rw [show (((1 + w).toNat : Nat) : Int) = 1 + w by omega] at this
      exact this
    · have := rest (1 + t).toNat S4 (by omega) (Nat.lt_of_lt_of_le (show (1 + t).toNat < 2 ^ 10 by omega) (Nat.pow_le_pow_right (by decide) (by decide))) d4 c14
      rw [show (((1 + t).toNat : Nat) : Int) = 1 + t by omega] at this
      exact this
/-! coins -/
def rnd (n d : Int) : Int := if 2 * (n % d) > d ∨ (2 * (n % d) = d ∧ (n / d) % 2 = 1) then n / d + 1 else n / d
theorem rnd_mul {g n d : Int} (hg : 0 < g) (hd : 0 < d) : rnd (g * n) (g * d) = rnd n d := by
  unfold rnd
  rw [Int.mul_ediv_mul_of_pos _ _ hg, Int.mul_emod_mul_of_pos _ _ hg]
  have e : 2 * (g * (n % d)) = g * (2 * (n % d)) := by grind
  rw [e]
  have h1 : (g * (2 * (n % d)) > g * d) ↔ (2 * (n % d) > d) := ⟨fun h => Int.lt_of_mul_lt_mul_left h (Int.le_of_lt hg), fun h => Int.mul_lt_mul_of_pos_left h hg⟩
  have h2 : (g * (2 * (n % d)) = g * d) ↔ (2 * (n % d) = d) := ⟨fun h => Int.eq_of_mul_eq_mul_left (by omega) h, fun h => by rw [h]⟩
  simp only [h1, h2]
theorem low_g (n : Int) {d : Nat} (hd : 0 < d) : ∃ g : Int, 0 < g ∧ n = g * (Rat.divInt n d).num ∧ (d : Int) = g * ((Rat.divInt n d).den : Int) := by
  have e := ratio_eq (n := n) (d := (d : Int)) (by omega)
  rw [if_neg (by omega), Int.natAbs_natCast] at e
  have hg : 0 < Nat.gcd n.natAbs d := Nat.gcd_pos_of_pos_right _ hd
  refine ⟨((Nat.gcd n.natAbs d : Nat) : Int), by omega, ?_, ?_⟩
  · rw [← e.1, Int.fdiv_eq_ediv_of_nonneg _ (by omega), Int.mul_ediv_cancel']
    exact Int.natAbs_dvd_natAbs.mp (by rw [Int.natAbs_natCast]; exact Nat.gcd_dvd_left _ _)
  · rw [← e.2, Int.fdiv_eq_ediv_of_nonneg _ (by omega), Int.mul_ediv_cancel']
    exact Int.natCast_dvd_natCast.mpr (Nat.gcd_dvd_right _ _)
@[reducible] def sp_times : Spc := fun ds S Q => ∃ (x : Rat) (c : Int), ds = [qD x, .tup [.int c, .int 1]] ∧ mid x ∧ c.natAbs < 2 ^ 1100000 ∧ ∀ S', Sub S S' → Q (qD (Rat.divInt (x.num * c) x.den)) S'
theorem bigM {i j : Int} (hi : i.natAbs < 2 ^ 2000000) (hj : j.natAbs < 2 ^ 2000000) : MulOk i j := Or.inr ⟨2000000, 2000000, hi, hj, by decide⟩
theorem upB {i : Int} {a : Nat} (h : i.natAbs < 2 ^ a) (ha : a ≤ 2000000) : i.natAbs < 2 ^ 2000000 := Nat.lt_of_lt_of_le h (Nat.pow_le_pow_right (by decide) ha)
theorem upN {i : Nat} {a : Nat} (h : i < 2 ^ a) (ha : a ≤ 2000000) : ((i : Int)).natAbs < 2 ^ 2000000 := by rw [Int.natAbs_natCast]; exact Nat.lt_of_lt_of_le h (Nat.pow_le_pow_right (by decide) ha)
theorem body_times : Body 2 2 (w_times sp_ratio) sp_times := by
  rintro ds S Q _ ⟨x, c, rfl, hx, hc, k⟩
  unfold w_times
  (simp only [start, List.map_cons, List.map_nil, List.length_cons, List.length_nil, Nat.reduceAdd, Nat.reduceSub, List.replicate_succ, List.replicate_zero, List.cons_append, List.nil_append, Nat.sub_self, Nat.zero_add])
  ((with_reducible conv => whnf); repeat (first | (rw [natD_len]; with_reducible conv => whnf) | (rw [intD_len]; with_reducible conv => whnf) | (refine Exists.intro _ (And.intro (rfl : _ = some _) ?_); with_reducible conv => whnf) | (refine And.intro (okII _ _) ?_; rw [eqD_ii]; with_reducible conv => whnf) | (refine And.intro (by first | assumption | exact Exists.intro _ (by assumption) | exact ⟨rfl, rfl, by decide, by decide⟩ | exact Nat.le_of_ble_eq_true rfl | exact rfl) ?_; with_reducible conv => whnf) | (rw [isLst_at (by assumption)]; with_reducible conv => whnf) | (refine ifT rfl ?_; with_reducible conv => whnf) | (refine ifF rfl ?_; with_reducible conv => whnf) | (refine it_at (by assumption) ?_; with_reducible conv => whnf)))
  refine ⟨bigM (upB hx.2 (by decide)) (upB hc (by decide)), ?_⟩
  ((with_reducible conv => whnf); repeat (first | (rw [natD_len]; with_reducible conv => whnf) | (rw [intD_len]; with_reducible conv => whnf) | (refine Exists.intro _ (And.intro (rfl : _ = some _) ?_); with_reducible conv => whnf) | (refine And.intro (okII _ _) ?_; rw [eqD_ii]; with_reducible conv => whnf) | (refine And.intro (by first | assumption | exact Exists.intro _ (by assumption) | exact ⟨rfl, rfl, by decide, by decide⟩ | exact Nat.le_of_ble_eq_true rfl | exact rfl) ?_; with_reducible conv => whnf) | (rw [isLst_at (by assumption)]; with_reducible conv => whnf) | (refine ifT rfl ?_; with_reducible conv => whnf) | (refine ifF rfl ?_; with_reducible conv => whnf) | (refine it_at (by assumption) ?_; with_reducible conv => whnf)))
  refine ⟨smallMul (by decide), ?_⟩
  rw [Int.mul_one]
  ((with_reducible conv => whnf); repeat (first | (rw [natD_len]; with_reducible conv => whnf) | (rw [intD_len]; with_reducible conv => whnf) | (refine Exists.intro _ (And.intro (rfl : _ = some _) ?_); with_reducible conv => whnf) | (refine And.intro (okII _ _) ?_; rw [eqD_ii]; with_reducible conv => whnf) | (refine And.intro (by first | assumption | exact Exists.intro _ (by assumption) | exact ⟨rfl, rfl, by decide, by decide⟩ | exact Nat.le_of_ble_eq_true rfl | exact rfl) ?_; with_reducible conv => whnf) | (rw [isLst_at (by assumption)]; with_reducible conv => whnf) | (refine ifT rfl ?_; with_reducible conv => whnf) | (refine ifF rfl ?_; with_reducible conv => whnf) | (refine it_at (by assumption) ?_; with_reducible conv => whnf)))
  exact ⟨_, _, rfl, by have := x.den_pos; omega, k⟩
@[reducible] def sp_coins : Spc := fun ds S Q => ∃ (p : Rat) (a b : Nat) (c : Int), ds = [qD p, .int a, .int b, .int c] ∧ Chc p ∧ 1 ≤ a ∧ a ≤ 200 ∧ 1 ≤ b ∧ b ≤ 200 ∧ c.natAbs < 2 ^ 1100000 ∧ ∀ S', Sub S S' → Q (.int (rnd ((FP p a b).num * c) (FP p a b).den)) S'
theorem body_fair_coins : Body 8 4 (w_fair_coins sp_part sp_times) sp_coins := by
  rintro ds S Q _ ⟨p, a, b, c, rfl, hp, ha1, ha2, hb1, hb2, hc, k⟩
  unfold w_fair_coins
  (simp only [start, List.map_cons, List.map_nil, List.length_cons, List.length_nil, Nat.reduceAdd, Nat.reduceSub, List.replicate_succ, List.replicate_zero, List.cons_append, List.nil_append, Nat.sub_self, Nat.zero_add])
  ((with_reducible conv => whnf); repeat (first | (rw [natD_len]; with_reducible conv => whnf) | (rw [intD_len]; with_reducible conv => whnf) | (refine Exists.intro _ (And.intro (rfl : _ = some _) ?_); with_reducible conv => whnf) | (refine And.intro (okII _ _) ?_; rw [eqD_ii]; with_reducible conv => whnf) | (refine And.intro (by first | assumption | exact Exists.intro _ (by assumption) | exact ⟨rfl, rfl, by decide, by decide⟩ | exact Nat.le_of_ble_eq_true rfl | exact rfl) ?_; with_reducible conv => whnf) | (rw [isLst_at (by assumption)]; with_reducible conv => whnf) | (refine ifT rfl ?_; with_reducible conv => whnf) | (refine ifF rfl ?_; with_reducible conv => whnf) | (refine it_at (by assumption) ?_; with_reducible conv => whnf)))
  refine ⟨p, a, b, rfl, hp, ha1, ha2, hb1, hb2, fun S1 s1 => ?_⟩
  ((with_reducible conv => whnf); repeat (first | (rw [natD_len]; with_reducible conv => whnf) | (rw [intD_len]; with_reducible conv => whnf) | (refine Exists.intro _ (And.intro (rfl : _ = some _) ?_); with_reducible conv => whnf) | (refine And.intro (okII _ _) ?_; rw [eqD_ii]; with_reducible conv => whnf) | (refine And.intro (by first | assumption | exact Exists.intro _ (by assumption) | exact ⟨rfl, rfl, by decide, by decide⟩ | exact Nat.le_of_ble_eq_true rfl | exact rfl) ?_; with_reducible conv => whnf) | (rw [isLst_at (by assumption)]; with_reducible conv => whnf) | (refine ifT rfl ?_; with_reducible conv => whnf) | (refine ifF rfl ?_; with_reducible conv => whnf) | (refine it_at (by assumption) ?_; with_reducible conv => whnf)))
  refine ⟨FP p a b, c, rfl, FP_mid hp (by omega), hc, fun S2 s2 => ?_⟩
  have k := k _ (s1.trans s2)
  obtain ⟨g, g0, g1, g2⟩ := low_g ((FP p a b).num * c) (FP p a b).den_pos
  generalize hy : Rat.divInt ((FP p a b).num * c) ((FP p a b).den : Int) = y at *
  have hd := y.den_pos
  rw [g1, g2, rnd_mul g0 (by omega)] at k
  ((with_reducible conv => whnf); repeat (first | (rw [natD_len]; with_reducible conv => whnf) | (rw [intD_len]; with_reducible conv => whnf) | (refine Exists.intro _ (And.intro (rfl : _ = some _) ?_); with_reducible conv => whnf) | (refine And.intro (okII _ _) ?_; rw [eqD_ii]; with_reducible conv => whnf) | (refine And.intro (by first | assumption | exact Exists.intro _ (by assumption) | exact ⟨rfl, rfl, by decide, by decide⟩ | exact Nat.le_of_ble_eq_true rfl | exact rfl) ?_; with_reducible conv => whnf) | (rw [isLst_at (by assumption)]; with_reducible conv => whnf) | (refine ifT rfl ?_; with_reducible conv => whnf) | (refine ifF rfl ?_; with_reducible conv => whnf) | (refine it_at (by assumption) ?_; with_reducible conv => whnf)))
  refine ⟨by omega, ?_⟩
  ((with_reducible conv => whnf); repeat (first | (rw [natD_len]; with_reducible conv => whnf) | (rw [intD_len]; with_reducible conv => whnf) | (refine Exists.intro _ (And.intro (rfl : _ = some _) ?_); with_reducible conv => whnf) | (refine And.intro (okII _ _) ?_; rw [eqD_ii]; with_reducible conv => whnf) | (refine And.intro (by first | assumption | exact Exists.intro _ (by assumption) | exact ⟨rfl, rfl, by decide, by decide⟩ | exact Nat.le_of_ble_eq_true rfl | exact rfl) ?_; with_reducible conv => whnf) | (rw [isLst_at (by assumption)]; with_reducible conv => whnf) | (refine ifT rfl ?_; with_reducible conv => whnf) | (refine ifF rfl ?_; with_reducible conv => whnf) | (refine it_at (by assumption) ?_; with_reducible conv => whnf)))
  refine ⟨by omega, ?_⟩
  ((with_reducible conv => whnf); repeat (first | (rw [natD_len]; with_reducible conv => whnf) | (rw [intD_len]; with_reducible conv => whnf) | (refine Exists.intro _ (And.intro (rfl : _ = some _) ?_); with_reducible conv => whnf) | (refine And.intro (okII _ _) ?_; rw [eqD_ii]; with_reducible conv => whnf) | (refine And.intro (by first | assumption | exact Exists.intro _ (by assumption) | exact ⟨rfl, rfl, by decide, by decide⟩ | exact Nat.le_of_ble_eq_true rfl | exact rfl) ?_; with_reducible conv => whnf) | (rw [isLst_at (by assumption)]; with_reducible conv => whnf) | (refine ifT rfl ?_; with_reducible conv => whnf) | (refine ifF rfl ?_; with_reducible conv => whnf) | (refine it_at (by assumption) ?_; with_reducible conv => whnf)))
  refine ⟨smallMul' (by decide), ?_⟩
  rw [Int.fmod_eq_emod_of_nonneg _ (by omega), Int.fdiv_eq_ediv_of_nonneg _ (by omega)]
  unfold rnd at k
  ((with_reducible conv => whnf); repeat (first | (rw [natD_len]; with_reducible conv => whnf) | (rw [intD_len]; with_reducible conv => whnf) | (refine Exists.intro _ (And.intro (rfl : _ = some _) ?_); with_reducible conv => whnf) | (refine And.intro (okII _ _) ?_; rw [eqD_ii]; with_reducible conv => whnf) | (refine And.intro (by first | assumption | exact Exists.intro _ (by assumption) | exact ⟨rfl, rfl, by decide, by decide⟩ | exact Nat.le_of_ble_eq_true rfl | exact rfl) ?_; with_reducible conv => whnf) | (rw [isLst_at (by assumption)]; with_reducible conv => whnf) | (refine ifT rfl ?_; with_reducible conv => whnf) | (refine ifF rfl ?_; with_reducible conv => whnf) | (refine it_at (by assumption) ?_; with_reducible conv => whnf)))
  refine ite_d (fun h1 => ?_) fun h1 => ?_
  · rw [if_pos (.inl h1)] at k
    ((with_reducible conv => whnf); repeat (first | (rw [natD_len]; with_reducible conv => whnf) | (rw [intD_len]; with_reducible conv => whnf) | (refine Exists.intro _ (And.intro (rfl : _ = some _) ?_); with_reducible conv => whnf) | (refine And.intro (okII _ _) ?_; rw [eqD_ii]; with_reducible conv => whnf) | (refine And.intro (by first | assumption | exact Exists.intro _ (by assumption) | exact ⟨rfl, rfl, by decide, by decide⟩ | exact Nat.le_of_ble_eq_true rfl | exact rfl) ?_; with_reducible conv => whnf) | (rw [isLst_at (by assumption)]; with_reducible conv => whnf) | (refine ifT rfl ?_; with_reducible conv => whnf) | (refine ifF rfl ?_; with_reducible conv => whnf) | (refine it_at (by assumption) ?_; with_reducible conv => whnf)))
    exact k
  · ((with_reducible conv => whnf); repeat (first | (rw [natD_len]; with_reducible conv => whnf) | (rw [intD_len]; with_reducible conv => whnf) | (refine Exists.intro _ (And.intro (rfl : _ = some _) ?_); with_reducible conv => whnf) | (refine And.intro (okII _ _) ?_; rw [eqD_ii]; with_reducible conv => whnf) | (refine And.intro (by first | assumption | exact Exists.intro _ (by assumption) | exact ⟨rfl, rfl, by decide, by decide⟩ | exact Nat.le_of_ble_eq_true rfl | exact rfl) ?_; with_reducible conv => whnf) | (rw [isLst_at (by assumption)]; with_reducible conv => whnf) | (refine ifT rfl ?_; with_reducible conv => whnf) | (refine ifF rfl ?_; with_reducible conv => whnf) | (refine it_at (by assumption) ?_; with_reducible conv => whnf)))
    refine ite_d (fun h2 => ?_) fun h2 => ?_
    · ((with_reducible conv => whnf); repeat (first | (rw [natD_len]; with_reducible conv => whnf) | (rw [intD_len]; with_reducible conv => whnf) | (refine Exists.intro _ (And.intro (rfl : _ = some _) ?_); with_reducible conv => whnf) | (refine And.intro (okII _ _) ?_; rw [eqD_ii]; with_reducible conv => whnf) | (refine And.intro (by first | assumption | exact Exists.intro _ (by assumption) | exact ⟨rfl, rfl, by decide, by decide⟩ | exact Nat.le_of_ble_eq_true rfl | exact rfl) ?_; with_reducible conv => whnf) | (rw [isLst_at (by assumption)]; with_reducible conv => whnf) | (refine ifT rfl ?_; with_reducible conv => whnf) | (refine ifF rfl ?_; with_reducible conv => whnf) | (refine it_at (by assumption) ?_; with_reducible conv => whnf)))
      refine ⟨by decide, ?_⟩
      rw [Int.fmod_eq_emod_of_nonneg _ (by decide)]
      ((with_reducible conv => whnf); repeat (first | (rw [natD_len]; with_reducible conv => whnf) | (rw [intD_len]; with_reducible conv => whnf) | (refine Exists.intro _ (And.intro (rfl : _ = some _) ?_); with_reducible conv => whnf) | (refine And.intro (okII _ _) ?_; rw [eqD_ii]; with_reducible conv => whnf) | (refine And.intro (by first | assumption | exact Exists.intro _ (by assumption) | exact ⟨rfl, rfl, by decide, by decide⟩ | exact Nat.le_of_ble_eq_true rfl | exact rfl) ?_; with_reducible conv => whnf) | (rw [isLst_at (by assumption)]; with_reducible conv => whnf) | (refine ifT rfl ?_; with_reducible conv => whnf) | (refine ifF rfl ?_; with_reducible conv => whnf) | (refine it_at (by assumption) ?_; with_reducible conv => whnf)))
      refine ite_d (fun h3 => ?_) fun h3 => ?_
      · rw [if_pos (.inr ⟨h2, h3⟩)] at k
        ((with_reducible conv => whnf); repeat (first | (rw [natD_len]; with_reducible conv => whnf) | (rw [intD_len]; with_reducible conv => whnf) | (refine Exists.intro _ (And.intro (rfl : _ = some _) ?_); with_reducible conv => whnf) | (refine And.intro (okII _ _) ?_; rw [eqD_ii]; with_reducible conv => whnf) | (refine And.intro (by first | assumption | exact Exists.intro _ (by assumption) | exact ⟨rfl, rfl, by decide, by decide⟩ | exact Nat.le_of_ble_eq_true rfl | exact rfl) ?_; with_reducible conv => whnf) | (rw [isLst_at (by assumption)]; with_reducible conv => whnf) | (refine ifT rfl ?_; with_reducible conv => whnf) | (refine ifF rfl ?_; with_reducible conv => whnf) | (refine it_at (by assumption) ?_; with_reducible conv => whnf)))
        exact k
      · rw [if_neg (by omega)] at k
        exact k
    · rw [if_neg (by omega)] at k
      exact k
@[reducible] def sp_lcoins : Spc := fun ds S Q => ∃ (x : Rat) (c : Int), ds = [qD x, .int c] ∧ mid x ∧ c.natAbs < 2 ^ 1100000 ∧ ∀ S', Sub S S' → Q (.int (rnd (x.num * c) x.den)) S'
theorem body_law_coins : Body 6 2 w_law_coins sp_lcoins := by
  rintro ds S Q _ ⟨x, c, rfl, hx, hc, k⟩
  unfold w_law_coins
  (simp only [start, List.map_cons, List.map_nil, List.length_cons, List.length_nil, Nat.reduceAdd, Nat.reduceSub, List.replicate_succ, List.replicate_zero, List.cons_append, List.nil_append, Nat.sub_self, Nat.zero_add])
  have hd := x.den_pos
  have k := k S (Sub.refl _)
  have hm := Int.emod_def (x.num * c) (x.den : Int)
  have hxc : (x.num * c).natAbs < 2 ^ 1150000 := by
    rw [Int.natAbs_mul]
    have := Nat.mul_lt_mul'' hx.2 hc
    rw [← Nat.pow_add] at this
    exact Nat.lt_of_lt_of_le this (Nat.pow_le_pow_right (by decide) (by decide))
  have hdv : ((x.num * c) / (x.den : Int)).natAbs < 2 ^ 1160000 := by
    have h1 : ((x.num * c) / (x.den : Int)).natAbs ≤ (x.num * c).natAbs + 1 := by
      have := Int.natAbs_ediv_le_natAbs (x.num * c) (x.den : Int)
      omega
    have h2 : 2 ^ 1150000 + 1 ≤ 2 ^ 1160000 := by
      have := Nat.pow_lt_pow_right (a := 2) (by decide) (show 1150000 < 1160000 by decide)
      omega
    omega
  ((with_reducible conv => whnf); repeat (first | (rw [natD_len]; with_reducible conv => whnf) | (rw [intD_len]; with_reducible conv => whnf) | (refine Exists.intro _ (And.intro (rfl : _ = some _) ?_); with_reducible conv => whnf) | (refine And.intro (okII _ _) ?_; rw [eqD_ii]; with_reducible conv => whnf) | (refine And.intro (by first | assumption | exact Exists.intro _ (by assumption) | exact ⟨rfl, rfl, by decide, by decide⟩ | exact Nat.le_of_ble_eq_true rfl | exact rfl) ?_; with_reducible conv => whnf) | (rw [isLst_at (by assumption)]; with_reducible conv => whnf) | (refine ifT rfl ?_; with_reducible conv => whnf) | (refine ifF rfl ?_; with_reducible conv => whnf) | (refine it_at (by assumption) ?_; with_reducible conv => whnf)))
  refine ⟨bigM (upB hx.2 (by decide)) (upB hc (by decide)), ?_⟩
  ((with_reducible conv => whnf); repeat (first | (rw [natD_len]; with_reducible conv => whnf) | (rw [intD_len]; with_reducible conv => whnf) | (refine Exists.intro _ (And.intro (rfl : _ = some _) ?_); with_reducible conv => whnf) | (refine And.intro (okII _ _) ?_; rw [eqD_ii]; with_reducible conv => whnf) | (refine And.intro (by first | assumption | exact Exists.intro _ (by assumption) | exact ⟨rfl, rfl, by decide, by decide⟩ | exact Nat.le_of_ble_eq_true rfl | exact rfl) ?_; with_reducible conv => whnf) | (rw [isLst_at (by assumption)]; with_reducible conv => whnf) | (refine ifT rfl ?_; with_reducible conv => whnf) | (refine ifF rfl ?_; with_reducible conv => whnf) | (refine it_at (by assumption) ?_; with_reducible conv => whnf)))
  refine ⟨by omega, ?_⟩
  rw [Int.fdiv_eq_ediv_of_nonneg _ (by omega)]
  ((with_reducible conv => whnf); repeat (first | (rw [natD_len]; with_reducible conv => whnf) | (rw [intD_len]; with_reducible conv => whnf) | (refine Exists.intro _ (And.intro (rfl : _ = some _) ?_); with_reducible conv => whnf) | (refine And.intro (okII _ _) ?_; rw [eqD_ii]; with_reducible conv => whnf) | (refine And.intro (by first | assumption | exact Exists.intro _ (by assumption) | exact ⟨rfl, rfl, by decide, by decide⟩ | exact Nat.le_of_ble_eq_true rfl | exact rfl) ?_; with_reducible conv => whnf) | (rw [isLst_at (by assumption)]; with_reducible conv => whnf) | (refine ifT rfl ?_; with_reducible conv => whnf) | (refine ifF rfl ?_; with_reducible conv => whnf) | (refine it_at (by assumption) ?_; with_reducible conv => whnf)))
  refine ⟨bigM (upB hdv (by decide)) (upN hx.1 (by decide)), ?_⟩
  ((with_reducible conv => whnf); repeat (first | (rw [natD_len]; with_reducible conv => whnf) | (rw [intD_len]; with_reducible conv => whnf) | (refine Exists.intro _ (And.intro (rfl : _ = some _) ?_); with_reducible conv => whnf) | (refine And.intro (okII _ _) ?_; rw [eqD_ii]; with_reducible conv => whnf) | (refine And.intro (by first | assumption | exact Exists.intro _ (by assumption) | exact ⟨rfl, rfl, by decide, by decide⟩ | exact Nat.le_of_ble_eq_true rfl | exact rfl) ?_; with_reducible conv => whnf) | (rw [isLst_at (by assumption)]; with_reducible conv => whnf) | (refine ifT rfl ?_; with_reducible conv => whnf) | (refine ifF rfl ?_; with_reducible conv => whnf) | (refine it_at (by assumption) ?_; with_reducible conv => whnf)))
  refine ⟨smallMul' (by decide), ?_⟩
  rw [show x.num * c - x.num * c / (x.den : Int) * (x.den : Int) = (x.num * c) % (x.den : Int) by rw [hm, Int.mul_comm (x.num * c / (x.den : Int))]]
  unfold rnd at k
  ((with_reducible conv => whnf); repeat (first | (rw [natD_len]; with_reducible conv => whnf) | (rw [intD_len]; with_reducible conv => whnf) | (refine Exists.intro _ (And.intro (rfl : _ = some _) ?_); with_reducible conv => whnf) | (refine And.intro (okII _ _) ?_; rw [eqD_ii]; with_reducible conv => whnf) | (refine And.intro (by first | assumption | exact Exists.intro _ (by assumption) | exact ⟨rfl, rfl, by decide, by decide⟩ | exact Nat.le_of_ble_eq_true rfl | exact rfl) ?_; with_reducible conv => whnf) | (rw [isLst_at (by assumption)]; with_reducible conv => whnf) | (refine ifT rfl ?_; with_reducible conv => whnf) | (refine ifF rfl ?_; with_reducible conv => whnf) | (refine it_at (by assumption) ?_; with_reducible conv => whnf)))
  refine ite_d (fun h1 => ?_) fun h1 => ?_
  · rw [if_pos (.inl h1)] at k
    ((with_reducible conv => whnf); repeat (first | (rw [natD_len]; with_reducible conv => whnf) | (rw [intD_len]; with_reducible conv => whnf) | (refine Exists.intro _ (And.intro (rfl : _ = some _) ?_); with_reducible conv => whnf) | (refine And.intro (okII _ _) ?_; rw [eqD_ii]; with_reducible conv => whnf) | (refine And.intro (by first | assumption | exact Exists.intro _ (by assumption) | exact ⟨rfl, rfl, by decide, by decide⟩ | exact Nat.le_of_ble_eq_true rfl | exact rfl) ?_; with_reducible conv => whnf) | (rw [isLst_at (by assumption)]; with_reducible conv => whnf) | (refine ifT rfl ?_; with_reducible conv => whnf) | (refine ifF rfl ?_; with_reducible conv => whnf) | (refine it_at (by assumption) ?_; with_reducible conv => whnf)))
    exact k
  · ((with_reducible conv => whnf); repeat (first | (rw [natD_len]; with_reducible conv => whnf) | (rw [intD_len]; with_reducible conv => whnf) | (refine Exists.intro _ (And.intro (rfl : _ = some _) ?_); with_reducible conv => whnf) | (refine And.intro (okII _ _) ?_; rw [eqD_ii]; with_reducible conv => whnf) | (refine And.intro (by first | assumption | exact Exists.intro _ (by assumption) | exact ⟨rfl, rfl, by decide, by decide⟩ | exact Nat.le_of_ble_eq_true rfl | exact rfl) ?_; with_reducible conv => whnf) | (rw [isLst_at (by assumption)]; with_reducible conv => whnf) | (refine ifT rfl ?_; with_reducible conv => whnf) | (refine ifF rfl ?_; with_reducible conv => whnf) | (refine it_at (by assumption) ?_; with_reducible conv => whnf)))
    refine ite_d (fun h2 => ?_) fun h2 => ?_
    · ((with_reducible conv => whnf); repeat (first | (rw [natD_len]; with_reducible conv => whnf) | (rw [intD_len]; with_reducible conv => whnf) | (refine Exists.intro _ (And.intro (rfl : _ = some _) ?_); with_reducible conv => whnf) | (refine And.intro (okII _ _) ?_; rw [eqD_ii]; with_reducible conv => whnf) | (refine And.intro (by first | assumption | exact Exists.intro _ (by assumption) | exact ⟨rfl, rfl, by decide, by decide⟩ | exact Nat.le_of_ble_eq_true rfl | exact rfl) ?_; with_reducible conv => whnf) | (rw [isLst_at (by assumption)]; with_reducible conv => whnf) | (refine ifT rfl ?_; with_reducible conv => whnf) | (refine ifF rfl ?_; with_reducible conv => whnf) | (refine it_at (by assumption) ?_; with_reducible conv => whnf)))
      refine ⟨⟨by decide, by decide⟩, ?_⟩
      ((with_reducible conv => whnf); repeat (first | (rw [natD_len]; with_reducible conv => whnf) | (rw [intD_len]; with_reducible conv => whnf) | (refine Exists.intro _ (And.intro (rfl : _ = some _) ?_); with_reducible conv => whnf) | (refine And.intro (okII _ _) ?_; rw [eqD_ii]; with_reducible conv => whnf) | (refine And.intro (by first | assumption | exact Exists.intro _ (by assumption) | exact ⟨rfl, rfl, by decide, by decide⟩ | exact Nat.le_of_ble_eq_true rfl | exact rfl) ?_; with_reducible conv => whnf) | (rw [isLst_at (by assumption)]; with_reducible conv => whnf) | (refine ifT rfl ?_; with_reducible conv => whnf) | (refine ifF rfl ?_; with_reducible conv => whnf) | (refine it_at (by assumption) ?_; with_reducible conv => whnf)))
      refine ⟨smallMul' (by decide), ?_⟩
      rw [Int.fdiv_eq_ediv_of_nonneg _ (by decide)]
      ((with_reducible conv => whnf); repeat (first | (rw [natD_len]; with_reducible conv => whnf) | (rw [intD_len]; with_reducible conv => whnf) | (refine Exists.intro _ (And.intro (rfl : _ = some _) ?_); with_reducible conv => whnf) | (refine And.intro (okII _ _) ?_; rw [eqD_ii]; with_reducible conv => whnf) | (refine And.intro (by first | assumption | exact Exists.intro _ (by assumption) | exact ⟨rfl, rfl, by decide, by decide⟩ | exact Nat.le_of_ble_eq_true rfl | exact rfl) ?_; with_reducible conv => whnf) | (rw [isLst_at (by assumption)]; with_reducible conv => whnf) | (refine ifT rfl ?_; with_reducible conv => whnf) | (refine ifF rfl ?_; with_reducible conv => whnf) | (refine it_at (by assumption) ?_; with_reducible conv => whnf)))
      refine ite_d (fun h3 => ?_) fun h3 => ?_
      · rw [if_pos (.inr ⟨h2, by omega⟩)] at k
        ((with_reducible conv => whnf); repeat (first | (rw [natD_len]; with_reducible conv => whnf) | (rw [intD_len]; with_reducible conv => whnf) | (refine Exists.intro _ (And.intro (rfl : _ = some _) ?_); with_reducible conv => whnf) | (refine And.intro (okII _ _) ?_; rw [eqD_ii]; with_reducible conv => whnf) | (refine And.intro (by first | assumption | exact Exists.intro _ (by assumption) | exact ⟨rfl, rfl, by decide, by decide⟩ | exact Nat.le_of_ble_eq_true rfl | exact rfl) ?_; with_reducible conv => whnf) | (rw [isLst_at (by assumption)]; with_reducible conv => whnf) | (refine ifT rfl ?_; with_reducible conv => whnf) | (refine ifF rfl ?_; with_reducible conv => whnf) | (refine it_at (by assumption) ?_; with_reducible conv => whnf)))
        exact k
      · rw [if_neg (by omega)] at k
        ((with_reducible conv => whnf); repeat (first | (rw [natD_len]; with_reducible conv => whnf) | (rw [intD_len]; with_reducible conv => whnf) | (refine Exists.intro _ (And.intro (rfl : _ = some _) ?_); with_reducible conv => whnf) | (refine And.intro (okII _ _) ?_; rw [eqD_ii]; with_reducible conv => whnf) | (refine And.intro (by first | assumption | exact Exists.intro _ (by assumption) | exact ⟨rfl, rfl, by decide, by decide⟩ | exact Nat.le_of_ble_eq_true rfl | exact rfl) ?_; with_reducible conv => whnf) | (rw [isLst_at (by assumption)]; with_reducible conv => whnf) | (refine ifT rfl ?_; with_reducible conv => whnf) | (refine ifF rfl ?_; with_reducible conv => whnf) | (refine it_at (by assumption) ?_; with_reducible conv => whnf)))
        exact k
    · rw [if_neg (by omega)] at k
      ((with_reducible conv => whnf); repeat (first | (rw [natD_len]; with_reducible conv => whnf) | (rw [intD_len]; with_reducible conv => whnf) | (refine Exists.intro _ (And.intro (rfl : _ = some _) ?_); with_reducible conv => whnf) | (refine And.intro (okII _ _) ?_; rw [eqD_ii]; with_reducible conv => whnf) | (refine And.intro (by first | assumption | exact Exists.intro _ (by assumption) | exact ⟨rfl, rfl, by decide, by decide⟩ | exact Nat.le_of_ble_eq_true rfl | exact rfl) ?_; with_reducible conv => whnf) | (rw [isLst_at (by assumption)]; with_reducible conv => whnf) | (refine ifT rfl ?_; with_reducible conv => whnf) | (refine ifF rfl ?_; with_reducible conv => whnf) | (refine it_at (by assumption) ?_; with_reducible conv => whnf)))
      exact k
@[reducible] def sp_bt : Spc := fun ds S Q => ∃ (p : Rat) (a b : Nat) (c : Int), ds = [qD p, .int a, .int b, .int c] ∧ Chc p ∧ 1 ≤ a ∧ a ≤ 200 ∧ 1 ≤ b ∧ b ≤ 200 ∧ c.natAbs < 2 ^ 1100000 ∧ ∀ S', Sub S S' → Q (.bl true) S'
theorem body_law_b_is_told : Body 4 4 (w_law_b_is_told sp_part sp_lcoins sp_coins (sp_same 1)) sp_bt := by
  rintro ds S Q _ ⟨p, a, b, c, rfl, hp, ha1, ha2, hb1, hb2, hc, k⟩
  unfold w_law_b_is_told
  (simp only [start, List.map_cons, List.map_nil, List.length_cons, List.length_nil, Nat.reduceAdd, Nat.reduceSub, List.replicate_succ, List.replicate_zero, List.cons_append, List.nil_append, Nat.sub_self, Nat.zero_add])
  ((with_reducible conv => whnf); repeat (first | (rw [natD_len]; with_reducible conv => whnf) | (rw [intD_len]; with_reducible conv => whnf) | (refine Exists.intro _ (And.intro (rfl : _ = some _) ?_); with_reducible conv => whnf) | (refine And.intro (okII _ _) ?_; rw [eqD_ii]; with_reducible conv => whnf) | (refine And.intro (by first | assumption | exact Exists.intro _ (by assumption) | exact ⟨rfl, rfl, by decide, by decide⟩ | exact Nat.le_of_ble_eq_true rfl | exact rfl) ?_; with_reducible conv => whnf) | (rw [isLst_at (by assumption)]; with_reducible conv => whnf) | (refine ifT rfl ?_; with_reducible conv => whnf) | (refine ifF rfl ?_; with_reducible conv => whnf) | (refine it_at (by assumption) ?_; with_reducible conv => whnf)))
  refine ⟨p, a, b, c, rfl, hp, ha1, ha2, hb1, hb2, hc, fun S1 s1 => ?_⟩
  ((with_reducible conv => whnf); repeat (first | (rw [natD_len]; with_reducible conv => whnf) | (rw [intD_len]; with_reducible conv => whnf) | (refine Exists.intro _ (And.intro (rfl : _ = some _) ?_); with_reducible conv => whnf) | (refine And.intro (okII _ _) ?_; rw [eqD_ii]; with_reducible conv => whnf) | (refine And.intro (by first | assumption | exact Exists.intro _ (by assumption) | exact ⟨rfl, rfl, by decide, by decide⟩ | exact Nat.le_of_ble_eq_true rfl | exact rfl) ?_; with_reducible conv => whnf) | (rw [isLst_at (by assumption)]; with_reducible conv => whnf) | (refine ifT rfl ?_; with_reducible conv => whnf) | (refine ifF rfl ?_; with_reducible conv => whnf) | (refine it_at (by assumption) ?_; with_reducible conv => whnf)))
  refine ⟨p, a, b, rfl, hp, ha1, ha2, hb1, hb2, fun S2 s2 => ?_⟩
  ((with_reducible conv => whnf); repeat (first | (rw [natD_len]; with_reducible conv => whnf) | (rw [intD_len]; with_reducible conv => whnf) | (refine Exists.intro _ (And.intro (rfl : _ = some _) ?_); with_reducible conv => whnf) | (refine And.intro (okII _ _) ?_; rw [eqD_ii]; with_reducible conv => whnf) | (refine And.intro (by first | assumption | exact Exists.intro _ (by assumption) | exact ⟨rfl, rfl, by decide, by decide⟩ | exact Nat.le_of_ble_eq_true rfl | exact rfl) ?_; with_reducible conv => whnf) | (rw [isLst_at (by assumption)]; with_reducible conv => whnf) | (refine ifT rfl ?_; with_reducible conv => whnf) | (refine ifF rfl ?_; with_reducible conv => whnf) | (refine it_at (by assumption) ?_; with_reducible conv => whnf)))
  refine ⟨FP p a b, c, rfl, FP_mid hp (by omega), hc, fun S3 s3 => ?_⟩
  ((with_reducible conv => whnf); repeat (first | (rw [natD_len]; with_reducible conv => whnf) | (rw [intD_len]; with_reducible conv => whnf) | (refine Exists.intro _ (And.intro (rfl : _ = some _) ?_); with_reducible conv => whnf) | (refine And.intro (okII _ _) ?_; rw [eqD_ii]; with_reducible conv => whnf) | (refine And.intro (by first | assumption | exact Exists.intro _ (by assumption) | exact ⟨rfl, rfl, by decide, by decide⟩ | exact Nat.le_of_ble_eq_true rfl | exact rfl) ?_; with_reducible conv => whnf) | (rw [isLst_at (by assumption)]; with_reducible conv => whnf) | (refine ifT rfl ?_; with_reducible conv => whnf) | (refine ifF rfl ?_; with_reducible conv => whnf) | (refine it_at (by assumption) ?_; with_reducible conv => whnf)))
  exact ⟨_, rfl, (sli _).1, (sli _).2.1, (sli _).2.2, fun S4 s4 => k _ (s1.trans (s2.trans (s3.trans s4)))⟩
end K80
set_option linter.all false
set_option maxRecDepth 100000
set_option maxHeartbeats 4000000
namespace K80
open DL
@[reducible] def sp_p1 : Spc := fun ds S Q => ∃ ns, ds = [.rol (intD ns)] ∧ ns.length ≤ 63 ∧ (∀ z ∈ ns, z.natAbs < 2 ^ 1048576) ∧ ∀ S', Q (.bl true) S'
theorem b2i (c : Prop) [Decidable c] : (if decide c = true then (1 : Int) else 0) = if c then 1 else 0 := by
  by_cases h : c
  · rw [if_pos h, if_pos (decide_eq_true h)]
  · rw [if_neg h, if_neg (by rw [decide_eq_false h]; decide)]
theorem half : D.tup [.int 1, .int 2] = qD (Rat.divInt 1 2) := by
  have h : (Rat.divInt 1 2).num = 1 ∧ (Rat.divInt 1 2).den = 2 := by decide +kernel
  unfold qD
  rw [h.1, h.2]
  rfl
theorem chalf : Chc (Rat.divInt 1 2) := chc_div (by decide) (by decide) (by decide) (Nat.lt_of_lt_of_le (show 2 < 2 ^ 2 by decide) (Nat.pow_le_pow_right (by decide) (by decide)))
theorem c01 : Chc 0 ∧ Chc 1 := ⟨⟨by decide, by decide, Nat.one_lt_two_pow (by decide)⟩, ⟨by decide, by decide, Nat.one_lt_two_pow (by decide)⟩⟩
theorem f1 : FP (Rat.divInt 1 2) 2 1 = Rat.divInt 1 4 := by
  rw [fps, fps, fp0, fpz, fpz]; decide +kernel
theorem f2 : MG (Rat.divInt 1 2) 2 1 = Rat.divInt 3 2 := by
  rw [mgs, mgs, mg0, mgz, mgz]; decide +kernel
theorem quarter : D.tup [.int 1, .int 4] = qD (Rat.divInt 1 4) := by
  have h : (Rat.divInt 1 4).num = 1 ∧ (Rat.divInt 1 4).den = 4 := by decide +kernel
  unfold qD
  rw [h.1, h.2]
  rfl
theorem threeh : D.tup [.int 3, .int 2] = qD (Rat.divInt 3 2) := by
  have h : (Rat.divInt 3 2).num = 3 ∧ (Rat.divInt 3 2).den = 2 := by decide +kernel
  unfold qD
  rw [h.1, h.2]
  rfl
theorem q01 : D.tup [.int 0, .int 1] = qD 0 ∧ D.tup [.int 1, .int 1] = qD 1 := ⟨rfl, rfl⟩
theorem one_B {Q : VK} {n0 a b f g : Nat} {m : Int} {p o : Rat} {x0 x3 x9 : Option D} {S : Sto} (hp : Chc p) (ho : Chc o) (ha1 : 1 ≤ a) (ha2 : a ≤ 200) (hb1 : 1 ≤ b) (hb2 : b ≤ 200) (hf : 1 ≤ f ∧ f ≤ 5) (hg : 1 ≤ g ∧ g ≤ 5) (kk : ∀ S', Q (.bl true) S') :
    w_law_part_one_t10 sp_draws sp_chance sp_take sp_told sp_part sp_plus sp_part (sp_same 1) sp_mean { nx := fun _ S' => Q .non S', rt := Q, bk := fun _ _ => False, ct := fun _ _ => False } [x0, some (.ref n0), some (qD p), x3, some (.int m), some (.int a), some (.int b), some (.tup [.int f, .int g]), some (qD o), x9] S := by
  ((with_reducible conv => whnf); repeat (first | (rw [natD_len]; with_reducible conv => whnf) | (rw [intD_len]; with_reducible conv => whnf) | (refine Exists.intro _ (And.intro (rfl : _ = some _) ?_); with_reducible conv => whnf) | (refine And.intro (okII _ _) ?_; rw [eqD_ii]; with_reducible conv => whnf) | (refine And.intro (by first | assumption | exact Exists.intro _ (by assumption) | exact ⟨rfl, rfl, by decide, by decide⟩ | exact Nat.le_of_ble_eq_true rfl | exact rfl) ?_; with_reducible conv => whnf) | (rw [isLst_at (by assumption)]; with_reducible conv => whnf) | (refine ifT rfl ?_; with_reducible conv => whnf) | (refine ifF rfl ?_; with_reducible conv => whnf) | (refine it_at (by assumption) ?_; with_reducible conv => whnf)))
  rw [q1]
  refine ⟨o, f, g, rfl, ho, hf.1, by omega, hg.1, by omega, fun S1 s1 => ?_⟩
  ((with_reducible conv => whnf); repeat (first | (rw [natD_len]; with_reducible conv => whnf) | (rw [intD_len]; with_reducible conv => whnf) | (refine Exists.intro _ (And.intro (rfl : _ = some _) ?_); with_reducible conv => whnf) | (refine And.intro (okII _ _) ?_; rw [eqD_ii]; with_reducible conv => whnf) | (refine And.intro (by first | assumption | exact Exists.intro _ (by assumption) | exact ⟨rfl, rfl, by decide, by decide⟩ | exact Nat.le_of_ble_eq_true rfl | exact rfl) ?_; with_reducible conv => whnf) | (rw [isLst_at (by assumption)]; with_reducible conv => whnf) | (refine ifT rfl ?_; with_reducible conv => whnf) | (refine ifF rfl ?_; with_reducible conv => whnf) | (refine it_at (by assumption) ?_; with_reducible conv => whnf)))
  refine ⟨1 - o, g, f, rfl, ho.sub, hg.1, by omega, hf.1, by omega, fun S2 s2 => ?_⟩
  ((with_reducible conv => whnf); repeat (first | (rw [natD_len]; with_reducible conv => whnf) | (rw [intD_len]; with_reducible conv => whnf) | (refine Exists.intro _ (And.intro (rfl : _ = some _) ?_); with_reducible conv => whnf) | (refine And.intro (okII _ _) ?_; rw [eqD_ii]; with_reducible conv => whnf) | (refine And.intro (by first | assumption | exact Exists.intro _ (by assumption) | exact ⟨rfl, rfl, by decide, by decide⟩ | exact Nat.le_of_ble_eq_true rfl | exact rfl) ?_; with_reducible conv => whnf) | (rw [isLst_at (by assumption)]; with_reducible conv => whnf) | (refine ifT rfl ?_; with_reducible conv => whnf) | (refine ifF rfl ?_; with_reducible conv => whnf) | (refine it_at (by assumption) ?_; with_reducible conv => whnf)))
  refine ⟨o, f, g, rfl, ho, hf.1, by omega, hg.1, by omega, fun S3 s3 => ?_⟩
  ((with_reducible conv => whnf); repeat (first | (rw [natD_len]; with_reducible conv => whnf) | (rw [intD_len]; with_reducible conv => whnf) | (refine Exists.intro _ (And.intro (rfl : _ = some _) ?_); with_reducible conv => whnf) | (refine And.intro (okII _ _) ?_; rw [eqD_ii]; with_reducible conv => whnf) | (refine And.intro (by first | assumption | exact Exists.intro _ (by assumption) | exact ⟨rfl, rfl, by decide, by decide⟩ | exact Nat.le_of_ble_eq_true rfl | exact rfl) ?_; with_reducible conv => whnf) | (rw [isLst_at (by assumption)]; with_reducible conv => whnf) | (refine ifT rfl ?_; with_reducible conv => whnf) | (refine ifF rfl ?_; with_reducible conv => whnf) | (refine it_at (by assumption) ?_; with_reducible conv => whnf)))
  refine ⟨1 - o, g, f, rfl, ho.sub, hg.1, by omega, hf.1, by omega, fun S4 s4 => ?_⟩
  ((with_reducible conv => whnf); repeat (first | (rw [natD_len]; with_reducible conv => whnf) | (rw [intD_len]; with_reducible conv => whnf) | (refine Exists.intro _ (And.intro (rfl : _ = some _) ?_); with_reducible conv => whnf) | (refine And.intro (okII _ _) ?_; rw [eqD_ii]; with_reducible conv => whnf) | (refine And.intro (by first | assumption | exact Exists.intro _ (by assumption) | exact ⟨rfl, rfl, by decide, by decide⟩ | exact Nat.le_of_ble_eq_true rfl | exact rfl) ?_; with_reducible conv => whnf) | (rw [isLst_at (by assumption)]; with_reducible conv => whnf) | (refine ifT rfl ?_; with_reducible conv => whnf) | (refine ifF rfl ?_; with_reducible conv => whnf) | (refine it_at (by assumption) ?_; with_reducible conv => whnf)))
  refine ⟨FP o f g, FP (1 - o) g f, rfl, FP_mid ho (by omega), FP_mid ho.sub (by omega), fun S5 s5 => ?_⟩
  rw [FP_sum o f g (by omega)]
  (with_reducible conv => whnf)
  refine ⟨Nat.le_of_ble_eq_true rfl, ?_⟩
  (with_reducible conv => whnf)
  refine ⟨qD_ok 1 1, ?_⟩
  rw [show eqD (qD 1) (D.tup [.int 1, .int 1]) = true from eqD_self (qD 1) rfl]
  have rest : ∀ S6, w_law_part_one_t14 sp_draws sp_chance sp_take sp_told sp_part sp_plus sp_part (sp_same 1) sp_mean { nx := fun _ S' => Q .non S', rt := Q, bk := fun _ _ => False, ct := fun _ _ => False } [x0, some (.ref n0), some (qD p), x3, some (.int m), some (.int a), some (.int b), some (.tup [.int f, .int g]), some (qD o), some (qD (1 - o))] S6 := by
    intro S6
    ((with_reducible conv => whnf); repeat (first | (rw [natD_len]; with_reducible conv => whnf) | (rw [intD_len]; with_reducible conv => whnf) | (refine Exists.intro _ (And.intro (rfl : _ = some _) ?_); with_reducible conv => whnf) | (refine And.intro (okII _ _) ?_; rw [eqD_ii]; with_reducible conv => whnf) | (refine And.intro (by first | assumption | exact Exists.intro _ (by assumption) | exact ⟨rfl, rfl, by decide, by decide⟩ | exact Nat.le_of_ble_eq_true rfl | exact rfl) ?_; with_reducible conv => whnf) | (rw [isLst_at (by assumption)]; with_reducible conv => whnf) | (refine ifT rfl ?_; with_reducible conv => whnf) | (refine ifF rfl ?_; with_reducible conv => whnf) | (refine it_at (by assumption) ?_; with_reducible conv => whnf)))
    rw [half]
    refine ⟨_, 2, 1, rfl, chalf, by decide, by decide, by decide, by decide, fun S7 s7 => ?_⟩
    rw [f1]
    ((with_reducible conv => whnf); repeat (first | (rw [natD_len]; with_reducible conv => whnf) | (rw [intD_len]; with_reducible conv => whnf) | (refine Exists.intro _ (And.intro (rfl : _ = some _) ?_); with_reducible conv => whnf) | (refine And.intro (okII _ _) ?_; rw [eqD_ii]; with_reducible conv => whnf) | (refine And.intro (by first | assumption | exact Exists.intro _ (by assumption) | exact ⟨rfl, rfl, by decide, by decide⟩ | exact Nat.le_of_ble_eq_true rfl | exact rfl) ?_; with_reducible conv => whnf) | (rw [isLst_at (by assumption)]; with_reducible conv => whnf) | (refine ifT rfl ?_; with_reducible conv => whnf) | (refine ifF rfl ?_; with_reducible conv => whnf) | (refine it_at (by assumption) ?_; with_reducible conv => whnf)))
    rw [quarter]
    refine ⟨_, rfl, (slq _).1, (slq _).2.1, (slq _).2.2, fun S8 s8 => ?_⟩
    ((with_reducible conv => whnf); repeat (first | (rw [natD_len]; with_reducible conv => whnf) | (rw [intD_len]; with_reducible conv => whnf) | (refine Exists.intro _ (And.intro (rfl : _ = some _) ?_); with_reducible conv => whnf) | (refine And.intro (okII _ _) ?_; rw [eqD_ii]; with_reducible conv => whnf) | (refine And.intro (by first | assumption | exact Exists.intro _ (by assumption) | exact ⟨rfl, rfl, by decide, by decide⟩ | exact Nat.le_of_ble_eq_true rfl | exact rfl) ?_; with_reducible conv => whnf) | (rw [isLst_at (by assumption)]; with_reducible conv => whnf) | (refine ifT rfl ?_; with_reducible conv => whnf) | (refine ifF rfl ?_; with_reducible conv => whnf) | (refine it_at (by assumption) ?_; with_reducible conv => whnf)))
    refine ⟨_, 2, 1, rfl, chalf, by decide, by decide, by decide, by decide, fun S9 s9 => ?_⟩
    rw [f2]
    ((with_reducible conv => whnf); repeat (first | (rw [natD_len]; with_reducible conv => whnf) | (rw [intD_len]; with_reducible conv => whnf) | (refine Exists.intro _ (And.intro (rfl : _ = some _) ?_); with_reducible conv => whnf) | (refine And.intro (okII _ _) ?_; rw [eqD_ii]; with_reducible conv => whnf) | (refine And.intro (by first | assumption | exact Exists.intro _ (by assumption) | exact ⟨rfl, rfl, by decide, by decide⟩ | exact Nat.le_of_ble_eq_true rfl | exact rfl) ?_; with_reducible conv => whnf) | (rw [isLst_at (by assumption)]; with_reducible conv => whnf) | (refine ifT rfl ?_; with_reducible conv => whnf) | (refine ifF rfl ?_; with_reducible conv => whnf) | (refine it_at (by assumption) ?_; with_reducible conv => whnf)))
    rw [threeh]
    refine ⟨_, rfl, (slq _).1, (slq _).2.1, (slq _).2.2, fun S10 s10 => ?_⟩
    ((with_reducible conv => whnf); repeat (first | (rw [natD_len]; with_reducible conv => whnf) | (rw [intD_len]; with_reducible conv => whnf) | (refine Exists.intro _ (And.intro (rfl : _ = some _) ?_); with_reducible conv => whnf) | (refine And.intro (okII _ _) ?_; rw [eqD_ii]; with_reducible conv => whnf) | (refine And.intro (by first | assumption | exact Exists.intro _ (by assumption) | exact ⟨rfl, rfl, by decide, by decide⟩ | exact Nat.le_of_ble_eq_true rfl | exact rfl) ?_; with_reducible conv => whnf) | (rw [isLst_at (by assumption)]; with_reducible conv => whnf) | (refine ifT rfl ?_; with_reducible conv => whnf) | (refine ifF rfl ?_; with_reducible conv => whnf) | (refine it_at (by assumption) ?_; with_reducible conv => whnf)))
    refine ⟨0, a, b, rfl, c01.1, ha1, ha2, hb1, hb2, fun S11 s11 => ?_⟩
    obtain ⟨a', rfl⟩ : ∃ x, a = x + 1 := ⟨a - 1, by omega⟩
    obtain ⟨b', rfl⟩ : ∃ x, b = x + 1 := ⟨b - 1, by omega⟩
    rw [FP_0]
    ((with_reducible conv => whnf); repeat (first | (rw [natD_len]; with_reducible conv => whnf) | (rw [intD_len]; with_reducible conv => whnf) | (refine Exists.intro _ (And.intro (rfl : _ = some _) ?_); with_reducible conv => whnf) | (refine And.intro (okII _ _) ?_; rw [eqD_ii]; with_reducible conv => whnf) | (refine And.intro (by first | assumption | exact Exists.intro _ (by assumption) | exact ⟨rfl, rfl, by decide, by decide⟩ | exact Nat.le_of_ble_eq_true rfl | exact rfl) ?_; with_reducible conv => whnf) | (rw [isLst_at (by assumption)]; with_reducible conv => whnf) | (refine ifT rfl ?_; with_reducible conv => whnf) | (refine ifF rfl ?_; with_reducible conv => whnf) | (refine it_at (by assumption) ?_; with_reducible conv => whnf)))
    refine ⟨qD 0, rfl, (slq _).1, (slq _).2.1, (slq _).2.2, fun S12 s12 => ?_⟩
    ((with_reducible conv => whnf); repeat (first | (rw [natD_len]; with_reducible conv => whnf) | (rw [intD_len]; with_reducible conv => whnf) | (refine Exists.intro _ (And.intro (rfl : _ = some _) ?_); with_reducible conv => whnf) | (refine And.intro (okII _ _) ?_; rw [eqD_ii]; with_reducible conv => whnf) | (refine And.intro (by first | assumption | exact Exists.intro _ (by assumption) | exact ⟨rfl, rfl, by decide, by decide⟩ | exact Nat.le_of_ble_eq_true rfl | exact rfl) ?_; with_reducible conv => whnf) | (rw [isLst_at (by assumption)]; with_reducible conv => whnf) | (refine ifT rfl ?_; with_reducible conv => whnf) | (refine ifF rfl ?_; with_reducible conv => whnf) | (refine it_at (by assumption) ?_; with_reducible conv => whnf)))
    refine ⟨1, a' + 1, b' + 1, rfl, c01.2, ha1, ha2, hb1, hb2, fun S13 s13 => ?_⟩
    rw [FP_1]
    ((with_reducible conv => whnf); repeat (first | (rw [natD_len]; with_reducible conv => whnf) | (rw [intD_len]; with_reducible conv => whnf) | (refine Exists.intro _ (And.intro (rfl : _ = some _) ?_); with_reducible conv => whnf) | (refine And.intro (okII _ _) ?_; rw [eqD_ii]; with_reducible conv => whnf) | (refine And.intro (by first | assumption | exact Exists.intro _ (by assumption) | exact ⟨rfl, rfl, by decide, by decide⟩ | exact Nat.le_of_ble_eq_true rfl | exact rfl) ?_; with_reducible conv => whnf) | (rw [isLst_at (by assumption)]; with_reducible conv => whnf) | (refine ifT rfl ?_; with_reducible conv => whnf) | (refine ifF rfl ?_; with_reducible conv => whnf) | (refine it_at (by assumption) ?_; with_reducible conv => whnf)))
    refine ⟨qD 1, rfl, (slq _).1, (slq _).2.1, (slq _).2.2, fun S14 s14 => ?_⟩
    ((with_reducible conv => whnf); repeat (first | (rw [natD_len]; with_reducible conv => whnf) | (rw [intD_len]; with_reducible conv => whnf) | (refine Exists.intro _ (And.intro (rfl : _ = some _) ?_); with_reducible conv => whnf) | (refine And.intro (okII _ _) ?_; rw [eqD_ii]; with_reducible conv => whnf) | (refine And.intro (by first | assumption | exact Exists.intro _ (by assumption) | exact ⟨rfl, rfl, by decide, by decide⟩ | exact Nat.le_of_ble_eq_true rfl | exact rfl) ?_; with_reducible conv => whnf) | (rw [isLst_at (by assumption)]; with_reducible conv => whnf) | (refine ifT rfl ?_; with_reducible conv => whnf) | (refine ifF rfl ?_; with_reducible conv => whnf) | (refine it_at (by assumption) ?_; with_reducible conv => whnf)))
    refine ⟨1, f, g, rfl, c01.2, hf.1, by omega, hg.1, by omega, fun S15 s15 => ?_⟩
    obtain ⟨g', rfl⟩ : ∃ x, g = x + 1 := ⟨g - 1, by omega⟩
    rw [MG_1]
    ((with_reducible conv => whnf); repeat (first | (rw [natD_len]; with_reducible conv => whnf) | (rw [intD_len]; with_reducible conv => whnf) | (refine Exists.intro _ (And.intro (rfl : _ = some _) ?_); with_reducible conv => whnf) | (refine And.intro (okII _ _) ?_; rw [eqD_ii]; with_reducible conv => whnf) | (refine And.intro (by first | assumption | exact Exists.intro _ (by assumption) | exact ⟨rfl, rfl, by decide, by decide⟩ | exact Nat.le_of_ble_eq_true rfl | exact rfl) ?_; with_reducible conv => whnf) | (rw [isLst_at (by assumption)]; with_reducible conv => whnf) | (refine ifT rfl ?_; with_reducible conv => whnf) | (refine ifF rfl ?_; with_reducible conv => whnf) | (refine it_at (by assumption) ?_; with_reducible conv => whnf)))
    rw [show D.tup [.int (f : Int), .int 1] = qD ((f : Nat) : Rat) from (qD_int (f : Int)).symm]
    refine ⟨_, rfl, (slq _).1, (slq _).2.1, (slq _).2.2, fun S16 s16 => ?_⟩
    ((with_reducible conv => whnf); repeat (first | (rw [natD_len]; with_reducible conv => whnf) | (rw [intD_len]; with_reducible conv => whnf) | (refine Exists.intro _ (And.intro (rfl : _ = some _) ?_); with_reducible conv => whnf) | (refine And.intro (okII _ _) ?_; rw [eqD_ii]; with_reducible conv => whnf) | (refine And.intro (by first | assumption | exact Exists.intro _ (by assumption) | exact ⟨rfl, rfl, by decide, by decide⟩ | exact Nat.le_of_ble_eq_true rfl | exact rfl) ?_; with_reducible conv => whnf) | (rw [isLst_at (by assumption)]; with_reducible conv => whnf) | (refine ifT rfl ?_; with_reducible conv => whnf) | (refine ifF rfl ?_; with_reducible conv => whnf) | (refine it_at (by assumption) ?_; with_reducible conv => whnf)))
    refine ⟨_, 200, 200, rfl, chalf, by decide, by decide, by decide, by decide, fun S17 s17 => ?_⟩
    rw [FP_half 200 (by decide)]
    ((with_reducible conv => whnf); repeat (first | (rw [natD_len]; with_reducible conv => whnf) | (rw [intD_len]; with_reducible conv => whnf) | (refine Exists.intro _ (And.intro (rfl : _ = some _) ?_); with_reducible conv => whnf) | (refine And.intro (okII _ _) ?_; rw [eqD_ii]; with_reducible conv => whnf) | (refine And.intro (by first | assumption | exact Exists.intro _ (by assumption) | exact ⟨rfl, rfl, by decide, by decide⟩ | exact Nat.le_of_ble_eq_true rfl | exact rfl) ?_; with_reducible conv => whnf) | (rw [isLst_at (by assumption)]; with_reducible conv => whnf) | (refine ifT rfl ?_; with_reducible conv => whnf) | (refine ifF rfl ?_; with_reducible conv => whnf) | (refine it_at (by assumption) ?_; with_reducible conv => whnf)))
    exact ⟨_, rfl, (slq _).1, (slq _).2.1, (slq _).2.2, fun S18 s18 => kk _⟩
  ((with_reducible conv => whnf); repeat (first | (rw [natD_len]; with_reducible conv => whnf) | (rw [intD_len]; with_reducible conv => whnf) | (refine Exists.intro _ (And.intro (rfl : _ = some _) ?_); with_reducible conv => whnf) | (refine And.intro (okII _ _) ?_; rw [eqD_ii]; with_reducible conv => whnf) | (refine And.intro (by first | assumption | exact Exists.intro _ (by assumption) | exact ⟨rfl, rfl, by decide, by decide⟩ | exact Nat.le_of_ble_eq_true rfl | exact rfl) ?_; with_reducible conv => whnf) | (rw [isLst_at (by assumption)]; with_reducible conv => whnf) | (refine ifT rfl ?_; with_reducible conv => whnf) | (refine ifF rfl ?_; with_reducible conv => whnf) | (refine it_at (by assumption) ?_; with_reducible conv => whnf)))
  refine ite_d (fun hc => ?_) fun hc => ?_
  · ((with_reducible conv => whnf); repeat (first | (rw [natD_len]; with_reducible conv => whnf) | (rw [intD_len]; with_reducible conv => whnf) | (refine Exists.intro _ (And.intro (rfl : _ = some _) ?_); with_reducible conv => whnf) | (refine And.intro (okII _ _) ?_; rw [eqD_ii]; with_reducible conv => whnf) | (refine And.intro (by first | assumption | exact Exists.intro _ (by assumption) | exact ⟨rfl, rfl, by decide, by decide⟩ | exact Nat.le_of_ble_eq_true rfl | exact rfl) ?_; with_reducible conv => whnf) | (rw [isLst_at (by assumption)]; with_reducible conv => whnf) | (refine ifT rfl ?_; with_reducible conv => whnf) | (refine ifF rfl ?_; with_reducible conv => whnf) | (refine it_at (by assumption) ?_; with_reducible conv => whnf)))
    refine ⟨p, a, b, rfl, hp, ha1, ha2, hb1, hb2, fun S6 s6 => ?_⟩
    exact rest _
  · exact rest _
theorem one_A {Q : VK} {n0 : Nat} {ns : List Int} {m : Nat} {p : Rat} {x3 x5 x6 x7 x8 x9 : Option D} {S : Sto} (hl : ns.length ≤ 63) (hb : ∀ z ∈ ns, z.natAbs < 2 ^ 1048576) (hp : Chc p) (hm : 1 ≤ m ∧ m ≤ 200) (kk : ∀ S', Q (.bl true) S') (d0 : Dr n0 S) :
    w_law_part_one_t5 sp_draws sp_chance sp_take sp_told sp_part sp_plus sp_part (sp_same 1) sp_mean { nx := fun _ S' => Q .non S', rt := Q, bk := fun _ _ => False, ct := fun _ _ => False } [some (.rol (intD ns)), some (.ref n0), some (qD p), x3, some (.int m), x5, x6, x7, x8, x9] S := by
  ((with_reducible conv => whnf); repeat (first | (rw [natD_len]; with_reducible conv => whnf) | (rw [intD_len]; with_reducible conv => whnf) | (refine Exists.intro _ (And.intro (rfl : _ = some _) ?_); with_reducible conv => whnf) | (refine And.intro (okII _ _) ?_; rw [eqD_ii]; with_reducible conv => whnf) | (refine And.intro (by first | assumption | exact Exists.intro _ (by assumption) | exact ⟨rfl, rfl, by decide, by decide⟩ | exact Nat.le_of_ble_eq_true rfl | exact rfl) ?_; with_reducible conv => whnf) | (rw [isLst_at (by assumption)]; with_reducible conv => whnf) | (refine ifT rfl ?_; with_reducible conv => whnf) | (refine ifF rfl ?_; with_reducible conv => whnf) | (refine it_at (by assumption) ?_; with_reducible conv => whnf)))
  refine ⟨n0, m, rfl, by omega, d0, fun u S1 u0 u1 d1 c1 => ?_⟩
  (with_reducible conv => whnf)
  obtain ⟨a, ha⟩ : ∃ a : Nat, 1 + u = a := ⟨(1 + u).toNat, by omega⟩
  rw [ha]
  ((with_reducible conv => whnf); repeat (first | (rw [natD_len]; with_reducible conv => whnf) | (rw [intD_len]; with_reducible conv => whnf) | (refine Exists.intro _ (And.intro (rfl : _ = some _) ?_); with_reducible conv => whnf) | (refine And.intro (okII _ _) ?_; rw [eqD_ii]; with_reducible conv => whnf) | (refine And.intro (by first | assumption | exact Exists.intro _ (by assumption) | exact ⟨rfl, rfl, by decide, by decide⟩ | exact Nat.le_of_ble_eq_true rfl | exact rfl) ?_; with_reducible conv => whnf) | (rw [isLst_at (by assumption)]; with_reducible conv => whnf) | (refine ifT rfl ?_; with_reducible conv => whnf) | (refine ifF rfl ?_; with_reducible conv => whnf) | (refine it_at (by assumption) ?_; with_reducible conv => whnf)))
  refine ⟨n0, m, rfl, by omega, d1, fun v S2 v0 v1 d2 c2 => ?_⟩
  (with_reducible conv => whnf)
  obtain ⟨b0, hb0⟩ : ∃ a : Nat, 1 + v = a := ⟨(1 + v).toNat, by omega⟩
  rw [hb0]
  ((with_reducible conv => whnf); repeat (first | (rw [natD_len]; with_reducible conv => whnf) | (rw [intD_len]; with_reducible conv => whnf) | (refine Exists.intro _ (And.intro (rfl : _ = some _) ?_); with_reducible conv => whnf) | (refine And.intro (okII _ _) ?_; rw [eqD_ii]; with_reducible conv => whnf) | (refine And.intro (by first | assumption | exact Exists.intro _ (by assumption) | exact ⟨rfl, rfl, by decide, by decide⟩ | exact Nat.le_of_ble_eq_true rfl | exact rfl) ?_; with_reducible conv => whnf) | (rw [isLst_at (by assumption)]; with_reducible conv => whnf) | (refine ifT rfl ?_; with_reducible conv => whnf) | (refine ifF rfl ?_; with_reducible conv => whnf) | (refine it_at (by assumption) ?_; with_reducible conv => whnf)))
  have ea := at_push S2 (.lst [.int b0, .int m])
  have d3 := d2.app [.lst [.int b0, .int m]]
  have hne : S2.length ≠ n0 := by have := d2.lt; omega
  generalize S2 ++ [O.lst [.int b0, .int m]] = S3 at *
  generalize S2.length = q at *
  refine ⟨n0, 9, rfl, by decide, d3, fun w S4 w0 w1 d4 c4 => ?_⟩
  have ea := c4 _ _ hne ea
  ((with_reducible conv => whnf); repeat (first | (rw [natD_len]; with_reducible conv => whnf) | (rw [intD_len]; with_reducible conv => whnf) | (refine Exists.intro _ (And.intro (rfl : _ = some _) ?_); with_reducible conv => whnf) | (refine And.intro (okII _ _) ?_; rw [eqD_ii]; with_reducible conv => whnf) | (refine And.intro (by first | assumption | exact Exists.intro _ (by assumption) | exact ⟨rfl, rfl, by decide, by decide⟩ | exact Nat.le_of_ble_eq_true rfl | exact rfl) ?_; with_reducible conv => whnf) | (rw [isLst_at (by assumption)]; with_reducible conv => whnf) | (refine ifT rfl ?_; with_reducible conv => whnf) | (refine ifF rfl ?_; with_reducible conv => whnf) | (refine it_at (by assumption) ?_; with_reducible conv => whnf)))
  rw [b2i]
  obtain ⟨b, hb', hbb⟩ : ∃ b : Nat, (1 ≤ b ∧ b ≤ 200) ∧ atZ [D.int b0, .int m] (if w = 0 then 1 else 0) = some (.int (b : Int)) := by
    by_cases c : w = 0
    · rw [if_pos c]; exact ⟨m, hm, rfl⟩
    · rw [if_neg c]; exact ⟨b0, by omega, rfl⟩
  refine ⟨_, hbb, ?_⟩
  ((with_reducible conv => whnf); repeat (first | (rw [natD_len]; with_reducible conv => whnf) | (rw [intD_len]; with_reducible conv => whnf) | (refine Exists.intro _ (And.intro (rfl : _ = some _) ?_); with_reducible conv => whnf) | (refine And.intro (okII _ _) ?_; rw [eqD_ii]; with_reducible conv => whnf) | (refine And.intro (by first | assumption | exact Exists.intro _ (by assumption) | exact ⟨rfl, rfl, by decide, by decide⟩ | exact Nat.le_of_ble_eq_true rfl | exact rfl) ?_; with_reducible conv => whnf) | (rw [isLst_at (by assumption)]; with_reducible conv => whnf) | (refine ifT rfl ?_; with_reducible conv => whnf) | (refine ifF rfl ?_; with_reducible conv => whnf) | (refine it_at (by assumption) ?_; with_reducible conv => whnf)))
  refine ⟨p, a, b, rfl, hp, by omega, by omega, hb'.1, hb'.2, fun S5 s5 => ?_⟩
  have d5 := d4.sub s5
  ((with_reducible conv => whnf); repeat (first | (rw [natD_len]; with_reducible conv => whnf) | (rw [intD_len]; with_reducible conv => whnf) | (refine Exists.intro _ (And.intro (rfl : _ = some _) ?_); with_reducible conv => whnf) | (refine And.intro (okII _ _) ?_; rw [eqD_ii]; with_reducible conv => whnf) | (refine And.intro (by first | assumption | exact Exists.intro _ (by assumption) | exact ⟨rfl, rfl, by decide, by decide⟩ | exact Nat.le_of_ble_eq_true rfl | exact rfl) ?_; with_reducible conv => whnf) | (rw [isLst_at (by assumption)]; with_reducible conv => whnf) | (refine ifT rfl ?_; with_reducible conv => whnf) | (refine ifF rfl ?_; with_reducible conv => whnf) | (refine it_at (by assumption) ?_; with_reducible conv => whnf)))
  refine ⟨n0, 5, rfl, by decide, d5, fun f S6 f0 f1 d6 c6 => ?_⟩
  ((with_reducible conv => whnf); repeat (first | (rw [natD_len]; with_reducible conv => whnf) | (rw [intD_len]; with_reducible conv => whnf) | (refine Exists.intro _ (And.intro (rfl : _ = some _) ?_); with_reducible conv => whnf) | (refine And.intro (okII _ _) ?_; rw [eqD_ii]; with_reducible conv => whnf) | (refine And.intro (by first | assumption | exact Exists.intro _ (by assumption) | exact ⟨rfl, rfl, by decide, by decide⟩ | exact Nat.le_of_ble_eq_true rfl | exact rfl) ?_; with_reducible conv => whnf) | (rw [isLst_at (by assumption)]; with_reducible conv => whnf) | (refine ifT rfl ?_; with_reducible conv => whnf) | (refine ifF rfl ?_; with_reducible conv => whnf) | (refine it_at (by assumption) ?_; with_reducible conv => whnf)))
  refine ⟨n0, 5, rfl, by decide, d6, fun g S7 g0 g1 d7 c7 => ?_⟩
  (with_reducible conv => whnf)
  obtain ⟨fn, hf⟩ : ∃ a : Nat, 1 + f = a := ⟨(1 + f).toNat, by omega⟩
  obtain ⟨gn, hg⟩ : ∃ a : Nat, 1 + g = a := ⟨(1 + g).toNat, by omega⟩
  rw [hf, hg]
  ((with_reducible conv => whnf); repeat (first | (rw [natD_len]; with_reducible conv => whnf) | (rw [intD_len]; with_reducible conv => whnf) | (refine Exists.intro _ (And.intro (rfl : _ = some _) ?_); with_reducible conv => whnf) | (refine And.intro (okII _ _) ?_; rw [eqD_ii]; with_reducible conv => whnf) | (refine And.intro (by first | assumption | exact Exists.intro _ (by assumption) | exact ⟨rfl, rfl, by decide, by decide⟩ | exact Nat.le_of_ble_eq_true rfl | exact rfl) ?_; with_reducible conv => whnf) | (rw [isLst_at (by assumption)]; with_reducible conv => whnf) | (refine ifT rfl ?_; with_reducible conv => whnf) | (refine ifF rfl ?_; with_reducible conv => whnf) | (refine it_at (by assumption) ?_; with_reducible conv => whnf)))
  refine ⟨ns, n0, rfl, hl, hb, d7, fun o S8 ho d8 c8 => ?_⟩
  exact one_B (n0 := n0) (a := a) (b := b) (f := fn) (g := gn) hp ho (by omega) (by omega) hb'.1 hb'.2 (by omega) (by omega) kk
theorem body_law_part_one : Body 10 1 (w_law_part_one sp_draws sp_chance sp_take sp_told sp_part sp_plus sp_part (sp_same 1) sp_mean) sp_p1 := by
  rintro ds S Q _ ⟨ns, rfl, hl, hb, kk⟩
  unfold w_law_part_one
  (simp only [start, List.map_cons, List.map_nil, List.length_cons, List.length_nil, Nat.reduceAdd, Nat.reduceSub, List.replicate_succ, List.replicate_zero, List.cons_append, List.nil_append, Nat.sub_self, Nat.zero_add])
  ((with_reducible conv => whnf); repeat (first | (rw [natD_len]; with_reducible conv => whnf) | (rw [intD_len]; with_reducible conv => whnf) | (refine Exists.intro _ (And.intro (rfl : _ = some _) ?_); with_reducible conv => whnf) | (refine And.intro (okII _ _) ?_; rw [eqD_ii]; with_reducible conv => whnf) | (refine And.intro (by first | assumption | exact Exists.intro _ (by assumption) | exact ⟨rfl, rfl, by decide, by decide⟩ | exact Nat.le_of_ble_eq_true rfl | exact rfl) ?_; with_reducible conv => whnf) | (rw [isLst_at (by assumption)]; with_reducible conv => whnf) | (refine ifT rfl ?_; with_reducible conv => whnf) | (refine ifF rfl ?_; with_reducible conv => whnf) | (refine it_at (by assumption) ?_; with_reducible conv => whnf)))
  refine ⟨ns, 60, rfl, hl, by decide, by decide, fun n0 S1 d1 _ _ => ?_⟩
  ((with_reducible conv => whnf); repeat (first | (rw [natD_len]; with_reducible conv => whnf) | (rw [intD_len]; with_reducible conv => whnf) | (refine Exists.intro _ (And.intro (rfl : _ = some _) ?_); with_reducible conv => whnf) | (refine And.intro (okII _ _) ?_; rw [eqD_ii]; with_reducible conv => whnf) | (refine And.intro (by first | assumption | exact Exists.intro _ (by assumption) | exact ⟨rfl, rfl, by decide, by decide⟩ | exact Nat.le_of_ble_eq_true rfl | exact rfl) ?_; with_reducible conv => whnf) | (rw [isLst_at (by assumption)]; with_reducible conv => whnf) | (refine ifT rfl ?_; with_reducible conv => whnf) | (refine ifF rfl ?_; with_reducible conv => whnf) | (refine it_at (by assumption) ?_; with_reducible conv => whnf)))
  refine ⟨ns, n0, rfl, hl, hb, d1, fun p S2 hp d2 c2 => ?_⟩
  ((with_reducible conv => whnf); repeat (first | (rw [natD_len]; with_reducible conv => whnf) | (rw [intD_len]; with_reducible conv => whnf) | (refine Exists.intro _ (And.intro (rfl : _ = some _) ?_); with_reducible conv => whnf) | (refine And.intro (okII _ _) ?_; rw [eqD_ii]; with_reducible conv => whnf) | (refine And.intro (by first | assumption | exact Exists.intro _ (by assumption) | exact ⟨rfl, rfl, by decide, by decide⟩ | exact Nat.le_of_ble_eq_true rfl | exact rfl) ?_; with_reducible conv => whnf) | (rw [isLst_at (by assumption)]; with_reducible conv => whnf) | (refine ifT rfl ?_; with_reducible conv => whnf) | (refine ifF rfl ?_; with_reducible conv => whnf) | (refine it_at (by assumption) ?_; with_reducible conv => whnf)))
  refine ⟨n0, 20, rfl, by decide, d2, fun z S3 z0 z1 d3 c3 => ?_⟩
  ((with_reducible conv => whnf); repeat (first | (rw [natD_len]; with_reducible conv => whnf) | (rw [intD_len]; with_reducible conv => whnf) | (refine Exists.intro _ (And.intro (rfl : _ = some _) ?_); with_reducible conv => whnf) | (refine And.intro (okII _ _) ?_; rw [eqD_ii]; with_reducible conv => whnf) | (refine And.intro (by first | assumption | exact Exists.intro _ (by assumption) | exact ⟨rfl, rfl, by decide, by decide⟩ | exact Nat.le_of_ble_eq_true rfl | exact rfl) ?_; with_reducible conv => whnf) | (rw [isLst_at (by assumption)]; with_reducible conv => whnf) | (refine ifT rfl ?_; with_reducible conv => whnf) | (refine ifF rfl ?_; with_reducible conv => whnf) | (refine it_at (by assumption) ?_; with_reducible conv => whnf)))
  refine ite_d (fun hc => ?_) fun hc => ?_
  · ((with_reducible conv => whnf); repeat (first | (rw [natD_len]; with_reducible conv => whnf) | (rw [intD_len]; with_reducible conv => whnf) | (refine Exists.intro _ (And.intro (rfl : _ = some _) ?_); with_reducible conv => whnf) | (refine And.intro (okII _ _) ?_; rw [eqD_ii]; with_reducible conv => whnf) | (refine And.intro (by first | assumption | exact Exists.intro _ (by assumption) | exact ⟨rfl, rfl, by decide, by decide⟩ | exact Nat.le_of_ble_eq_true rfl | exact rfl) ?_; with_reducible conv => whnf) | (rw [isLst_at (by assumption)]; with_reducible conv => whnf) | (refine ifT rfl ?_; with_reducible conv => whnf) | (refine ifF rfl ?_; with_reducible conv => whnf) | (refine it_at (by assumption) ?_; with_reducible conv => whnf)))
    obtain ⟨m, hm, hmm⟩ : ∃ m : Nat, (1 ≤ m ∧ m ≤ 200) ∧ atZ [D.int 200, .int 60, .int 40] z = some (.int (m : Int)) := by
      rcases (show z = 0 ∨ z = 1 ∨ z = 2 by omega) with rfl | rfl | rfl
      · exact ⟨200, by decide, rfl⟩
      · exact ⟨60, by decide, rfl⟩
      · exact ⟨40, by decide, rfl⟩
    refine it_at (at_push _ _) ?_
    refine ⟨_, hmm, ?_⟩
    exact one_A hl hb hp hm kk (d3.app _)
  · exact one_A (m := 8) hl hb hp (by decide) kk d3
/-! the other part -/
theorem rnd_h (N : Int) : rnd ((Rat.divInt 1 2).num * (4 * N + 1)) (Rat.divInt 1 2).den = 2 * N ∧ rnd ((Rat.divInt 1 2).num * (4 * N + 3)) (Rat.divInt 1 2).den = 2 * N + 2 := by
  have h : (Rat.divInt 1 2).num = 1 ∧ (Rat.divInt 1 2).den = 2 := by decide +kernel
  rw [h.1, h.2]
  unfold rnd
  constructor
  · rw [if_neg (by omega)]; omega
  · rw [if_pos (by omega)]; omega
theorem rnd_q (N : Int) : rnd ((Rat.divInt 1 4).num * (8 * N + 2)) (Rat.divInt 1 4).den = 2 * N ∧ rnd ((Rat.divInt 1 4).num * (8 * N + 6)) (Rat.divInt 1 4).den = 2 * N + 2 := by
  have h : (Rat.divInt 1 4).num = 1 ∧ (Rat.divInt 1 4).den = 4 := by decide +kernel
  rw [h.1, h.2]
  unfold rnd
  constructor
  · rw [if_neg (by omega)]; omega
  · rw [if_pos (by omega)]; omega
theorem rnd_0 (x : Int) {d : Nat} (hd : 0 < d) : rnd (x * 0) d = 0 := by
  unfold rnd
  rw [Int.mul_zero, Int.zero_emod, Int.zero_ediv, if_neg (by omega)]
theorem szN {N : Int} {a b : Int} (h : N.natAbs < 2 ^ 1050000) (ha : a.natAbs < 2 ^ 10) (hb : b.natAbs < 2 ^ 10) : (a * N + b).natAbs < 2 ^ 1100000 := by
  have h1 : (a * N).natAbs < 2 ^ 1060000 := by
    rw [Int.natAbs_mul]
    have := Nat.mul_lt_mul'' ha h
    rw [← Nat.pow_add] at this
    exact Nat.lt_of_lt_of_le this (Nat.pow_le_pow_right (by decide) (by decide))
  have h2 : 2 ^ 1060000 + 2 ^ 10 ≤ 2 ^ 1100000 := by
    have e : 2 ^ 10 ≤ 2 ^ 1060000 := Nat.pow_le_pow_right (by decide) (by decide)
    have f : 2 ^ 1060000 * 2 ≤ 2 ^ 1100000 := by rw [← Nat.pow_succ]; exact Nat.pow_le_pow_right (by decide) (by decide)
    omega
  omega
theorem two_B {Q : VK} {n0 a b : Nat} {m c N : Int} {al : Nat} {p : Rat} {x0 x7 x8 : Option D} {S : Sto} (hp : Chc p) (ha1 : 1 ≤ a) (ha2 : a ≤ 200) (hb1 : 1 ≤ b) (hb2 : b ≤ 200) (hc : c.natAbs < 2 ^ 1100000) (hN : N.natAbs < 2 ^ 1050000) (hal : 1 ≤ al ∧ al ≤ 9) (kk : ∀ S', Q (.bl true) S') :
    w_law_part_two_t11 sp_draws sp_chance sp_take sp_cell sp_bt sp_coins (sp_same 1) { nx := fun _ S' => Q .non S', rt := Q, bk := fun _ _ => False, ct := fun _ _ => False } [x0, some (.ref n0), some (qD p), some (.int m), some (.int a), some (.int b), some (.int c), x7, x8, some (.int N), some (.int al)] S := by
  ((with_reducible conv => whnf); repeat (first | (rw [natD_len]; with_reducible conv => whnf) | (rw [intD_len]; with_reducible conv => whnf) | (refine Exists.intro _ (And.intro (rfl : _ = some _) ?_); with_reducible conv => whnf) | (refine And.intro (okII _ _) ?_; rw [eqD_ii]; with_reducible conv => whnf) | (refine And.intro (by first | assumption | exact Exists.intro _ (by assumption) | exact ⟨rfl, rfl, by decide, by decide⟩ | exact Nat.le_of_ble_eq_true rfl | exact rfl) ?_; with_reducible conv => whnf) | (rw [isLst_at (by assumption)]; with_reducible conv => whnf) | (refine ifT rfl ?_; with_reducible conv => whnf) | (refine ifF rfl ?_; with_reducible conv => whnf) | (refine it_at (by assumption) ?_; with_reducible conv => whnf)))
  refine ⟨smallMul' (by decide), ?_⟩
  ((with_reducible conv => whnf); repeat (first | (rw [natD_len]; with_reducible conv => whnf) | (rw [intD_len]; with_reducible conv => whnf) | (refine Exists.intro _ (And.intro (rfl : _ = some _) ?_); with_reducible conv => whnf) | (refine And.intro (okII _ _) ?_; rw [eqD_ii]; with_reducible conv => whnf) | (refine And.intro (by first | assumption | exact Exists.intro _ (by assumption) | exact ⟨rfl, rfl, by decide, by decide⟩ | exact Nat.le_of_ble_eq_true rfl | exact rfl) ?_; with_reducible conv => whnf) | (rw [isLst_at (by assumption)]; with_reducible conv => whnf) | (refine ifT rfl ?_; with_reducible conv => whnf) | (refine ifF rfl ?_; with_reducible conv => whnf) | (refine it_at (by assumption) ?_; with_reducible conv => whnf)))
  rw [half]
  refine ⟨_, al, al, _, rfl, chalf, hal.1, by omega, hal.1, by omega, szN hN (by decide) (by decide), fun S1 s1 => ?_⟩
  rw [FP_half al hal.1, (rnd_h N).1]
  ((with_reducible conv => whnf); repeat (first | (rw [natD_len]; with_reducible conv => whnf) | (rw [intD_len]; with_reducible conv => whnf) | (refine Exists.intro _ (And.intro (rfl : _ = some _) ?_); with_reducible conv => whnf) | (refine And.intro (okII _ _) ?_; rw [eqD_ii]; with_reducible conv => whnf) | (refine And.intro (by first | assumption | exact Exists.intro _ (by assumption) | exact ⟨rfl, rfl, by decide, by decide⟩ | exact Nat.le_of_ble_eq_true rfl | exact rfl) ?_; with_reducible conv => whnf) | (rw [isLst_at (by assumption)]; with_reducible conv => whnf) | (refine ifT rfl ?_; with_reducible conv => whnf) | (refine ifF rfl ?_; with_reducible conv => whnf) | (refine it_at (by assumption) ?_; with_reducible conv => whnf)))
  refine ⟨smallMul' (by decide), ?_⟩
  ((with_reducible conv => whnf); repeat (first | (rw [natD_len]; with_reducible conv => whnf) | (rw [intD_len]; with_reducible conv => whnf) | (refine Exists.intro _ (And.intro (rfl : _ = some _) ?_); with_reducible conv => whnf) | (refine And.intro (okII _ _) ?_; rw [eqD_ii]; with_reducible conv => whnf) | (refine And.intro (by first | assumption | exact Exists.intro _ (by assumption) | exact ⟨rfl, rfl, by decide, by decide⟩ | exact Nat.le_of_ble_eq_true rfl | exact rfl) ?_; with_reducible conv => whnf) | (rw [isLst_at (by assumption)]; with_reducible conv => whnf) | (refine ifT rfl ?_; with_reducible conv => whnf) | (refine ifF rfl ?_; with_reducible conv => whnf) | (refine it_at (by assumption) ?_; with_reducible conv => whnf)))
  refine ⟨_, rfl, (sli _).1, (sli _).2.1, (sli _).2.2, fun S2 s2 => ?_⟩
  ((with_reducible conv => whnf); repeat (first | (rw [natD_len]; with_reducible conv => whnf) | (rw [intD_len]; with_reducible conv => whnf) | (refine Exists.intro _ (And.intro (rfl : _ = some _) ?_); with_reducible conv => whnf) | (refine And.intro (okII _ _) ?_; rw [eqD_ii]; with_reducible conv => whnf) | (refine And.intro (by first | assumption | exact Exists.intro _ (by assumption) | exact ⟨rfl, rfl, by decide, by decide⟩ | exact Nat.le_of_ble_eq_true rfl | exact rfl) ?_; with_reducible conv => whnf) | (rw [isLst_at (by assumption)]; with_reducible conv => whnf) | (refine ifT rfl ?_; with_reducible conv => whnf) | (refine ifF rfl ?_; with_reducible conv => whnf) | (refine it_at (by assumption) ?_; with_reducible conv => whnf)))
  refine ⟨smallMul' (by decide), ?_⟩
  ((with_reducible conv => whnf); repeat (first | (rw [natD_len]; with_reducible conv => whnf) | (rw [intD_len]; with_reducible conv => whnf) | (refine Exists.intro _ (And.intro (rfl : _ = some _) ?_); with_reducible conv => whnf) | (refine And.intro (okII _ _) ?_; rw [eqD_ii]; with_reducible conv => whnf) | (refine And.intro (by first | assumption | exact Exists.intro _ (by assumption) | exact ⟨rfl, rfl, by decide, by decide⟩ | exact Nat.le_of_ble_eq_true rfl | exact rfl) ?_; with_reducible conv => whnf) | (rw [isLst_at (by assumption)]; with_reducible conv => whnf) | (refine ifT rfl ?_; with_reducible conv => whnf) | (refine ifF rfl ?_; with_reducible conv => whnf) | (refine it_at (by assumption) ?_; with_reducible conv => whnf)))
  rw [half]
  refine ⟨_, al, al, _, rfl, chalf, hal.1, by omega, hal.1, by omega, szN hN (by decide) (by decide), fun S3 s3 => ?_⟩
  rw [FP_half al hal.1, (rnd_h N).2]
  ((with_reducible conv => whnf); repeat (first | (rw [natD_len]; with_reducible conv => whnf) | (rw [intD_len]; with_reducible conv => whnf) | (refine Exists.intro _ (And.intro (rfl : _ = some _) ?_); with_reducible conv => whnf) | (refine And.intro (okII _ _) ?_; rw [eqD_ii]; with_reducible conv => whnf) | (refine And.intro (by first | assumption | exact Exists.intro _ (by assumption) | exact ⟨rfl, rfl, by decide, by decide⟩ | exact Nat.le_of_ble_eq_true rfl | exact rfl) ?_; with_reducible conv => whnf) | (rw [isLst_at (by assumption)]; with_reducible conv => whnf) | (refine ifT rfl ?_; with_reducible conv => whnf) | (refine ifF rfl ?_; with_reducible conv => whnf) | (refine it_at (by assumption) ?_; with_reducible conv => whnf)))
  refine ⟨smallMul' (by decide), ?_⟩
  ((with_reducible conv => whnf); repeat (first | (rw [natD_len]; with_reducible conv => whnf) | (rw [intD_len]; with_reducible conv => whnf) | (refine Exists.intro _ (And.intro (rfl : _ = some _) ?_); with_reducible conv => whnf) | (refine And.intro (okII _ _) ?_; rw [eqD_ii]; with_reducible conv => whnf) | (refine And.intro (by first | assumption | exact Exists.intro _ (by assumption) | exact ⟨rfl, rfl, by decide, by decide⟩ | exact Nat.le_of_ble_eq_true rfl | exact rfl) ?_; with_reducible conv => whnf) | (rw [isLst_at (by assumption)]; with_reducible conv => whnf) | (refine ifT rfl ?_; with_reducible conv => whnf) | (refine ifF rfl ?_; with_reducible conv => whnf) | (refine it_at (by assumption) ?_; with_reducible conv => whnf)))
  refine ⟨_, rfl, (sli _).1, (sli _).2.1, (sli _).2.2, fun S4 s4 => ?_⟩
  ((with_reducible conv => whnf); repeat (first | (rw [natD_len]; with_reducible conv => whnf) | (rw [intD_len]; with_reducible conv => whnf) | (refine Exists.intro _ (And.intro (rfl : _ = some _) ?_); with_reducible conv => whnf) | (refine And.intro (okII _ _) ?_; rw [eqD_ii]; with_reducible conv => whnf) | (refine And.intro (by first | assumption | exact Exists.intro _ (by assumption) | exact ⟨rfl, rfl, by decide, by decide⟩ | exact Nat.le_of_ble_eq_true rfl | exact rfl) ?_; with_reducible conv => whnf) | (rw [isLst_at (by assumption)]; with_reducible conv => whnf) | (refine ifT rfl ?_; with_reducible conv => whnf) | (refine ifF rfl ?_; with_reducible conv => whnf) | (refine it_at (by assumption) ?_; with_reducible conv => whnf)))
  refine ⟨smallMul' (by decide), ?_⟩
  ((with_reducible conv => whnf); repeat (first | (rw [natD_len]; with_reducible conv => whnf) | (rw [intD_len]; with_reducible conv => whnf) | (refine Exists.intro _ (And.intro (rfl : _ = some _) ?_); with_reducible conv => whnf) | (refine And.intro (okII _ _) ?_; rw [eqD_ii]; with_reducible conv => whnf) | (refine And.intro (by first | assumption | exact Exists.intro _ (by assumption) | exact ⟨rfl, rfl, by decide, by decide⟩ | exact Nat.le_of_ble_eq_true rfl | exact rfl) ?_; with_reducible conv => whnf) | (rw [isLst_at (by assumption)]; with_reducible conv => whnf) | (refine ifT rfl ?_; with_reducible conv => whnf) | (refine ifF rfl ?_; with_reducible conv => whnf) | (refine it_at (by assumption) ?_; with_reducible conv => whnf)))
  rw [half]
  refine ⟨_, 2, 1, _, rfl, chalf, by decide, by decide, by decide, by decide, szN hN (by decide) (by decide), fun S5 s5 => ?_⟩
  rw [f1, (rnd_q N).1]
  ((with_reducible conv => whnf); repeat (first | (rw [natD_len]; with_reducible conv => whnf) | (rw [intD_len]; with_reducible conv => whnf) | (refine Exists.intro _ (And.intro (rfl : _ = some _) ?_); with_reducible conv => whnf) | (refine And.intro (okII _ _) ?_; rw [eqD_ii]; with_reducible conv => whnf) | (refine And.intro (by first | assumption | exact Exists.intro _ (by assumption) | exact ⟨rfl, rfl, by decide, by decide⟩ | exact Nat.le_of_ble_eq_true rfl | exact rfl) ?_; with_reducible conv => whnf) | (rw [isLst_at (by assumption)]; with_reducible conv => whnf) | (refine ifT rfl ?_; with_reducible conv => whnf) | (refine ifF rfl ?_; with_reducible conv => whnf) | (refine it_at (by assumption) ?_; with_reducible conv => whnf)))
  refine ⟨smallMul' (by decide), ?_⟩
  ((with_reducible conv => whnf); repeat (first | (rw [natD_len]; with_reducible conv => whnf) | (rw [intD_len]; with_reducible conv => whnf) | (refine Exists.intro _ (And.intro (rfl : _ = some _) ?_); with_reducible conv => whnf) | (refine And.intro (okII _ _) ?_; rw [eqD_ii]; with_reducible conv => whnf) | (refine And.intro (by first | assumption | exact Exists.intro _ (by assumption) | exact ⟨rfl, rfl, by decide, by decide⟩ | exact Nat.le_of_ble_eq_true rfl | exact rfl) ?_; with_reducible conv => whnf) | (rw [isLst_at (by assumption)]; with_reducible conv => whnf) | (refine ifT rfl ?_; with_reducible conv => whnf) | (refine ifF rfl ?_; with_reducible conv => whnf) | (refine it_at (by assumption) ?_; with_reducible conv => whnf)))
  refine ⟨_, rfl, (sli _).1, (sli _).2.1, (sli _).2.2, fun S6 s6 => ?_⟩
  ((with_reducible conv => whnf); repeat (first | (rw [natD_len]; with_reducible conv => whnf) | (rw [intD_len]; with_reducible conv => whnf) | (refine Exists.intro _ (And.intro (rfl : _ = some _) ?_); with_reducible conv => whnf) | (refine And.intro (okII _ _) ?_; rw [eqD_ii]; with_reducible conv => whnf) | (refine And.intro (by first | assumption | exact Exists.intro _ (by assumption) | exact ⟨rfl, rfl, by decide, by decide⟩ | exact Nat.le_of_ble_eq_true rfl | exact rfl) ?_; with_reducible conv => whnf) | (rw [isLst_at (by assumption)]; with_reducible conv => whnf) | (refine ifT rfl ?_; with_reducible conv => whnf) | (refine ifF rfl ?_; with_reducible conv => whnf) | (refine it_at (by assumption) ?_; with_reducible conv => whnf)))
  refine ⟨smallMul' (by decide), ?_⟩
  ((with_reducible conv => whnf); repeat (first | (rw [natD_len]; with_reducible conv => whnf) | (rw [intD_len]; with_reducible conv => whnf) | (refine Exists.intro _ (And.intro (rfl : _ = some _) ?_); with_reducible conv => whnf) | (refine And.intro (okII _ _) ?_; rw [eqD_ii]; with_reducible conv => whnf) | (refine And.intro (by first | assumption | exact Exists.intro _ (by assumption) | exact ⟨rfl, rfl, by decide, by decide⟩ | exact Nat.le_of_ble_eq_true rfl | exact rfl) ?_; with_reducible conv => whnf) | (rw [isLst_at (by assumption)]; with_reducible conv => whnf) | (refine ifT rfl ?_; with_reducible conv => whnf) | (refine ifF rfl ?_; with_reducible conv => whnf) | (refine it_at (by assumption) ?_; with_reducible conv => whnf)))
  rw [half]
  refine ⟨_, 2, 1, _, rfl, chalf, by decide, by decide, by decide, by decide, szN hN (by decide) (by decide), fun S7 s7 => ?_⟩
  rw [f1, (rnd_q N).2]
  ((with_reducible conv => whnf); repeat (first | (rw [natD_len]; with_reducible conv => whnf) | (rw [intD_len]; with_reducible conv => whnf) | (refine Exists.intro _ (And.intro (rfl : _ = some _) ?_); with_reducible conv => whnf) | (refine And.intro (okII _ _) ?_; rw [eqD_ii]; with_reducible conv => whnf) | (refine And.intro (by first | assumption | exact Exists.intro _ (by assumption) | exact ⟨rfl, rfl, by decide, by decide⟩ | exact Nat.le_of_ble_eq_true rfl | exact rfl) ?_; with_reducible conv => whnf) | (rw [isLst_at (by assumption)]; with_reducible conv => whnf) | (refine ifT rfl ?_; with_reducible conv => whnf) | (refine ifF rfl ?_; with_reducible conv => whnf) | (refine it_at (by assumption) ?_; with_reducible conv => whnf)))
  refine ⟨smallMul' (by decide), ?_⟩
  ((with_reducible conv => whnf); repeat (first | (rw [natD_len]; with_reducible conv => whnf) | (rw [intD_len]; with_reducible conv => whnf) | (refine Exists.intro _ (And.intro (rfl : _ = some _) ?_); with_reducible conv => whnf) | (refine And.intro (okII _ _) ?_; rw [eqD_ii]; with_reducible conv => whnf) | (refine And.intro (by first | assumption | exact Exists.intro _ (by assumption) | exact ⟨rfl, rfl, by decide, by decide⟩ | exact Nat.le_of_ble_eq_true rfl | exact rfl) ?_; with_reducible conv => whnf) | (rw [isLst_at (by assumption)]; with_reducible conv => whnf) | (refine ifT rfl ?_; with_reducible conv => whnf) | (refine ifF rfl ?_; with_reducible conv => whnf) | (refine it_at (by assumption) ?_; with_reducible conv => whnf)))
  refine ⟨_, rfl, (sli _).1, (sli _).2.1, (sli _).2.2, fun S8 s8 => ?_⟩
  ((with_reducible conv => whnf); repeat (first | (rw [natD_len]; with_reducible conv => whnf) | (rw [intD_len]; with_reducible conv => whnf) | (refine Exists.intro _ (And.intro (rfl : _ = some _) ?_); with_reducible conv => whnf) | (refine And.intro (okII _ _) ?_; rw [eqD_ii]; with_reducible conv => whnf) | (refine And.intro (by first | assumption | exact Exists.intro _ (by assumption) | exact ⟨rfl, rfl, by decide, by decide⟩ | exact Nat.le_of_ble_eq_true rfl | exact rfl) ?_; with_reducible conv => whnf) | (rw [isLst_at (by assumption)]; with_reducible conv => whnf) | (refine ifT rfl ?_; with_reducible conv => whnf) | (refine ifF rfl ?_; with_reducible conv => whnf) | (refine it_at (by assumption) ?_; with_reducible conv => whnf)))
  refine ⟨p, a, b, 0, rfl, hp, ha1, ha2, hb1, hb2, Nat.pow_pos (by decide), fun S9 s9 => ?_⟩
  rw [rnd_0 _ (FP p a b).den_pos]
  ((with_reducible conv => whnf); repeat (first | (rw [natD_len]; with_reducible conv => whnf) | (rw [intD_len]; with_reducible conv => whnf) | (refine Exists.intro _ (And.intro (rfl : _ = some _) ?_); with_reducible conv => whnf) | (refine And.intro (okII _ _) ?_; rw [eqD_ii]; with_reducible conv => whnf) | (refine And.intro (by first | assumption | exact Exists.intro _ (by assumption) | exact ⟨rfl, rfl, by decide, by decide⟩ | exact Nat.le_of_ble_eq_true rfl | exact rfl) ?_; with_reducible conv => whnf) | (rw [isLst_at (by assumption)]; with_reducible conv => whnf) | (refine ifT rfl ?_; with_reducible conv => whnf) | (refine ifF rfl ?_; with_reducible conv => whnf) | (refine it_at (by assumption) ?_; with_reducible conv => whnf)))
  refine ⟨.int 0, rfl, (sli _).1, (sli _).2.1, (sli _).2.2, fun S10 s10 => ?_⟩
  ((with_reducible conv => whnf); repeat (first | (rw [natD_len]; with_reducible conv => whnf) | (rw [intD_len]; with_reducible conv => whnf) | (refine Exists.intro _ (And.intro (rfl : _ = some _) ?_); with_reducible conv => whnf) | (refine And.intro (okII _ _) ?_; rw [eqD_ii]; with_reducible conv => whnf) | (refine And.intro (by first | assumption | exact Exists.intro _ (by assumption) | exact ⟨rfl, rfl, by decide, by decide⟩ | exact Nat.le_of_ble_eq_true rfl | exact rfl) ?_; with_reducible conv => whnf) | (rw [isLst_at (by assumption)]; with_reducible conv => whnf) | (refine ifT rfl ?_; with_reducible conv => whnf) | (refine ifF rfl ?_; with_reducible conv => whnf) | (refine it_at (by assumption) ?_; with_reducible conv => whnf)))
  refine ite_d (fun hc => ?_) fun hc2 => ?_
  · ((with_reducible conv => whnf); repeat (first | (rw [natD_len]; with_reducible conv => whnf) | (rw [intD_len]; with_reducible conv => whnf) | (refine Exists.intro _ (And.intro (rfl : _ = some _) ?_); with_reducible conv => whnf) | (refine And.intro (okII _ _) ?_; rw [eqD_ii]; with_reducible conv => whnf) | (refine And.intro (by first | assumption | exact Exists.intro _ (by assumption) | exact ⟨rfl, rfl, by decide, by decide⟩ | exact Nat.le_of_ble_eq_true rfl | exact rfl) ?_; with_reducible conv => whnf) | (rw [isLst_at (by assumption)]; with_reducible conv => whnf) | (refine ifT rfl ?_; with_reducible conv => whnf) | (refine ifF rfl ?_; with_reducible conv => whnf) | (refine it_at (by assumption) ?_; with_reducible conv => whnf)))
    exact kk _
  · ((with_reducible conv => whnf); repeat (first | (rw [natD_len]; with_reducible conv => whnf) | (rw [intD_len]; with_reducible conv => whnf) | (refine Exists.intro _ (And.intro (rfl : _ = some _) ?_); with_reducible conv => whnf) | (refine And.intro (okII _ _) ?_; rw [eqD_ii]; with_reducible conv => whnf) | (refine And.intro (by first | assumption | exact Exists.intro _ (by assumption) | exact ⟨rfl, rfl, by decide, by decide⟩ | exact Nat.le_of_ble_eq_true rfl | exact rfl) ?_; with_reducible conv => whnf) | (rw [isLst_at (by assumption)]; with_reducible conv => whnf) | (refine ifT rfl ?_; with_reducible conv => whnf) | (refine ifF rfl ?_; with_reducible conv => whnf) | (refine it_at (by assumption) ?_; with_reducible conv => whnf)))
    exact ⟨p, a, b, c, rfl, hp, ha1, ha2, hb1, hb2, hc, fun S11 s11 => kk _⟩
theorem two_A {Q : VK} {n0 a b : Nat} {ns : List Int} {m c : Int} {p : Rat} {x7 x8 x9 x10 : Option D} {S : Sto} (hl : ns.length ≤ 63) (hbn : ∀ z ∈ ns, z.natAbs < 2 ^ 1048576) (hp : Chc p) (ha1 : 1 ≤ a) (ha2 : a ≤ 200) (hb1 : 1 ≤ b) (hb2 : b ≤ 200) (hc : c.natAbs < 2 ^ 1100000) (kk : ∀ S', Q (.bl true) S') (d0 : Dr n0 S) :
    w_law_part_two_t6 sp_draws sp_chance sp_take sp_cell sp_bt sp_coins (sp_same 1) { nx := fun _ S' => Q .non S', rt := Q, bk := fun _ _ => False, ct := fun _ _ => False } [some (.rol (intD ns)), some (.ref n0), some (qD p), some (.int m), some (.int a), some (.int b), some (.int c), x7, x8, x9, x10] S := by
  ((with_reducible conv => whnf); repeat (first | (rw [natD_len]; with_reducible conv => whnf) | (rw [intD_len]; with_reducible conv => whnf) | (refine Exists.intro _ (And.intro (rfl : _ = some _) ?_); with_reducible conv => whnf) | (refine And.intro (okII _ _) ?_; rw [eqD_ii]; with_reducible conv => whnf) | (refine And.intro (by first | assumption | exact Exists.intro _ (by assumption) | exact ⟨rfl, rfl, by decide, by decide⟩ | exact Nat.le_of_ble_eq_true rfl | exact rfl) ?_; with_reducible conv => whnf) | (rw [isLst_at (by assumption)]; with_reducible conv => whnf) | (refine ifT rfl ?_; with_reducible conv => whnf) | (refine ifF rfl ?_; with_reducible conv => whnf) | (refine it_at (by assumption) ?_; with_reducible conv => whnf)))
  refine ⟨p, a, b, c, rfl, hp, ha1, ha2, hb1, hb2, hc, fun S1 s1 => ?_⟩
  ((with_reducible conv => whnf); repeat (first | (rw [natD_len]; with_reducible conv => whnf) | (rw [intD_len]; with_reducible conv => whnf) | (refine Exists.intro _ (And.intro (rfl : _ = some _) ?_); with_reducible conv => whnf) | (refine And.intro (okII _ _) ?_; rw [eqD_ii]; with_reducible conv => whnf) | (refine And.intro (by first | assumption | exact Exists.intro _ (by assumption) | exact ⟨rfl, rfl, by decide, by decide⟩ | exact Nat.le_of_ble_eq_true rfl | exact rfl) ?_; with_reducible conv => whnf) | (rw [isLst_at (by assumption)]; with_reducible conv => whnf) | (refine ifT rfl ?_; with_reducible conv => whnf) | (refine ifF rfl ?_; with_reducible conv => whnf) | (refine it_at (by assumption) ?_; with_reducible conv => whnf)))
  rw [q1]
  refine ⟨1 - p, b, a, c, rfl, hp.sub, hb1, hb2, ha1, ha2, hc, fun S2 s2 => ?_⟩
  have d2 := d0.sub (s1.trans s2)
  ((with_reducible conv => whnf); repeat (first | (rw [natD_len]; with_reducible conv => whnf) | (rw [intD_len]; with_reducible conv => whnf) | (refine Exists.intro _ (And.intro (rfl : _ = some _) ?_); with_reducible conv => whnf) | (refine And.intro (okII _ _) ?_; rw [eqD_ii]; with_reducible conv => whnf) | (refine And.intro (by first | assumption | exact Exists.intro _ (by assumption) | exact ⟨rfl, rfl, by decide, by decide⟩ | exact Nat.le_of_ble_eq_true rfl | exact rfl) ?_; with_reducible conv => whnf) | (rw [isLst_at (by assumption)]; with_reducible conv => whnf) | (refine ifT rfl ?_; with_reducible conv => whnf) | (refine ifF rfl ?_; with_reducible conv => whnf) | (refine it_at (by assumption) ?_; with_reducible conv => whnf)))
  refine ⟨ns, n0, rfl, hl, hbn, d2, fun o S3 ho d3 c3 => ?_⟩
  ((with_reducible conv => whnf); repeat (first | (rw [natD_len]; with_reducible conv => whnf) | (rw [intD_len]; with_reducible conv => whnf) | (refine Exists.intro _ (And.intro (rfl : _ = some _) ?_); with_reducible conv => whnf) | (refine And.intro (okII _ _) ?_; rw [eqD_ii]; with_reducible conv => whnf) | (refine And.intro (by first | assumption | exact Exists.intro _ (by assumption) | exact ⟨rfl, rfl, by decide, by decide⟩ | exact Nat.le_of_ble_eq_true rfl | exact rfl) ?_; with_reducible conv => whnf) | (rw [isLst_at (by assumption)]; with_reducible conv => whnf) | (refine ifT rfl ?_; with_reducible conv => whnf) | (refine ifF rfl ?_; with_reducible conv => whnf) | (refine it_at (by assumption) ?_; with_reducible conv => whnf)))
  refine ⟨n0, 31, rfl, by decide, d3, fun u S4 u0 u1 d4 c4 => ?_⟩
  ((with_reducible conv => whnf); repeat (first | (rw [natD_len]; with_reducible conv => whnf) | (rw [intD_len]; with_reducible conv => whnf) | (refine Exists.intro _ (And.intro (rfl : _ = some _) ?_); with_reducible conv => whnf) | (refine And.intro (okII _ _) ?_; rw [eqD_ii]; with_reducible conv => whnf) | (refine And.intro (by first | assumption | exact Exists.intro _ (by assumption) | exact ⟨rfl, rfl, by decide, by decide⟩ | exact Nat.le_of_ble_eq_true rfl | exact rfl) ?_; with_reducible conv => whnf) | (rw [isLst_at (by assumption)]; with_reducible conv => whnf) | (refine ifT rfl ?_; with_reducible conv => whnf) | (refine ifF rfl ?_; with_reducible conv => whnf) | (refine it_at (by assumption) ?_; with_reducible conv => whnf)))
  refine ⟨n0, 1000, rfl, by decide, d4, fun v S5 v0 v1 d5 c5 => ?_⟩
  ((with_reducible conv => whnf); repeat (first | (rw [natD_len]; with_reducible conv => whnf) | (rw [intD_len]; with_reducible conv => whnf) | (refine Exists.intro _ (And.intro (rfl : _ = some _) ?_); with_reducible conv => whnf) | (refine And.intro (okII _ _) ?_; rw [eqD_ii]; with_reducible conv => whnf) | (refine And.intro (by first | assumption | exact Exists.intro _ (by assumption) | exact ⟨rfl, rfl, by decide, by decide⟩ | exact Nat.le_of_ble_eq_true rfl | exact rfl) ?_; with_reducible conv => whnf) | (rw [isLst_at (by assumption)]; with_reducible conv => whnf) | (refine ifT rfl ?_; with_reducible conv => whnf) | (refine ifF rfl ?_; with_reducible conv => whnf) | (refine it_at (by assumption) ?_; with_reducible conv => whnf)))
  have ea := at_push S5 (.lst (intD [u, v, c]))
  have d6 := d5.app [.lst (intD [u, v, c])]
  have hne : S5.length ≠ n0 := by have := d5.lt; omega
  rw [show [D.int u, .int v, .int c] = intD [u, v, c] from rfl]
  generalize S5 ++ [O.lst (intD [u, v, c])] = S6 at *
  generalize S5.length = q at *
  refine it_at ea ?_
  (with_reducible conv => whnf)
  have small : ∀ {x : Int}, 0 ≤ x → x < 1000 → x.natAbs < 2 ^ 1100000 := fun h0 h1 => Nat.lt_of_lt_of_le (show _ < 2 ^ 10 by omega) (Nat.pow_le_pow_right (by decide) (by decide))
  refine Loop_mk (fun i ρ S' => ∃ o8, ρ = [some (.rol (intD ns)), some (.ref n0), some (qD p), some (.int m), some (.int a), some (.int b), some (.int c), some (qD o), o8, x9, x10] ∧ S'[q]? = some (.lst (intD [u, v, c])) ∧ Dr n0 S') ⟨_, rfl, ea, d6⟩ (by rintro i ρ' S' ⟨o8, rfl, f1, f2⟩; exact f1) ?_ ?_
  · clear ea d6 S6
    rintro i d ρ' S' hi ⟨o8, rfl, ea, d6⟩
    obtain ⟨z, hz, rfl⟩ := intD_get hi
    have hzb : z.natAbs < 2 ^ 1100000 := by
      have := List.mem_of_getElem? hz
      simp only [List.mem_cons, List.not_mem_nil, or_false] at this
      rcases this with rfl | rfl | rfl
      · exact small u0 (by omega)
      · exact small v0 v1
      · exact hc
    ((with_reducible conv => whnf); repeat (first | (rw [natD_len]; with_reducible conv => whnf) | (rw [intD_len]; with_reducible conv => whnf) | (refine Exists.intro _ (And.intro (rfl : _ = some _) ?_); with_reducible conv => whnf) | (refine And.intro (okII _ _) ?_; rw [eqD_ii]; with_reducible conv => whnf) | (refine And.intro (by first | assumption | exact Exists.intro _ (by assumption) | exact ⟨rfl, rfl, by decide, by decide⟩ | exact Nat.le_of_ble_eq_true rfl | exact rfl) ?_; with_reducible conv => whnf) | (rw [isLst_at (by assumption)]; with_reducible conv => whnf) | (refine ifT rfl ?_; with_reducible conv => whnf) | (refine ifF rfl ?_; with_reducible conv => whnf) | (refine it_at (by assumption) ?_; with_reducible conv => whnf)))
    refine ⟨n0, 4, rfl, by decide, d6, fun x S7 x0 x1 d7 c7 => ?_⟩
    ((with_reducible conv => whnf); repeat (first | (rw [natD_len]; with_reducible conv => whnf) | (rw [intD_len]; with_reducible conv => whnf) | (refine Exists.intro _ (And.intro (rfl : _ = some _) ?_); with_reducible conv => whnf) | (refine And.intro (okII _ _) ?_; rw [eqD_ii]; with_reducible conv => whnf) | (refine And.intro (by first | assumption | exact Exists.intro _ (by assumption) | exact ⟨rfl, rfl, by decide, by decide⟩ | exact Nat.le_of_ble_eq_true rfl | exact rfl) ?_; with_reducible conv => whnf) | (rw [isLst_at (by assumption)]; with_reducible conv => whnf) | (refine ifT rfl ?_; with_reducible conv => whnf) | (refine ifF rfl ?_; with_reducible conv => whnf) | (refine it_at (by assumption) ?_; with_reducible conv => whnf)))
    refine ⟨n0, 4, rfl, by decide, d7, fun y S8 y0 y1 d8 c8 => ?_⟩
    (with_reducible conv => whnf)
    obtain ⟨xn, hx⟩ : ∃ a : Nat, 1 + x = a := ⟨(1 + x).toNat, by omega⟩
    obtain ⟨yn, hy⟩ : ∃ a : Nat, 1 + y = a := ⟨(1 + y).toNat, by omega⟩
    rw [hx, hy]
    ((with_reducible conv => whnf); repeat (first | (rw [natD_len]; with_reducible conv => whnf) | (rw [intD_len]; with_reducible conv => whnf) | (refine Exists.intro _ (And.intro (rfl : _ = some _) ?_); with_reducible conv => whnf) | (refine And.intro (okII _ _) ?_; rw [eqD_ii]; with_reducible conv => whnf) | (refine And.intro (by first | assumption | exact Exists.intro _ (by assumption) | exact ⟨rfl, rfl, by decide, by decide⟩ | exact Nat.le_of_ble_eq_true rfl | exact rfl) ?_; with_reducible conv => whnf) | (rw [isLst_at (by assumption)]; with_reducible conv => whnf) | (refine ifT rfl ?_; with_reducible conv => whnf) | (refine ifF rfl ?_; with_reducible conv => whnf) | (refine it_at (by assumption) ?_; with_reducible conv => whnf)))
    refine ⟨o, xn, yn, z, rfl, ho, by omega, by omega, by omega, by omega, hzb, fun S9 s9 => ?_⟩
    ((with_reducible conv => whnf); repeat (first | (rw [natD_len]; with_reducible conv => whnf) | (rw [intD_len]; with_reducible conv => whnf) | (refine Exists.intro _ (And.intro (rfl : _ = some _) ?_); with_reducible conv => whnf) | (refine And.intro (okII _ _) ?_; rw [eqD_ii]; with_reducible conv => whnf) | (refine And.intro (by first | assumption | exact Exists.intro _ (by assumption) | exact ⟨rfl, rfl, by decide, by decide⟩ | exact Nat.le_of_ble_eq_true rfl | exact rfl) ?_; with_reducible conv => whnf) | (rw [isLst_at (by assumption)]; with_reducible conv => whnf) | (refine ifT rfl ?_; with_reducible conv => whnf) | (refine ifF rfl ?_; with_reducible conv => whnf) | (refine it_at (by assumption) ?_; with_reducible conv => whnf)))
    exact ⟨_, rfl, s9 _ _ (c8 _ _ hne (c7 _ _ hne ea)), d8.sub s9⟩
  · clear ea d6 S6
    rintro ρ' S' ⟨o8, rfl, ea, d6⟩
    ((with_reducible conv => whnf); repeat (first | (rw [natD_len]; with_reducible conv => whnf) | (rw [intD_len]; with_reducible conv => whnf) | (refine Exists.intro _ (And.intro (rfl : _ = some _) ?_); with_reducible conv => whnf) | (refine And.intro (okII _ _) ?_; rw [eqD_ii]; with_reducible conv => whnf) | (refine And.intro (by first | assumption | exact Exists.intro _ (by assumption) | exact ⟨rfl, rfl, by decide, by decide⟩ | exact Nat.le_of_ble_eq_true rfl | exact rfl) ?_; with_reducible conv => whnf) | (rw [isLst_at (by assumption)]; with_reducible conv => whnf) | (refine ifT rfl ?_; with_reducible conv => whnf) | (refine ifF rfl ?_; with_reducible conv => whnf) | (refine it_at (by assumption) ?_; with_reducible conv => whnf)))
    refine ⟨n0, 1000, rfl, by decide, d6, fun x S7 x0 x1 d7 c7 => ?_⟩
    ((with_reducible conv => whnf); repeat (first | (rw [natD_len]; with_reducible conv => whnf) | (rw [intD_len]; with_reducible conv => whnf) | (refine Exists.intro _ (And.intro (rfl : _ = some _) ?_); with_reducible conv => whnf) | (refine And.intro (okII _ _) ?_; rw [eqD_ii]; with_reducible conv => whnf) | (refine And.intro (by first | assumption | exact Exists.intro _ (by assumption) | exact ⟨rfl, rfl, by decide, by decide⟩ | exact Nat.le_of_ble_eq_true rfl | exact rfl) ?_; with_reducible conv => whnf) | (rw [isLst_at (by assumption)]; with_reducible conv => whnf) | (refine ifT rfl ?_; with_reducible conv => whnf) | (refine ifF rfl ?_; with_reducible conv => whnf) | (refine it_at (by assumption) ?_; with_reducible conv => whnf)))
    refine ⟨ns, n0, rfl, hl, hbn, d7, fun z S8 hz d8 c8 => ?_⟩
    ((with_reducible conv => whnf); repeat (first | (rw [natD_len]; with_reducible conv => whnf) | (rw [intD_len]; with_reducible conv => whnf) | (refine Exists.intro _ (And.intro (rfl : _ = some _) ?_); with_reducible conv => whnf) | (refine And.intro (okII _ _) ?_; rw [eqD_ii]; with_reducible conv => whnf) | (refine And.intro (by first | assumption | exact Exists.intro _ (by assumption) | exact ⟨rfl, rfl, by decide, by decide⟩ | exact Nat.le_of_ble_eq_true rfl | exact rfl) ?_; with_reducible conv => whnf) | (rw [isLst_at (by assumption)]; with_reducible conv => whnf) | (refine ifT rfl ?_; with_reducible conv => whnf) | (refine ifF rfl ?_; with_reducible conv => whnf) | (refine it_at (by assumption) ?_; with_reducible conv => whnf)))
    refine ⟨n0, 2, rfl, by decide, d8, fun y S9 y0 y1 d9 c9 => ?_⟩
    ((with_reducible conv => whnf); repeat (first | (rw [natD_len]; with_reducible conv => whnf) | (rw [intD_len]; with_reducible conv => whnf) | (refine Exists.intro _ (And.intro (rfl : _ = some _) ?_); with_reducible conv => whnf) | (refine And.intro (okII _ _) ?_; rw [eqD_ii]; with_reducible conv => whnf) | (refine And.intro (by first | assumption | exact Exists.intro _ (by assumption) | exact ⟨rfl, rfl, by decide, by decide⟩ | exact Nat.le_of_ble_eq_true rfl | exact rfl) ?_; with_reducible conv => whnf) | (rw [isLst_at (by assumption)]; with_reducible conv => whnf) | (refine ifT rfl ?_; with_reducible conv => whnf) | (refine ifF rfl ?_; with_reducible conv => whnf) | (refine it_at (by assumption) ?_; with_reducible conv => whnf)))
    refine ⟨smallMul (by omega), ?_⟩
    have hN : (x + ((z.natAbs : Nat) : Int) * y).natAbs < 2 ^ 1050000 := by
      have e : 2 ^ 1048576 + 1000 ≤ 2 ^ 1050000 := by
        have e : 1000 ≤ 2 ^ 1048576 := Nat.le_trans (show 1000 ≤ 2 ^ 10 by decide) (Nat.pow_le_pow_right (by decide) (by decide))
        have f : 2 ^ 1048576 * 2 ≤ 2 ^ 1050000 := by rw [← Nat.pow_succ]; exact Nat.pow_le_pow_right (by decide) (by decide)
        omega
      rcases (show y = 0 ∨ y = 1 by omega) with rfl | rfl <;> omega
    (with_reducible conv => whnf)
    generalize x + ((z.natAbs : Nat) : Int) * y = N at *
    ((with_reducible conv => whnf); repeat (first | (rw [natD_len]; with_reducible conv => whnf) | (rw [intD_len]; with_reducible conv => whnf) | (refine Exists.intro _ (And.intro (rfl : _ = some _) ?_); with_reducible conv => whnf) | (refine And.intro (okII _ _) ?_; rw [eqD_ii]; with_reducible conv => whnf) | (refine And.intro (by first | assumption | exact Exists.intro _ (by assumption) | exact ⟨rfl, rfl, by decide, by decide⟩ | exact Nat.le_of_ble_eq_true rfl | exact rfl) ?_; with_reducible conv => whnf) | (rw [isLst_at (by assumption)]; with_reducible conv => whnf) | (refine ifT rfl ?_; with_reducible conv => whnf) | (refine ifF rfl ?_; with_reducible conv => whnf) | (refine it_at (by assumption) ?_; with_reducible conv => whnf)))
    refine ⟨n0, 9, rfl, by decide, d9, fun w S10 w0 w1 d10 c10 => ?_⟩
    obtain ⟨al, hal⟩ : ∃ a : Nat, 1 + w = a := ⟨(1 + w).toNat, by omega⟩
    have fin := two_B (Q := Q) (n0 := n0) (a := a) (b := b) (m := m) (c := c) (N := N) (al := al) (p := p) (x0 := some (.rol (intD ns))) (x7 := some (qD o)) (x8 := o8) (S := S10) hp ha1 ha2 hb1 hb2 hc hN (by omega) kk
    rw [← hal] at fin
    exact fin
theorem body_law_part_two : Body 11 1 (w_law_part_two sp_draws sp_chance sp_take sp_cell sp_bt sp_coins (sp_same 1)) sp_p1 := by
  rintro ds S Q _ ⟨ns, rfl, hl, hb, kk⟩
  unfold w_law_part_two
  (simp only [start, List.map_cons, List.map_nil, List.length_cons, List.length_nil, Nat.reduceAdd, Nat.reduceSub, List.replicate_succ, List.replicate_zero, List.cons_append, List.nil_append, Nat.sub_self, Nat.zero_add])
  ((with_reducible conv => whnf); repeat (first | (rw [natD_len]; with_reducible conv => whnf) | (rw [intD_len]; with_reducible conv => whnf) | (refine Exists.intro _ (And.intro (rfl : _ = some _) ?_); with_reducible conv => whnf) | (refine And.intro (okII _ _) ?_; rw [eqD_ii]; with_reducible conv => whnf) | (refine And.intro (by first | assumption | exact Exists.intro _ (by assumption) | exact ⟨rfl, rfl, by decide, by decide⟩ | exact Nat.le_of_ble_eq_true rfl | exact rfl) ?_; with_reducible conv => whnf) | (rw [isLst_at (by assumption)]; with_reducible conv => whnf) | (refine ifT rfl ?_; with_reducible conv => whnf) | (refine ifF rfl ?_; with_reducible conv => whnf) | (refine it_at (by assumption) ?_; with_reducible conv => whnf)))
  refine ⟨ns, 60, rfl, hl, by decide, by decide, fun n0 S1 d1 _ _ => ?_⟩
  ((with_reducible conv => whnf); repeat (first | (rw [natD_len]; with_reducible conv => whnf) | (rw [intD_len]; with_reducible conv => whnf) | (refine Exists.intro _ (And.intro (rfl : _ = some _) ?_); with_reducible conv => whnf) | (refine And.intro (okII _ _) ?_; rw [eqD_ii]; with_reducible conv => whnf) | (refine And.intro (by first | assumption | exact Exists.intro _ (by assumption) | exact ⟨rfl, rfl, by decide, by decide⟩ | exact Nat.le_of_ble_eq_true rfl | exact rfl) ?_; with_reducible conv => whnf) | (rw [isLst_at (by assumption)]; with_reducible conv => whnf) | (refine ifT rfl ?_; with_reducible conv => whnf) | (refine ifF rfl ?_; with_reducible conv => whnf) | (refine it_at (by assumption) ?_; with_reducible conv => whnf)))
  refine ⟨ns, n0, rfl, hl, hb, d1, fun p S2 hp d2 c2 => ?_⟩
  ((with_reducible conv => whnf); repeat (first | (rw [natD_len]; with_reducible conv => whnf) | (rw [intD_len]; with_reducible conv => whnf) | (refine Exists.intro _ (And.intro (rfl : _ = some _) ?_); with_reducible conv => whnf) | (refine And.intro (okII _ _) ?_; rw [eqD_ii]; with_reducible conv => whnf) | (refine And.intro (by first | assumption | exact Exists.intro _ (by assumption) | exact ⟨rfl, rfl, by decide, by decide⟩ | exact Nat.le_of_ble_eq_true rfl | exact rfl) ?_; with_reducible conv => whnf) | (rw [isLst_at (by assumption)]; with_reducible conv => whnf) | (refine ifT rfl ?_; with_reducible conv => whnf) | (refine ifF rfl ?_; with_reducible conv => whnf) | (refine it_at (by assumption) ?_; with_reducible conv => whnf)))
  have ea := at_push S2 (.lst [.int 200, .int 40, .int 8, .int 8, .int 8, .int 8, .int 8, .int 8, .int 8, .int 8])
  have d3 := d2.app [.lst [.int 200, .int 40, .int 8, .int 8, .int 8, .int 8, .int 8, .int 8, .int 8, .int 8]]
  have hne : S2.length ≠ n0 := by have := d2.lt; omega
  generalize S2 ++ [O.lst [.int 200, .int 40, .int 8, .int 8, .int 8, .int 8, .int 8, .int 8, .int 8, .int 8]] = S3 at *
  generalize S2.length = q at *
  refine ⟨n0, 10, rfl, by decide, d3, fun z S4 z0 z1 d4 c4 => ?_⟩
  (with_reducible conv => whnf)
  rw [isLst_at (c4 _ _ hne ea)]
  obtain ⟨m, hm, hmm⟩ : ∃ m : Nat, (1 ≤ m ∧ m ≤ 200) ∧ atZ [D.int 200, .int 40, .int 8, .int 8, .int 8, .int 8, .int 8, .int 8, .int 8, .int 8] z = some (.int (m : Int)) := by
    rcases (show z = 0 ∨ z = 1 ∨ z = 2 ∨ z = 3 ∨ z = 4 ∨ z = 5 ∨ z = 6 ∨ z = 7 ∨ z = 8 ∨ z = 9 by omega) with rfl | rfl | rfl | rfl | rfl | rfl | rfl | rfl | rfl | rfl
    · exact ⟨200, by decide, rfl⟩
    · exact ⟨40, by decide, rfl⟩
    all_goals exact ⟨8, by decide, rfl⟩
  refine ⟨_, hmm, ?_⟩
  ((with_reducible conv => whnf); repeat (first | (rw [natD_len]; with_reducible conv => whnf) | (rw [intD_len]; with_reducible conv => whnf) | (refine Exists.intro _ (And.intro (rfl : _ = some _) ?_); with_reducible conv => whnf) | (refine And.intro (okII _ _) ?_; rw [eqD_ii]; with_reducible conv => whnf) | (refine And.intro (by first | assumption | exact Exists.intro _ (by assumption) | exact ⟨rfl, rfl, by decide, by decide⟩ | exact Nat.le_of_ble_eq_true rfl | exact rfl) ?_; with_reducible conv => whnf) | (rw [isLst_at (by assumption)]; with_reducible conv => whnf) | (refine ifT rfl ?_; with_reducible conv => whnf) | (refine ifF rfl ?_; with_reducible conv => whnf) | (refine it_at (by assumption) ?_; with_reducible conv => whnf)))
  refine ⟨n0, m, rfl, by omega, d4, fun u S5 u0 u1 d5 c5 => ?_⟩
  (with_reducible conv => whnf)
  obtain ⟨a, ha⟩ : ∃ a : Nat, 1 + u = a := ⟨(1 + u).toNat, by omega⟩
  rw [ha]
  ((with_reducible conv => whnf); repeat (first | (rw [natD_len]; with_reducible conv => whnf) | (rw [intD_len]; with_reducible conv => whnf) | (refine Exists.intro _ (And.intro (rfl : _ = some _) ?_); with_reducible conv => whnf) | (refine And.intro (okII _ _) ?_; rw [eqD_ii]; with_reducible conv => whnf) | (refine And.intro (by first | assumption | exact Exists.intro _ (by assumption) | exact ⟨rfl, rfl, by decide, by decide⟩ | exact Nat.le_of_ble_eq_true rfl | exact rfl) ?_; with_reducible conv => whnf) | (rw [isLst_at (by assumption)]; with_reducible conv => whnf) | (refine ifT rfl ?_; with_reducible conv => whnf) | (refine ifF rfl ?_; with_reducible conv => whnf) | (refine it_at (by assumption) ?_; with_reducible conv => whnf)))
  refine ⟨n0, m, rfl, by omega, d5, fun v S6 v0 v1 d6 c6 => ?_⟩
  (with_reducible conv => whnf)
  obtain ⟨b, hb'⟩ : ∃ a : Nat, 1 + v = a := ⟨(1 + v).toNat, by omega⟩
  rw [hb']
  ((with_reducible conv => whnf); repeat (first | (rw [natD_len]; with_reducible conv => whnf) | (rw [intD_len]; with_reducible conv => whnf) | (refine Exists.intro _ (And.intro (rfl : _ = some _) ?_); with_reducible conv => whnf) | (refine And.intro (okII _ _) ?_; rw [eqD_ii]; with_reducible conv => whnf) | (refine And.intro (by first | assumption | exact Exists.intro _ (by assumption) | exact ⟨rfl, rfl, by decide, by decide⟩ | exact Nat.le_of_ble_eq_true rfl | exact rfl) ?_; with_reducible conv => whnf) | (rw [isLst_at (by assumption)]; with_reducible conv => whnf) | (refine ifT rfl ?_; with_reducible conv => whnf) | (refine ifF rfl ?_; with_reducible conv => whnf) | (refine it_at (by assumption) ?_; with_reducible conv => whnf)))
  refine ⟨n0, 31, rfl, by decide, d6, fun x S7 x0 x1 d7 c7 => ?_⟩
  ((with_reducible conv => whnf); repeat (first | (rw [natD_len]; with_reducible conv => whnf) | (rw [intD_len]; with_reducible conv => whnf) | (refine Exists.intro _ (And.intro (rfl : _ = some _) ?_); with_reducible conv => whnf) | (refine And.intro (okII _ _) ?_; rw [eqD_ii]; with_reducible conv => whnf) | (refine And.intro (by first | assumption | exact Exists.intro _ (by assumption) | exact ⟨rfl, rfl, by decide, by decide⟩ | exact Nat.le_of_ble_eq_true rfl | exact rfl) ?_; with_reducible conv => whnf) | (rw [isLst_at (by assumption)]; with_reducible conv => whnf) | (refine ifT rfl ?_; with_reducible conv => whnf) | (refine ifF rfl ?_; with_reducible conv => whnf) | (refine it_at (by assumption) ?_; with_reducible conv => whnf)))
  refine ⟨ns, n0, rfl, hl, hb, d7, fun y S8 hy d8 c8 => ?_⟩
  ((with_reducible conv => whnf); repeat (first | (rw [natD_len]; with_reducible conv => whnf) | (rw [intD_len]; with_reducible conv => whnf) | (refine Exists.intro _ (And.intro (rfl : _ = some _) ?_); with_reducible conv => whnf) | (refine And.intro (okII _ _) ?_; rw [eqD_ii]; with_reducible conv => whnf) | (refine And.intro (by first | assumption | exact Exists.intro _ (by assumption) | exact ⟨rfl, rfl, by decide, by decide⟩ | exact Nat.le_of_ble_eq_true rfl | exact rfl) ?_; with_reducible conv => whnf) | (rw [isLst_at (by assumption)]; with_reducible conv => whnf) | (refine ifT rfl ?_; with_reducible conv => whnf) | (refine ifF rfl ?_; with_reducible conv => whnf) | (refine it_at (by assumption) ?_; with_reducible conv => whnf)))
  refine ⟨⟨by decide, by decide, by decide⟩, ?_⟩
  ((with_reducible conv => whnf); repeat (first | (rw [natD_len]; with_reducible conv => whnf) | (rw [intD_len]; with_reducible conv => whnf) | (refine Exists.intro _ (And.intro (rfl : _ = some _) ?_); with_reducible conv => whnf) | (refine And.intro (okII _ _) ?_; rw [eqD_ii]; with_reducible conv => whnf) | (refine And.intro (by first | assumption | exact Exists.intro _ (by assumption) | exact ⟨rfl, rfl, by decide, by decide⟩ | exact Nat.le_of_ble_eq_true rfl | exact rfl) ?_; with_reducible conv => whnf) | (rw [isLst_at (by assumption)]; with_reducible conv => whnf) | (refine ifT rfl ?_; with_reducible conv => whnf) | (refine ifF rfl ?_; with_reducible conv => whnf) | (refine it_at (by assumption) ?_; with_reducible conv => whnf)))
  refine ⟨n0, 1000, rfl, by decide, d8, fun w S9 w0 w1 d9 c9 => ?_⟩
  ((with_reducible conv => whnf); repeat (first | (rw [natD_len]; with_reducible conv => whnf) | (rw [intD_len]; with_reducible conv => whnf) | (refine Exists.intro _ (And.intro (rfl : _ = some _) ?_); with_reducible conv => whnf) | (refine And.intro (okII _ _) ?_; rw [eqD_ii]; with_reducible conv => whnf) | (refine And.intro (by first | assumption | exact Exists.intro _ (by assumption) | exact ⟨rfl, rfl, by decide, by decide⟩ | exact Nat.le_of_ble_eq_true rfl | exact rfl) ?_; with_reducible conv => whnf) | (rw [isLst_at (by assumption)]; with_reducible conv => whnf) | (refine ifT rfl ?_; with_reducible conv => whnf) | (refine ifF rfl ?_; with_reducible conv => whnf) | (refine it_at (by assumption) ?_; with_reducible conv => whnf)))
  generalize hW : (10 : Int) ^ (30 : Int).toNat + w = W
  have eb := at_push S9 (.lst [.int x, .int ((y.natAbs : Nat) : Int), .int W])
  have d10 := d9.app [.lst [.int x, .int ((y.natAbs : Nat) : Int), .int W]]
  have hnb : S9.length ≠ n0 := by have := d9.lt; omega
  generalize S9 ++ [O.lst [.int x, .int ((y.natAbs : Nat) : Int), .int W]] = S10 at *
  generalize S9.length = q2 at *
  refine ⟨n0, 3, rfl, by decide, d10, fun r S11 r0 r1 d11 c11 => ?_⟩
  (with_reducible conv => whnf)
  rw [isLst_at (c11 _ _ hnb eb)]
  obtain ⟨c, hc, hcc⟩ : ∃ c : Int, c.natAbs < 2 ^ 1100000 ∧ atZ [D.int x, .int ((y.natAbs : Nat) : Int), .int W] r = some (.int c) := by
    rcases (show r = 0 ∨ r = 1 ∨ r = 2 by omega) with rfl | rfl | rfl
    · exact ⟨x, Nat.lt_of_lt_of_le (show x.natAbs < 2 ^ 10 by omega) (Nat.pow_le_pow_right (by decide) (by decide)), rfl⟩
    · exact ⟨_, by rw [Int.natAbs_natCast]; exact Nat.lt_of_lt_of_le hy (Nat.pow_le_pow_right (by decide) (by decide)), rfl⟩
    · refine ⟨_, Nat.lt_of_lt_of_le (show W.natAbs < 2 ^ 110 by
        have e1 : (10 : Int) ^ (30 : Int).toNat = 1000000000000000000000000000000 := by decide
        have e2 : (2 : Nat) ^ 110 = 1298074214633706907132624082305024 := by decide
        omega) (Nat.pow_le_pow_right (by decide) (by decide)), rfl⟩
  refine ⟨_, hcc, ?_⟩
  exact two_A hl hb hp (by omega) (by omega) (by omega) (by omega) hc kk d11
@[reducible] def sp_law : Spc := sp_p1
theorem body_law : Body 1 1 (w_law sp_p1 sp_p1) sp_law := by
  rintro ds S Q _ ⟨ns, rfl, hl, hb, kk⟩
  unfold w_law
  (simp only [start, List.map_cons, List.map_nil, List.length_cons, List.length_nil, Nat.reduceAdd, Nat.reduceSub, List.replicate_succ, List.replicate_zero, List.cons_append, List.nil_append, Nat.sub_self, Nat.zero_add])
  ((with_reducible conv => whnf); repeat (first | (rw [natD_len]; with_reducible conv => whnf) | (rw [intD_len]; with_reducible conv => whnf) | (refine Exists.intro _ (And.intro (rfl : _ = some _) ?_); with_reducible conv => whnf) | (refine And.intro (okII _ _) ?_; rw [eqD_ii]; with_reducible conv => whnf) | (refine And.intro (by first | assumption | exact Exists.intro _ (by assumption) | exact ⟨rfl, rfl, by decide, by decide⟩ | exact Nat.le_of_ble_eq_true rfl | exact rfl) ?_; with_reducible conv => whnf) | (rw [isLst_at (by assumption)]; with_reducible conv => whnf) | (refine ifT rfl ?_; with_reducible conv => whnf) | (refine ifF rfl ?_; with_reducible conv => whnf) | (refine it_at (by assumption) ?_; with_reducible conv => whnf)))
  refine ⟨ns, rfl, hl, hb, fun S1 => ?_⟩
  ((with_reducible conv => whnf); repeat (first | (rw [natD_len]; with_reducible conv => whnf) | (rw [intD_len]; with_reducible conv => whnf) | (refine Exists.intro _ (And.intro (rfl : _ = some _) ?_); with_reducible conv => whnf) | (refine And.intro (okII _ _) ?_; rw [eqD_ii]; with_reducible conv => whnf) | (refine And.intro (by first | assumption | exact Exists.intro _ (by assumption) | exact ⟨rfl, rfl, by decide, by decide⟩ | exact Nat.le_of_ble_eq_true rfl | exact rfl) ?_; with_reducible conv => whnf) | (rw [isLst_at (by assumption)]; with_reducible conv => whnf) | (refine ifT rfl ?_; with_reducible conv => whnf) | (refine ifF rfl ?_; with_reducible conv => whnf) | (refine it_at (by assumption) ?_; with_reducible conv => whnf)))
  exact ⟨ns, rfl, hl, hb, fun S2 => kk _⟩
end K80
set_option Elab.async false
set_option linter.all false
set_option maxRecDepth 100000
set_option maxHeartbeats 8000000
/-! the end: oddsweighed_k80_fair_parts_and_games_lef -/
namespace K80
open PySem PySem.Spec DL
theorem all_mk {l : PySem.W.OpenLaw} {w : World} {K : PySem.W.Frag} {h : Heap} {mg : Str → Option Value} {fa f_divisor f_fraction f_times f_power f_fair_part f_mean_games f_fair_coins f_law_draws f_law_take f_law_cell f_law_same f_law_lowest f_law_plus f_law_chance f_law_power f_law_part f_law_mean f_law_by_games f_law_is_told f_law_coins f_law_b_is_told f_law_part_one f_law_part_two f_law : Addr} (X : K.In h) (G : h.Ns mainGlobals mg) (hfa : mg "law" = some (.ref fa))
    {od_divisor an_divisor : Option Addr} {sl_divisor : Array (Option Value)} {oc_divisor kV_divisor dc_divisor pm_divisor cd_divisor ct_divisor : Value}
    (a_divisor : PySem.W.nsIn K mainGlobals "divisor" = some (some (.ref f_divisor))) (l_divisor : K.lookup f_divisor = some ⟨oc_divisor, od_divisor, .func (PySem.W.fnOf "divisor" "divisor" (L2.defArgs s_divisor) (L2.defBody s_divisor) (L2.defScope s_divisor) .none kV_divisor dc_divisor pm_divisor an_divisor cd_divisor ct_divisor), sl_divisor⟩) (c_divisor : PySem.W.codeIn K cd_divisor "divisor" = true) (k_divisor : PySem.W.keepIn K (.ref f_divisor) = true)
    {od_fraction an_fraction : Option Addr} {sl_fraction : Array (Option Value)} {oc_fraction kV_fraction dc_fraction pm_fraction cd_fraction ct_fraction : Value}
    (a_fraction : PySem.W.nsIn K mainGlobals "fraction" = some (some (.ref f_fraction))) (l_fraction : K.lookup f_fraction = some ⟨oc_fraction, od_fraction, .func (PySem.W.fnOf "fraction" "fraction" (L2.defArgs s_fraction) (L2.defBody s_fraction) (L2.defScope s_fraction) .none kV_fraction dc_fraction pm_fraction an_fraction cd_fraction ct_fraction), sl_fraction⟩) (c_fraction : PySem.W.codeIn K cd_fraction "fraction" = true) (k_fraction : PySem.W.keepIn K (.ref f_fraction) = true)
    {od_times an_times : Option Addr} {sl_times : Array (Option Value)} {oc_times kV_times dc_times pm_times cd_times ct_times : Value}
    (a_times : PySem.W.nsIn K mainGlobals "times" = some (some (.ref f_times))) (l_times : K.lookup f_times = some ⟨oc_times, od_times, .func (PySem.W.fnOf "times" "times" (L2.defArgs s_times) (L2.defBody s_times) (L2.defScope s_times) .none kV_times dc_times pm_times an_times cd_times ct_times), sl_times⟩) (c_times : PySem.W.codeIn K cd_times "times" = true) (k_times : PySem.W.keepIn K (.ref f_times) = true)
    {od_power an_power : Option Addr} {sl_power : Array (Option Value)} {oc_power kV_power dc_power pm_power cd_power ct_power : Value}
    (a_power : PySem.W.nsIn K mainGlobals "power" = some (some (.ref f_power))) (l_power : K.lookup f_power = some ⟨oc_power, od_power, .func (PySem.W.fnOf "power" "power" (L2.defArgs s_power) (L2.defBody s_power) (L2.defScope s_power) .none kV_power dc_power pm_power an_power cd_power ct_power), sl_power⟩) (c_power : PySem.W.codeIn K cd_power "power" = true) (k_power : PySem.W.keepIn K (.ref f_power) = true)
    {od_fair_part an_fair_part : Option Addr} {sl_fair_part : Array (Option Value)} {oc_fair_part kV_fair_part dc_fair_part pm_fair_part cd_fair_part ct_fair_part : Value}
    (a_fair_part : PySem.W.nsIn K mainGlobals "fair_part" = some (some (.ref f_fair_part))) (l_fair_part : K.lookup f_fair_part = some ⟨oc_fair_part, od_fair_part, .func (PySem.W.fnOf "fair_part" "fair_part" (L2.defArgs s_fair_part) (L2.defBody s_fair_part) (L2.defScope s_fair_part) .none kV_fair_part dc_fair_part pm_fair_part an_fair_part cd_fair_part ct_fair_part), sl_fair_part⟩) (c_fair_part : PySem.W.codeIn K cd_fair_part "fair_part" = true) (k_fair_part : PySem.W.keepIn K (.ref f_fair_part) = true)
    {od_mean_games an_mean_games : Option Addr} {sl_mean_games : Array (Option Value)} {oc_mean_games kV_mean_games dc_mean_games pm_mean_games cd_mean_games ct_mean_games : Value}
    (a_mean_games : PySem.W.nsIn K mainGlobals "mean_games" = some (some (.ref f_mean_games))) (l_mean_games : K.lookup f_mean_games = some ⟨oc_mean_games, od_mean_games, .func (PySem.W.fnOf "mean_games" "mean_games" (L2.defArgs s_mean_games) (L2.defBody s_mean_games) (L2.defScope s_mean_games) .none kV_mean_games dc_mean_games pm_mean_games an_mean_games cd_mean_games ct_mean_games), sl_mean_games⟩) (c_mean_games : PySem.W.codeIn K cd_mean_games "mean_games" = true) (k_mean_games : PySem.W.keepIn K (.ref f_mean_games) = true)
    {od_fair_coins an_fair_coins : Option Addr} {sl_fair_coins : Array (Option Value)} {oc_fair_coins kV_fair_coins dc_fair_coins pm_fair_coins cd_fair_coins ct_fair_coins : Value}
    (a_fair_coins : PySem.W.nsIn K mainGlobals "fair_coins" = some (some (.ref f_fair_coins))) (l_fair_coins : K.lookup f_fair_coins = some ⟨oc_fair_coins, od_fair_coins, .func (PySem.W.fnOf "fair_coins" "fair_coins" (L2.defArgs s_fair_coins) (L2.defBody s_fair_coins) (L2.defScope s_fair_coins) .none kV_fair_coins dc_fair_coins pm_fair_coins an_fair_coins cd_fair_coins ct_fair_coins), sl_fair_coins⟩) (c_fair_coins : PySem.W.codeIn K cd_fair_coins "fair_coins" = true) (k_fair_coins : PySem.W.keepIn K (.ref f_fair_coins) = true)
    {od_law_draws an_law_draws : Option Addr} {sl_law_draws : Array (Option Value)} {oc_law_draws kV_law_draws dc_law_draws pm_law_draws cd_law_draws ct_law_draws : Value}
    (a_law_draws : PySem.W.nsIn K mainGlobals "_law_draws" = some (some (.ref f_law_draws))) (l_law_draws : K.lookup f_law_draws = some ⟨oc_law_draws, od_law_draws, .func (PySem.W.fnOf "_law_draws" "_law_draws" (L2.defArgs s_law_draws) (L2.defBody s_law_draws) (L2.defScope s_law_draws) .none kV_law_draws dc_law_draws pm_law_draws an_law_draws cd_law_draws ct_law_draws), sl_law_draws⟩) (c_law_draws : PySem.W.codeIn K cd_law_draws "_law_draws" = true) (k_law_draws : PySem.W.keepIn K (.ref f_law_draws) = true)
    {od_law_take an_law_take : Option Addr} {sl_law_take : Array (Option Value)} {oc_law_take kV_law_take dc_law_take pm_law_take cd_law_take ct_law_take : Value}
    (a_law_take : PySem.W.nsIn K mainGlobals "_law_take" = some (some (.ref f_law_take))) (l_law_take : K.lookup f_law_take = some ⟨oc_law_take, od_law_take, .func (PySem.W.fnOf "_law_take" "_law_take" (L2.defArgs s_law_take) (L2.defBody s_law_take) (L2.defScope s_law_take) .none kV_law_take dc_law_take pm_law_take an_law_take cd_law_take ct_law_take), sl_law_take⟩) (c_law_take : PySem.W.codeIn K cd_law_take "_law_take" = true) (k_law_take : PySem.W.keepIn K (.ref f_law_take) = true)
    {od_law_cell an_law_cell : Option Addr} {sl_law_cell : Array (Option Value)} {oc_law_cell kV_law_cell dc_law_cell pm_law_cell cd_law_cell ct_law_cell : Value}
    (a_law_cell : PySem.W.nsIn K mainGlobals "_law_cell" = some (some (.ref f_law_cell))) (l_law_cell : K.lookup f_law_cell = some ⟨oc_law_cell, od_law_cell, .func (PySem.W.fnOf "_law_cell" "_law_cell" (L2.defArgs s_law_cell) (L2.defBody s_law_cell) (L2.defScope s_law_cell) .none kV_law_cell dc_law_cell pm_law_cell an_law_cell cd_law_cell ct_law_cell), sl_law_cell⟩) (c_law_cell : PySem.W.codeIn K cd_law_cell "_law_cell" = true) (k_law_cell : PySem.W.keepIn K (.ref f_law_cell) = true)
    {od_law_same an_law_same : Option Addr} {sl_law_same : Array (Option Value)} {oc_law_same kV_law_same dc_law_same pm_law_same cd_law_same ct_law_same : Value}
    (a_law_same : PySem.W.nsIn K mainGlobals "_law_same" = some (some (.ref f_law_same))) (l_law_same : K.lookup f_law_same = some ⟨oc_law_same, od_law_same, .func (PySem.W.fnOf "_law_same" "_law_same" (L2.defArgs s_law_same) (L2.defBody s_law_same) (L2.defScope s_law_same) .none kV_law_same dc_law_same pm_law_same an_law_same cd_law_same ct_law_same), sl_law_same⟩) (c_law_same : PySem.W.codeIn K cd_law_same "_law_same" = true) (k_law_same : PySem.W.keepIn K (.ref f_law_same) = true)
    {od_law_lowest an_law_lowest : Option Addr} {sl_law_lowest : Array (Option Value)} {oc_law_lowest kV_law_lowest dc_law_lowest pm_law_lowest cd_law_lowest ct_law_lowest : Value}
    (a_law_lowest : PySem.W.nsIn K mainGlobals "_law_lowest" = some (some (.ref f_law_lowest))) (l_law_lowest : K.lookup f_law_lowest = some ⟨oc_law_lowest, od_law_lowest, .func (PySem.W.fnOf "_law_lowest" "_law_lowest" (L2.defArgs s_law_lowest) (L2.defBody s_law_lowest) (L2.defScope s_law_lowest) .none kV_law_lowest dc_law_lowest pm_law_lowest an_law_lowest cd_law_lowest ct_law_lowest), sl_law_lowest⟩) (c_law_lowest : PySem.W.codeIn K cd_law_lowest "_law_lowest" = true) (k_law_lowest : PySem.W.keepIn K (.ref f_law_lowest) = true)
    {od_law_plus an_law_plus : Option Addr} {sl_law_plus : Array (Option Value)} {oc_law_plus kV_law_plus dc_law_plus pm_law_plus cd_law_plus ct_law_plus : Value}
    (a_law_plus : PySem.W.nsIn K mainGlobals "_law_plus" = some (some (.ref f_law_plus))) (l_law_plus : K.lookup f_law_plus = some ⟨oc_law_plus, od_law_plus, .func (PySem.W.fnOf "_law_plus" "_law_plus" (L2.defArgs s_law_plus) (L2.defBody s_law_plus) (L2.defScope s_law_plus) .none kV_law_plus dc_law_plus pm_law_plus an_law_plus cd_law_plus ct_law_plus), sl_law_plus⟩) (c_law_plus : PySem.W.codeIn K cd_law_plus "_law_plus" = true) (k_law_plus : PySem.W.keepIn K (.ref f_law_plus) = true)
    {od_law_chance an_law_chance : Option Addr} {sl_law_chance : Array (Option Value)} {oc_law_chance kV_law_chance dc_law_chance pm_law_chance cd_law_chance ct_law_chance : Value}
    (a_law_chance : PySem.W.nsIn K mainGlobals "_law_chance" = some (some (.ref f_law_chance))) (l_law_chance : K.lookup f_law_chance = some ⟨oc_law_chance, od_law_chance, .func (PySem.W.fnOf "_law_chance" "_law_chance" (L2.defArgs s_law_chance) (L2.defBody s_law_chance) (L2.defScope s_law_chance) .none kV_law_chance dc_law_chance pm_law_chance an_law_chance cd_law_chance ct_law_chance), sl_law_chance⟩) (c_law_chance : PySem.W.codeIn K cd_law_chance "_law_chance" = true) (k_law_chance : PySem.W.keepIn K (.ref f_law_chance) = true)
    {od_law_power an_law_power : Option Addr} {sl_law_power : Array (Option Value)} {oc_law_power kV_law_power dc_law_power pm_law_power cd_law_power ct_law_power : Value}
    (a_law_power : PySem.W.nsIn K mainGlobals "_law_power" = some (some (.ref f_law_power))) (l_law_power : K.lookup f_law_power = some ⟨oc_law_power, od_law_power, .func (PySem.W.fnOf "_law_power" "_law_power" (L2.defArgs s_law_power) (L2.defBody s_law_power) (L2.defScope s_law_power) .none kV_law_power dc_law_power pm_law_power an_law_power cd_law_power ct_law_power), sl_law_power⟩) (c_law_power : PySem.W.codeIn K cd_law_power "_law_power" = true) (k_law_power : PySem.W.keepIn K (.ref f_law_power) = true)
    {od_law_part an_law_part : Option Addr} {sl_law_part : Array (Option Value)} {oc_law_part kV_law_part dc_law_part pm_law_part cd_law_part ct_law_part : Value}
    (a_law_part : PySem.W.nsIn K mainGlobals "_law_part" = some (some (.ref f_law_part))) (l_law_part : K.lookup f_law_part = some ⟨oc_law_part, od_law_part, .func (PySem.W.fnOf "_law_part" "_law_part" (L2.defArgs s_law_part) (L2.defBody s_law_part) (L2.defScope s_law_part) .none kV_law_part dc_law_part pm_law_part an_law_part cd_law_part ct_law_part), sl_law_part⟩) (c_law_part : PySem.W.codeIn K cd_law_part "_law_part" = true) (k_law_part : PySem.W.keepIn K (.ref f_law_part) = true)
    {od_law_mean an_law_mean : Option Addr} {sl_law_mean : Array (Option Value)} {oc_law_mean kV_law_mean dc_law_mean pm_law_mean cd_law_mean ct_law_mean : Value}
    (a_law_mean : PySem.W.nsIn K mainGlobals "_law_mean" = some (some (.ref f_law_mean))) (l_law_mean : K.lookup f_law_mean = some ⟨oc_law_mean, od_law_mean, .func (PySem.W.fnOf "_law_mean" "_law_mean" (L2.defArgs s_law_mean) (L2.defBody s_law_mean) (L2.defScope s_law_mean) .none kV_law_mean dc_law_mean pm_law_mean an_law_mean cd_law_mean ct_law_mean), sl_law_mean⟩) (c_law_mean : PySem.W.codeIn K cd_law_mean "_law_mean" = true) (k_law_mean : PySem.W.keepIn K (.ref f_law_mean) = true)
    {od_law_by_games an_law_by_games : Option Addr} {sl_law_by_games : Array (Option Value)} {oc_law_by_games kV_law_by_games dc_law_by_games pm_law_by_games cd_law_by_games ct_law_by_games : Value}
    (a_law_by_games : PySem.W.nsIn K mainGlobals "_law_by_games" = some (some (.ref f_law_by_games))) (l_law_by_games : K.lookup f_law_by_games = some ⟨oc_law_by_games, od_law_by_games, .func (PySem.W.fnOf "_law_by_games" "_law_by_games" (L2.defArgs s_law_by_games) (L2.defBody s_law_by_games) (L2.defScope s_law_by_games) .none kV_law_by_games dc_law_by_games pm_law_by_games an_law_by_games cd_law_by_games ct_law_by_games), sl_law_by_games⟩) (c_law_by_games : PySem.W.codeIn K cd_law_by_games "_law_by_games" = true) (k_law_by_games : PySem.W.keepIn K (.ref f_law_by_games) = true)
    {od_law_is_told an_law_is_told : Option Addr} {sl_law_is_told : Array (Option Value)} {oc_law_is_told kV_law_is_told dc_law_is_told pm_law_is_told cd_law_is_told ct_law_is_told : Value}
    (a_law_is_told : PySem.W.nsIn K mainGlobals "_law_is_told" = some (some (.ref f_law_is_told))) (l_law_is_told : K.lookup f_law_is_told = some ⟨oc_law_is_told, od_law_is_told, .func (PySem.W.fnOf "_law_is_told" "_law_is_told" (L2.defArgs s_law_is_told) (L2.defBody s_law_is_told) (L2.defScope s_law_is_told) .none kV_law_is_told dc_law_is_told pm_law_is_told an_law_is_told cd_law_is_told ct_law_is_told), sl_law_is_told⟩) (c_law_is_told : PySem.W.codeIn K cd_law_is_told "_law_is_told" = true) (k_law_is_told : PySem.W.keepIn K (.ref f_law_is_told) = true)
    {od_law_coins an_law_coins : Option Addr} {sl_law_coins : Array (Option Value)} {oc_law_coins kV_law_coins dc_law_coins pm_law_coins cd_law_coins ct_law_coins : Value}
    (a_law_coins : PySem.W.nsIn K mainGlobals "_law_coins" = some (some (.ref f_law_coins))) (l_law_coins : K.lookup f_law_coins = some ⟨oc_law_coins, od_law_coins, .func (PySem.W.fnOf "_law_coins" "_law_coins" (L2.defArgs s_law_coins) (L2.defBody s_law_coins) (L2.defScope s_law_coins) .none kV_law_coins dc_law_coins pm_law_coins an_law_coins cd_law_coins ct_law_coins), sl_law_coins⟩) (c_law_coins : PySem.W.codeIn K cd_law_coins "_law_coins" = true) (k_law_coins : PySem.W.keepIn K (.ref f_law_coins) = true)
    {od_law_b_is_told an_law_b_is_told : Option Addr} {sl_law_b_is_told : Array (Option Value)} {oc_law_b_is_told kV_law_b_is_told dc_law_b_is_told pm_law_b_is_told cd_law_b_is_told ct_law_b_is_told : Value}
    (a_law_b_is_told : PySem.W.nsIn K mainGlobals "_law_b_is_told" = some (some (.ref f_law_b_is_told))) (l_law_b_is_told : K.lookup f_law_b_is_told = some ⟨oc_law_b_is_told, od_law_b_is_told, .func (PySem.W.fnOf "_law_b_is_told" "_law_b_is_told" (L2.defArgs s_law_b_is_told) (L2.defBody s_law_b_is_told) (L2.defScope s_law_b_is_told) .none kV_law_b_is_told dc_law_b_is_told pm_law_b_is_told an_law_b_is_told cd_law_b_is_told ct_law_b_is_told), sl_law_b_is_told⟩) (c_law_b_is_told : PySem.W.codeIn K cd_law_b_is_told "_law_b_is_told" = true) (k_law_b_is_told : PySem.W.keepIn K (.ref f_law_b_is_told) = true)
    {od_law_part_one an_law_part_one : Option Addr} {sl_law_part_one : Array (Option Value)} {oc_law_part_one kV_law_part_one dc_law_part_one pm_law_part_one cd_law_part_one ct_law_part_one : Value}
    (a_law_part_one : PySem.W.nsIn K mainGlobals "_law_part_one" = some (some (.ref f_law_part_one))) (l_law_part_one : K.lookup f_law_part_one = some ⟨oc_law_part_one, od_law_part_one, .func (PySem.W.fnOf "_law_part_one" "_law_part_one" (L2.defArgs s_law_part_one) (L2.defBody s_law_part_one) (L2.defScope s_law_part_one) .none kV_law_part_one dc_law_part_one pm_law_part_one an_law_part_one cd_law_part_one ct_law_part_one), sl_law_part_one⟩) (c_law_part_one : PySem.W.codeIn K cd_law_part_one "_law_part_one" = true) (k_law_part_one : PySem.W.keepIn K (.ref f_law_part_one) = true)
    {od_law_part_two an_law_part_two : Option Addr} {sl_law_part_two : Array (Option Value)} {oc_law_part_two kV_law_part_two dc_law_part_two pm_law_part_two cd_law_part_two ct_law_part_two : Value}
    (a_law_part_two : PySem.W.nsIn K mainGlobals "_law_part_two" = some (some (.ref f_law_part_two))) (l_law_part_two : K.lookup f_law_part_two = some ⟨oc_law_part_two, od_law_part_two, .func (PySem.W.fnOf "_law_part_two" "_law_part_two" (L2.defArgs s_law_part_two) (L2.defBody s_law_part_two) (L2.defScope s_law_part_two) .none kV_law_part_two dc_law_part_two pm_law_part_two an_law_part_two cd_law_part_two ct_law_part_two), sl_law_part_two⟩) (c_law_part_two : PySem.W.codeIn K cd_law_part_two "_law_part_two" = true) (k_law_part_two : PySem.W.keepIn K (.ref f_law_part_two) = true)
    {od_law an_law : Option Addr} {sl_law : Array (Option Value)} {oc_law kV_law dc_law pm_law cd_law ct_law : Value}
    (a_law : PySem.W.nsIn K mainGlobals "law" = some (some (.ref f_law))) (l_law : K.lookup f_law = some ⟨oc_law, od_law, .func (PySem.W.fnOf "law" "law" (L2.defArgs s_law) (L2.defBody s_law) (L2.defScope s_law) .none kV_law dc_law pm_law an_law cd_law ct_law), sl_law⟩) (c_law : PySem.W.codeIn K cd_law "law" = true) (k_law : PySem.W.keepIn K (.ref f_law) = true)
    (z_gcd : PySem.W.nsIn K mainGlobals "gcd" = some (some (.builtin "math.gcd")))
    (z_range : PySem.W.nsIn K mainGlobals "range" = some none)
    (z_int : PySem.W.nsIn K mainGlobals "int" = some none)
    (z_len : PySem.W.nsIn K mainGlobals "len" = some none)
    (z_list : PySem.W.nsIn K mainGlobals "list" = some none)
    (z_bool : PySem.W.nsIn K mainGlobals "bool" = some none)
    (z_isinstance : PySem.W.nsIn K mainGlobals "isinstance" = some none)
    (z_tuple : PySem.W.nsIn K mainGlobals "tuple" = some none)
    (z_abs : PySem.W.nsIn K mainGlobals "abs" = some none)
    (z_max : PySem.W.nsIn K mainGlobals "max" = some none)
    (z_min : PySem.W.nsIn K mainGlobals "min" = some none)
    (z_sum : PySem.W.nsIn K mainGlobals "sum" = some none)
    (htree : l.prog.given.tree = none) : ∃ fd : FuncData, (∀ (s : Shared) (v : Value), BindsTo s fd ⟨[v], []⟩ [("script", v)]) ∧ ∀ base : Heap, base.NoSeer → L2.FnOk l.prog w K mg base L2.CX0 48 fa fd ["script"] (spOf K 1 (sp_law)) := by
  have e := hfa.symm.trans (PySem.W.mg_of X G a_law)
  cases e
  have F_divisor := L2.fun_mk (st := s_divisor) l_divisor c_divisor k_divisor
  have m_divisor : mg "divisor" = some (.ref f_divisor) := PySem.W.mg_of X G a_divisor
  have F_fraction := L2.fun_mk (st := s_fraction) l_fraction c_fraction k_fraction
  have m_fraction : mg "fraction" = some (.ref f_fraction) := PySem.W.mg_of X G a_fraction
  have F_times := L2.fun_mk (st := s_times) l_times c_times k_times
  have m_times : mg "times" = some (.ref f_times) := PySem.W.mg_of X G a_times
  have F_power := L2.fun_mk (st := s_power) l_power c_power k_power
  have m_power : mg "power" = some (.ref f_power) := PySem.W.mg_of X G a_power
  have F_fair_part := L2.fun_mk (st := s_fair_part) l_fair_part c_fair_part k_fair_part
  have m_fair_part : mg "fair_part" = some (.ref f_fair_part) := PySem.W.mg_of X G a_fair_part
  have F_mean_games := L2.fun_mk (st := s_mean_games) l_mean_games c_mean_games k_mean_games
  have m_mean_games : mg "mean_games" = some (.ref f_mean_games) := PySem.W.mg_of X G a_mean_games
  have F_fair_coins := L2.fun_mk (st := s_fair_coins) l_fair_coins c_fair_coins k_fair_coins
  have m_fair_coins : mg "fair_coins" = some (.ref f_fair_coins) := PySem.W.mg_of X G a_fair_coins
  have F_law_draws := L2.fun_mk (st := s_law_draws) l_law_draws c_law_draws k_law_draws
  have m_law_draws : mg "_law_draws" = some (.ref f_law_draws) := PySem.W.mg_of X G a_law_draws
  have F_law_take := L2.fun_mk (st := s_law_take) l_law_take c_law_take k_law_take
  have m_law_take : mg "_law_take" = some (.ref f_law_take) := PySem.W.mg_of X G a_law_take
  have F_law_cell := L2.fun_mk (st := s_law_cell) l_law_cell c_law_cell k_law_cell
  have m_law_cell : mg "_law_cell" = some (.ref f_law_cell) := PySem.W.mg_of X G a_law_cell
  have F_law_same := L2.fun_mk (st := s_law_same) l_law_same c_law_same k_law_same
  have m_law_same : mg "_law_same" = some (.ref f_law_same) := PySem.W.mg_of X G a_law_same
  have F_law_lowest := L2.fun_mk (st := s_law_lowest) l_law_lowest c_law_lowest k_law_lowest
  have m_law_lowest : mg "_law_lowest" = some (.ref f_law_lowest) := PySem.W.mg_of X G a_law_lowest
  have F_law_plus := L2.fun_mk (st := s_law_plus) l_law_plus c_law_plus k_law_plus
  have m_law_plus : mg "_law_plus" = some (.ref f_law_plus) := PySem.W.mg_of X G a_law_plus
  have F_law_chance := L2.fun_mk (st := s_law_chance) l_law_chance c_law_chance k_law_chance
  have m_law_chance : mg "_law_chance" = some (.ref f_law_chance) := PySem.W.mg_of X G a_law_chance
  have F_law_power := L2.fun_mk (st := s_law_power) l_law_power c_law_power k_law_power
  have m_law_power : mg "_law_power" = some (.ref f_law_power) := PySem.W.mg_of X G a_law_power
  have F_law_part := L2.fun_mk (st := s_law_part) l_law_part c_law_part k_law_part
  have m_law_part : mg "_law_part" = some (.ref f_law_part) := PySem.W.mg_of X G a_law_part
  have F_law_mean := L2.fun_mk (st := s_law_mean) l_law_mean c_law_mean k_law_mean
  have m_law_mean : mg "_law_mean" = some (.ref f_law_mean) := PySem.W.mg_of X G a_law_mean
  have F_law_by_games := L2.fun_mk (st := s_law_by_games) l_law_by_games c_law_by_games k_law_by_games
  have m_law_by_games : mg "_law_by_games" = some (.ref f_law_by_games) := PySem.W.mg_of X G a_law_by_games
  have F_law_is_told := L2.fun_mk (st := s_law_is_told) l_law_is_told c_law_is_told k_law_is_told
  have m_law_is_told : mg "_law_is_told" = some (.ref f_law_is_told) := PySem.W.mg_of X G a_law_is_told
  have F_law_coins := L2.fun_mk (st := s_law_coins) l_law_coins c_law_coins k_law_coins
  have m_law_coins : mg "_law_coins" = some (.ref f_law_coins) := PySem.W.mg_of X G a_law_coins
  have F_law_b_is_told := L2.fun_mk (st := s_law_b_is_told) l_law_b_is_told c_law_b_is_told k_law_b_is_told
  have m_law_b_is_told : mg "_law_b_is_told" = some (.ref f_law_b_is_told) := PySem.W.mg_of X G a_law_b_is_told
  have F_law_part_one := L2.fun_mk (st := s_law_part_one) l_law_part_one c_law_part_one k_law_part_one
  have m_law_part_one : mg "_law_part_one" = some (.ref f_law_part_one) := PySem.W.mg_of X G a_law_part_one
  have F_law_part_two := L2.fun_mk (st := s_law_part_two) l_law_part_two c_law_part_two k_law_part_two
  have m_law_part_two : mg "_law_part_two" = some (.ref f_law_part_two) := PySem.W.mg_of X G a_law_part_two
  have F_law := L2.fun_mk (st := s_law) l_law c_law k_law
  have m_law : mg "law" = some (.ref _) := PySem.W.mg_of X G a_law
  have z_gcd := PySem.W.mg_of X G z_gcd
  have z_range := PySem.W.mg_none_of X G z_range
  have z_int := PySem.W.mg_none_of X G z_int
  have z_len := PySem.W.mg_none_of X G z_len
  have z_list := PySem.W.mg_none_of X G z_list
  have z_bool := PySem.W.mg_none_of X G z_bool
  have z_isinstance := PySem.W.mg_none_of X G z_isinstance
  have z_tuple := PySem.W.mg_none_of X G z_tuple
  have z_abs := PySem.W.mg_none_of X G z_abs
  have z_max := PySem.W.mg_none_of X G z_max
  have z_min := PySem.W.mg_none_of X G z_min
  have z_sum := PySem.W.mg_none_of X G z_sum
  refine ⟨PySem.W.fnOf "law" "law" (L2.defArgs s_law) (L2.defBody s_law) (L2.defScope s_law) .none kV_law dc_law pm_law an_law cd_law ct_law, fun s v => .of_eq rfl, fun base hsee => ?_⟩
  have C_law_draws : Callee l.prog w K mg base "_law_draws" 33 2 (sp_draws) := ok_law_draws (k := 32) F_law_draws m_law_draws z_int z_len z_list z_range  body_law_draws
  have C_law_take : Callee l.prog w K mg base "_law_take" 33 2 (sp_take) := ok_law_take (k := 32) F_law_take m_law_take z_len z_int  body_law_take
  have C_law_cell : Callee l.prog w K mg base "_law_cell" 34 2 (sp_cell) := ok_law_cell (k := 33) F_law_cell m_law_cell z_len z_int C_law_take (by decide) body_law_cell
  have C_law_lowest : Callee l.prog w K mg base "_law_lowest" 33 2 (sp_low) := ok_law_lowest (k := 32) F_law_lowest m_law_lowest z_abs z_int hsee htree (by decide)  body_law_lowest
  have C_law_chance : Callee l.prog w K mg base "_law_chance" 35 2 (sp_chance) := ok_law_chance (k := 34) F_law_chance m_law_chance z_abs z_int C_law_take (by decide) C_law_cell (by decide) C_law_lowest (by decide) body_law_chance
  have C_law_power : Callee l.prog w K mg base "_law_power" 33 2 (sp_pow) := ok_law_power (k := 32) F_law_power m_law_power z_range  body_law_power
  have C_law_part : Callee l.prog w K mg base "_law_part" 34 3 (sp_part) := ok_law_part (k := 33) F_law_part m_law_part z_range hsee htree (by decide) C_law_power (by decide) C_law_lowest (by decide) body_law_part
  have C_power : Callee l.prog w K mg base "power" 33 2 (sp_pow) := ok_power (k := 32) F_power m_power z_range  body_power
  have C_divisor : Callee l.prog w K mg base "divisor" 33 2 (sp_gcd) := ok_divisor (k := 32) F_divisor m_divisor z_gcd  body_divisor
  have C_fraction : Callee l.prog w K mg base "fraction" 34 2 (sp_ratio) := ok_fraction (k := 33) F_fraction m_fraction  hsee htree (by decide) C_divisor (by decide) body_fraction
  have C_fair_part : Callee l.prog w K mg base "fair_part" 35 3 (sp_part) := ok_fair_part (k := 34) F_fair_part m_fair_part z_range hsee htree (by decide) C_power (by decide) C_fraction (by decide) body_fair_part
  have N_law_same : Callee l.prog w K mg base "_law_same" 0 2 spNo := callee_none F_law_same m_law_same (F_law_same.binds (ps := ["actual", "due"]) fun _ _ _ _ _ _ us hl => match us, hl with | [_, _], _ => rfl) (fun _ _ _ h => h)
  have C_law_same_0 : Callee l.prog w K mg base "_law_same" 33 2 (sp_same 0) := ok_law_same (k := 32) F_law_same m_law_same z_bool z_isinstance z_int z_tuple z_len z_range N_law_same (by decide) (body_law_same _ 0 (by decide) (.inl rfl))
  have C_law_same : Callee l.prog w K mg base "_law_same" 34 2 (sp_same 1) := ok_law_same (k := 33) F_law_same m_law_same z_bool z_isinstance z_int z_tuple z_len z_range C_law_same_0 (by decide) (body_law_same _ 1 (by decide) (.inr ⟨_, rfl, rfl⟩))
  have C_law_mean : Callee l.prog w K mg base "_law_mean" 34 3 (sp_mean) := ok_law_mean (k := 33) F_law_mean m_law_mean z_range z_max z_min z_sum C_law_power (by decide) C_law_lowest (by decide) body_law_mean
  have C_law_plus : Callee l.prog w K mg base "_law_plus" 34 2 (sp_plus) := ok_law_plus (k := 33) F_law_plus m_law_plus  C_law_lowest (by decide) body_law_plus
  have N_law_by_games : Callee l.prog w K mg base "_law_by_games" 0 3 spNo := callee_none F_law_by_games m_law_by_games (F_law_by_games.binds (ps := ["p", "a", "b"]) fun _ _ _ _ _ _ us hl => match us, hl with | [_, _, _], _ => rfl) (fun _ _ _ h => h)
  have C_law_by_games_0 : Callee l.prog w K mg base "_law_by_games" 35 3 (sp_bg 0) := ok_law_by_games (k := 34) F_law_by_games m_law_by_games z_range N_law_by_games (by decide) C_law_lowest (by decide) C_law_plus (by decide) (body_law_by_games _ 0 (.inl rfl))
  have C_law_by_games_1 : Callee l.prog w K mg base "_law_by_games" 36 3 (sp_bg 1) := ok_law_by_games (k := 35) F_law_by_games m_law_by_games z_range C_law_by_games_0 (by decide) C_law_lowest (by decide) C_law_plus (by decide) (body_law_by_games _ 1 (.inr ⟨_, rfl, rfl⟩))
  have C_law_by_games_2 : Callee l.prog w K mg base "_law_by_games" 37 3 (sp_bg 2) := ok_law_by_games (k := 36) F_law_by_games m_law_by_games z_range C_law_by_games_1 (by decide) C_law_lowest (by decide) C_law_plus (by decide) (body_law_by_games _ 2 (.inr ⟨_, rfl, rfl⟩))
  have C_law_by_games_3 : Callee l.prog w K mg base "_law_by_games" 38 3 (sp_bg 3) := ok_law_by_games (k := 37) F_law_by_games m_law_by_games z_range C_law_by_games_2 (by decide) C_law_lowest (by decide) C_law_plus (by decide) (body_law_by_games _ 3 (.inr ⟨_, rfl, rfl⟩))
  have C_law_by_games_4 : Callee l.prog w K mg base "_law_by_games" 39 3 (sp_bg 4) := ok_law_by_games (k := 38) F_law_by_games m_law_by_games z_range C_law_by_games_3 (by decide) C_law_lowest (by decide) C_law_plus (by decide) (body_law_by_games _ 4 (.inr ⟨_, rfl, rfl⟩))
  have C_law_by_games_5 : Callee l.prog w K mg base "_law_by_games" 40 3 (sp_bg 5) := ok_law_by_games (k := 39) F_law_by_games m_law_by_games z_range C_law_by_games_4 (by decide) C_law_lowest (by decide) C_law_plus (by decide) (body_law_by_games _ 5 (.inr ⟨_, rfl, rfl⟩))
  have C_law_by_games_6 : Callee l.prog w K mg base "_law_by_games" 41 3 (sp_bg 6) := ok_law_by_games (k := 40) F_law_by_games m_law_by_games z_range C_law_by_games_5 (by decide) C_law_lowest (by decide) C_law_plus (by decide) (body_law_by_games _ 6 (.inr ⟨_, rfl, rfl⟩))
  have C_law_by_games_7 : Callee l.prog w K mg base "_law_by_games" 42 3 (sp_bg 7) := ok_law_by_games (k := 41) F_law_by_games m_law_by_games z_range C_law_by_games_6 (by decide) C_law_lowest (by decide) C_law_plus (by decide) (body_law_by_games _ 7 (.inr ⟨_, rfl, rfl⟩))
  have C_law_by_games_8 : Callee l.prog w K mg base "_law_by_games" 43 3 (sp_bg 8) := ok_law_by_games (k := 42) F_law_by_games m_law_by_games z_range C_law_by_games_7 (by decide) C_law_lowest (by decide) C_law_plus (by decide) (body_law_by_games _ 8 (.inr ⟨_, rfl, rfl⟩))
  have C_law_by_games_9 : Callee l.prog w K mg base "_law_by_games" 44 3 (sp_bg 9) := ok_law_by_games (k := 43) F_law_by_games m_law_by_games z_range C_law_by_games_8 (by decide) C_law_lowest (by decide) C_law_plus (by decide) (body_law_by_games _ 9 (.inr ⟨_, rfl, rfl⟩))
  have C_law_by_games : Callee l.prog w K mg base "_law_by_games" 45 3 (sp_bg 10) := ok_law_by_games (k := 44) F_law_by_games m_law_by_games z_range C_law_by_games_9 (by decide) C_law_lowest (by decide) C_law_plus (by decide) (body_law_by_games _ 10 (.inr ⟨_, rfl, rfl⟩))
  have C_mean_games : Callee l.prog w K mg base "mean_games" 35 3 (sp_mean) := ok_mean_games (k := 34) F_mean_games m_mean_games z_range C_power (by decide) C_fraction (by decide) body_mean_games
  have C_law_is_told : Callee l.prog w K mg base "_law_is_told" 46 3 (sp_told) := ok_law_is_told (k := 45) F_law_is_told m_law_is_told  C_law_part (by decide) C_fair_part (by decide) C_law_same (by decide) C_law_mean (by decide) C_law_by_games (by decide) C_mean_games (by decide) body_law_is_told
  have C_law_part_one : Callee l.prog w K mg base "_law_part_one" 47 1 (sp_p1) := ok_law_part_one (k := 46) F_law_part_one m_law_part_one z_int C_law_draws (by decide) C_law_chance (by decide) C_law_take (by decide) C_law_is_told (by decide) C_law_part (by decide) C_law_plus (by decide) C_fair_part (by decide) C_law_same (by decide) C_mean_games (by decide) body_law_part_one
  have C_law_coins : Callee l.prog w K mg base "_law_coins" 33 2 (sp_lcoins) := ok_law_coins (k := 32) F_law_coins m_law_coins  hsee htree (by decide)  body_law_coins
  have C_times : Callee l.prog w K mg base "times" 35 2 (sp_times) := ok_times (k := 34) F_times m_times  C_fraction (by decide) body_times
  have C_fair_coins : Callee l.prog w K mg base "fair_coins" 36 4 (sp_coins) := ok_fair_coins (k := 35) F_fair_coins m_fair_coins  hsee htree (by decide) C_fair_part (by decide) C_times (by decide) body_fair_coins
  have C_law_b_is_told : Callee l.prog w K mg base "_law_b_is_told" 37 4 (sp_bt) := ok_law_b_is_told (k := 36) F_law_b_is_told m_law_b_is_told  C_law_part (by decide) C_law_coins (by decide) C_fair_coins (by decide) C_law_same (by decide) body_law_b_is_told
  have C_law_part_two : Callee l.prog w K mg base "_law_part_two" 38 1 (sp_p1) := ok_law_part_two (k := 37) F_law_part_two m_law_part_two z_abs C_law_draws (by decide) C_law_chance (by decide) C_law_take (by decide) C_law_cell (by decide) C_law_b_is_told (by decide) C_fair_coins (by decide) C_law_same (by decide) body_law_part_two
  exact ok_law (k := 47) F_law m_law  C_law_part_one (by decide) C_law_part_two (by decide) body_law
end K80
open PySem PySem.W PyProof.Rows in
set_option maxRecDepth 100000 in
set_option maxHeartbeats 0 in
theorem PySem.Challenge.cw_oddsweighed_k80_fair_parts_and_games_lef_holds : PySem.Challenge.rw_oddsweighed_k80_fair_parts_and_games_lef.Holds := by
  w_on; o_law; k_head; (case hw => w_witness2)
  k_fill
  refine DL.walk_ofZ (l := PySem.Challenge.rw_oddsweighed_k80_fair_parts_and_games_lef) (n := 63) (k := 48) (x := "script") (sp := fun w => DL.spOf _ 1 (K80.sp_law)) (by decide +kernel) rfl (by decide) rfl ⟨rfl, by decide, by decide⟩ (fun w h Y => PySem.W.kIn_of Y) ?F (fun _ _ a ns hl hb hO hS => DL.law_sp hO hS ⟨ns, rfl, hl, hb, fun _ => rfl⟩) (fun _ _ _ _ h => h)
  case F =>
    intro w mg fa h KX G hmg
    refine' K80.all_mk KX G hmg ?a_divisor ?l_divisor ?c_divisor ?k_divisor ?a_fraction ?l_fraction ?c_fraction ?k_fraction ?a_times ?l_times ?c_times ?k_times ?a_power ?l_power ?c_power ?k_power ?a_fair_part ?l_fair_part ?c_fair_part ?k_fair_part ?a_mean_games ?l_mean_games ?c_mean_games ?k_mean_games ?a_fair_coins ?l_fair_coins ?c_fair_coins ?k_fair_coins ?a_law_draws ?l_law_draws ?c_law_draws ?k_law_draws ?a_law_take ?l_law_take ?c_law_take ?k_law_take ?a_law_cell ?l_law_cell ?c_law_cell ?k_law_cell ?a_law_same ?l_law_same ?c_law_same ?k_law_same ?a_law_lowest ?l_law_lowest ?c_law_lowest ?k_law_lowest ?a_law_plus ?l_law_plus ?c_law_plus ?k_law_plus ?a_law_chance ?l_law_chance ?c_law_chance ?k_law_chance ?a_law_power ?l_law_power ?c_law_power ?k_law_power ?a_law_part ?l_law_part ?c_law_part ?k_law_part ?a_law_mean ?l_law_mean ?c_law_mean ?k_law_mean ?a_law_by_games ?l_law_by_games ?c_law_by_games ?k_law_by_games ?a_law_is_told ?l_law_is_told ?c_law_is_told ?k_law_is_told ?a_law_coins ?l_law_coins ?c_law_coins ?k_law_coins ?a_law_b_is_told ?l_law_b_is_told ?c_law_b_is_told ?k_law_b_is_told ?a_law_part_one ?l_law_part_one ?c_law_part_one ?k_law_part_one ?a_law_part_two ?l_law_part_two ?c_law_part_two ?k_law_part_two ?a_law ?l_law ?c_law ?k_law ?z_gcd ?z_range ?z_int ?z_len ?z_list ?z_bool ?z_isinstance ?z_tuple ?z_abs ?z_max ?z_min ?z_sum rfl
    (case a_divisor => k_is)
    (case l_divisor => k_is)
    (case c_divisor => k_is)
    (case k_divisor => k_is)
    (case a_fraction => k_is)
    (case l_fraction => k_is)
    (case c_fraction => k_is)
    (case k_fraction => k_is)
    (case a_times => k_is)
    (case l_times => k_is)
    (case c_times => k_is)
    (case k_times => k_is)
    (case a_power => k_is)
    (case l_power => k_is)
    (case c_power => k_is)
    (case k_power => k_is)
    (case a_fair_part => k_is)
    (case l_fair_part => k_is)
    (case c_fair_part => k_is)
    (case k_fair_part => k_is)
    (case a_mean_games => k_is)
    (case l_mean_games => k_is)
    (case c_mean_games => k_is)
    (case k_mean_games => k_is)
    (case a_fair_coins => k_is)
    (case l_fair_coins => k_is)
    (case c_fair_coins => k_is)
    (case k_fair_coins => k_is)
    (case a_law_draws => k_is)
    (case l_law_draws => k_is)
    (case c_law_draws => k_is)
    (case k_law_draws => k_is)
    (case a_law_take => k_is)
    (case l_law_take => k_is)
    (case c_law_take => k_is)
    (case k_law_take => k_is)
    (case a_law_cell => k_is)
    (case l_law_cell => k_is)
    (case c_law_cell => k_is)
    (case k_law_cell => k_is)
    (case a_law_same => k_is)
    (case l_law_same => k_is)
    (case c_law_same => k_is)
    (case k_law_same => k_is)
    (case a_law_lowest => k_is)
    (case l_law_lowest => k_is)
    (case c_law_lowest => k_is)
    (case k_law_lowest => k_is)
    (case a_law_plus => k_is)
    (case l_law_plus => k_is)
    (case c_law_plus => k_is)
    (case k_law_plus => k_is)
    (case a_law_chance => k_is)
    (case l_law_chance => k_is)
    (case c_law_chance => k_is)
    (case k_law_chance => k_is)
    (case a_law_power => k_is)
    (case l_law_power => k_is)
    (case c_law_power => k_is)
    (case k_law_power => k_is)
    (case a_law_part => k_is)
    (case l_law_part => k_is)
    (case c_law_part => k_is)
    (case k_law_part => k_is)
    (case a_law_mean => k_is)
    (case l_law_mean => k_is)
    (case c_law_mean => k_is)
    (case k_law_mean => k_is)
    (case a_law_by_games => k_is)
    (case l_law_by_games => k_is)
    (case c_law_by_games => k_is)
    (case k_law_by_games => k_is)
    (case a_law_is_told => k_is)
    (case l_law_is_told => k_is)
    (case c_law_is_told => k_is)
    (case k_law_is_told => k_is)
    (case a_law_coins => k_is)
    (case l_law_coins => k_is)
    (case c_law_coins => k_is)
    (case k_law_coins => k_is)
    (case a_law_b_is_told => k_is)
    (case l_law_b_is_told => k_is)
    (case c_law_b_is_told => k_is)
    (case k_law_b_is_told => k_is)
    (case a_law_part_one => k_is)
    (case l_law_part_one => k_is)
    (case c_law_part_one => k_is)
    (case k_law_part_one => k_is)
    (case a_law_part_two => k_is)
    (case l_law_part_two => k_is)
    (case c_law_part_two => k_is)
    (case k_law_part_two => k_is)
    (case a_law => k_is)
    (case l_law => k_is)
    (case c_law => k_is)
    (case k_law => k_is)
    (case z_gcd => k_is)
    (case z_range => k_is)
    (case z_int => k_is)
    (case z_len => k_is)
    (case z_list => k_is)
    (case z_bool => k_is)
    (case z_isinstance => k_is)
    (case z_tuple => k_is)
    (case z_abs => k_is)
    (case z_max => k_is)
    (case z_min => k_is)
    (case z_sum => k_is)
