import PyProof.Rows.All
import PySem.Str
import PySem.PyData
import Wide.All
import OpenK.AllK
import Wide.FinOn
import HandS.ForMost
import HandS.Wide
import HandS.Gcd
import HandS.IsInst
import HandS.TupAny
import HandS.TupLe
import HandS.Style
import HandS.Flow
import HandS.Deep
import KE.SortData
import HandS.SortInts
import KE.DataMinMax
import KE.KTupSum
import HandS.Steps
import HandS.More
import HandS.SetFor
import HandS.Strs
import HandS.SetKeys
import HandS.Conv
import PyProof.TupleOfSeq
import PySem.Challenge.RW_oddsweighed_k96_whole_letters_in_envelop
set_option linter.all false
/-! DL0: plain data, a store of lists, and what a piece of a program asks of them (weakest preconditions by parts). No model in sight. -/
namespace DL
open PySem (Str)

/-- a value: tuples by value, a list of one's own by its place in the store, rol: a list that is only read -/
inductive D where
  | non | bl (b : Bool) | int (i : Int) | str (x : Str) | tup (xs : List D) | rol (xs : List D) | ref (n : Nat) | ty (n : String)

inductive O where
  | lst (xs : List D)
  | dic (kvs : List (D × D))

abbrev Sto := List O
abbrev Env := List (Option D)
abbrev VK := D → Sto → Prop
abbrev WE := Env → Sto → VK → Prop
abbrev WT := Env → Sto → (Bool → Sto → Prop) → Prop
abbrev WA := Env → Sto → (List D → Sto → Prop) → Prop
abbrev WG := D → Env → Sto → (Env → Sto → Prop) → Prop
abbrev WI := Env → Sto → (List D → (Sto → Prop) → Sto → Prop) → Prop
abbrev WP := Env → Sto → (Option Int → Sto → Prop) → Prop
structure Ends where
  nx : Env → Sto → Prop
  rt : VK
  bk : Env → Sto → Prop
  ct : Env → Sto → Prop
abbrev WS := Ends → Env → Sto → Prop
abbrev R1 := D → Sto → VK → Prop
abbrev R2 := D → D → Sto → VK → Prop
abbrev RL := List D → Sto → VK → Prop
abbrev RM := D → List D → Sto → VK → Prop
abbrev Spc := List D → Sto → VK → Prop

def szL : Nat := 16777216

/-! ### equality, order of plain data -/
mutual
def eqD : D → D → Bool
  | .non, .non => true
  | .bl a, .bl b => a == b
  | .bl a, .int j => (if a then 1 else 0) == j
  | .int i, .bl b => i == (if b then 1 else 0)
  | .int i, .int j => decide (i = j)
  | .str x, .str y => decide (x = y)
  | .tup xs, .tup ys => eqDs xs ys
  | _, _ => false
def eqDs : List D → List D → Bool
  | [], [] => true
  | x :: xs, y :: ys => eqD x y && eqDs xs ys
  | [], _ :: _ => false
  | _ :: _, [] => false
end
/-! without lists -/
mutual
def flat : D → Bool
  | .non | .bl _ | .int _ => true
  | .str x => x.cps.all (· < 0x110000)
  | .tup xs => flats xs
  | .rol _ | .ref _ | .ty _ => false
def flats : List D → Bool
  | [] => true
  | x :: xs => flat x && flats xs
end
mutual
def deep : D → Nat
  | .tup xs => deeps xs + 1
  | _ => 0
def deeps : List D → Nat
  | [] => 0
  | x :: xs => max (deep x) (deeps xs)
end
mutual
def toPy : D → PySem.PyData
  | .non => .none
  | .bl b => .bool b
  | .int i => .int i
  | .str x => .str x
  | .tup xs => .tuple (toPys xs)
  | .rol _ => .none
  | .ref _ => .none
  | .ty _ => .none
def toPys : List D → List PySem.PyData
  | [] => []
  | x :: xs => toPy x :: toPys xs
end
/-- intD all through, as tuples of one length or single -/
abbrev intD (ns : List Int) : List D := ns.map D.int

/-! ### the environment -/
@[reducible] def lk : Env → Nat → Option D
  | [], _ => none
  | x :: _, 0 => x
  | _ :: r, n + 1 => lk r n
@[reducible] def up : Env → Nat → Option D → Env
  | [], _, _ => []
  | _ :: r, 0, d => d :: r
  | x :: r, n + 1, d => x :: up r n d
@[reducible] def wipe (ρ : Env) : List Nat → Env
  | [] => ρ
  | i :: r => up (wipe ρ r) i none
def start (n : Nat) (ds : List D) : Env := ds.map some ++ List.replicate (n - ds.length) none

/-! ### expressions -/
@[reducible] def wVar (i : Nat) : WE := fun ρ S Q => match lk ρ i with
  | some d => Q d S
  | none => False
@[reducible] def wC (d : D) : WE := fun _ S Q => Q d S
@[reducible] def wOp (r : R2) (a b : WE) : WE := fun ρ S Q => a ρ S fun x S1 => b ρ S1 fun y S2 => r x y S2 Q
@[reducible] def wUn (r : R1) (a : WE) : WE := fun ρ S Q => a ρ S fun x S1 => r x S1 Q
@[reducible] def wNil : WA := fun _ S Q => Q [] S
@[reducible] def wCons (a : WE) (r : WA) : WA := fun ρ S Q => a ρ S fun x S1 => r ρ S1 fun xs S2 => Q (x :: xs) S2
@[reducible] def wTup (a : WA) : WE := fun ρ S Q => a ρ S fun xs S1 => xs.length ≤ szL ∧ Q (.tup xs) S1
@[reducible] def wLst (a : WA) : WE := fun ρ S Q => a ρ S fun xs S1 => xs.length ≤ szL ∧ Q (.ref S1.length) (S1 ++ [.lst xs])
@[reducible] def wCall (n : Nat) (sp : Spc) (a : WA) : WE := fun ρ S Q => a ρ S fun ds S1 => ds.length = n ∧ sp ds S1 Q
@[reducible] def wB (r : RL) (a : WA) : WE := fun ρ S Q => a ρ S fun ds S1 => r ds S1 Q
/-- a list there -/
@[reducible] def isL : D → Sto → Prop
  | .ref n, S => ∃ xs, S[n]? = some (.lst xs)
  | _, _ => False
/-- o.m(..), o a list of one's own -/
@[reducible] def wM (r : RM) (o : WE) (a : WA) : WE := fun ρ S Q => o ρ S fun x S1 => isL x S1 ∧ a ρ S1 fun ds S2 => r x ds S2 Q
@[reducible] def wM0 (r : RM) (o : WE) : WE := fun ρ S Q => o ρ S fun x S1 => isL x S1 ∧ r x [] S1 Q
@[reducible] def wPNo : WP := fun _ S Q => Q none S
@[reducible] def wPAt (a : WE) : WP := fun ρ S Q => a ρ S fun x S1 => match x with
  | .int i => Q (some i) S1
  | _ => False
@[reducible] def wSl (r : D → Option Int → Option Int → Sto → VK → Prop) (o : WE) (l u : WP) : WE := fun ρ S Q => o ρ S fun x S1 => l ρ S1 fun i S2 => u ρ S2 fun j S3 => r x i j S3 Q
/-! tests -/
@[reducible] def wtVal (a : WE) : WT := fun ρ S Q => a ρ S fun x S1 => match x with
  | .bl b => Q b S1
  | _ => False
@[reducible] def wtAnd (a b : WT) : WT := fun ρ S Q => a ρ S fun c S1 => if c = true then b ρ S1 Q else Q false S1
@[reducible] def wtOr (a b : WT) : WT := fun ρ S Q => a ρ S fun c S1 => if c = true then Q true S1 else b ρ S1 Q
@[reducible] def wtNot (a : WT) : WT := fun ρ S Q => a ρ S fun c S1 => Q (!c) S1
@[reducible] def wAnd (a b : WE) : WE := fun ρ S Q => a ρ S fun x S1 => match x with
  | .bl c => if c = true then b ρ S1 Q else Q (.bl false) S1
  | _ => False
@[reducible] def wOr (a b : WE) : WE := fun ρ S Q => a ρ S fun x S1 => match x with
  | .bl c => if c = true then Q (.bl true) S1 else b ρ S1 Q
  | _ => False
@[reducible] def wNot (a : WE) : WE := fun ρ S Q => a ρ S fun x S1 => match x with
  | .bl c => Q (.bl (!c)) S1
  | _ => False
@[reducible] def wIf (c : WT) (a b : WE) : WE := fun ρ S Q => c ρ S fun k S1 => if k = true then a ρ S1 Q else b ρ S1 Q
@[reducible] def wChain (r r' : R2) (a b c : WE) : WE := fun ρ S Q => a ρ S fun x S1 => b ρ S1 fun y S2 => r x y S2 fun z S3 => match z with
  | .bl k => if k = true then c ρ S3 fun u S4 => r' y u S4 Q else Q (.bl false) S3
  | _ => False

/-! ### what is walked -/
@[reducible] def wIt (a : WE) : WI := fun ρ S R => a ρ S fun x S1 => match x with
  | .tup xs => R xs (fun _ => True) S1
  | .rol xs => R xs (fun _ => True) S1
  | .ref n => match S1[n]? with
    | some (.lst xs) => R xs (fun S' => S'[n]? = some (.lst xs)) S1
    | _ => False
  | _ => False
/-- lo, lo + 1, .. below hi -/
def rangeD (lo hi : Int) : List D := (List.range (hi - lo).toNat).map fun (i : Nat) => D.int (lo + i)
def smallI (i : Int) : Prop := -(2 ^ 62) ≤ i ∧ i < 2 ^ 62
@[reducible] def wR1 (a : WE) : WI := fun ρ S R => a ρ S fun x S1 => match x with
  | .int j => smallI j ∧ R (rangeD 0 j) (fun _ => True) S1
  | _ => False
@[reducible] def wR2 (a b : WE) : WI := fun ρ S R => a ρ S fun x S1 => b ρ S1 fun y S2 => match x, y with
  | .int i, .int j => smallI i ∧ smallI j ∧ R (rangeD i j) (fun _ => True) S2
  | _, _ => False

/-! ### targets: a name, a tuple of names -/
@[reducible] def gN (i : Nat) : WG := fun d ρ S Q => Q (up ρ i (some d)) S
@[reducible] def gNs : List Nat → List D → Env → Option Env
  | [], [], ρ => some ρ
  | i :: r, d :: ds, ρ => gNs r ds (up ρ i (some d))
  | _, _, _ => none
@[reducible] def gT (is : List Nat) : WG := fun d ρ S Q => match d with
  | .tup ds => match gNs is ds ρ with
    | some ρ' => Q ρ' S
    | none => False
  | _ => False

/-! ### comprehensions: one clause, at most one test -/
@[reducible] def wtYes : WT := fun _ S Q => Q true S
/-- I: by the turn, what is made so far, the store; a step tells what it adds -/
def Lc (items : List D) (guard : Sto → Prop) (S1 : Sto) (step : D → Sto → (Option D → Sto → Prop) → Prop) (Q : VK) : Prop := items.length ≤ szL ∧ ∃ I : Nat → List D → Sto → Prop,
  I 0 [] S1 ∧ (∀ i acc S', I i acc S' → guard S') ∧
  (∀ i d acc S', items[i]? = some d → I i acc S' → step d S' fun o S2 => I (i + 1) (acc ++ o.toList) S2) ∧
  ∀ acc S', I items.length acc S' → Q (.ref S'.length) (S' ++ [.lst acc])
@[reducible] def wLc (wi : WI) (g : WG) (tt : WT) (te : WE) (vs : List Nat) : WE := fun ρ S Q => wi ρ S fun items guard S1 =>
  Lc items guard S1 (fun d S' R => g d (wipe ρ vs) S' fun ρ2 S2 => tt ρ2 S2 fun b S3 => if b = true then te ρ2 S3 fun y S4 => R (some y) S4 else R none S3) Q

/-! ### statements -/
@[reducible] def sNext : WS := fun E ρ S => E.nx ρ S
@[reducible] def sSeq (a b : WS) : WS := fun E ρ S => a { E with nx := b E } ρ S
@[reducible] def sBreak : WS := fun E ρ S => E.bk ρ S
@[reducible] def sCont : WS := fun E ρ S => E.ct ρ S
@[reducible] def sDrop (a : WE) : WS := fun E ρ S => a ρ S fun _ S1 => E.nx ρ S1
@[reducible] def sRet (a : WE) : WS := fun E ρ S => a ρ S E.rt
@[reducible] def sRetN : WS := fun E _ S => E.rt .non S
@[reducible] def sIf (c : WT) (a b : WS) : WS := fun E ρ S => c ρ S fun k S1 => if k = true then a E ρ S1 else b E ρ S1
@[reducible] def sNever : WS := fun _ _ _ => False
@[reducible] def sAsg (a : WE) (g : WG) : WS := fun E ρ S => a ρ S fun d S1 => g d ρ S1 E.nx
/-- a, b = x, y by names -/
@[reducible] def sPar (i j : Nat) (a b : WE) : WS := fun E ρ S => a ρ S fun x S1 => b ρ S1 fun y S2 => E.nx (up (up ρ i (some x)) j (some y)) S2
@[reducible] def sAug (i : Nat) (a : WE) (r : R2) : WS := fun E ρ S => match lk ρ i with
  | some x => a ρ S fun y S1 => r x y S1 fun z S2 => E.nx (up ρ i (some z)) S2
  | none => False
/-- o[i] = e -/
@[reducible] def sSub (r : D → D → D → Sto → (Sto → Prop) → Prop) (e o i : WE) : WS := fun E ρ S => e ρ S fun d S1 => o ρ S1 fun x S2 => i ρ S2 fun k S3 => r x k d S3 fun S4 => E.nx ρ S4
/-- o[i] op= e -/
@[reducible] def sAugSub (rg : R2) (rop : R2) (rs : D → D → D → Sto → (Sto → Prop) → Prop) (o i e : WE) : WS := fun E ρ S => o ρ S fun x S1 => i ρ S1 fun k S2 => rg x k S2 fun v S3 => e ρ S3 fun y S4 => rop v y S4 fun z S5 => rs x k z S5 fun S6 => E.nx ρ S6
/-- for: I by the turn -/
def Loop (items : List D) (guard : Sto → Prop) (step : D → Env → Sto → (Env → Sto → Prop) → Prop) (done : Env → Sto → Prop) (ρ : Env) (S : Sto) : Prop := ∃ I : Nat → Env → Sto → Prop,
  I 0 ρ S ∧ (∀ i ρ' S', I i ρ' S' → guard S') ∧ (∀ i d ρ' S', items[i]? = some d → I i ρ' S' → step d ρ' S' (I (i + 1))) ∧ ∀ ρ' S', I items.length ρ' S' → done ρ' S'
@[reducible] def sFor (wi : WI) (g : WG) (b : WS) : WS := fun E ρ S => wi ρ S fun items guard S1 =>
  Loop items guard (fun d ρ' S' N => g d ρ' S' fun ρ2 S2 => b { nx := N, rt := E.rt, bk := E.nx, ct := N } ρ2 S2) E.nx ρ S1
/-- while: I by a measure -/
@[reducible] def sWhile (c : WT) (b : WS) : WS := fun E ρ S => ∃ I : Nat → Env → Sto → Prop, (∃ m, I m ρ S) ∧
  ∀ m ρ' S', I m ρ' S' → c ρ' S' fun k S2 => if k = true then b { nx := fun ρ3 S3 => ∃ m', m' < m ∧ I m' ρ3 S3, rt := E.rt, bk := E.nx, ct := fun ρ3 S3 => ∃ m', m' < m ∧ I m' ρ3 S3 } ρ' S2 else E.nx ρ' S2
/-- a def's body keeps what is asked of it -/
def Body (n k : Nat) (w : WS) (sp : Spc) : Prop := ∀ ds S Q, ds.length = k → sp ds S Q → w { nx := fun _ S' => Q .non S', rt := Q, bk := fun _ _ => False, ct := fun _ _ => False } (start n ds) S

/-! ### operations by values -/
def MulOk (i j : Int) : Prop := (i.natAbs < 2 ^ 64 ∨ j.natAbs < 2 ^ 64) ∨ ∃ a b : Nat, i.natAbs < 2 ^ a ∧ j.natAbs < 2 ^ b ∧ a + b ≤ 1000000
def DivOk (j : Int) : Prop := j ≠ 0 ∧ j.natAbs < 2 ^ 9000
def PowOk (i j : Int) : Prop := 0 ≤ j ∧ j ≤ 1000000 ∧ i.natAbs < 2 ^ 64
def isLst (S : Sto) (n : Nat) (P : List D → Prop) : Prop := match S[n]? with
  | some (.lst xs) => P xs
  | _ => False
@[reducible] def rAdd : R2
  | .int i, .int j, S, Q => Q (.int (i + j)) S
  | .tup xs, .tup ys, S, Q => xs.length + ys.length ≤ szL ∧ Q (.tup (xs ++ ys)) S
  | .str x, .str y, S, Q => x.length + y.length ≤ szL ∧ Q (.str (x ++ y)) S
  | .ref m, .ref n, S, Q => isLst S m fun xs => isLst S n fun ys => xs.length + ys.length ≤ szL ∧ Q (.ref S.length) (S ++ [.lst (xs ++ ys)])
  | _, _, _, _ => False
@[reducible] def rSub : R2
  | .int i, .int j, S, Q => Q (.int (i - j)) S
  | _, _, _, _ => False
@[reducible] def rMul : R2
  | .int i, .int j, S, Q => MulOk i j ∧ Q (.int (i * j)) S
  | .ref m, .int k, S, Q => isLst S m fun xs => (-(2 ^ 63) ≤ k ∧ k < 2 ^ 63) ∧ xs.length * k.toNat ≤ szL ∧ Q (.ref S.length) (S ++ [.lst (List.replicate k.toNat xs).flatten])
  | _, _, _, _ => False
@[reducible] def rMul' : R2
  | .int i, .int j, S, Q => MulOk i j ∧ Q (.int (i * j)) S
  | _, _, _, _ => False
@[reducible] def rDiv : R2
  | .int i, .int j, S, Q => DivOk j ∧ Q (.int (i.fdiv j)) S
  | _, _, _, _ => False
@[reducible] def rMod : R2
  | .int i, .int j, S, Q => j ≠ 0 ∧ Q (.int (i.fmod j)) S
  | _, _, _, _ => False
@[reducible] def rPow : R2
  | .int i, .int j, S, Q => PowOk i j ∧ Q (.int (i ^ j.toNat)) S
  | _, _, _, _ => False
@[reducible] def rNeg : R1
  | .int i, S, Q => Q (.int (-i)) S
  | _, _, _ => False
@[reducible] def rCmp (f : Int → Int → Bool) : R2
  | .int i, .int j, S, Q => Q (.bl (f i j)) S
  | _, _, _, _ => False
abbrev rLt : R2 := rCmp fun i j => decide (i < j)
abbrev rLe : R2 := rCmp fun i j => decide (i ≤ j)
abbrev rGt : R2 := rCmp fun i j => decide (j < i)
abbrev rGe : R2 := rCmp fun i j => decide (j ≤ i)
@[reducible] def rEq : R2 := fun x y S Q => (flat x = true ∧ flat y = true ∧ deep x ≤ 64 ∧ deep y ≤ 64) ∧ Q (.bl (eqD x y)) S
@[reducible] def rNe : R2 := fun x y S Q => (flat x = true ∧ flat y = true ∧ deep x ≤ 64 ∧ deep y ≤ 64) ∧ Q (.bl (!eqD x y)) S
def isNon : D → Bool
  | .non => true
  | _ => false
@[reducible] def rIs : R2
  | x, .non, S, Q => Q (.bl (isNon x)) S
  | .bl a, .bl b, S, Q => Q (.bl (decide (a = b))) S
  | _, _, _, _ => False
@[reducible] def rIsNot : R2
  | x, .non, S, Q => Q (.bl (!isNon x)) S
  | .bl a, .bl b, S, Q => Q (.bl (!decide (a = b))) S
  | _, _, _, _ => False
/-- place i, from the end if negative -/
def ixZ (n : Nat) (i : Int) : Option Nat := if 0 ≤ i then (if i < n then some i.toNat else none) else if -(n : Int) ≤ i then some (i + n).toNat else none
def atZ {α : Type} (xs : List α) (i : Int) : Option α := (ixZ xs.length i).bind fun j => xs[j]?
@[reducible] def rIx : R2
  | .tup xs, .int i, S, Q => ∃ d, atZ xs i = some d ∧ Q d S
  | .rol xs, .int i, S, Q => ∃ d, atZ xs i = some d ∧ Q d S
  | .ref n, .int i, S, Q => isLst S n fun xs => ∃ d, atZ xs i = some d ∧ Q d S
  | .str z, .int i, S, Q => z.length ≤ szL ∧ ∃ c, atZ z.cps.toList i = some c ∧ Q (.str ⟨#[c]⟩) S
  | _, _, _, _ => False
def sIx (n d : Nat) : Option Int → Nat
  | none => d
  | some i => if i < 0 then (i + n).toNat else min i.toNat n
def cut {α : Type} (xs : List α) (lo hi : Option Int) : List α := (xs.drop (sIx xs.length 0 lo)).take (sIx xs.length xs.length hi - sIx xs.length 0 lo)
@[reducible] def rSl : D → Option Int → Option Int → Sto → VK → Prop
  | .tup xs, lo, hi, S, Q => Q (.tup (cut xs lo hi)) S
  | .ref n, lo, hi, S, Q => isLst S n fun xs => Q (.ref S.length) (S ++ [.lst (cut xs lo hi)])
  | _, _, _, _, _ => False
@[reducible] def rRev : R1
  | .tup xs, S, Q => Q (.tup xs.reverse) S
  | .ref n, S, Q => isLst S n fun xs => Q (.ref S.length) (S ++ [.lst xs.reverse])
  | _, _, _ => False
/-- plain things, for in -/
def flat0 : D → Bool
  | .non | .bl _ | .int _ | .str _ => true
  | _ => false
@[reducible] def rIn (neg : Bool) : R2
  | x, .tup ys, S, Q => (flat0 x = true ∧ ys.all flat0 = true) ∧ Q (.bl (if neg then !ys.any fun y => eqD y x else ys.any fun y => eqD y x)) S
  | x, .ref n, S, Q => isLst S n fun ys => (flat x = true ∧ flats ys = true ∧ deep x ≤ 63 ∧ deeps ys ≤ 63) ∧ Q (.bl (if neg then !ys.any fun y => eqD y x else ys.any fun y => eqD y x)) S
  | _, _, _, _ => False
/-! built-ins -/
@[reducible] def rLen : RL
  | [.tup xs], S, Q => Q (.int xs.length) S
  | [.rol xs], S, Q => Q (.int xs.length) S
  | [.str z], S, Q => z.length ≤ szL ∧ Q (.int z.length) S
  | [.ref n], S, Q => isLst S n fun xs => Q (.int xs.length) S
  | _, _, _ => False
@[reducible] def rAbs : RL
  | [.int i], S, Q => Q (.int i.natAbs) S
  | _, _, _ => False
@[reducible] def rInt : RL
  | [.int i], S, Q => Q (.int i) S
  | [.bl b], S, Q => Q (.int (if b = true then 1 else 0)) S
  | _, _, _ => False
@[reducible] def rMax2 : RL
  | [.int i, .int j], S, Q => Q (.int (max i j)) S
  | _, _, _ => False
@[reducible] def rMin2 : RL
  | [.int i, .int j], S, Q => Q (.int (min i j)) S
  | _, _, _ => False
@[reducible] def rList : RL
  | [.tup xs], S, Q => Q (.ref S.length) (S ++ [.lst xs])
  | [.rol xs], S, Q => Q (.ref S.length) (S ++ [.lst xs])
  | [.ref n], S, Q => isLst S n fun xs => Q (.ref S.length) (S ++ [.lst xs])
  | _, _, _ => False
@[reducible] def rTuple : RL
  | [.tup xs], S, Q => Q (.tup xs) S
  | [.rol xs], S, Q => Q (.tup xs) S
  | [.ref n], S, Q => isLst S n fun xs => Q (.tup xs) S
  | _, _, _ => False
/-- intD all through -/
def intsOf : List D → Option (List Int)
  | [] => some []
  | .int i :: r => (intsOf r).map (i :: ·)
  | _ => none
def bsOf : List D → Option (List Bool)
  | [] => some []
  | .bl i :: r => (bsOf r).map (i :: ·)
  | _ => none
/-- the list behind a list of one's own or a tuple -/
def itemsAt : D → Sto → Option (List D)
  | .tup xs, _ => some xs
  | .ref n, S => match S[n]? with
    | some (.lst xs) => some xs
    | _ => none
  | _, _ => none
@[reducible] def withInts (d : D) (S : Sto) (P : List Int → Prop) : Prop := ∃ ns, itemsAt d S = some (intD ns) ∧ P ns
@[reducible] def rSum : RL
  | [d], S, Q => withInts d S fun ns => Q (.int ns.sum) S
  | _, _, _ => False
@[reducible] def rMax : RL
  | [d], S, Q => withInts d S fun ns => 0 < ns.length ∧ ∀ m, m ∈ ns → (∀ y, y ∈ ns → y ≤ m) → Q (.int m) S
  | _, _, _ => False
@[reducible] def rMin : RL
  | [d], S, Q => withInts d S fun ns => 0 < ns.length ∧ ∀ m, m ∈ ns → (∀ y, y ∈ ns → m ≤ y) → Q (.int m) S
  | _, _, _ => False
@[reducible] def rAll : RL
  | [.ref n], S, Q => ∃ bs : List Bool, S[n]? = some (.lst (bs.map .bl)) ∧ Q (.bl (bs.all id)) S
  | _, _, _ => False
@[reducible] def rAny : RL
  | [.ref n], S, Q => ∃ bs : List Bool, S[n]? = some (.lst (bs.map .bl)) ∧ Q (.bl (bs.any id)) S
  | _, _, _ => False
@[reducible] def rGcd : RL
  | [.int a, .int b], S, Q => Q (.int (Nat.gcd a.natAbs b.natAbs : Nat)) S
  | _, _, _ => False
/-- isinstance(x, T): T one of bool, int, str, tuple, list -/
def isT : D → String → Option Bool
  | .non, t => if t ∈ ["bool", "int", "str", "tuple", "list"] then some false else none
  | .bl _, t => if t ∈ ["bool", "int"] then some true else if t ∈ ["str", "tuple", "list"] then some false else none
  | .int _, t => if t = "int" then some true else if t ∈ ["bool", "str", "tuple", "list"] then some false else none
  | .str _, t => if t = "str" then some true else if t ∈ ["bool", "int", "tuple", "list"] then some false else none
  | .tup _, t => if t = "tuple" then some true else if t ∈ ["bool", "int", "str", "list"] then some false else none
  | .ref _, t => if t = "list" then some true else if t ∈ ["bool", "int", "str", "tuple"] then some false else none
  | _, _ => none
@[reducible] def rIsi : RL
  | [d, .ty t], S, Q => ∃ b, isT d t = some b ∧ Q (.bl b) S
  | _, _, _ => False
/-! sorting -/
mutual
def ltD : D → D → Bool
  | .int i, .int j => decide (i < j)
  | .str x, .str y => decide (x.cps.toList < y.cps.toList)
  | .tup xs, .tup ys => ltDs xs ys
  | _, _ => false
def ltDs : List D → List D → Bool
  | [], [] => false
  | [], _ :: _ => true
  | _ :: _, [] => false
  | x :: xs, y :: ys => if eqD x y = true then ltDs xs ys else ltD x y
end
mutual
def akin : D → D → Bool
  | .int _, .int _ => true
  | .str _, .str _ => true
  | .tup xs, .tup ys => akins xs ys
  | _, _ => false
def akins : List D → List D → Bool
  | x :: xs, y :: ys => akin x y && akins xs ys
  | _, _ => true
end
/-- all ints, all texts, or all tuples with an item -/
def sortOk (xs : List D) : Prop := flats xs = true ∧ deeps xs ≤ 60 ∧ (∀ a ∈ xs, ∀ b ∈ xs, akin a b = true) ∧ ((∀ a ∈ xs, ∃ x r, a = .tup (x :: r)) ∨ ∀ a ∈ xs, a ≠ .non ∧ ∀ ys, a ≠ .tup ys)
@[reducible] def rSorted : RL
  | [.ref n], S, Q => isLst S n fun xs => sortOk xs ∧ ∀ ys, ys.Perm xs → ys.Pairwise (fun a b => ltD b a = false) → Q (.ref S.length) (S ++ [.lst ys])
  | _, _, _ => False
/-- sorted(set(a)) of ints -/
@[reducible] def wSortedSet (a : WE) : WE := fun ρ S Q => a ρ S fun d S1 => withInts d S1 fun ns => ns.length < 60 ∧ ∀ ms : List Int, ms.Pairwise (· < ·) → (∀ k, k ∈ ms ↔ k ∈ ns) → Q (.ref S1.length) (S1 ++ [.lst (intD ms)])
/-! methods of lists -/
@[reducible] def rAppend : RM
  | .ref n, [d], S, Q => isLst S n fun xs => xs.length < szL ∧ Q .non (S.set n (.lst (xs ++ [d])))
  | _, _, _, _ => False
@[reducible] def rPop : RM
  | .ref n, [], S, Q => isLst S n fun xs => ∃ d, xs[xs.length - 1]? = some d ∧ Q d (S.set n (.lst xs.dropLast))
  | _, _, _, _ => False
@[reducible] def rPopAt : RM
  | .ref n, [.int i], S, Q => isLst S n fun xs => (-(2 ^ 63) ≤ i ∧ i < 2 ^ 63) ∧ ∃ j d, ixZ xs.length i = some j ∧ xs[j]? = some d ∧ Q d (S.set n (.lst (xs.eraseIdx j)))
  | _, _, _, _ => False
@[reducible] def rReverse : RM
  | .ref n, [], S, Q => isLst S n fun xs => Q .non (S.set n (.lst xs.reverse))
  | _, _, _, _ => False
@[reducible] def rInsert : RM
  | .ref n, [.int i, d], S, Q => isLst S n fun xs => xs.length < szL ∧ (0 ≤ i ∧ i < 2 ^ 63) ∧ Q .non (S.set n (.lst (xs.take i.toNat ++ [d] ++ xs.drop i.toNat)))
  | _, _, _, _ => False
/-- o[i] = d -/
@[reducible] def rPut : D → D → D → Sto → (Sto → Prop) → Prop
  | .ref n, .int i, d, S, Q => isLst S n fun xs => ∃ j, ixZ xs.length i = some j ∧ Q (S.set n (.lst (xs.set j d)))
  | _, _, _, _, _ => False
end DL
set_option Elab.async false
set_option linter.all false
set_option maxRecDepth 100000
set_option maxHeartbeats 4000000
/-! DL1: the parts of DL0 hold of the model, rule by rule. -/
namespace DL
open PySem PySem.Spec
open L2 (V Hp HO St TE TT TA TS TG TI TO PE PT PW PA PS PSs PG PI PO Cx Inv RelV Vals SqL SqT Rd upd upd_same upd_ne ne_of ne_of_none OpR UnR CallR MtR IxR SlR It thn)

/-! ### how plain data lies in the heap -/
/-- a list that is only read -/
def RoL (K : PySem.W.Frag) (H : Hp) (a : Addr) (vs : List V) : Prop := (∃ o, H a = some (.frz o (.lst vs))) ∨
    ∃ (o : Obj) (its : Array Value) (n : Nat), K.lookup a = some o ∧ o.cls = .type "list" ∧ o.dict = none ∧ o.data = .seq its n ∧ its.size ≤ sizeLine ∧ Vals vs its.toList
theorem RoL.seq {K : PySem.W.Frag} {H : Hp} {a : Addr} {vs : List V} (h : RoL K H a vs) : SqL K H a vs := by
  rcases h with h | h
  · exact .inl (.inr h)
  · exact .inr h
mutual
def Rep (K : PySem.W.Frag) (H : Hp) (m : List Addr) : D → V → Prop
  | .non, v => v = .non
  | .bl b, v => v = .bl b
  | .int i, v => v = .int i
  | .str x, v => v = .str x
  | .ty n, v => v = .ty n
  | .ref n, v => ∃ a, m[n]? = some a ∧ v = .ref a
  | .tup ds, v => ∃ a vs, v = .ref a ∧ SqT K H a vs ∧ Reps K H m ds vs
  | .rol ds, v => ∃ a vs, v = .ref a ∧ RoL K H a vs ∧ Reps K H m ds vs
def Reps (K : PySem.W.Frag) (H : Hp) (m : List Addr) : List D → List V → Prop
  | [], vs => vs = []
  | d :: ds, vs => ∃ v r, vs = v :: r ∧ Rep K H m d v ∧ Reps K H m ds r
end
/-- from one heap to a later one: what is not ours stands, what is ours may have grown -/
structure Ext (m : List Addr) (H : Hp) (m' : List Addr) (H' : Hp) : Prop where
  pre : ∀ (n : Nat) (a : Addr), m[n]? = some a → m'[n]? = some a
  keep : ∀ (b : Addr) (o : HO), H b = some o → b ∉ m → H' b = some o
  new : ∀ b : Addr, b ∈ m' → b ∈ m ∨ H b = none
  lst : ∀ (b : Addr) (o : HO), H b = some o → (∀ xs, o ≠ .lst xs) → H' b = some o
theorem Ext.refl (m : List Addr) (H : Hp) : Ext m H m H := ⟨fun _ _ h => h, fun _ _ h _ => h, fun _ h => .inl h, fun _ _ h _ => h⟩
theorem Ext.trans {m m1 m2 : List Addr} {H H1 H2 : Hp} (a : Ext m H m1 H1) (b : Ext m1 H1 m2 H2) : Ext m H m2 H2 where
  pre := fun n x h => b.pre n x (a.pre n x h)
  keep := fun c o h hn => b.keep c o (a.keep c o h hn) fun z => by
    rcases a.new c z with z | z
    · exact hn z
    · rw [z] at h; cases h
  new := fun c h => by
    rcases b.new c h with z | z
    · exact a.new c z
    · by_cases hc : c ∈ m
      · exact .inl hc
      · refine .inr ?_
        cases e : H c with
        | none => rfl
        | some o => rw [a.keep c o e hc] at z; cases z
  lst := fun c o h hn => b.lst c o (a.lst c o h hn) hn
theorem Ext.sqT {m m' : List Addr} {H H' : Hp} (e : Ext m H m' H') {K : PySem.W.Frag} {a : Addr} {vs : List V} (h : SqT K H a vs) : SqT K H' a vs := by
  rcases h with (h | ⟨o, h⟩) | h
  · exact .inl (.inl (e.lst _ _ h fun _ z => nomatch z))
  · exact .inl (.inr ⟨o, e.lst _ _ h fun _ z => nomatch z⟩)
  · exact .inr h
theorem Ext.ro {m m' : List Addr} {H H' : Hp} (e : Ext m H m' H') {K : PySem.W.Frag} {a : Addr} {vs : List V} (h : RoL K H a vs) : RoL K H' a vs := by
  rcases h with ⟨o, h⟩ | h
  · exact .inl ⟨o, e.lst _ _ h fun _ z => nomatch z⟩
  · exact .inr h
section
variable {K : PySem.W.Frag} {m m' m1 : List Addr} {H H' H1 : Hp} {S S' : Sto}
mutual
theorem Rep.ext (e : Ext m H m' H') : ∀ (d : D) (v : V), Rep K H m d v → Rep K H' m' d v
  | .non, _, h => h
  | .bl _, _, h => h
  | .int _, _, h => h
  | .str _, _, h => h
  | .ty _, _, h => h
  | .ref _, _, ⟨a, h1, h2⟩ => ⟨a, e.pre _ _ h1, h2⟩
  | .tup ds, _, ⟨a, vs, h1, h2, h3⟩ => ⟨a, vs, h1, e.sqT h2, Reps.ext e ds vs h3⟩
  | .rol ds, _, ⟨a, vs, h1, h2, h3⟩ => ⟨a, vs, h1, e.ro h2, Reps.ext e ds vs h3⟩
theorem Reps.ext (e : Ext m H m' H') : ∀ (ds : List D) (vs : List V), Reps K H m ds vs → Reps K H' m' ds vs
  | [], _, h => h
  | d :: ds, _, ⟨v, r, h1, h2, h3⟩ => ⟨v, r, h1, Rep.ext e d v h2, Reps.ext e ds r h3⟩
end
theorem Reps.len : ∀ {ds : List D} {vs : List V}, Reps K H m ds vs → vs.length = ds.length
  | [], _, h => by rw [show _ = ([] : List V) from h]; rfl
  | d :: ds, _, ⟨v, r, h1, h2, h3⟩ => by rw [h1, List.length_cons, List.length_cons, Reps.len h3]
theorem Reps.get : ∀ {ds : List D} {vs : List V}, Reps K H m ds vs → ∀ (i : Nat) (d : D), ds[i]? = some d → ∃ v, vs[i]? = some v ∧ Rep K H m d v
  | [], _, h, i, d, e => by simp at e
  | d :: ds, _, ⟨v, r, h1, h2, h3⟩, 0, d', e => by
    simp at e
    subst e
    exact ⟨v, by rw [h1]; rfl, h2⟩
  | d :: ds, _, ⟨v, r, h1, h2, h3⟩, i + 1, d', e => by
    obtain ⟨w, e1, e2⟩ := Reps.get h3 i d' (by simpa using e)
    exact ⟨w, by rw [h1]; simpa using e1, e2⟩
theorem Reps.get' : ∀ {ds : List D} {vs : List V}, Reps K H m ds vs → ∀ (i : Nat) (v : V), vs[i]? = some v → ∃ d, ds[i]? = some d ∧ Rep K H m d v
  | [], _, h, i, d, e => by
    rw [show _ = ([] : List V) from h] at e
    simp at e
  | d :: ds, _, ⟨v, r, h1, h2, h3⟩, 0, d', e => by
    rw [h1] at e
    simp at e
    subst e
    exact ⟨d, rfl, h2⟩
  | d :: ds, _, ⟨v, r, h1, h2, h3⟩, i + 1, d', e => by
    rw [h1] at e
    obtain ⟨w, e1, e2⟩ := Reps.get' h3 i d' (by simpa using e)
    exact ⟨w, by simpa using e1, e2⟩
theorem Reps.app : ∀ {ds es : List D} {vs us : List V}, Reps K H m ds vs → Reps K H m es us → Reps K H m (ds ++ es) (vs ++ us)
  | [], _, _, _, h, q => by rw [show _ = ([] : List V) from h]; exact q
  | d :: ds, _, _, _, ⟨v, r, h1, h2, h3⟩, q => ⟨v, r ++ _, by rw [h1]; rfl, h2, Reps.app h3 q⟩
theorem Reps.one {d : D} {v : V} (h : Rep K H m d v) : Reps K H m [d] [v] := ⟨v, [], rfl, h, rfl⟩
theorem Reps.drop : ∀ {ds : List D} {vs : List V} (n : Nat), Reps K H m ds vs → Reps K H m (ds.drop n) (vs.drop n)
  | _, _, 0, h => h
  | [], _, n + 1, h => by rw [show _ = ([] : List V) from h]; rfl
  | d :: ds, _, n + 1, ⟨v, r, h1, h2, h3⟩ => by rw [h1]; exact Reps.drop n h3
theorem Reps.take : ∀ {ds : List D} {vs : List V} (n : Nat), Reps K H m ds vs → Reps K H m (ds.take n) (vs.take n)
  | _, _, 0, h => rfl
  | [], _, n + 1, h => by rw [show _ = ([] : List V) from h]; rfl
  | d :: ds, _, n + 1, ⟨v, r, h1, h2, h3⟩ => by rw [h1]; exact ⟨v, _, rfl, h2, Reps.take n h3⟩
theorem Reps.rev : ∀ {ds : List D} {vs : List V}, Reps K H m ds vs → Reps K H m ds.reverse vs.reverse
  | [], _, h => by rw [show _ = ([] : List V) from h]; rfl
  | d :: ds, _, ⟨v, r, h1, h2, h3⟩ => by
    rw [h1, List.reverse_cons, List.reverse_cons]
    exact Reps.app (Reps.rev h3) (Reps.one h2)
theorem Reps.set : ∀ {ds : List D} {vs : List V} {d : D} {v : V} (i : Nat), Reps K H m ds vs → Rep K H m d v → Reps K H m (ds.set i d) (vs.set i v)
  | [], _, _, _, i, h, q => by rw [show _ = ([] : List V) from h]; rfl
  | d :: ds, _, _, _, 0, ⟨v, r, h1, h2, h3⟩, q => by rw [h1]; exact ⟨_, _, rfl, q, h3⟩
  | d :: ds, _, _, _, i + 1, ⟨v, r, h1, h2, h3⟩, q => by rw [h1]; exact ⟨_, _, rfl, h2, Reps.set i h3 q⟩
theorem Reps.erase : ∀ {ds : List D} {vs : List V} (i : Nat), Reps K H m ds vs → Reps K H m (ds.eraseIdx i) (vs.eraseIdx i)
  | [], _, i, h => by rw [show _ = ([] : List V) from h]; cases i <;> rfl
  | d :: ds, _, 0, ⟨v, r, h1, h2, h3⟩ => by rw [h1]; exact h3
  | d :: ds, _, i + 1, ⟨v, r, h1, h2, h3⟩ => by rw [h1]; exact ⟨_, _, rfl, h2, Reps.erase i h3⟩
theorem Reps.dropLast {ds : List D} {vs : List V} (h : Reps K H m ds vs) : Reps K H m ds.dropLast vs.dropLast := by
  rw [List.dropLast_eq_take, List.dropLast_eq_take, h.len]
  exact h.take _
theorem Reps.rep {ds : List D} {vs : List V} (h : Reps K H m ds vs) : ∀ k : Nat, Reps K H m (List.replicate k ds).flatten (List.replicate k vs).flatten
  | 0 => rfl
  | k + 1 => by
    rw [List.replicate_succ, List.replicate_succ, List.flatten_cons, List.flatten_cons]
    exact Reps.app h (Reps.rep h k)
theorem Reps.ints : ∀ {ns : List Int} {vs : List V}, Reps K H m (intD ns) vs → vs = ns.map V.int
  | [], _, h => h
  | n :: ns, _, ⟨v, r, h1, h2, h3⟩ => by rw [h1, show v = V.int n from h2, Reps.ints h3]; rfl
theorem Reps.bls : ∀ {ns : List Bool} {vs : List V}, Reps K H m (ns.map D.bl) vs → vs = ns.map V.bl
  | [], _, h => h
  | n :: ns, _, ⟨v, r, h1, h2, h3⟩ => by rw [h1, show v = V.bl n from h2, Reps.bls h3]; rfl
theorem Reps.of_ints : ∀ {ns : List Int}, Reps K H m (DL.intD ns) (ns.map V.int)
  | [] => rfl
  | n :: ns => ⟨_, _, rfl, rfl, Reps.of_ints⟩

/-- one object of the store -/
def RepO (K : PySem.W.Frag) (H : Hp) (m : List Addr) : O → Addr → Prop
  | .lst ds, a => ∃ vs, H a = some (.lst vs) ∧ Reps K H m ds vs
  | .dic _, _ => False
structure RepS (K : PySem.W.Frag) (H : Hp) (m : List Addr) (S : Sto) : Prop where
  len : m.length = S.length
  nd : ∀ (i j : Nat) (a : Addr), m[i]? = some a → m[j]? = some a → i = j
  obj : ∀ (n : Nat) (o : O), S[n]? = some o → ∃ a, m[n]? = some a ∧ RepO K H m o a
theorem RepS.lst (h : RepS K H m S) {n : Nat} {ds : List D} (e : S[n]? = some (.lst ds)) : ∃ a vs, m[n]? = some a ∧ H a = some (.lst vs) ∧ Reps K H m ds vs := by
  obtain ⟨a, h1, vs, h2, h3⟩ := h.obj n _ e
  exact ⟨a, vs, h1, h2, h3⟩
theorem RepS.mem (h : RepS K H m S) {b : Addr} (hb : b ∈ m) : ∃ vs, H b = some (.lst vs) := by
  obtain ⟨n, hn, e⟩ := List.getElem_of_mem hb
  have e' : m[n]? = some b := by rw [List.getElem?_eq_getElem hn, e]
  have hs : n < S.length := by rw [← h.len]; exact hn
  obtain ⟨a, h1, h2⟩ := h.obj n S[n] (List.getElem?_eq_getElem hs)
  rw [e'] at h1
  cases h1
  cases hq : S[n] with
  | lst ds => rw [hq] at h2; obtain ⟨vs, h2, _⟩ := h2; exact ⟨vs, h2⟩
  | dic _ => rw [hq] at h2; exact h2.elim
theorem RepS.notin (h : RepS K H m S) {p : Addr} (hp : H p = none) : p ∉ m := fun z => by
  obtain ⟨vs, e⟩ := h.mem z
  rw [hp] at e; cases e
/-- a new thing that is not a list of ours -/
theorem Ext.fresh (hp : H p = none) (o : HO) : Ext m H m (upd H p o) where
  pre := fun _ _ h => h
  keep := fun b u h _ => by rw [upd_ne (ne_of_none h hp)]; exact h
  new := fun _ h => .inl h
  lst := fun b u h _ => by rw [upd_ne (ne_of_none h hp)]; exact h
theorem Ext.pushed (hp : H p = none) (o : HO) : Ext m H (m ++ [p]) (upd H p o) where
  pre := fun n a h => by
    rw [List.getElem?_append_left]
    · exact h
    · exact (List.getElem?_eq_some_iff.mp h).1
  keep := fun b u h _ => by rw [upd_ne (ne_of_none h hp)]; exact h
  new := fun b h => by
    rcases List.mem_append.mp h with z | z
    · exact .inl z
    · refine .inr ?_
      rw [List.mem_singleton.mp z]
      exact hp
  lst := fun b u h _ => by rw [upd_ne (ne_of_none h hp)]; exact h
theorem Ext.wrote {a : Addr} {vs us : List V} (ha : a ∈ m) (h : H a = some (.lst vs)) : Ext m H m (upd H a (.lst us)) where
  pre := fun _ _ h => h
  keep := fun b u q hn => by
    rw [upd_ne (a := a) (b := b) (fun z => hn (by rw [z]; exact ha))]
    exact q
  new := fun _ h => .inl h
  lst := fun b u q hl => by
    have hne : b ≠ a := fun z => by
      rw [z, h] at q
      exact hl vs (Option.some.inj q).symm
    rw [upd_ne hne]
    exact q
theorem RepS.fresh (h : RepS K H m S) (hp : H p = none) (o : HO) : RepS K (upd H p o) m S where
  len := h.len
  nd := h.nd
  obj := fun n u e => by
    obtain ⟨a, h1, h2⟩ := h.obj n u e
    refine ⟨a, h1, ?_⟩
    cases u with
    | lst ds =>
      obtain ⟨vs, h2, h3⟩ := h2
      exact ⟨vs, by rw [upd_ne (ne_of_none h2 hp)]; exact h2, Reps.ext (Ext.fresh hp o) _ _ h3⟩
    | dic _ => exact h2.elim
theorem RepS.push (h : RepS K H m S) (hp : H p = none) {ds : List D} {vs : List V} (r : Reps K H m ds vs) : RepS K (upd H p (.lst vs)) (m ++ [p]) (S ++ [.lst ds]) where
  len := by rw [List.length_append, List.length_append, h.len]; rfl
  nd := fun i j a h1 h2 => by
    have hn := h.notin hp
    have pos : ∀ (i : Nat) (a : Addr), (m ++ [p])[i]? = some a → (m[i]? = some a ∧ a ≠ p) ∨ (i = m.length ∧ a = p) := fun i a e => by
      by_cases hi : i < m.length
      · rw [List.getElem?_append_left hi] at e
        exact .inl ⟨e, fun z => hn (z ▸ List.mem_of_getElem? e)⟩
      · have hi' := (List.getElem?_eq_some_iff.mp e).1
        rw [List.length_append] at hi'
        have : i = m.length := by simp at hi'; omega
        subst this
        simp at e
        exact .inr ⟨rfl, e.symm⟩
    rcases pos i a h1 with ⟨e1, n1⟩ | ⟨e1, n1⟩ <;> rcases pos j a h2 with ⟨e2, n2⟩ | ⟨e2, n2⟩
    · exact h.nd i j a e1 e2
    · exact absurd n2 n1
    · exact absurd n1 n2
    · rw [e1, e2]
  obj := fun n u e => by
    by_cases hn : n < S.length
    · rw [List.getElem?_append_left hn] at e
      obtain ⟨a, h1, h2⟩ := h.obj n u e
      refine ⟨a, (Ext.pushed (m := m) hp (.lst vs)).pre _ _ h1, ?_⟩
      cases u with
      | lst ds =>
        obtain ⟨ws, h2, h3⟩ := h2
        exact ⟨ws, by rw [upd_ne (ne_of_none h2 hp)]; exact h2, Reps.ext (Ext.pushed hp _) _ _ h3⟩
      | dic _ => exact h2.elim
    · have hi' := (List.getElem?_eq_some_iff.mp e).1
      rw [List.length_append] at hi'
      have : n = S.length := by simp at hi'; omega
      subst this
      simp at e
      subst e
      exact ⟨p, by rw [← h.len]; simp, vs, upd_same, Reps.ext (Ext.pushed hp _) _ _ r⟩
theorem RepS.set (h : RepS K H m S) {n : Nat} {a : Addr} {ds ds' : List D} {vs' : List V} (e : S[n]? = some (.lst ds)) (ha : m[n]? = some a) (r : Reps K H m ds' vs') :
    RepS K (upd H a (.lst vs')) m (S.set n (.lst ds')) := by
  obtain ⟨a', vs, h1, h2, h3⟩ := h.lst e
  rw [ha] at h1
  cases h1
  have ext : Ext m H m (upd H a (.lst vs')) := Ext.wrote (List.mem_of_getElem? ha) h2
  have hn : n < S.length := (List.getElem?_eq_some_iff.mp e).1
  refine ⟨by rw [List.length_set]; exact h.len, h.nd, fun i u q => ?_⟩
  by_cases hi : i = n
  · subst hi
    rw [List.getElem?_set_self hn] at q
    cases q
    exact ⟨a, ha, vs', upd_same, Reps.ext ext _ _ r⟩
  · rw [List.getElem?_set_ne (Ne.symm hi)] at q
    obtain ⟨b, g1, g2⟩ := h.obj i u q
    refine ⟨b, g1, ?_⟩
    cases u with
    | lst es =>
      obtain ⟨ws, g2, g3⟩ := g2
      refine ⟨ws, ?_, Reps.ext ext _ _ g3⟩
      have hne : b ≠ a := fun z => hi (h.nd i n a (by rw [← z]; exact g1) ha)
      rw [upd_ne hne]
      exact g2
    | dic _ => exact g2.elim

/-! ### slots -/
structure RepE (K : PySem.W.Frag) (H : Hp) (m : List Addr) (ρ : Env) (σ : St) : Prop where
  len : ρ.length = σ.length
  get : ∀ (i : Nat) (d : D), lk ρ i = some d → ∃ v, σ[i]? = some (some v) ∧ Rep K H m d v
theorem RepE.ext {ρ : Env} {σ : St} (r : RepE K H m ρ σ) (e : Ext m H m' H') : RepE K H' m' ρ σ := ⟨r.len, fun i d h => let ⟨v, h1, h2⟩ := r.get i d h; ⟨v, h1, Rep.ext e _ _ h2⟩⟩
theorem lk_up : ∀ (ρ : Env) (i j : Nat) (d : Option D), lk (up ρ i d) j = if j = i ∧ i < ρ.length then d else lk ρ j
  | [], i, j, d => by simp [up, lk]
  | x :: r, 0, 0, d => by simp [up, lk]
  | x :: r, 0, j + 1, d => by simp [up, lk]
  | x :: r, i + 1, 0, d => by simp [up, lk]
  | x :: r, i + 1, j + 1, d => by simp [up, lk, lk_up r i j d]
theorem up_len : ∀ (ρ : Env) (i : Nat) (d : Option D), (up ρ i d).length = ρ.length
  | [], _, _ => rfl
  | x :: r, 0, _ => rfl
  | x :: r, i + 1, d => by simp [up, up_len r i d]
theorem RepE.set {ρ : Env} {σ : St} (r : RepE K H m ρ σ) {d : D} {v : V} (q : Rep K H m d v) (i : Nat) : RepE K H m (up ρ i (some d)) (σ.set i (some v)) := by
  refine ⟨by rw [up_len, List.length_set]; exact r.len, fun j e h => ?_⟩
  rw [lk_up] at h
  by_cases hj : j = i ∧ i < ρ.length
  · rw [if_pos hj] at h
    cases h
    obtain ⟨rfl, hl⟩ := hj
    exact ⟨v, by rw [List.getElem?_set_self (by rw [← r.len]; exact hl)], q⟩
  · rw [if_neg hj] at h
    obtain ⟨w, h1, h2⟩ := r.get j e h
    refine ⟨w, ?_, h2⟩
    have hlt := (List.getElem?_eq_some_iff.mp h1).1
    by_cases hji : j = i
    · exact absurd ⟨hji, by rw [r.len, ← hji]; exact hlt⟩ hj
    · rw [List.getElem?_set_ne (Ne.symm hji)]
      exact h1
theorem RepE.drop1 {ρ : Env} {σ : St} (r : RepE K H m ρ σ) (i : Nat) : RepE K H m (up ρ i none) (σ.set i none) := by
  refine ⟨by rw [up_len, List.length_set]; exact r.len, fun j e h => ?_⟩
  rw [lk_up] at h
  by_cases hj : j = i ∧ i < ρ.length
  · rw [if_pos hj] at h; cases h
  · rw [if_neg hj] at h
    obtain ⟨w, h1, h2⟩ := r.get j e h
    have hlt := (List.getElem?_eq_some_iff.mp h1).1
    refine ⟨w, ?_, h2⟩
    by_cases hji : j = i
    · exact absurd ⟨hji, by rw [r.len, ← hji]; exact hlt⟩ hj
    · rw [List.getElem?_set_ne (Ne.symm hji)]
      exact h1
end
end DL
set_option Elab.async false
set_option linter.all false
set_option maxRecDepth 100000
set_option maxHeartbeats 4000000
/-! DL2: the parts as rules of the layer: tests, calls, displays, blocks, loops, comprehensions. -/
namespace DL
open PySem PySem.Spec
open L2 (V Hp HO St TE TT TA TS TG TI TO PE PT PW PA PS PSs PG PI PO Cx Inv RelV Vals SqL SqT Rd upd upd_same upd_ne ne_of ne_of_none OpR UnR CallR MtR IxR SlR It thn)

/-! ### from a part to the layer's reading -/
abbrev Kont (K : PySem.W.Frag) (m : List Addr) (H : Hp) (R : D → Sto → Prop) (Q : V → Hp → Prop) : Prop :=
  ∀ v d H' S' m', Ext m H m' H' → RepS K H' m' S' → Rep K H' m' d v → R d S' → Q v H'
def teOf (K : PySem.W.Frag) (w : WE) : TE := fun σ H Q => ∃ ρ S m R, RepE K H m ρ σ ∧ RepS K H m S ∧ w ρ S R ∧ Kont K m H R Q
def ttOf (K : PySem.W.Frag) (w : WT) : TT := fun σ H Q => ∃ ρ S m R, RepE K H m ρ σ ∧ RepS K H m S ∧ w ρ S R ∧ ∀ b H' S' m', Ext m H m' H' → RepS K H' m' S' → R b S' → Q b H'
def taOf (K : PySem.W.Frag) (w : WA) : TA := fun σ H Q => ∃ ρ S m R, RepE K H m ρ σ ∧ RepS K H m S ∧ w ρ S R ∧ ∀ vs ds H' S' m', Ext m H m' H' → RepS K H' m' S' → Reps K H' m' ds vs → R ds S' → Q vs H'
def toOf (K : PySem.W.Frag) (w : WP) : TO := fun σ H Q => ∃ ρ S m R, RepE K H m ρ σ ∧ RepS K H m S ∧ w ρ S R ∧ ∀ b H' S' m', Ext m H m' H' → RepS K H' m' S' → R b S' → Q b H'
/-- slots but those at vs as they were -/
def tgOf (K : PySem.W.Frag) (vs : List Nat) (g : WG) : TG := fun v σ H Q => ∃ d ρ S m R, RepE K H m ρ σ ∧ RepS K H m S ∧ Rep K H m d v ∧ g d ρ S R ∧
  ∀ σ' ρ' S' m' H', L2.wipe σ' vs = L2.wipe σ vs → Ext m H m' H' → RepS K H' m' S' → RepE K H' m' ρ' σ' → R ρ' S' → Q σ' H'
def tsOf (K : PySem.W.Frag) (w : WS) : TS := fun D σ H => ∃ ρ S m E, RepE K H m ρ σ ∧ RepS K H m S ∧ w E ρ S ∧
  (∀ σ' ρ' H' S' m', Ext m H m' H' → RepS K H' m' S' → RepE K H' m' ρ' σ' → E.nx ρ' S' → D.nx σ' H') ∧ Kont K m H E.rt D.rt ∧
  (∀ σ' ρ' H' S' m', Ext m H m' H' → RepS K H' m' S' → RepE K H' m' ρ' σ' → E.bk ρ' S' → D.bk σ' H') ∧
  (∀ σ' ρ' H' S' m', Ext m H m' H' → RepS K H' m' S' → RepE K H' m' ρ' σ' → E.ct ρ' S' → D.ct σ' H')
/-- the items that an iterator yields -/
def Yields (K : PySem.W.Frag) (J : It) (items : List D) (guard : Sto → Prop) (m0 : List Addr) (H0 : Hp) : Prop :=
  ∀ m H S, Ext m0 H0 m H → RepS K H m S → guard S → (∀ (i : Nat) (d : D), items[i]? = some d → J.go i H ∧ ∀ x H', J.yld i H x H' → ∃ m', Ext m H m' H' ∧ RepS K H' m' S ∧ Rep K H' m' d x) ∧ (∀ i : Nat, items.length ≤ i → J.stop i H)
def tiOf (K : PySem.W.Frag) (w : WI) : TI := fun σ H R => ∃ ρ S m Rd, RepE K H m ρ σ ∧ RepS K H m S ∧ w ρ S Rd ∧
  ∀ J items guard S' m' H', Ext m H m' H' → RepS K H' m' S' → Yields K J items guard m' H' → Rd items guard S' → R J H'
def r2Of (K : PySem.W.Frag) (r : R2) : L2.R2 := fun x y H Q => ∃ m S dx dy R, RepS K H m S ∧ Rep K H m dx x ∧ Rep K H m dy y ∧ r dx dy S R ∧ Kont K m H R Q
def r1Of (K : PySem.W.Frag) (r : R1) : V → Hp → L2.VK → Prop := fun x H Q => ∃ m S dx R, RepS K H m S ∧ Rep K H m dx x ∧ r dx S R ∧ Kont K m H R Q
def rlOf (K : PySem.W.Frag) (r : RL) : List V → Hp → L2.VK → Prop := fun xs H Q => ∃ m S ds R, RepS K H m S ∧ Reps K H m ds xs ∧ r ds S R ∧ Kont K m H R Q
def rmOf (K : PySem.W.Frag) (r : RM) : V → List V → Hp → L2.VK → Prop := fun x xs H Q => ∃ m S dx ds R, RepS K H m S ∧ Rep K H m dx x ∧ Reps K H m ds xs ∧ r dx ds S R ∧ Kont K m H R Q
def rsOf (K : PySem.W.Frag) (r : D → Option Int → Option Int → Sto → VK → Prop) : V → Option Int → Option Int → Hp → L2.VK → Prop := fun x lo hi H Q => ∃ m S dx R, RepS K H m S ∧ Rep K H m dx x ∧ r dx lo hi S R ∧ Kont K m H R Q
/-- a def's promise -/
def spOf (K : PySem.W.Frag) (n : Nat) (sp : Spc) : L2.Sp := fun vs H Q _ => ∃ m S ds R, RepS K H m S ∧ Reps K H m ds vs ∧ ds.length = n ∧ sp ds S R ∧ Kont K m H R Q

theorem Kont.ext {K : PySem.W.Frag} {m m1 : List Addr} {H H1 : Hp} {R : D → Sto → Prop} {Q : V → Hp → Prop} (k : Kont K m H R Q) (e : Ext m H m1 H1) : Kont K m1 H1 R Q :=
  fun v d H' S' m' e' s r q => k v d H' S' m' (e.trans e') s r q

section
variable {X : Cx} {e : Expr} {es : List Expr} {a b c : Expr} {pos : Pos}
theorem peI {t t' : TE} (h : PE X e t) (hi : ∀ σ H Q, t' σ H Q → t σ H Q) : PE X e t' := ⟨fun pins s σ H Q I q => h.run pins s σ H Q I (hi _ _ _ q)⟩
theorem ptI {t t' : TT} (h : PT X e t) (hi : ∀ σ H Q, t' σ H Q → t σ H Q) : PT X e t' := ⟨fun pins s σ H Q I q => h.run pins s σ H Q I (hi _ _ _ q)⟩
theorem pwI {t t' : TT} (h : PW X e t) (hi : ∀ σ H Q, t' σ H Q → t σ H Q) : PW X e t' := ⟨fun wh pins s σ H Q I q => h.run wh pins s σ H Q I (hi _ _ _ q)⟩
theorem paI {t t' : TA} (h : PA X es t) (hi : ∀ σ H Q, t' σ H Q → t σ H Q) : PA X es t' := ⟨fun p pins s σ H Q I q => h.run p pins s σ H Q I (hi _ _ _ q)⟩
theorem psI {st : Stmt} {t t' : TS} (h : PS X st t) (hi : ∀ D σ H, t' D σ H → t D σ H) : PS X st t' := ⟨fun pins s σ H D I q => h.run pins s σ H D I (hi _ _ _ q)⟩
theorem pssI {st : List Stmt} {t t' : TS} (h : PSs X st t) (hi : ∀ D σ H, t' D σ H → t D σ H) : PSs X st t' := ⟨fun pins s σ H D I q => h.run pins s σ H D I (hi _ _ _ q)⟩
theorem pgI {tg : Expr} {t t' : TG} (h : PG X tg t) (hi : ∀ v σ H Q, t' v σ H Q → t v σ H Q) : PG X tg t' := ⟨fun pins s σ H v u Q I r q => h.run pins s σ H v u Q I r (hi _ _ _ _ q)⟩
theorem piI {tg it : Expr} {t t' : TI} (h : PI X tg it t) (hi : ∀ σ H Q, t' σ H Q → t σ H Q) : PI X tg it t' := ⟨fun pins s σ H R I q => h.run pins s σ H R I (hi _ _ _ q)⟩

variable {wa wb wc : WE}
/-- the first part's end, the second part begun -/
theorem and2 {K : PySem.W.Frag} {σ : St} {H : Hp} {ρ : Env} {S : Sto} {m : List Addr} {R : D → D → Sto → Prop} {T : V → V → Hp → Prop} (hE : RepE K H m ρ σ) (hS : RepS K H m S)
    (h : wa ρ S fun x S1 => wb ρ S1 fun y S2 => R x y S2)
    (k : ∀ m2 H2 S2 v u x y, Ext m H m2 H2 → RepS K H2 m2 S2 → Rep K H2 m2 x v → Rep K H2 m2 y u → R x y S2 → T v u H2) :
    teOf K wa σ H fun v H1 => teOf K wb σ H1 fun u H2 => T v u H2 :=
  ⟨ρ, S, m, _, hE, hS, h, fun v x H1 S1 m1 e1 s1 r1 q1 => ⟨ρ, S1, m1, _, hE.ext e1, s1, q1, fun u y H2 S2 m2 e2 s2 r2 q2 => k m2 H2 S2 v u x y (e1.trans e2) s2 (Rep.ext e2 _ _ r1) r2 q2⟩⟩

/-! ### names, constants -/
theorem d_var (i : Nat) {x : Str} (hN : X.N[i]? = some x := by rfl) (hv : L2.Vis X.env.scope x := by first | exact Or.inl rfl | exact Or.inr (Or.inl rfl) | exact Or.inr (Or.inr rfl)) (hd : (x == ("__debug__" : Str)) = false := by decide)
    (hcd : (x == ("__classdict__" : Str)) = false := by decide) : PE X (.Name x pos) (teOf X.K (wVar i)) := peI (L2.pe_var (i := i) hN hv hd hcd) fun σ H Q ⟨ρ, S, m, R, hE, hS, h, k⟩ => by
  unfold wVar at h
  cases e : lk ρ i with
  | none => rw [e] at h; exact h.elim
  | some d =>
    rw [e] at h
    obtain ⟨v, h1, h2⟩ := hE.get i d e
    exact ⟨v, h1, k v d H S m (Ext.refl _ _) hS h2 h⟩
theorem d_int {i j} : PE X (.Constant (.int i) j pos) (teOf X.K (wC (.int i))) := peI L2.pe_int fun σ H Q ⟨ρ, S, m, R, hE, hS, h, k⟩ => k _ (.int i) H S m (Ext.refl _ _) hS rfl h
theorem d_bl {b j} : PE X (.Constant (.bool b) j pos) (teOf X.K (wC (.bl b))) := peI L2.pe_bl fun σ H Q ⟨ρ, S, m, R, hE, hS, h, k⟩ => k _ (.bl b) H S m (Ext.refl _ _) hS rfl h
theorem d_non {j} : PE X (.Constant .none j pos) (teOf X.K (wC .non)) := peI L2.pe_non fun σ H Q ⟨ρ, S, m, R, hE, hS, h, k⟩ => k _ .non H S m (Ext.refl _ _) hS rfl h
theorem d_str {x j} : PE X (.Constant (.str x) j pos) (teOf X.K (wC (.str x))) := peI L2.pe_str fun σ H Q ⟨ρ, S, m, R, hE, hS, h, k⟩ => k _ (.str x) H S m (Ext.refl _ _) hS rfl h
/-- a built-in type as a value -/
theorem d_ty {x : Str} {n : String} (hg : L2.Gl X x) (hm : X.mg x = none) (hv : bootBuiltins x = some (.type n)) (hn : x ≠ "__name__" := by decide) (hd : (x == ("__debug__" : Str)) = false := by decide) : PE X (.Name x pos) (teOf X.K (wC (.ty n))) :=
  peI (L2.pe_bltn (v := .ty n) hg hm hv rfl hn hd) fun σ H Q ⟨ρ, S, m, R, hE, hS, h, k⟩ => k _ (.ty n) H S m (Ext.refl _ _) hS rfl h
/-- a constant of the module -/
theorem d_glob {x : Str} {v : V} {u : Value} {d : D} (hg : L2.Gl X x) (hm : X.mg x = some u) (r : RelV v u) (hr : ∀ H m, Rep X.K H m d v) (hd : (x == ("__debug__" : Str)) = false := by decide) : PE X (.Name x pos) (teOf X.K (wC d)) :=
  peI (L2.pe_glob hg hm r hd) fun σ H Q ⟨ρ, S, m, R, hE, hS, h, k⟩ => k _ _ H S m (Ext.refl _ _) hS (hr H m) h

/-! ### operators -/
theorem d_op {op : Operator} {r : R2} (ho : OpR X (binaryOp op) (r2Of X.K r)) (ha : PE X a (teOf X.K wa)) (hb : PE X b (teOf X.K wb)) : PE X (.BinOp a op b pos) (teOf X.K (wOp r wa wb)) :=
  peI (L2.pe_op ho ha hb) fun σ H Q ⟨ρ, S, m, R, hE, hS, h, k⟩ => and2 hE hS h fun m2 H2 S2 v u x y e s rx ry q => ⟨m2, S2, x, y, R, s, rx, ry, q, k.ext e⟩
theorem d_un {op : UnaryOp} {r : R1} (ho : UnR X (unaryOp op) (r1Of X.K r)) (ha : PE X a (teOf X.K wa)) : PE X (.UnaryOp op a pos) (teOf X.K (wUn r wa)) :=
  peI (L2.pe_un ho ha) fun σ H Q ⟨ρ, S, m, R, hE, hS, h, k⟩ => ⟨ρ, S, m, _, hE, hS, h, fun v x H1 S1 m1 e1 s1 r1 q1 => ⟨m1, S1, x, R, s1, r1, q1, k.ext e1⟩⟩
theorem d_cmp {op : CmpOp} {r : R2} (ho : OpR X (compareOp op) (r2Of X.K r)) (ha : PE X a (teOf X.K wa)) (hb : PE X b (teOf X.K wb)) (hm : behindInMarks op b = false := by first | exact L2.nobehind _ (by decide) (by decide) | rfl) : PE X (.Compare a [op] [b] pos) (teOf X.K (wOp r wa wb)) :=
  peI (L2.pe_cmpR ho ha hb hm) fun σ H Q ⟨ρ, S, m, R, hE, hS, h, k⟩ => and2 hE hS h fun m2 H2 S2 v u x y e s rx ry q => ⟨m2, S2, x, y, R, s, rx, ry, q, k.ext e⟩
theorem d_ix {r : R2} (ho : IxR X (r2Of X.K r)) (ha : PE X a (teOf X.K wa)) (hb : PE X b (teOf X.K wb)) (hs : L2.PlainIx b := by intro _ _; rfl) : PE X (.Subscript a b pos) (teOf X.K (wOp r wa wb)) :=
  peI (L2.pe_ix ho ha hb hs) fun σ H Q ⟨ρ, S, m, R, hE, hS, h, k⟩ => and2 hE hS h fun m2 H2 S2 v u x y e s rx ry q => ⟨m2, S2, x, y, R, s, rx, ry, q, k.ext e⟩
theorem d_chain {op op' : CmpOp} {r r' : R2} (ho : OpR X (compareOp op) (r2Of X.K r)) (ho' : OpR X (compareOp op') (r2Of X.K r')) (ha : PE X a (teOf X.K wa)) (hb : PE X b (teOf X.K wb)) (hc : PE X c (teOf X.K wc)) (hm : lastMarks [op, op'] [b, c] = false := by rfl) :
    PE X (.Compare a [op, op'] [b, c] pos) (teOf X.K (wChain r r' wa wb wc)) :=
  peI (L2.pe_chain ho ho' ha hb hc (hm := hm)) fun σ H Q ⟨ρ, S, m, R, hE, hS, h, k⟩ => and2 hE hS h fun m2 H2 S2 v u x y e s rx ry q => ⟨m2, S2, x, y, _, s, rx, ry, q, fun z d H3 S3 m3 e3 s3 r3 q3 => by
    cases d with
    | bl kk =>
      refine ⟨kk, r3, ?_⟩
      have q3 : if kk = true then wc ρ S3 fun u S4 => r' y u S4 R else R (.bl false) S3 := q3
      by_cases hk : kk = true
      · rw [if_pos hk] at q3 ⊢
        exact ⟨ρ, S3, m3, _, hE.ext (e.trans e3), s3, q3, fun w d4 H4 S4 m4 e4 s4 r4 q4 => ⟨m4, S4, y, d4, R, s4, Rep.ext (e3.trans e4) _ _ ry, r4, q4, k.ext (e.trans (e3.trans e4))⟩⟩
      · rw [if_neg hk] at q3 ⊢
        exact k _ (.bl false) H3 S3 m3 (e.trans e3) s3 rfl q3
    | _ => exact (show False from q3).elim⟩

/-! ### tests -/
theorem dt_val (h : PE X e (teOf X.K wa)) (he : ∀ whole, isTrue e X.env whole = (do let v ← whole; standAt e.pos; holding [v] (truthy v)) := by intro _; rfl) : PT X e (ttOf X.K (wtVal wa)) :=
  ptI (L2.pt_val h he) fun σ H Q ⟨ρ, S, m, R, hE, hS, h, k⟩ => ⟨ρ, S, m, _, hE, hS, h, fun v d H' S' m' e s r q => by
    cases d with
    | bl b => exact ⟨b, r, k b H' S' m' e s q⟩
    | _ => exact (show False from q).elim⟩
theorem dt_cmp {op : CmpOp} {r : R2} (ho : OpR X (compareOp op) (r2Of X.K r)) (ha : PE X a (teOf X.K wa)) (hb : PE X b (teOf X.K wb)) (hm : behindInMarks op b = false := by first | exact L2.nobehind _ (by decide) (by decide) | rfl) : PT X (.Compare a [op] [b] pos) (ttOf X.K (wtVal (wOp r wa wb))) :=
  ptI (L2.pt_cmpR ho ha hb hm) fun σ H Q ⟨ρ, S, m, R, hE, hS, h, k⟩ => and2 hE hS h fun m2 H2 S2 v u x y e s rx ry q => ⟨m2, S2, x, y, _, s, rx, ry, q, fun z d H3 S3 m3 e3 s3 r3 q3 => by
    cases d with
    | bl kk => exact ⟨kk, r3, k kk H3 S3 m3 (e.trans e3) s3 q3⟩
    | _ => exact (show False from q3).elim⟩
theorem dt_chain {op op' : CmpOp} {r r' : R2} (ho : OpR X (compareOp op) (r2Of X.K r)) (ho' : OpR X (compareOp op') (r2Of X.K r')) (ha : PE X a (teOf X.K wa)) (hb : PE X b (teOf X.K wb)) (hc : PE X c (teOf X.K wc)) (hm : lastMarks [op, op'] [b, c] = false := by rfl) :
    PT X (.Compare a [op, op'] [b, c] pos) (ttOf X.K (wtVal (wChain r r' wa wb wc))) :=
  ptI (L2.pt_chain ho ho' ha hb hc (hm := hm)) fun σ H Q ⟨ρ, S, m, R, hE, hS, h, k⟩ => and2 hE hS h fun m2 H2 S2 v u x y e s rx ry q => ⟨m2, S2, x, y, _, s, rx, ry, q, fun z d H3 S3 m3 e3 s3 r3 q3 => by
    cases d with
    | bl kk =>
      refine ⟨kk, r3, ?_⟩
      have q3 : if kk = true then wc ρ S3 fun u S4 => r' y u S4 _ else _ := q3
      by_cases hk : kk = true
      · rw [if_pos hk] at q3 ⊢
        exact ⟨ρ, S3, m3, _, hE.ext (e.trans e3), s3, q3, fun w d4 H4 S4 m4 e4 s4 r4 q4 => ⟨m4, S4, y, d4, _, s4, Rep.ext (e3.trans e4) _ _ ry, r4, q4, fun v5 d5 H5 S5 m5 e5 s5 r5 q5 => by
          cases d5 with
          | bl k5 => exact ⟨k5, r5, k k5 H5 S5 m5 (e.trans (e3.trans (e4.trans e5))) s5 q5⟩
          | _ => exact (show False from q5).elim⟩⟩
      · rw [if_neg hk] at q3 ⊢
        exact ⟨false, rfl, k false H3 S3 m3 (e.trans e3) s3 q3⟩
    | _ => exact (show False from q3).elim⟩
variable {ta tb : WT} {rest : List Expr}
theorem dt_not (ha : PT X a (ttOf X.K ta)) : PT X (.UnaryOp .Not a pos) (ttOf X.K (wtNot ta)) :=
  ptI (L2.pt_not ha) fun σ H Q ⟨ρ, S, m, R, hE, hS, h, k⟩ => ⟨ρ, S, m, _, hE, hS, h, fun b H' S' m' e s q => k _ H' S' m' e s q⟩
theorem dw_and1 (ha : PT X a (ttOf X.K ta)) : PW X (.BoolOp .And [a] pos) (ttOf X.K ta) := L2.pw_and1 ha
theorem dw_or1 (ha : PT X a (ttOf X.K ta)) : PW X (.BoolOp .Or [a] pos) (ttOf X.K ta) := L2.pw_or1 ha
theorem dw_and (ha : PT X a (ttOf X.K ta)) (hb : PW X (.BoolOp .And (b :: rest) pos) (ttOf X.K tb)) : PW X (.BoolOp .And (a :: b :: rest) pos) (ttOf X.K (wtAnd ta tb)) :=
  pwI (L2.pw_and ha hb) fun σ H Q ⟨ρ, S, m, R, hE, hS, h, k⟩ => ⟨ρ, S, m, _, hE, hS, h, fun b H' S' m' e s q => by
    have q : if b = true then tb ρ S' R else R false S' := q
    show if b = true then ttOf X.K tb σ H' Q else Q false H'
    by_cases hb : b = true
    · rw [if_pos hb] at q ⊢
      exact ⟨ρ, S', m', R, hE.ext e, s, q, fun b2 H2 S2 m2 e2 s2 q2 => k b2 H2 S2 m2 (e.trans e2) s2 q2⟩
    · rw [if_neg hb] at q ⊢
      exact k _ H' S' m' e s q⟩
theorem dw_or (ha : PT X a (ttOf X.K ta)) (hb : PW X (.BoolOp .Or (b :: rest) pos) (ttOf X.K tb)) : PW X (.BoolOp .Or (a :: b :: rest) pos) (ttOf X.K (wtOr ta tb)) :=
  pwI (L2.pw_or ha hb) fun σ H Q ⟨ρ, S, m, R, hE, hS, h, k⟩ => ⟨ρ, S, m, _, hE, hS, h, fun b H' S' m' e s q => by
    have q : if b = true then R true S' else tb ρ S' R := q
    show if b = true then Q true H' else ttOf X.K tb σ H' Q
    by_cases hb : b = true
    · rw [if_pos hb] at q ⊢
      exact k _ H' S' m' e s q
    · rw [if_neg hb] at q ⊢
      exact ⟨ρ, S', m', R, hE.ext e, s, q, fun b2 H2 S2 m2 e2 s2 q2 => k b2 H2 S2 m2 (e.trans e2) s2 q2⟩⟩
/-! as values -/
theorem d_one {op} (h : PE X a (teOf X.K wa)) : PE X (.BoolOp op [a] pos) (teOf X.K wa) := L2.pe_one h
theorem d_and (ha : PE X a (teOf X.K wa)) (hb : PE X (.BoolOp .And (b :: rest) pos) (teOf X.K wb)) : PE X (.BoolOp .And (a :: b :: rest) pos) (teOf X.K (wAnd wa wb)) :=
  peI (L2.pe_and ha hb) fun σ H Q ⟨ρ, S, m, R, hE, hS, h, k⟩ => ⟨ρ, S, m, _, hE, hS, h, fun v d H' S' m' e s r q => by
    cases d with
    | bl c =>
      refine ⟨c, r, ?_⟩
      have q : if c = true then wb ρ S' R else R (.bl false) S' := q
      by_cases hb : c = true
      · rw [if_pos hb] at q ⊢
        exact ⟨ρ, S', m', R, hE.ext e, s, q, k.ext e⟩
      · rw [if_neg hb] at q ⊢
        exact k _ (.bl false) H' S' m' e s rfl q
    | _ => exact (show False from q).elim⟩
theorem d_or (ha : PE X a (teOf X.K wa)) (hb : PE X (.BoolOp .Or (b :: rest) pos) (teOf X.K wb)) : PE X (.BoolOp .Or (a :: b :: rest) pos) (teOf X.K (wOr wa wb)) :=
  peI (L2.pe_or ha hb) fun σ H Q ⟨ρ, S, m, R, hE, hS, h, k⟩ => ⟨ρ, S, m, _, hE, hS, h, fun v d H' S' m' e s r q => by
    cases d with
    | bl c =>
      refine ⟨c, r, ?_⟩
      have q : if c = true then R (.bl true) S' else wb ρ S' R := q
      by_cases hb : c = true
      · rw [if_pos hb] at q ⊢
        exact k _ (.bl true) H' S' m' e s rfl q
      · rw [if_neg hb] at q ⊢
        exact ⟨ρ, S', m', R, hE.ext e, s, q, k.ext e⟩
    | _ => exact (show False from q).elim⟩
theorem d_not (ha : PE X a (teOf X.K wa)) : PE X (.UnaryOp .Not a pos) (teOf X.K (wNot wa)) :=
  peI (L2.pe_not ha) fun σ H Q ⟨ρ, S, m, R, hE, hS, h, k⟩ => ⟨ρ, S, m, _, hE, hS, h, fun v d H' S' m' e s r q => by
    cases d with
    | bl c => exact ⟨c, r, k _ (.bl (!c)) H' S' m' e s rfl q⟩
    | _ => exact (show False from q).elim⟩
theorem d_if (hc : PT X c (ttOf X.K ta)) (ha : PE X a (teOf X.K wa)) (hb : PE X b (teOf X.K wb)) : PE X (.IfExp c a b pos) (teOf X.K (wIf ta wa wb)) :=
  peI (L2.pe_ifExp hc ha hb) fun σ H Q ⟨ρ, S, m, R, hE, hS, h, k⟩ => ⟨ρ, S, m, _, hE, hS, h, fun c H' S' m' e s q => by
    have q : if c = true then wa ρ S' R else wb ρ S' R := q
    show if c = true then teOf X.K wa σ H' Q else teOf X.K wb σ H' Q
    by_cases hb : c = true
    · rw [if_pos hb] at q ⊢
      exact ⟨ρ, S', m', R, hE.ext e, s, q, k.ext e⟩
    · rw [if_neg hb] at q ⊢
      exact ⟨ρ, S', m', R, hE.ext e, s, q, k.ext e⟩⟩

/-! ### displays, calls -/
variable {va : WA}
theorem da_nil : PA X [] (taOf X.K wNil) := paI L2.pa_nil fun σ H Q ⟨ρ, S, m, R, hE, hS, h, k⟩ => k [] [] H S m (Ext.refl _ _) hS rfl h
theorem da_cons (ha : PE X e (teOf X.K wa)) (hr : PA X es (taOf X.K va)) (hs : starEach (e :: es) X.env = (false, eval e X.env) :: starEach es X.env := by rfl) : PA X (e :: es) (taOf X.K (wCons wa va)) :=
  paI (L2.pa_cons ha hr hs) fun σ H Q ⟨ρ, S, m, R, hE, hS, h, k⟩ => ⟨ρ, S, m, _, hE, hS, h, fun v x H1 S1 m1 e1 s1 r1 q1 => ⟨ρ, S1, m1, _, hE.ext e1, s1, q1, fun vs xs H2 S2 m2 e2 s2 r2 q2 =>
    k (v :: vs) (x :: xs) H2 S2 m2 (e1.trans e2) s2 ⟨_, _, rfl, Rep.ext e2 _ _ r1, r2⟩ q2⟩⟩
theorem d_tup {x1} (h : PA X es (taOf X.K va)) : PE X (.Tuple es x1 pos) (teOf X.K (wTup va)) :=
  peI (L2.pe_tup h) fun σ H Q ⟨ρ, S, m, R, hE, hS, h, k⟩ => ⟨ρ, S, m, _, hE, hS, h, fun vs ds H1 S1 m1 e1 s1 r1 ⟨z, q1⟩ => ⟨by rw [r1.len]; exact z, fun p hp =>
    k _ (.tup ds) _ S1 m1 (e1.trans (Ext.fresh hp _)) (s1.fresh hp _) ⟨p, vs, rfl, L2.SqT.of upd_same, Reps.ext (Ext.fresh hp _) _ _ r1⟩ q1⟩⟩
theorem d_lst (h : PA X es (taOf X.K va)) : PE X (.List es pos) (teOf X.K (wLst va)) :=
  peI (L2.pe_lst h) fun σ H Q ⟨ρ, S, m, R, hE, hS, h, k⟩ => ⟨ρ, S, m, _, hE, hS, h, fun vs ds H1 S1 m1 e1 s1 r1 ⟨z, q1⟩ => ⟨by rw [r1.len]; exact z, fun p hp =>
    k _ (.ref S1.length) _ _ (m1 ++ [p]) (e1.trans (Ext.pushed hp _)) (s1.push hp r1) ⟨p, by rw [← s1.len]; simp, rfl⟩ q1⟩⟩
theorem d_call {n kk : Nat} {f : Addr} {fd : FuncData} {ps : List Str} {sp : Spc} {x : Str} {p : Pos} (F : L2.FnOk X.prog X.w X.K X.mg X.base L2.CX0 kk f fd ps (spOf X.K n sp)) (hr : L2.Room kk X.A) (hg : L2.Gl X x) (hm : X.mg x = some (.ref f))
    (hk : PySem.W.keepIn X.K (.ref f) = true) (hb : L2.Binds X.K fd ps []) (ha : PA X (e :: es) (taOf X.K va)) (hd : (x == ("__debug__" : Str)) = false := by decide)
    (he : starEach (e :: es) X.env = (false, eval e X.env) :: starEach es X.env := by rfl) (hpl : (backTo pos (starEach es X.env)).any (·.1) = false := by rfl) :
    PE X (.Call (.Name x p) (e :: es) [] pos) (teOf X.K (wCall n sp va)) :=
  peI (L2.pe_call (dvs := []) (ds := []) (E := L2.E0) F hr hg hm hk hb .nil L2.pass0 ha hd he hpl) fun σ H Q ⟨ρ, S, m, R, hE, hS, h, k⟩ => ⟨ρ, S, m, _, hE, hS, h, fun vs ds H1 S1 m1 e1 s1 r1 ⟨z, q1⟩ =>
    ⟨m1, S1, ds, R, s1, by rw [List.append_nil]; exact r1, z, q1, k.ext e1⟩⟩
theorem d_callB {id : String} {r : RL} {x : Str} {p : Pos} (hc : CallR X (.builtin id) (rlOf X.K r)) (hg : L2.Gl X x) (hm : X.mg x = none) (hv : bootBuiltins x = some (.builtin id)) (ha : PA X (e :: es) (taOf X.K va)) (hn : x ≠ "__name__" := by decide) (hdb : (x == ("__debug__" : Str)) = false := by decide)
    (he : starEach (e :: es) X.env = (false, eval e X.env) :: starEach es X.env := by rfl) (hpl : (backTo pos (starEach es X.env)).any (·.1) = false := by rfl) : PE X (.Call (.Name x p) (e :: es) [] pos) (teOf X.K (wB r va)) :=
  peI (L2.pe_callB hc hg hm hv ha hn hdb he hpl) fun σ H Q ⟨ρ, S, m, R, hE, hS, h, k⟩ => ⟨ρ, S, m, _, hE, hS, h, fun vs ds H1 S1 m1 e1 s1 r1 q1 => ⟨m1, S1, ds, R, s1, r1, q1, k.ext e1⟩⟩
theorem d_callT {id : String} {r : RL} {x : Str} {p : Pos} (hc : CallR X (.type id) (rlOf X.K r)) (hg : L2.Gl X x) (hm : X.mg x = none) (hv : bootBuiltins x = some (.type id)) (ha : PA X (e :: es) (taOf X.K va)) (hn : x ≠ "__name__" := by decide) (hdb : (x == ("__debug__" : Str)) = false := by decide)
    (he : starEach (e :: es) X.env = (false, eval e X.env) :: starEach es X.env := by rfl) (hpl : (backTo pos (starEach es X.env)).any (·.1) = false := by rfl) : PE X (.Call (.Name x p) (e :: es) [] pos) (teOf X.K (wB r va)) :=
  peI (L2.pe_callTy hc hg hm hv ha hn hdb he hpl) fun σ H Q ⟨ρ, S, m, R, hE, hS, h, k⟩ => ⟨ρ, S, m, _, hE, hS, h, fun vs ds H1 S1 m1 e1 s1 r1 q1 => ⟨m1, S1, ds, R, s1, r1, q1, k.ext e1⟩⟩
/-- a name of the module that holds a built-in function (math.gcd) -/
theorem d_callF {id : String} {r : RL} {x : Str} {p : Pos} (hc : CallR X (.builtin id) (rlOf X.K r)) (hg : L2.Gl X x) (hm : X.mg x = some (.builtin id)) (ha : PA X (e :: es) (taOf X.K va)) (hdb : (x == ("__debug__" : Str)) = false := by decide)
    (he : starEach (e :: es) X.env = (false, eval e X.env) :: starEach es X.env := by rfl) (hpl : (backTo pos (starEach es X.env)).any (·.1) = false := by rfl) : PE X (.Call (.Name x p) (e :: es) [] pos) (teOf X.K (wB r va)) :=
  peI (L2.pe_callBfun hc hg hm ha hdb he hpl) fun σ H Q ⟨ρ, S, m, R, hE, hS, h, k⟩ => ⟨ρ, S, m, _, hE, hS, h, fun vs ds H1 S1 m1 e1 s1 r1 q1 => ⟨m1, S1, ds, R, s1, r1, q1, k.ext e1⟩⟩
theorem isL_ty {K : PySem.W.Frag} {H : Hp} {m : List Addr} {S : Sto} {x : D} {v : V} (s : RepS K H m S) (r : Rep K H m x v) (h : isL x S) : L2.tyV K "list" v H := by
  cases x with
  | ref n =>
    obtain ⟨xs, h⟩ := h
    obtain ⟨a, vs, h1, h2, h3⟩ := s.lst h
    obtain ⟨b, g1, rfl⟩ := r
    rw [h1] at g1
    cases g1
    exact .inl ⟨rfl, vs, L2.SqL.of h2⟩
  | _ => exact (show False from h).elim
variable {o : Expr} {wo : WE}
theorem d_m {name : Str} {id : String} {r : RM} {apos cpos : Pos} (slot : Slot "list" name id) (hty : typeOf (.builtin id) = pure (.type "method_descriptor")) (hm : MtR X id (rmOf X.K r)) (ho : PE X o (teOf X.K wo)) (ha : PA X (e :: es) (taOf X.K va))
    (hbase : attributeBase o name X.env (eval o X.env) = eval o X.env := by rfl)
    (hfew : ((backTo cpos (starEach (e :: es) X.env)).all (fun x => !x.1) && (backToKw cpos (keywordEach [] X.env)).all (fun x => x.1.isSome)
      && decide ((e :: es).length + ([] : List Keyword).length + (if ([] : List Keyword).isEmpty then 0 else 1) < 30)) = true := by rfl)
    (hline : (apos.endLine == cpos.line) = true := by rfl) (hs : starEach (e :: es) X.env = (false, eval e X.env) :: starEach es X.env := by rfl) (hplain : (backTo cpos (starEach es X.env)).any (·.1) = false := by rfl) :
    PE X (.Call (.Attribute o name apos) (e :: es) [] cpos) (teOf X.K (wM r wo va)) :=
  peI (L2.pe_bm PySem.F.plainAttrs_list slot hty hm ho ha hbase hfew hline hs hplain) fun σ H Q ⟨ρ, S, m, R, hE, hS, h, k⟩ => ⟨ρ, S, m, _, hE, hS, h, fun v x H1 S1 m1 e1 s1 r1 ⟨z, q1⟩ =>
    ⟨isL_ty s1 r1 z, ρ, S1, m1, _, hE.ext e1, s1, q1, fun vs ds H2 S2 m2 e2 s2 r2 q2 => ⟨m2, S2, x, ds, R, s2, Rep.ext e2 _ _ r1, r2, q2, k.ext (e1.trans e2)⟩⟩⟩
theorem d_m0 {name : Str} {id : String} {r : RM} {apos cpos : Pos} (slot : Slot "list" name id) (hty : typeOf (.builtin id) = pure (.type "method_descriptor")) (hm : MtR X id (rmOf X.K r)) (ho : PE X o (teOf X.K wo))
    (hbase : attributeBase o name X.env (eval o X.env) = eval o X.env := by rfl) (hline : (apos.endLine == cpos.line) = true := by rfl) :
    PE X (.Call (.Attribute o name apos) [] [] cpos) (teOf X.K (wM0 r wo)) :=
  peI (L2.pe_bm0 PySem.F.plainAttrs_list slot hty hm ho hbase hline) fun σ H Q ⟨ρ, S, m, R, hE, hS, h, k⟩ => ⟨ρ, S, m, _, hE, hS, h, fun v x H1 S1 m1 e1 s1 r1 ⟨z, q1⟩ =>
    ⟨isL_ty s1 r1 z, m1, S1, x, [], R, s1, r1, rfl, q1, k.ext e1⟩⟩
/-! slices -/
theorem dp_no : PO X none (toOf X.K wPNo) := ⟨fun pins s σ H Q I ⟨ρ, S, m, R, hE, hS, h, k⟩ => L2.po_none.run pins s σ H Q I (k none H S m (Ext.refl _ _) hS h)⟩
theorem dp_at (h : PE X e (teOf X.K wa)) : PO X (some e) (toOf X.K (wPAt wa)) := ⟨fun pins s σ H Q I ⟨ρ, S, m, R, hE, hS, hw, k⟩ => (L2.po_some h).run pins s σ H Q I ⟨ρ, S, m, _, hE, hS, hw, fun v d H1 S1 m1 e1 s1 r1 q1 => by
    cases d with
    | int i => exact ⟨i, r1, k _ H1 S1 m1 e1 s1 q1⟩
    | _ => exact (show False from q1).elim⟩⟩
theorem d_sl {r : D → Option Int → Option Int → Sto → VK → Prop} {lo hi : Option Expr} {wl wh : WP} {p2 : Pos} (hr : SlR X (rsOf X.K r)) (ho : PE X o (teOf X.K wo)) (hl : PO X lo (toOf X.K wl)) (hh : PO X hi (toOf X.K wh)) :
    PE X (.Subscript o (.Slice lo hi none p2) pos) (teOf X.K (wSl r wo wl wh)) :=
  peI (L2.pe_slice hr ho hl hh) fun σ H Q ⟨ρ, S, m, R, hE, hS, h, k⟩ => ⟨ρ, S, m, _, hE, hS, h, fun v x H1 S1 m1 e1 s1 r1 q1 => ⟨ρ, S1, m1, _, hE.ext e1, s1, q1, fun i H2 S2 m2 e2 s2 q2 => ⟨ρ, S2, m2, _, hE.ext (e1.trans e2), s2, q2, fun j H3 S3 m3 e3 s3 q3 =>
    ⟨m3, S3, x, R, s3, Rep.ext (e2.trans e3) _ _ r1, q3, k.ext (e1.trans (e2.trans e3))⟩⟩⟩⟩
end
end DL
set_option Elab.async false
set_option linter.all false
set_option maxRecDepth 100000
set_option maxHeartbeats 4000000
/-! DL3: what is walked, targets, statements, loops, comprehensions, defs. -/
namespace DL
open PySem PySem.Spec
open L2 (V Hp HO St TE TT TA TS TG TI TO PE PT PW PA PS PSs PG PI PO Cx Inv RelV Vals SqL SqT Rd upd upd_same upd_ne ne_of ne_of_none OpR UnR CallR MtR IxR SlR It thn)

/-! ### what is walked -/
theorem yields_list {K : PySem.W.Frag} {m : List Addr} {H : Hp} {S : Sto} {n : Nat} {a : Addr} {xs : List D} (ha : m[n]? = some a) : Yields K (L2.Itl K a) xs (fun S' => S'[n]? = some (.lst xs)) m H := by
  intro m1 H1 S1 e s g
  obtain ⟨b, vs, h1, h2, h3⟩ := s.lst g
  have hb := e.pre n a ha
  rw [h1] at hb
  cases hb
  refine ⟨fun i d hd => ?_, fun i hi => ⟨vs, SqL.of h2, by rw [h3.len]; exact hi⟩⟩
  obtain ⟨v, g1, g2⟩ := h3.get i d hd
  exact ⟨⟨vs, v, SqL.of h2, g1⟩, fun x H' ⟨q1, q2⟩ => by
    subst q1
    have ex := q2 vs (SqL.of h2)
    rw [g1] at ex
    cases ex
    exact ⟨m1, Ext.refl _ _, s, g2⟩⟩
theorem yields_tup {K : PySem.W.Frag} {m : List Addr} {H : Hp} {a : Addr} {xs : List D} {vs : List V} (hT : SqT K H a vs) (r : Reps K H m xs vs) : Yields K (L2.Itt K a) xs (fun _ => True) m H := by
  intro m1 H1 S1 e s g
  have h3 := Reps.ext e _ _ r
  refine ⟨fun i d hd => ?_, fun i hi => ⟨vs, e.sqT hT, by rw [h3.len]; exact hi⟩⟩
  obtain ⟨v, g1, g2⟩ := h3.get i d hd
  exact ⟨⟨vs, v, e.sqT hT, g1⟩, fun x H' ⟨q1, q2⟩ => by
    subst q1
    have ex := q2 vs (e.sqT hT)
    rw [g1] at ex
    cases ex
    exact ⟨m1, Ext.refl _ _, s, g2⟩⟩
theorem yields_rol {K : PySem.W.Frag} {m : List Addr} {H : Hp} {a : Addr} {xs : List D} {vs : List V} (hT : RoL K H a vs) (r : Reps K H m xs vs) : Yields K (L2.Itl K a) xs (fun _ => True) m H := by
  intro m1 H1 S1 e s g
  have h3 := Reps.ext e _ _ r
  refine ⟨fun i d hd => ?_, fun i hi => ⟨vs, (e.ro hT).seq, by rw [h3.len]; exact hi⟩⟩
  obtain ⟨v, g1, g2⟩ := h3.get i d hd
  exact ⟨⟨vs, v, (e.ro hT).seq, g1⟩, fun x H' ⟨q1, q2⟩ => by
    subst q1
    have ex := q2 vs (e.ro hT).seq
    rw [g1] at ex
    cases ex
    exact ⟨m1, Ext.refl _ _, s, g2⟩⟩
theorem rangeD_getM {lo hi : Int} {i : Nat} {d : D} (h : (rangeD lo hi)[i]? = some d) : i < (hi - lo).toNat ∧ d = .int (lo + i) := by
  unfold rangeD at h
  rw [List.getElem?_map] at h
  by_cases hi : i < (hi - lo).toNat
  · rw [List.getElem?_range hi] at h
    exact ⟨hi, (Option.some.inj h).symm⟩
  · rw [List.getElem?_eq_none (by simpa using hi)] at h
    cases h
theorem rangeD_lenM (lo hi : Int) : (rangeD lo hi).length = (hi - lo).toNat := by simp [rangeD]
theorem yields_rng {K : PySem.W.Frag} {m : List Addr} {H : Hp} {lo hi : Int} : Yields K (L2.Itr lo (hi - lo).toNat) (rangeD lo hi) (fun _ => True) m H := by
  intro m1 H1 S1 e s g
  refine ⟨fun i d hd => ?_, fun i hi => by rw [rangeD_lenM] at hi; exact hi⟩
  obtain ⟨h1, h2⟩ := rangeD_getM hd
  exact ⟨h1, fun x H' ⟨q1, q2⟩ => ⟨m1, by rw [q1]; exact Ext.refl _ _, by rw [q1]; exact s, by rw [q2, h2]; rfl⟩⟩
section
variable {X : Cx} {tg : Expr} {wa wb : WE} {a b : Expr} {p pos : Pos}
theorem di_it {l : Expr} (hl : PE X l (teOf X.K wa)) : PI X tg l (tiOf X.K (wIt wa)) := by
  refine ⟨fun pins s σ H R I ⟨ρ, S, m, Rd, hE, hS, hw, k⟩ => ?_⟩
  refine thn (hl.run pins s σ H (fun v H1 => ∃ d S1 m1, Ext m H m1 H1 ∧ RepS X.K H1 m1 S1 ∧ Rep X.K H1 m1 d v ∧ (match d with
    | .tup xs => Rd xs (fun _ => True) S1
    | .rol xs => Rd xs (fun _ => True) S1
    | .ref n => match S1[n]? with
      | some (.lst xs) => Rd xs (fun S' => S'[n]? = some (.lst xs)) S1
      | _ => False
    | _ => False)) I ⟨ρ, S, m, _, hE, hS, hw, fun v d H1 S1 m1 e1 s1 r1 q1 => ⟨d, S1, m1, e1, s1, r1, q1⟩⟩) fun u s1 ⟨v, H1, I1, ru, d, S1, m1, e1, hs, rd, q⟩ => ?_
  have new : ∀ b ∈ [s1.heap.objs.size], L2.FpOk X pins H1 b := fun b hb => by
    rw [List.mem_singleton.mp hb]
    exact I1.fpOk (Nat.le_refl _) (I1.hok.fresh (Nat.le_refl _))
  cases d with
  | tup xs =>
    obtain ⟨a, vs, rfl, hT, rs⟩ := rd
    cases ru
    obtain ⟨its, rv, pt, _⟩ := I1.tuple hT
    refine wpAny_pyIter_tuple (show s1.heap.IsTuple a its.toArray from pt) ?_
    exact ⟨_, [s1.heap.objs.size], _, _, H1, rfl, I1.kept (t' := s1.toks) fun _ _ e => Heap.get?_push_of_some _ e, L2.turn_tuple a _, ⟨_, Heap.get?_push_size _ rfl, rfl, rfl⟩, new, k _ _ _ _ _ _ e1 hs (yields_tup hT rs) q⟩
  | rol xs =>
    obtain ⟨a, vs, rfl, hT, rs⟩ := rd
    cases ru
    obtain ⟨its, rv, pl, _⟩ := I1.list hT.seq
    refine wpAny_pyIter_list pl.isList ?_
    exact ⟨_, [s1.heap.objs.size], _, _, H1, rfl, I1.kept (t' := s1.toks) fun _ _ e => Heap.get?_push_of_some _ e, L2.turn_list a _, ⟨_, Heap.get?_push_size _ rfl, rfl, rfl⟩, new, k _ _ _ _ _ _ e1 hs (yields_rol hT rs) q⟩
  | ref n =>
    obtain ⟨a, ha, rfl⟩ := rd
    have q : (match S1[n]? with
      | some (.lst xs) => Rd xs (fun S' => S'[n]? = some (.lst xs)) S1
      | _ => False) := q
    split at q
    · rename_i xs hx
      obtain ⟨b, vs, h1, h2, h3⟩ := hs.lst hx
      rw [ha] at h1
      cases h1
      cases ru
      obtain ⟨its, rv, pl, _⟩ := I1.list (SqL.of h2)
      refine wpAny_pyIter_list pl.isList ?_
      exact ⟨_, [s1.heap.objs.size], _, _, H1, rfl, I1.kept (t' := s1.toks) fun _ _ e => Heap.get?_push_of_some _ e, L2.turn_list a _, ⟨_, Heap.get?_push_size _ rfl, rfl, rfl⟩, new, k _ _ _ _ _ _ e1 hs (yields_list (S := S1) ha) q⟩
    · exact q.elim
  | _ => exact (show False from q).elim
theorem di_r1 (hg : L2.Gl X "range") (hm : X.mg "range" = none) (ha : PE X a (teOf X.K wa)) (h1 : starEach [a] X.env = [(false, eval a X.env)] := by rfl) : PI X tg (.Call (.Name "range" p) [a] [] pos) (tiOf X.K (wR1 wa)) :=
  piI (L2.pi_range1 hg hm (da_cons ha da_nil h1) h1) fun σ H Q ⟨ρ, S, m, R, hE, hS, h, k⟩ => ⟨ρ, S, m, fun ds S1 => match ds with
    | [.int j] => smallI j ∧ R (rangeD 0 j) (fun _ => True) S1
    | _ => False, hE, hS, (by
      show wa ρ S _
      refine cast (congrArg (wa ρ S) ?_) h
      funext x S1
      cases x <;> rfl), fun vs ds H' S' m' e s r q => by
      match ds, q, r with
      | [.int j], ⟨⟨q1, q2⟩, q3⟩, ⟨v, r', hv, rv, rn⟩ =>
        rw [show r' = [] from rn] at hv
        refine ⟨j, by rw [hv, show v = V.int j from rv], q1, q2, ?_⟩
        have y := yields_rng (K := X.K) (m := m') (H := H') (lo := 0) (hi := j)
        rw [show j - 0 = j by omega] at y
        exact k _ _ _ _ _ _ e s y q3⟩
theorem di_r2 (hg : L2.Gl X "range") (hm : X.mg "range" = none) (ha : PE X a (teOf X.K wa)) (hb : PE X b (teOf X.K wb)) (h1 : starEach [a, b] X.env = [(false, eval a X.env), (false, eval b X.env)] := by rfl) (h2 : starEach [b] X.env = [(false, eval b X.env)] := by rfl) : PI X tg (.Call (.Name "range" p) [a, b] [] pos) (tiOf X.K (wR2 wa wb)) :=
  piI (L2.pi_range2 hg hm (da_cons ha (da_cons hb da_nil h2) (by rw [h1, h2])) h1 h2) fun σ H Q ⟨ρ, S, m, R, hE, hS, h, k⟩ => ⟨ρ, S, m, fun ds S1 => match ds with
    | [.int i, .int j] => smallI i ∧ smallI j ∧ R (rangeD i j) (fun _ => True) S1
    | _ => False, hE, hS, (by
      show wa ρ S _
      refine cast (congrArg (wa ρ S) ?_) h
      funext x S1
      show wb ρ S1 _ = wb ρ S1 _
      refine congrArg (wb ρ S1) ?_
      funext y S2
      cases x <;> cases y <;> rfl), fun vs ds H' S' m' e s r q => by
      match ds, q, r with
      | [.int i, .int j], ⟨⟨q1, q2⟩, ⟨q3, q4⟩, q5⟩, ⟨v, r', hv, rv, ⟨v2, r2, hv2, rv2, rn⟩⟩ =>
        rw [show r2 = [] from rn] at hv2
        rw [hv2] at hv
        exact ⟨i, j, by rw [hv, show v = V.int i from rv, show v2 = V.int j from rv2], ⟨q1, q2, q3, q4⟩, k _ _ _ _ _ _ e s yields_rng q5⟩⟩

/-! ### targets -/
theorem wipe_get (σ : St) : ∀ (vs : List Nat) (j : Nat), (L2.wipe σ vs)[j]? = if j ∈ vs then (if j < σ.length then some none else none) else σ[j]?
  | [], j => by simp [L2.wipe]
  | v :: vs, j => by
    unfold L2.wipe
    by_cases h : j = v
    · subst h
      rw [List.getElem?_set]
      simp [L2.wipe_length]
    · rw [List.getElem?_set_ne (Ne.symm h), wipe_get σ vs j]
      simp [h]
theorem wipe_set {σ : St} {i : Nat} {x : Option V} {vs : List Nat} (h : i ∈ vs) : L2.wipe (σ.set i x) vs = L2.wipe σ vs := by
  apply List.ext_getElem?
  intro j
  rw [wipe_get, wipe_get, List.length_set]
  by_cases hj : j ∈ vs
  · rw [if_pos hj, if_pos hj]
  · rw [if_neg hj, if_neg hj, List.getElem?_set_ne]
    intro z
    exact hj (z ▸ h)
theorem RepE.wipe {K : PySem.W.Frag} {H : Hp} {m : List Addr} {ρ : Env} {σ : St} (r : RepE K H m ρ σ) : ∀ vs : List Nat, RepE K H m (wipe ρ vs) (L2.wipe σ vs)
  | [] => r
  | v :: vs => (RepE.wipe r vs).drop1 v
theorem dg_name (i : Nat) {x : Str} (hN : X.N.Nodup) (hi : X.N[i]? = some x := by rfl) (hx : L2.Loc X.env.scope x := by first | exact Or.inl rfl | exact Or.inr rfl) (hf : X.fn x = true ∨ X.env.scope.names.lookup x = some .local := by first | exact .inl rfl | exact .inr rfl | assumption) : PG X (.Name x pos) (tgOf X.K [i] (gN i)) :=
  pgI (L2.pg_name hN hi hx hf) fun v σ H Q ⟨d, ρ, S, m, R, hE, hS, r, h, k⟩ => k _ _ _ _ _ (wipe_set (List.mem_singleton.mpr rfl)) (Ext.refl _ _) hS (hE.set r i) h
/-- several names -/
inductive Gs (X : Cx) : List Expr → List Nat → Prop where
  | nil : Gs X [] []
  | cons {e : Expr} {es : List Expr} {i : Nat} {is : List Nat} : PG X e (L2.gName i) → (assignEach (e :: es) X.env).map (·.2) = assign e X.env :: (assignEach es X.env).map (·.2) → Gs X es is → Gs X (e :: es) (i :: is)
theorem dgs_one (i : Nat) {x : Str} {es : List Expr} {is : List Nat} (hN : X.N.Nodup) (r : Gs X es is) (hi : X.N[i]? = some x := by rfl) (hx : L2.Loc X.env.scope x := by first | exact Or.inl rfl | exact Or.inr rfl) (hf : X.fn x = true ∨ X.env.scope.names.lookup x = some .local := by first | exact .inl rfl | exact .inr rfl | assumption)
    (hs : (assignEach (.Name x pos :: es) X.env).map (·.2) = assign (.Name x pos) X.env :: (assignEach es X.env).map (·.2) := by rfl) : Gs X (.Name x pos :: es) (i :: is) := .cons (L2.pg_name hN hi hx hf) hs r
/-- the layer's reading of several names -/
def tgs : List Nat → L2.TGs
  | [] => L2.gNil
  | i :: is => L2.gCons (L2.gName i) (tgs is)
theorem pgs_of {es : List Expr} {is : List Nat} (g : Gs X es is) : L2.PGs X es (tgs is) := by
  induction g with
  | nil => exact L2.pgs_nil
  | cons h hs _ ih => exact L2.pgs_cons h ih hs
theorem tgs_run {K : PySem.W.Frag} {H : Hp} {m : List Addr} {vs0 : List Nat} : ∀ (is : List Nat) (ds : List D) (vs : List V) (ρ ρ' : Env) (σ : St) (Q : St → Hp → Prop), Reps K H m ds vs → RepE K H m ρ σ → gNs is ds ρ = some ρ' → (∀ i ∈ is, i ∈ vs0) →
    (∀ σ', L2.wipe σ' vs0 = L2.wipe σ vs0 → RepE K H m ρ' σ' → Q σ' H) → tgs is vs σ H Q
  | [], [], vs, ρ, ρ', σ, Q, r, hE, h, _, k => by
    have h : some ρ = some ρ' := h
    cases h
    exact ⟨r, k σ rfl hE⟩
  | i :: is, d :: ds, vs, ρ, ρ', σ, Q, ⟨v, rr, hv, r1, r2⟩, hE, h, hi, k =>
    ⟨v, rr, hv, tgs_run is ds rr (up ρ i (some d)) ρ' (σ.set i (some v)) Q r2 (hE.set r1 i) h (fun j hj => hi j (List.mem_cons_of_mem _ hj)) fun σ' w e => k σ' (by rw [w, wipe_set (hi i List.mem_cons_self)]) e⟩
  | [], d :: ds, _, _, _, _, _, _, _, h, _, _ => by cases (show (none : Option Env) = some _ from h)
  | i :: is, [], _, _, _, _, _, _, _, h, _, _ => by cases (show (none : Option Env) = some _ from h)
theorem gNs_len : ∀ (is : List Nat) (ds : List D) (ρ ρ' : Env), gNs is ds ρ = some ρ' → ds.length = is.length
  | [], [], _, _, _ => rfl
  | _ :: is, _ :: ds, ρ, ρ', h => by rw [List.length_cons, List.length_cons, gNs_len is ds _ ρ' h]
  | [], _ :: _, _, _, h => by cases (show (none : Option Env) = some _ from h)
  | _ :: _, [], _, _, h => by cases (show (none : Option Env) = some _ from h)
theorem dg_tup {es : List Expr} {k : Nat} {is : List Nat} (hc : X.calm = true) (g : Gs X es is) (hn : (assignEach es X.env).length = is.length := by rfl) (hst : (assignEach es X.env).findIdx? (·.1) = none := by rfl) : PG X (.Tuple es k pos) (tgOf X.K is (gT is)) :=
  pgI (L2.pg_tup hc (pgs_of g) hn hst) fun v σ H Q ⟨d, ρ, S, m, R, hE, hS, r, h, kk⟩ => by
    cases d with
    | tup ds =>
      obtain ⟨a, vs, rfl, hT, rs⟩ := r
      have h : (match gNs is ds ρ with
        | some ρ' => R ρ' S
        | none => False) := h
      split at h
      · rename_i ρ' hg
        exact ⟨a, vs, rfl, hT, by rw [rs.len, gNs_len _ _ _ _ hg], tgs_run is ds vs ρ ρ' σ Q rs hE hg (fun _ h => h) fun σ' w e => kk σ' ρ' S m H w (Ext.refl _ _) hS e h⟩
      · exact h.elim
    | _ => exact (show False from h).elim

/-! ### statements -/
variable {e : Expr} {st : Stmt} {rest : List Stmt} {ws wu : WS}
theorem dss_nil : PSs X [] (tsOf X.K sNext) := pssI L2.pss_nil fun D σ H ⟨ρ, S, m, E, hE, hS, h, k, _⟩ => k σ ρ H S m (Ext.refl _ _) hS hE h
theorem dss_cons (h1 : PS X st (tsOf X.K ws)) (h2 : PSs X rest (tsOf X.K wu)) : PSs X (st :: rest) (tsOf X.K (sSeq ws wu)) :=
  pssI (L2.pss_cons h1 h2) fun D σ H ⟨ρ, S, m, E, hE, hS, h, k1, k2, k3, k4⟩ => ⟨ρ, S, m, { E with nx := wu E }, hE, hS, h, fun σ' ρ' H' S' m' e s r q =>
    ⟨ρ', S', m', E, r, s, q, fun σ2 ρ2 H2 S2 m2 e2 s2 r2 q2 => k1 σ2 ρ2 H2 S2 m2 (e.trans e2) s2 r2 q2, k2.ext e, fun σ2 ρ2 H2 S2 m2 e2 s2 r2 q2 => k3 σ2 ρ2 H2 S2 m2 (e.trans e2) s2 r2 q2, fun σ2 ρ2 H2 S2 m2 e2 s2 r2 q2 => k4 σ2 ρ2 H2 S2 m2 (e.trans e2) s2 r2 q2⟩, k2, k3, k4⟩
theorem dss_one (h1 : PS X st (tsOf X.K ws)) : PSs X [st] (tsOf X.K ws) := L2.pss_one h1
theorem ds_pass : PS X (.Pass pos) (tsOf X.K sNext) := psI L2.ps_pass fun D σ H ⟨ρ, S, m, E, hE, hS, h, k, _⟩ => k σ ρ H S m (Ext.refl _ _) hS hE h
theorem ds_break : PS X (.Break pos) (tsOf X.K sBreak) := psI L2.ps_break fun D σ H ⟨ρ, S, m, E, hE, hS, h, _, _, k, _⟩ => k σ ρ H S m (Ext.refl _ _) hS hE h
theorem ds_continue : PS X (.Continue pos) (tsOf X.K sCont) := psI L2.ps_continue fun D σ H ⟨ρ, S, m, E, hE, hS, h, _, _, _, k⟩ => k σ ρ H S m (Ext.refl _ _) hS hE h
theorem ds_expr (he : PE X e (teOf X.K wa)) (hs : swapsWith e none pos.line X.env = pure false := by rfl) : PS X (.Expr e pos) (tsOf X.K (sDrop wa)) :=
  psI (L2.ps_expr he hs) fun D σ H ⟨ρ, S, m, E, hE, hS, h, k, _⟩ => ⟨ρ, S, m, _, hE, hS, h, fun v d H1 S1 m1 e1 s1 r1 q1 => k σ ρ H1 S1 m1 e1 s1 (hE.ext e1) q1⟩
theorem ds_ret (he : PE X e (teOf X.K wa)) : PS X (.Return (some e) pos) (tsOf X.K (sRet wa)) :=
  psI (L2.ps_ret he) fun D σ H ⟨ρ, S, m, E, hE, hS, h, _, k, _⟩ => ⟨ρ, S, m, E.rt, hE, hS, h, k⟩
theorem ds_retN : PS X (.Return none pos) (tsOf X.K sRetN) :=
  psI L2.ps_retN fun D σ H ⟨ρ, S, m, E, hE, hS, h, _, k, _⟩ => k _ .non H S m (Ext.refl _ _) hS rfl h
theorem ds_if {c : Expr} {a b : List Stmt} {tc : WT} (hc : PT X c (ttOf X.K tc)) (ha : PSs X a (tsOf X.K ws)) (hb : PSs X b (tsOf X.K wu)) : PS X (.If c a b pos) (tsOf X.K (sIf tc ws wu)) :=
  psI (L2.ps_if hc ha hb) fun D σ H ⟨ρ, S, m, E, hE, hS, h, k1, k2, k3, k4⟩ => ⟨ρ, S, m, _, hE, hS, h, fun c H1 S1 m1 e1 s1 q => by
    have q : if c = true then ws E ρ S1 else wu E ρ S1 := q
    have go : ∀ w : WS, w E ρ S1 → tsOf X.K w D σ H1 := fun w q => ⟨ρ, S1, m1, E, hE.ext e1, s1, q, fun σ2 ρ2 H2 S2 m2 e2 s2 r2 q2 => k1 σ2 ρ2 H2 S2 m2 (e1.trans e2) s2 r2 q2, k2.ext e1, fun σ2 ρ2 H2 S2 m2 e2 s2 r2 q2 => k3 σ2 ρ2 H2 S2 m2 (e1.trans e2) s2 r2 q2, fun σ2 ρ2 H2 S2 m2 e2 s2 r2 q2 => k4 σ2 ρ2 H2 S2 m2 (e1.trans e2) s2 r2 q2⟩
    show if c = true then tsOf X.K ws D σ H1 else tsOf X.K wu D σ H1
    by_cases hb : c = true
    · rw [if_pos hb] at q ⊢
      exact go _ q
    · rw [if_neg hb] at q ⊢
      exact go _ q⟩
theorem ds_never : PS X st (tsOf X.K sNever) := psI L2.ps_never fun D σ H ⟨ρ, S, m, E, hE, hS, h, _⟩ => h
theorem dss_never {sts : List Stmt} : PSs X sts (tsOf X.K sNever) := pssI L2.pss_never fun D σ H ⟨ρ, S, m, E, hE, hS, h, _⟩ => h
theorem ds_asg {tg : Expr} {vs : List Nat} {g : WG} (he : PE X e (teOf X.K wa)) (hg : PG X tg (tgOf X.K vs g)) (hs : swapsWithSole [tg] e pos.line X.env = pure false := by rfl) (hw : swappedStores [tg] e X.env = pure none := by rfl)
    (h1 : (assignEach [tg] X.env).map (·.2) = [assign tg X.env] := by rfl) : PS X (.Assign [tg] e pos) (tsOf X.K (sAsg wa g)) :=
  psI (L2.ps_asg he hg hs hw h1) fun D σ H ⟨ρ, S, m, E, hE, hS, h, k, _⟩ => ⟨ρ, S, m, _, hE, hS, h, fun v d H1 S1 m1 e1 s1 r1 q1 => ⟨d, ρ, S1, m1, E.nx, hE.ext e1, s1, r1, q1, fun σ' ρ' S' m' H' _ e2 s2 r2 q2 => k σ' ρ' H' S' m' (e1.trans e2) s2 r2 q2⟩⟩
theorem ds_set (i : Nat) {x : Str} {pos' : Pos} (hN : X.N.Nodup) (he : PE X e (teOf X.K wa)) (hi : X.N[i]? = some x := by rfl) (hx : L2.Loc X.env.scope x := by first | exact Or.inl rfl | exact Or.inr rfl) (hs : swapsWith e (some (.Name x pos')) pos.line X.env = pure false := by rfl)
    (hf : X.fn x = true ∨ X.env.scope.names.lookup x = some .local := by first | exact .inl rfl | exact .inr rfl | assumption) : PS X (.Assign [.Name x pos'] e pos) (tsOf X.K (sAsg wa (gN i))) :=
  psI (L2.ps_set hN hi hx he hs hf) fun D σ H ⟨ρ, S, m, E, hE, hS, h, k, _⟩ => ⟨ρ, S, m, _, hE, hS, h, fun v d H1 S1 m1 e1 s1 r1 q1 => k _ _ H1 S1 m1 e1 s1 ((hE.ext e1).set r1 i) q1⟩
theorem ds_par (i j : Nat) {x y : Str} {px py pt : Pos} {kt k2 pt2} (hc : X.calm = true) (hN : X.N.Nodup) (ha : PE X a (teOf X.K wa)) (hb : PE X b (teOf X.K wb)) (hi : X.N[i]? = some x := by rfl) (hj : X.N[j]? = some y := by rfl) (hij : i ≠ j := by decide)
    (hx : X.env.scope.names.lookup x = some .local := by rfl) (hy : X.env.scope.names.lookup y = some .local := by rfl)
    (hw : swappedStores [.Tuple [.Name x px, .Name y py] kt pt] (.Tuple [a, b] k2 pt2) X.env = pure (some [x, y]) := by rfl)
    (hs : swapsWithSole [.Tuple [.Name x px, .Name y py] kt pt] (.Tuple [a, b] k2 pt2) pos.line X.env = pure false := by rfl)
    (e1 : starEach [a, b] X.env = (false, eval a X.env) :: starEach [b] X.env := by rfl) (e2 : starEach [b] X.env = (false, eval b X.env) :: starEach [] X.env := by rfl) :
    PS X (.Assign [.Tuple [.Name x px, .Name y py] kt pt] (.Tuple [a, b] k2 pt2) pos) (tsOf X.K (sPar i j wa wb)) :=
  psI (L2.ps_par hc hN hi hj hij hx hy (da_cons ha (da_cons hb da_nil e2) e1) hw hs) fun D σ H ⟨ρ, S, m, E, hE, hS, h, k, _⟩ =>
    ⟨ρ, S, m, fun ds S2 => match ds with
      | [d, d2] => E.nx (up (up ρ i (some d)) j (some d2)) S2
      | _ => False, hE, hS, h, fun vs ds H2 S2 m2 e s r q => by
      match ds, q, r with
      | [d, d2], q, ⟨v, r', hv, rv, ⟨v2, r2, hv2, rv2, rn⟩⟩ =>
        rw [show r2 = [] from rn] at hv2
        rw [hv2] at hv
        exact ⟨v, v2, hv, k _ _ H2 S2 m2 e s (((hE.ext e).set rv i).set rv2 j) q⟩⟩
theorem ds_aug (i : Nat) {x : Str} {op : Operator} {r : R2} {pos' : Pos} (hN : X.N.Nodup) (ho : OpR X (inplaceOp op) (r2Of X.K r)) (he : PE X e (teOf X.K wa)) (hi : X.N[i]? = some x := by rfl) (hx : L2.Loc X.env.scope x := by first | exact Or.inl rfl | exact Or.inr rfl)
    (hf : X.fn x = true ∨ X.env.scope.names.lookup x = some .local := by first | exact .inl rfl | exact .inr rfl | assumption) : PS X (.AugAssign (.Name x pos') op e pos) (tsOf X.K (sAug i wa r)) :=
  psI (L2.ps_aug hN hi hx he ho hf) fun D σ H ⟨ρ, S, m, E, hE, hS, h, k, _⟩ => by
    unfold sAug at h
    cases el : lk ρ i with
    | none => rw [el] at h; exact h.elim
    | some d =>
      rw [el] at h
      obtain ⟨v, h1, h2⟩ := hE.get i d el
      exact ⟨v, h1, ρ, S, m, _, hE, hS, h, fun u y H1 S1 m1 e1 s1 r1 q1 => ⟨m1, S1, d, y, _, s1, Rep.ext e1 _ _ h2, r1, q1, fun w z H2 S2 m2 e2 s2 r2 q2 => k _ _ H2 S2 m2 (e1.trans e2) s2 ((hE.ext (e1.trans e2)).set r2 i) q2⟩⟩
def rpOf (K : PySem.W.Frag) (r : D → D → D → Sto → (Sto → Prop) → Prop) : V → V → V → Hp → (Hp → Prop) → Prop := fun o i v H Q => ∃ m S x k d R, RepS K H m S ∧ Rep K H m x o ∧ Rep K H m k i ∧ Rep K H m d v ∧ r x k d S R ∧
  ∀ H' S' m', Ext m H m' H' → RepS K H' m' S' → R S' → Q H'
theorem ds_sub {o i : Expr} {wo wi : WE} {r : D → D → D → Sto → (Sto → Prop) → Prop} {spos : Pos} (hp : L2.PSet X (rpOf X.K r)) (he : PE X e (teOf X.K wa)) (ho : PE X o (teOf X.K wo)) (hi : PE X i (teOf X.K wi))
    (ha : ∀ v, assign (.Subscript o i spos) X.env v = (do
      let ov ← holding [v] (eval o X.env)
      let iv ← holding [v, ov] (eval i X.env)
      standAt spos
      holding [v, ov, iv] (setItem ov iv v)
      release [v, ov, iv] []) := by intro _; rfl)
    (hs : swapsWithSole [.Subscript o i spos] e pos.line X.env = pure false := by rfl) (hw : swappedStores [.Subscript o i spos] e X.env = pure none := by rfl)
    (h1 : (assignEach [.Subscript o i spos] X.env).map (·.2) = [assign (.Subscript o i spos) X.env] := by rfl) : PS X (.Assign [.Subscript o i spos] e pos) (tsOf X.K (sSub r wa wo wi)) :=
  psI (L2.ps_asg he (L2.pg_sub ho hi hp ha) hs hw h1) fun D σ H ⟨ρ, S, m, E, hE, hS, h, k, _⟩ => ⟨ρ, S, m, _, hE, hS, h, fun v d H1 S1 m1 e1 s1 r1 q1 => ⟨ρ, S1, m1, _, hE.ext e1, s1, q1, fun v2 x H2 S2 m2 e2 s2 r2 q2 =>
    ⟨ρ, S2, m2, _, hE.ext (e1.trans e2), s2, q2, fun v3 j H3 S3 m3 e3 s3 r3 q3 => ⟨m3, S3, x, j, d, _, s3, Rep.ext e3 _ _ r2, r3, Rep.ext (e2.trans e3) _ _ r1, q3, fun H4 S4 m4 e4 s4 q4 =>
      k σ ρ H4 S4 m4 (e1.trans (e2.trans (e3.trans e4))) s4 (hE.ext (e1.trans (e2.trans (e3.trans e4)))) q4⟩⟩⟩⟩
def rgOf (K : PySem.W.Frag) (r : R2) : V → V → Hp → L2.VK → Prop := r2Of K r
theorem ds_augSub {o i : Expr} {wo wi : WE} {rg ro : R2} {rs : D → D → D → Sto → (Sto → Prop) → Prop} {op : Operator} {spos : Pos} (hg : L2.PGet X (r2Of X.K rg)) (hop : OpR X (inplaceOp op) (r2Of X.K ro)) (hp : L2.PSet X (rpOf X.K rs))
    (ho : PE X o (teOf X.K wo)) (hi : PE X i (teOf X.K wi)) (he : PE X e (teOf X.K wa))
    (ha : ∀ ov iv new, augStore i ov iv new = (do holding [new, ov, iv] (setItem ov iv new); release [new, ov, iv] []; pure .next) := by intros; rfl) :
    PS X (.AugAssign (.Subscript o i spos) op e pos) (tsOf X.K (sAugSub rg ro rs wo wi wa)) :=
  psI (L2.ps_augS ho hi hg he hop hp ha) fun D σ H ⟨ρ, S, m, E, hE, hS, h, k, _⟩ => ⟨ρ, S, m, _, hE, hS, h, fun v x H1 S1 m1 e1 s1 r1 q1 => ⟨ρ, S1, m1, _, hE.ext e1, s1, q1, fun v2 j H2 S2 m2 e2 s2 r2 q2 =>
    ⟨m2, S2, x, j, _, s2, Rep.ext e2 _ _ r1, r2, q2, fun v3 z H3 S3 m3 e3 s3 r3 q3 => ⟨ρ, S3, m3, _, hE.ext (e1.trans (e2.trans e3)), s3, q3, fun v4 y H4 S4 m4 e4 s4 r4 q4 => ⟨m4, S4, z, y, _, s4, Rep.ext e4 _ _ r3, r4, q4, fun v5 u H5 S5 m5 e5 s5 r5 q5 =>
      ⟨m5, S5, x, j, u, _, s5, Rep.ext (e2.trans (e3.trans (e4.trans e5))) _ _ r1, Rep.ext (e3.trans (e4.trans e5)) _ _ r2, r5, q5, fun H6 S6 m6 e6 s6 q6 =>
        k σ ρ H6 S6 m6 (e1.trans (e2.trans (e3.trans (e4.trans (e5.trans e6))))) s6 (hE.ext (e1.trans (e2.trans (e3.trans (e4.trans (e5.trans e6)))))) q6⟩⟩⟩⟩⟩⟩

/-! ### loops -/
theorem ds_for {iter : Expr} {body : List Stmt} {wi : WI} {vs : List Nat} {g : WG} (hc : X.calm = true) (hp : PassesOwn (model X.prog X.w) X.A X.env X.xe) (hi : PI X tg iter (tiOf X.K wi)) (hg : PG X tg (tgOf X.K vs g)) (hb : PSs X body (tsOf X.K ws))
    (hs : ∀ x, foldedSetIterable iter X.env x = pure x := by intro _; rfl) : PS X (.For tg iter body [] pos) (tsOf X.K (sFor wi g ws)) :=
  psI (L2.ps_for hp hc hi hg hb hs) fun D σ H ⟨ρ, S, m, E, hE, hS, h, k1, k2, k3, k4⟩ => ⟨ρ, S, m, _, hE, hS, h, fun J items guard S1 m1 H1 e1 s1 y ⟨I, i0, ig, it, ie⟩ => by
    refine ⟨fun i n σ' H' => n = items.length - i ∧ ∃ ρ' S' m', Ext m1 H1 m' H' ∧ RepS X.K H' m' S' ∧ RepE X.K H' m' ρ' σ' ∧ I i ρ' S' ∧ i ≤ items.length, ⟨_, rfl, ρ, S1, m1, Ext.refl _ _, s1, hE.ext e1, i0, Nat.zero_le _⟩, ?_⟩
    rintro i n σ2 H2 ⟨hn, ρ2, S2, m2, e2, s2, r2, hI, hle⟩
    obtain ⟨yg, ys⟩ := y m2 H2 S2 e2 s2 (ig _ _ _ hI)
    by_cases hlt : i < items.length
    · obtain ⟨go, yd⟩ := yg i items[i] (List.getElem?_eq_getElem hlt)
      refine .inr ⟨go, fun σ' H' => ∃ ρ' S' m', Ext m1 H1 m' H' ∧ RepS X.K H' m' S' ∧ RepE X.K H' m' ρ' σ' ∧ I (i + 1) ρ' S', fun σ' H' ⟨ρ', S', m', e', s', r', hI'⟩ => ⟨_, by omega, rfl, ρ', S', m', e', s', r', hI', hlt⟩, fun x H' hy => ?_⟩
      obtain ⟨m3, e3, s3, rx⟩ := yd x H' hy
      refine ⟨items[i], ρ2, S2, m3, _, r2.ext e3, s3, rx, it i _ ρ2 S2 (List.getElem?_eq_getElem hlt) hI, fun σ4 ρ4 S4 m4 H4 _ e4 s4 r4 q4 => ⟨ρ4, S4, m4, _, r4, s4, q4, fun σ5 ρ5 H5 S5 m5 e5 s5 r5 q5 => ⟨ρ5, S5, m5, e2.trans (e3.trans (e4.trans e5)), s5, r5, q5⟩,
        (k2.ext (e1.trans (e2.trans (e3.trans e4)))), fun σ5 ρ5 H5 S5 m5 e5 s5 r5 q5 => k1 σ5 ρ5 H5 S5 m5 (e1.trans (e2.trans (e3.trans (e4.trans e5)))) s5 r5 q5, fun σ5 ρ5 H5 S5 m5 e5 s5 r5 q5 => ⟨ρ5, S5, m5, e2.trans (e3.trans (e4.trans e5)), s5, r5, q5⟩⟩⟩
    · have ei : i = items.length := by omega
      subst ei
      exact .inl ⟨ys _ (Nat.le_refl _), k1 σ2 ρ2 H2 S2 m2 (e1.trans e2) s2 r2 (ie _ _ hI)⟩⟩
theorem ds_while {c : Expr} {body : List Stmt} {tc : WT} (hp : PassesOwn (model X.prog X.w) X.A X.env X.xe) (hc : PT X c (ttOf X.K tc)) (hb : PSs X body (tsOf X.K ws)) : PS X (.While c body [] pos) (tsOf X.K (sWhile tc ws)) :=
  psI (L2.ps_while hp hc hb) fun D σ H ⟨ρ, S, m, E, hE, hS, ⟨I, ⟨n0, i0⟩, it⟩, k1, k2, k3, k4⟩ => by
    refine ⟨fun n σ' H' => ∃ ρ' S' m', Ext m H m' H' ∧ RepS X.K H' m' S' ∧ RepE X.K H' m' ρ' σ' ∧ I n ρ' S', ⟨n0, ρ, S, m, Ext.refl _ _, hS, hE, i0⟩, ?_⟩
    rintro n σ2 H2 ⟨ρ2, S2, m2, e2, s2, r2, hI⟩
    refine ⟨ρ2, S2, m2, _, r2, s2, it n ρ2 S2 hI, fun b H3 S3 m3 e3 s3 q => ?_⟩
    by_cases hbt : b = true
    · rw [if_pos hbt] at q ⊢
      refine ⟨fun σ' H' => ∃ n', n' < n ∧ ∃ ρ' S' m', Ext m H m' H' ∧ RepS X.K H' m' S' ∧ RepE X.K H' m' ρ' σ' ∧ I n' ρ' S', fun σ' H' h => h, ρ2, S3, m3, _, r2.ext e3, s3, q, fun σ5 ρ5 H5 S5 m5 e5 s5 r5 ⟨n', hn, q5⟩ => ⟨n', hn, ρ5, S5, m5, e2.trans (e3.trans e5), s5, r5, q5⟩,
        k2.ext (e2.trans e3), fun σ5 ρ5 H5 S5 m5 e5 s5 r5 q5 => k1 σ5 ρ5 H5 S5 m5 (e2.trans (e3.trans e5)) s5 r5 q5, fun σ5 ρ5 H5 S5 m5 e5 s5 r5 ⟨n', hn, q5⟩ => ⟨n', hn, ρ5, S5, m5, e2.trans (e3.trans e5), s5, r5, q5⟩⟩
    · rw [if_neg hbt] at q ⊢
      exact k1 σ2 ρ2 H3 S3 m3 (e2.trans e3) s3 (r2.ext e3) q
end
end DL
set_option Elab.async false
set_option linter.all false
set_option maxRecDepth 100000
set_option maxHeartbeats 4000000
/-! DL4: comprehensions, defs, the script. -/
namespace DL
open PySem PySem.Spec
open L2 (V Hp HO St TE TT TA TS TG TI TO PE PT PW PA PS PSs PG PI PO Cx Inv RelV Vals SqL SqT Rd upd upd_same upd_ne ne_of ne_of_none OpR UnR CallR MtR IxR SlR It thn)
section
variable {K : PySem.W.Frag} {m m' m1 : List Addr} {H H' H1 : Hp} {S S' : Sto}
/-- places stay, all but lists stay -/
structure Ex0 (m : List Addr) (H : Hp) (m' : List Addr) (H' : Hp) : Prop where
  pre : ∀ (n : Nat) (a : Addr), m[n]? = some a → m'[n]? = some a
  lst : ∀ (b : Addr) (o : HO), H b = some o → (∀ xs, o ≠ .lst xs) → H' b = some o
theorem Ex0.sqT (e : Ex0 m H m' H') {a : Addr} {vs : List V} (h : SqT K H a vs) : SqT K H' a vs := by
  rcases h with (h | ⟨o, h⟩) | h
  · exact .inl (.inl (e.lst _ _ h fun _ z => nomatch z))
  · exact .inl (.inr ⟨o, e.lst _ _ h fun _ z => nomatch z⟩)
  · exact .inr h
theorem Ex0.ro (e : Ex0 m H m' H') {a : Addr} {vs : List V} (h : RoL K H a vs) : RoL K H' a vs := by
  rcases h with ⟨o, h⟩ | h
  · exact .inl ⟨o, e.lst _ _ h fun _ z => nomatch z⟩
  · exact .inr h
mutual
theorem Rep.ext0 (e : Ex0 m H m' H') : ∀ (d : D) (v : V), Rep K H m d v → Rep K H' m' d v
  | .non, _, h => h
  | .bl _, _, h => h
  | .int _, _, h => h
  | .str _, _, h => h
  | .ty _, _, h => h
  | .ref _, _, ⟨a, h1, h2⟩ => ⟨a, e.pre _ _ h1, h2⟩
  | .tup ds, _, ⟨a, vs, h1, h2, h3⟩ => ⟨a, vs, h1, e.sqT h2, Reps.ext0 e ds vs h3⟩
  | .rol ds, _, ⟨a, vs, h1, h2, h3⟩ => ⟨a, vs, h1, e.ro h2, Reps.ext0 e ds vs h3⟩
theorem Reps.ext0 (e : Ex0 m H m' H') : ∀ (ds : List D) (vs : List V), Reps K H m ds vs → Reps K H' m' ds vs
  | [], _, h => h
  | d :: ds, _, ⟨v, r, h1, h2, h3⟩ => ⟨v, r, h1, Rep.ext0 e d v h2, Reps.ext0 e ds r h3⟩
end
/-- a list beside the store is written -/
theorem Ex0.side {a : Addr} {vs us : List V} (h : H a = some (.lst vs)) : Ex0 m H m (upd H a (.lst us)) where
  pre := fun _ _ h => h
  lst := fun b o q hl => by
    have hne : b ≠ a := fun z => by
      rw [z, h] at q
      exact hl vs (Option.some.inj q).symm
    rw [upd_ne hne]
    exact q
theorem RepS.side {a : Addr} {vs us : List V} (s : RepS K H m S) (h : H a = some (.lst vs)) (hn : a ∉ m) : RepS K (upd H a (.lst us)) m S where
  len := s.len
  nd := s.nd
  obj := fun n o e => by
    obtain ⟨b, h1, h2⟩ := s.obj n o e
    refine ⟨b, h1, ?_⟩
    have hne : b ≠ a := fun z => hn (by rw [← z]; exact List.mem_of_getElem? h1)
    cases o with
    | lst ds =>
      obtain ⟨ws, g1, g2⟩ := h2
      exact ⟨ws, by rw [upd_ne hne]; exact g1, Reps.ext0 (Ex0.side h) _ _ g2⟩
    | dic _ => exact h2.elim
theorem Ext.side {a : Addr} {o : HO} (e : Ext m H m' H') (h : H a = none) (hn : a ∉ m') : Ext m H m' (upd H' a o) where
  pre := e.pre
  keep := fun b u q hb => by rw [upd_ne (ne_of_none q h)]; exact e.keep b u q hb
  new := e.new
  lst := fun b u q hl => by rw [upd_ne (ne_of_none q h)]; exact e.lst b u q hl
/-- a list beside the store stands -/
theorem Ext.own {a : Addr} {o : HO} (e : Ext m H m' H') (h : H a = some o) (hn : a ∉ m) : H' a = some o ∧ a ∉ m' :=
  ⟨e.keep a o h hn, fun z => by
    rcases e.new a z with q | q
    · exact hn q
    · rw [h] at q; cases q⟩
theorem Ext.adopt {a : Addr} (e : Ext m H m' H') (h : H a = none) : Ext m H (m' ++ [a]) H' where
  pre := fun n b q => by
    have z := e.pre n b q
    rw [List.getElem?_append_left (List.getElem?_eq_some_iff.mp z).1]
    exact z
  keep := e.keep
  new := fun b hb => by
    rcases List.mem_append.mp hb with z | z
    · exact e.new b z
    · rw [List.mem_singleton.mp z]; exact .inr h
  lst := e.lst
theorem RepS.adopt {a : Addr} {ds : List D} {vs : List V} (s : RepS K H m S) (h : H a = some (.lst vs)) (hn : a ∉ m) (r : Reps K H m ds vs) : RepS K H (m ++ [a]) (S ++ [.lst ds]) where
  len := by rw [List.length_append, List.length_append, s.len]; rfl
  nd := fun i j b h1 h2 => by
    have pos : ∀ (i : Nat) (b : Addr), (m ++ [a])[i]? = some b → (m[i]? = some b ∧ b ≠ a) ∨ (i = m.length ∧ b = a) := fun i b e => by
      by_cases hi : i < m.length
      · rw [List.getElem?_append_left hi] at e
        exact .inl ⟨e, fun z => hn (by rw [← z]; exact List.mem_of_getElem? e)⟩
      · have hi' := (List.getElem?_eq_some_iff.mp e).1
        rw [List.length_append] at hi'
        have : i = m.length := by simp at hi'; omega
        subst this
        simp at e
        exact .inr ⟨rfl, e.symm⟩
    rcases pos i b h1 with ⟨e1, n1⟩ | ⟨e1, n1⟩ <;> rcases pos j b h2 with ⟨e2, n2⟩ | ⟨e2, n2⟩
    · exact s.nd i j b e1 e2
    · exact absurd n2 n1
    · exact absurd n1 n2
    · rw [e1, e2]
  obj := fun n u e => by
    have ex : Ex0 m H (m ++ [a]) H := ⟨fun n b q => by rw [List.getElem?_append_left (List.getElem?_eq_some_iff.mp q).1]; exact q, fun _ _ q _ => q⟩
    by_cases hl : n < S.length
    · rw [List.getElem?_append_left hl] at e
      obtain ⟨b, h1, h2⟩ := s.obj n u e
      refine ⟨b, ex.pre _ _ h1, ?_⟩
      cases u with
      | lst ds =>
        obtain ⟨ws, h2, h3⟩ := h2
        exact ⟨ws, h2, Reps.ext0 ex _ _ h3⟩
      | dic _ => exact h2.elim
    · have hi' := (List.getElem?_eq_some_iff.mp e).1
      rw [List.length_append] at hi'
      have : n = S.length := by simp at hi'; omega
      subst this
      simp at e
      subst e
      exact ⟨a, by rw [← s.len]; simp, vs, h, Reps.ext0 ex _ _ r⟩
end
theorem wipe_idem (σ : St) (vs : List Nat) : L2.wipe (L2.wipe σ vs) vs = L2.wipe σ vs := by
  apply List.ext_getElem?
  intro j
  rw [wipe_get, wipe_get, L2.wipe_length]
  by_cases hj : j ∈ vs
  · rw [if_pos hj, if_pos hj]
  · rw [if_neg hj, if_neg hj]
theorem szL_eq : szL = sizeLine := by rfl
section
variable {X : Cx}
theorem dts_nil : L2.PTs X [] (ttOf X.K wtYes) := ⟨fun pins s σ H Q I ⟨ρ, S, m, R, hE, hS, h, k⟩ => L2.pts_nil.run pins s σ H Q I (k true H S m (Ext.refl _ _) hS h)⟩
theorem dts_one {c : Expr} {t : WT} (h : PT X c (ttOf X.K t)) : L2.PTs X [c] (ttOf X.K t) := L2.pts_one h
theorem lc_read {wi : WI} {g : WG} {tt : WT} {te : WE} {vs : List Nat} (K : PySem.W.Frag) (σ : St) (H : Hp) (Q : L2.VK) (h : teOf K (wLc wi g tt te vs) σ H Q) : L2.tLc (tiOf K wi) (tgOf K vs g) (ttOf K tt) (teOf K te) vs σ H Q := by
  obtain ⟨ρ, S, m, R, hE, hS, h, k⟩ := h
  refine ⟨ρ, S, m, _, hE, hS, h, fun J items guard S1 m1 H1 e1 s1 y ⟨hz, I, i0, ig, it, ie⟩ D hD => ?_⟩
  have nD := s1.notin hD
  refine ⟨fun i n H' => n = items.length - i ∧ ∃ S' m' acc av, Ext m1 H1 m' H' ∧ RepS K H' m' S' ∧ D ∉ m' ∧ H' D = some (.lst av) ∧ Reps K H' m' acc av ∧ acc.length ≤ i ∧ I i acc S' ∧ i ≤ items.length,
    ⟨_, rfl, S1, m1, [], [], Ext.fresh hD _, s1.fresh hD _, nD, upd_same, rfl, Nat.le_refl _, i0, Nat.zero_le _⟩, ?_⟩
  rintro i n H2 ⟨hn, S2, m2, acc, av, e2, s2, n2, a2, r2, hl, hI, hle⟩
  obtain ⟨yg, ys⟩ := y m2 H2 S2 e2 s2 (ig _ _ _ hI)
  by_cases hlt : i < items.length
  · obtain ⟨go, yd⟩ := yg i items[i] (List.getElem?_eq_getElem hlt)
    refine .inr ⟨go, fun H' => ∃ S' m' acc av, Ext m1 H1 m' H' ∧ RepS K H' m' S' ∧ D ∉ m' ∧ H' D = some (.lst av) ∧ Reps K H' m' acc av ∧ acc.length ≤ i + 1 ∧ I (i + 1) acc S', fun H' ⟨S', m', acc', av', q1, q2, q3, q4, q5, q6, q7⟩ => ⟨_, by omega, rfl, S', m', acc', av', q1, q2, q3, q4, q5, q6, q7, hlt⟩, fun x H' hy => ?_⟩
    obtain ⟨m3, e3, s3, rx⟩ := yd x H' hy
    obtain ⟨a3, n3⟩ := e3.own a2 n2
    refine ⟨items[i], wipe ρ vs, S2, m3, _, (hE.ext (e1.trans (e2.trans e3))).wipe vs, s3, rx, it i _ acc S2 (List.getElem?_eq_getElem hlt) hI, fun σ4 ρ4 S4 m4 H4 w4 e4 s4 r4 q4 => ⟨by rw [w4, wipe_idem], ρ4, S4, m4, _, r4, s4, q4, fun b H5 S5 m5 e5 s5 q5 => ?_⟩⟩
    obtain ⟨a4, n4⟩ := e4.own a3 n3
    obtain ⟨a5, n5⟩ := e5.own a4 n4
    by_cases hb : b = true
    · rw [if_pos hb] at q5 ⊢
      refine ⟨ρ4, S5, m5, _, r4.ext e5, s5, q5, fun v d H6 S6 m6 e6 s6 r6 q6 => ?_⟩
      obtain ⟨a6, n6⟩ := e6.own a5 n5
      have racc := Reps.ext (e3.trans (e4.trans (e5.trans e6))) _ _ r2
      refine ⟨av, a6, by rw [racc.len, ← szL_eq]; omega, S6, m6, acc ++ [d], av ++ [v], (e2.trans (e3.trans (e4.trans (e5.trans e6)))).side hD n6, s6.side a6 n6, n6, upd_same, ?_, by rw [List.length_append]; simp; omega, q6⟩
      exact Reps.app (Reps.ext0 (Ex0.side a6) _ _ racc) (Reps.one (Rep.ext0 (Ex0.side a6) _ _ r6))
    · rw [if_neg hb] at q5 ⊢
      exact ⟨S5, m5, acc, av, e2.trans (e3.trans (e4.trans e5)), s5, n5, a5, Reps.ext (e3.trans (e4.trans e5)) _ _ r2, by omega, by simpa using q5⟩
  · have ei : i = items.length := by omega
    subst ei
    refine .inl ⟨ys _ (Nat.le_refl _), k _ (.ref S2.length) H2 (S2 ++ [.lst acc]) (m2 ++ [D]) (e1.trans (e2.adopt hD)) (s2.adopt a2 n2 r2) ⟨D, by rw [← s2.len]; simp, rfl⟩ (ie _ _ hI)⟩
theorem d_lc {elt tg iter : Expr} {ifs : List Expr} {scope : Scope} {own : List (Str × Nat)} {pos : Pos} {wi : WI} {g : WG} {tt : WT} {te : WE} (hc : X.calm = true) (hN : X.N.Nodup) (hi : PI X tg iter (tiOf X.K wi)) (ok : L2.BlkOk X.N X.env.scope scope own)
    (hg : ∀ (s : Shared) (H : Hp) (C : Addr) (cl : List (Str × Addr)) (fp : List Addr), PG (X.blk s H scope (compEnvC scope cl C X.env) fp) tg (tgOf X.K (own.map (·.2)) g))
    (ht : ∀ (s : Shared) (H : Hp) (C : Addr) (cl : List (Str × Addr)) (fp : List Addr), L2.PTs (X.blk s H scope (compEnvC scope cl C X.env) fp) ifs (ttOf X.K tt))
    (he : ∀ (s : Shared) (H : Hp) (C : Addr) (cl : List (Str × Addr)) (fp : List Addr), PE (X.blk s H scope (compEnvC scope cl C X.env) fp) elt (teOf X.K te)) (hs : ∀ x, foldedSetIterable iter X.env x = pure x := by intro _; rfl) :
    PE X (.ListComp elt [⟨tg, iter, ifs, 0⟩] scope pos) (teOf X.K (wLc wi g tt te (own.map (·.2)))) :=
  peI (L2.pe_lc hc hN hi ok hg ht he hs) fun σ H Q h => lc_read X.K σ H Q h
/-- name = [..] on one line, the name a local -/
theorem ds_setLc (i : Nat) {y : Str} {py : Pos} {elt tg iter : Expr} {ifs : List Expr} {scope : Scope} {own : List (Str × Nat)} {pos spos : Pos} {wi : WI} {g : WG} {tt : WT} {te : WE} (hc : X.calm = true) (hN : X.N.Nodup) (hi : PI X tg iter (tiOf X.K wi)) (ok : L2.BlkOk X.N X.env.scope scope own)
    (hg : ∀ (s : Shared) (H : Hp) (C : Addr) (cl : List (Str × Addr)) (fp : List Addr), PG (X.blk s H scope (compEnvC scope cl C X.env) fp) tg (tgOf X.K (own.map (·.2)) g))
    (ht : ∀ (s : Shared) (H : Hp) (C : Addr) (cl : List (Str × Addr)) (fp : List Addr), L2.PTs (X.blk s H scope (compEnvC scope cl C X.env) fp) ifs (ttOf X.K tt))
    (he : ∀ (s : Shared) (H : Hp) (C : Addr) (cl : List (Str × Addr)) (fp : List Addr), PE (X.blk s H scope (compEnvC scope cl C X.env) fp) elt (teOf X.K te))
    (hsw : swapsWith (.ListComp elt [⟨tg, iter, ifs, 0⟩] scope pos) (some (.Name y py)) spos.line X.env = pure true) (hy : X.N[i]? = some y := by rfl) (hyl : X.env.scope.names.lookup y = some .local := by rfl)
    (hs : ∀ x, foldedSetIterable iter X.env x = pure x := by intro _; rfl) :
    PS X (.Assign [.Name y py] (.ListComp elt [⟨tg, iter, ifs, 0⟩] scope pos) spos) (tsOf X.K (sAsg (wLc wi g tt te (own.map (·.2))) (gN i))) :=
  psI (L2.ps_setLc hc hN hy hyl hsw hi ok hg ht he hs) fun Dd σ H ⟨ρ, S, m, E, hE, hS, h, k, _⟩ => lc_read X.K σ H _ ⟨ρ, S, m, _, hE, hS, h, fun v d H1 S1 m1 e1 s1 r1 q1 => k _ _ H1 S1 m1 e1 s1 ((hE.ext e1).set r1 i) q1⟩
end

/-! ### defs -/
theorem lk_start : ∀ (ds : List D) (n i : Nat) (d : D), lk (ds.map some ++ List.replicate n none) i = some d → ds[i]? = some d
  | [], n, i, d, h => by
    exfalso
    rw [List.map_nil, List.nil_append] at h
    induction n generalizing i with
    | zero => cases (show (none : Option D) = some d from h)
    | succ n ih =>
      rw [List.replicate_succ] at h
      cases i with
      | zero => cases (show (none : Option D) = some d from h)
      | succ i => exact ih i h
  | x :: ds, n, 0, d, h => by
    have h : some x = some d := h
    cases h
    rfl
  | x :: ds, n, i + 1, d, h => by
    have := lk_start ds n i d h
    simpa using this
theorem rep_start {K : PySem.W.Frag} {H : Hp} {m : List Addr} {ds : List D} {vs : List V} {N : List Str} (r : Reps K H m ds vs) : RepE K H m (start N.length ds) (L2.start N vs) := by
  refine ⟨by simp [start, L2.start, r.len], fun i d h => ?_⟩
  obtain ⟨v, h1, h2⟩ := r.get i d (lk_start _ _ _ _ h)
  refine ⟨v, ?_, h2⟩
  unfold L2.start
  rw [List.getElem?_append_left (by rw [List.length_map]; exact (List.getElem?_eq_some_iff.mp h1).1), List.getElem?_map, h1]
  rfl
section
variable {P : Program} {w : World} {K : PySem.W.Frag} {mg : Str → Option Value} {base : Heap}
/-- THE RULE for a def -/
theorem fn_body {x qual : Str} {st : Stmt} {f : Addr} {fd : FuncData} {N ps : List Str} {k n a : Nat} {sp : Spc} {ws : WS} (F : L2.Fun K x qual st f fd) (Sc : L2.FnScope N ps (L2.defScope st)) (hn : N.length = n) (ha : ps.length = a)
    (hw : ∀ (cdv : Value) (A : Around) (outer : List PySem.Env) (s : Shared) (H : Hp) (E : L2.XK), L2.Room k (A.deeper (PyProof.Rows.envOfC qual (L2.defScope st) s.heap.objs.size f cdv)) →
      PSs (L2.cxOf L2.CX0 P w K mg base N qual (L2.defScope st) f cdv A outer s H E).nox (L2.defBody st) (tsOf K ws)) (hb : Body n a ws sp) : L2.FnOk P w K mg base L2.CX0 (k + 1) f fd ps (spOf K a sp) := by
  refine F.ok Sc (fun vs H Q E ⟨m, S, ds, R, s, r, l, _⟩ => by rw [r.len, l, ha]) (fun cdv A outer s H vs Q E hr ⟨m, S, ds, R, hS, r, l, h, kk⟩ => ⟨_, hw cdv A outer s H E hr, ?_⟩)
  refine ⟨start N.length ds, S, m, { nx := fun _ S' => R .non S', rt := R, bk := fun _ _ => False, ct := fun _ _ => False }, rep_start r, hS, ?_, fun σ' ρ' H' S' m' e s r q => kk .non .non H' S' m' e s rfl q, kk, fun σ' ρ' H' S' m' e s r q => q.elim, fun σ' ρ' H' S' m' e s r q => q.elim⟩
  rw [hn]
  exact hb ds S R l h
/-- a law's promise from that of its def -/
theorem law_sp {sp : Spc} {H : Hp} {a : Addr} {ns : List Int} (hO : L2.Only H) (hS : SqL K H a (ns.map V.int)) (h : sp [.rol (intD ns)] [] fun d _ => d = .bl true) : spOf K 1 sp [.ref a] H (fun v _ => v = .bl true) fun _ _ _ => False := by
  refine ⟨[], [], [.rol (intD ns)], _, ⟨rfl, fun i j a h => by simp at h, fun n o h => by simp at h⟩, ⟨_, [], rfl, ⟨a, _, rfl, ?_, Reps.of_ints⟩, rfl⟩, rfl, h, fun v d H' S' m' e s r q => ?_⟩
  · rcases hS with (h | h) | h
    · rcases hO a with z | ⟨o, xs, z⟩
      · rw [h] at z; cases z
      · rw [h] at z; cases z
    · exact .inl h
    · exact .inr h
  · rw [q] at r
    exact r
end
end DL
set_option Elab.async false
set_option linter.all false
set_option maxRecDepth 100000
set_option maxHeartbeats 4000000
/-! DL5: operations by values. -/
namespace DL
open PySem PySem.Spec
open L2 (V Hp HO St TE TT TA TS TG TI TO PE PT PW PA PS PSs PG PI PO Cx Inv RelV Vals SqL SqT Rd upd upd_same upd_ne ne_of ne_of_none OpR UnR CallR MtR IxR SlR It thn)
section
variable {X : Cx}
/-- a rule between values, from one by the layer -/
theorem r2I {f : Value → Value → Sem Value} {r : L2.R2} {q : R2} (h : OpR X f r) (hi : ∀ x y H Q, r2Of X.K q x y H Q → r x y H Q) : OpR X f (r2Of X.K q) := fun pins s σ H x y v u Q I rx ry hq => h pins s σ H x y v u Q I rx ry (hi _ _ _ _ hq)
theorem r1I {f : Value → Sem Value} {r : V → Hp → L2.VK → Prop} {q : R1} (h : UnR X f r) (hi : ∀ x H Q, r1Of X.K q x H Q → r x H Q) : UnR X f (r1Of X.K q) := fun pins s σ H x v Q I rx hq => h pins s σ H x v Q I rx (hi _ _ _ hq)
theorem rlI {f : Value} {r : List V → Hp → L2.VK → Prop} {q : RL} (h : CallR X f r) (hi : ∀ x H Q, rlOf X.K q x H Q → r x H Q) : CallR X f (rlOf X.K q) := fun pins s σ H x v Q I rx hq => h pins s σ H x v Q I rx (hi _ _ _ hq)
theorem rmI {id : String} {r : V → List V → Hp → L2.VK → Prop} {q : RM} (h : MtR X id r) (hi : ∀ x xs H Q, rmOf X.K q x xs H Q → r x xs H Q) : MtR X id (rmOf X.K q) := fun pins s σ H x xs v us Q I rx rxs hq => h pins s σ H x xs v us Q I rx rxs (hi _ _ _ _ hq)
theorem rix {r : L2.R2} {q : R2} (h : IxR X r) (hi : ∀ x y H Q, r2Of X.K q x y H Q → r x y H Q) : IxR X (r2Of X.K q) := fun e1 e2 pins s σ H x y v u Q I rx ry hq hs => h e1 e2 pins s σ H x y v u Q I rx ry (hi _ _ _ _ hq) hs
theorem rsl {r : V → Option Int → Option Int → Hp → L2.VK → Prop} {q : D → Option Int → Option Int → Sto → VK → Prop} (h : SlR X r) (hi : ∀ x l u H Q, rsOf X.K q x l u H Q → r x l u H Q) : SlR X (rsOf X.K q) := fun pins s σ H x v vl vu lo hi' sl Q I rx hs p1 p2 hq => h pins s σ H x v vl vu lo hi' sl Q I rx hs p1 p2 (hi _ _ _ _ _ hq)
theorem isLst_iff {S : Sto} {n : Nat} {P : List D → Prop} : isLst S n P ↔ ∃ xs, S[n]? = some (.lst xs) ∧ P xs := by
  unfold isLst
  constructor
  · intro h
    split at h
    · rename_i xs e
      exact ⟨xs, e, h⟩
    · exact h.elim
  · rintro ⟨xs, e, h⟩
    rw [e]
    exact h
/-- a new tuple, a new list -/
theorem Kont.tup {K : PySem.W.Frag} {m : List Addr} {H : Hp} {S : Sto} {R : D → Sto → Prop} {Q : V → Hp → Prop} (k : Kont K m H R Q) (s : RepS K H m S) {ds : List D} {vs : List V} (r : Reps K H m ds vs) (q : R (.tup ds) S) : ∀ p, H p = none → Q (.ref p) (upd H p (.tup vs)) :=
  fun p hp => k _ (.tup ds) _ S m (Ext.fresh hp _) (s.fresh hp _) ⟨p, vs, rfl, SqT.of upd_same, Reps.ext (Ext.fresh hp _) _ _ r⟩ q
theorem Kont.lst {K : PySem.W.Frag} {m : List Addr} {H : Hp} {S : Sto} {R : D → Sto → Prop} {Q : V → Hp → Prop} (k : Kont K m H R Q) (s : RepS K H m S) {ds : List D} {vs : List V} (r : Reps K H m ds vs) (q : R (.ref S.length) (S ++ [.lst ds])) : ∀ p, H p = none → Q (.ref p) (upd H p (.lst vs)) :=
  fun p hp => k _ (.ref S.length) _ _ (m ++ [p]) (Ext.pushed hp _) (s.push hp r) ⟨p, by rw [← s.len]; simp, rfl⟩ q
/-- a list written -/
theorem Kont.put {K : PySem.W.Frag} {m : List Addr} {H : Hp} {S : Sto} {R : D → Sto → Prop} {Q : V → Hp → Prop} (k : Kont K m H R Q) (s : RepS K H m S) {n : Nat} {a : Addr} {ds ds' : List D} {vs vs' : List V} {d : D} {v : V} (e : S[n]? = some (.lst ds)) (ha : m[n]? = some a) (hv : H a = some (.lst vs)) (r : Reps K H m ds' vs')
    (rd : Rep K H m d v) (q : R d (S.set n (.lst ds'))) : Q v (upd H a (.lst vs')) :=
  k v d _ _ m (Ext.wrote (List.mem_of_getElem? ha) hv) (s.set e ha r) (Rep.ext (Ext.wrote (List.mem_of_getElem? ha) hv) _ _ rd) q

theorem szL' : szL = sizeLine := szL_eq
theorem o_add : OpR X (binaryOp .Add) (r2Of X.K rAdd) :=
  r2I ((((L2.op_add (X := X)).or L2.op_catA).or L2.op_add_str).or L2.op_cat) fun x y H Q ⟨m, S, d, e, R, s, rx, ry, h, k⟩ => by
    cases d with
    | int i => cases e with
      | int j => exact .inl (.inl (.inl ⟨i, j, rx, ry, k _ (.int (i + j)) H S m (Ext.refl _ _) s rfl h⟩))
      | _ => exact (show False from h).elim
    | tup xs => cases e with
      | tup ys =>
        obtain ⟨a, vs, rfl, hT, r1⟩ := rx
        obtain ⟨b, us, rfl, hU, r2⟩ := ry
        obtain ⟨hz, q⟩ := h
        refine .inl (.inl (.inr ⟨a, b, vs, us, rfl, rfl, hT, hU, by rw [r1.len, r2.len, ← szL']; exact hz, fun e => ?_, fun _ e => ?_, fun _ _ => k.tup s (r1.app r2) q⟩))
        · subst e
          have : xs = [] := List.eq_nil_of_length_eq_zero (by rw [← r1.len]; rfl)
          subst this
          exact k _ (.tup ys) H S m (Ext.refl _ _) s ⟨b, us, rfl, hU, r2⟩ q
        · subst e
          have : ys = [] := List.eq_nil_of_length_eq_zero (by rw [← r2.len]; rfl)
          subst this
          rw [List.append_nil] at q
          exact k _ (.tup xs) H S m (Ext.refl _ _) s ⟨a, vs, rfl, hT, r1⟩ q
      | _ => exact (show False from h).elim
    | str z => cases e with
      | str z' =>
        obtain ⟨hz, q⟩ := h
        exact .inl (.inr ⟨z, z', rx, ry, by rw [← szL']; exact hz, k _ (.str (z ++ z')) H S m (Ext.refl _ _) s rfl q⟩)
      | _ => exact (show False from h).elim
    | ref n => cases e with
      | ref n' =>
        obtain ⟨xs, e1, h⟩ := isLst_iff.mp h
        obtain ⟨ys, e2, hz, q⟩ := isLst_iff.mp h
        obtain ⟨a, vs, h1, h2, h3⟩ := s.lst e1
        obtain ⟨b, us, g1, g2, g3⟩ := s.lst e2
        obtain ⟨a', q1, rfl⟩ := rx
        obtain ⟨b', q2, rfl⟩ := ry
        rw [h1] at q1
        rw [g1] at q2
        cases q1
        cases q2
        exact .inr ⟨a, b, vs, us, rfl, rfl, h2, g2, by rw [h3.len, g3.len, ← szL']; exact hz, k.lst s (h3.app g3) q⟩
      | _ => exact (show False from h).elim
    | _ => exact (show False from h).elim
theorem o_sub : OpR X (binaryOp .Sub) (r2Of X.K rSub) := r2I L2.op_sub fun x y H Q ⟨m, S, d, e, R, s, rx, ry, h, k⟩ => by
  cases d with
  | int i => cases e with
    | int j => exact ⟨i, j, rx, ry, k _ (.int (i - j)) H S m (Ext.refl _ _) s rfl h⟩
    | _ => exact (show False from h).elim
  | _ => exact (show False from h).elim
theorem CMul_or {i j : Int} (h : MulOk i j) : IntMulOk i j := by
  rcases h with (h | h) | ⟨a, b, h1, h2, h3⟩
  · exact L2.CMul.ok (.inl (by have : (2 : Nat) ^ 64 = 18446744073709551616 := by decide
                               have : (2 : Int) ^ 64 = 18446744073709551616 := by decide
                               omega))
  · exact L2.CMul.ok (.inr (by have : (2 : Nat) ^ 64 = 18446744073709551616 := by decide
                               have : (2 : Int) ^ 64 = 18446744073709551616 := by decide
                               omega))
  · have w1 : i.natAbs < 2 ^ (a + 1) := Nat.lt_trans h1 (Nat.pow_lt_pow_right (by decide) (by omega))
    have w2 : j.natAbs < 2 ^ (b + 1) := Nat.lt_trans h2 (Nat.pow_lt_pow_right (by decide) (by omega))
    have x := PySem.Flt.log2_lt_of (by omega) w1
    have y := PySem.Flt.log2_lt_of (by omega) w2
    by_cases hc : i.natAbs.log2 + j.natAbs.log2 < 1000000
    · exact L2.CMulW.ok hc
    · have e1 : i.natAbs.log2 ≤ a := by omega
      have e2 : j.natAbs.log2 ≤ b := by omega
      exfalso
      have ha : a = i.natAbs.log2 := by omega
      have hb : b = j.natAbs.log2 := by omega
      by_cases h0 : i.natAbs = 0
      · rw [h0] at ha
        have : Nat.log2 0 = 0 := by decide
        rw [this] at ha
        have hb1 : 0 < b := by omega
        have := PySem.Flt.log2_lt_of hb1 h2
        omega
      · by_cases ha0 : a = 0
        · subst ha0
          have hb1 : 0 < b := by omega
          have := PySem.Flt.log2_lt_of hb1 h2
          omega
        · have := PySem.Flt.log2_lt_of (by omega : 0 < a) h1
          omega
theorem op_mulAny : OpR X (binaryOp .Mult) (L2.rI (fun i j => IntMulOk i j) fun i j => .int (i * j)) := L2.opI fun _ _ _ _ _ _ _ hc q => PyProof.Rows.mul_int q hc
theorem iop_mulAny : OpR X (inplaceOp .Mult) (L2.rI (fun i j => IntMulOk i j) fun i j => .int (i * j)) := L2.opI fun _ _ _ _ _ _ _ hc q => PyProof.Rows.imul_int q hc

/-- ints alone -/
theorem ii {K : PySem.W.Frag} {x y : V} {H : Hp} {Q : L2.VK} {C : Int → Int → Prop} {g : Int → Int → D} {gv : Int → Int → V} {r : R2} (hg : ∀ i j H m, Rep K H m (g i j) (gv i j)) (hr : ∀ d e S R, r d e S R → ∃ i j, d = .int i ∧ e = .int j ∧ C i j ∧ R (g i j) S) (h : r2Of K r x y H Q) : L2.rI C gv x y H Q := by
  obtain ⟨m, S, d, e, R, s, rx, ry, h, k⟩ := h
  obtain ⟨i, j, rfl, rfl, hc, q⟩ := hr d e S R h
  exact ⟨i, j, rx, ry, hc, k _ _ H S m (Ext.refl _ _) s (hg i j H m) q⟩
theorem o_mul : OpR X (binaryOp .Mult) (r2Of X.K rMul) := r2I ((op_mulAny (X := X)).or L2.op_rep) fun x y H Q ⟨m, S, d, e, R, s, rx, ry, h, k⟩ => by
  cases d with
  | int i => cases e with
    | int j => exact .inl ⟨i, j, rx, ry, CMul_or h.1, k _ (.int (i * j)) H S m (Ext.refl _ _) s rfl h.2⟩
    | _ => exact (show False from h).elim
  | ref n => cases e with
    | int j =>
      obtain ⟨xs, e1, ⟨h1, h2⟩, hz, q⟩ := isLst_iff.mp h
      obtain ⟨a, vs, g1, g2, g3⟩ := s.lst e1
      obtain ⟨a', q1, rfl⟩ := rx
      rw [g1] at q1
      cases q1
      exact .inr ⟨a, j, vs, rfl, ry, g2, h1, h2, by rw [g3.len, ← szL']; exact hz, k.lst s (g3.rep _) q⟩
    | _ => exact (show False from h).elim
  | _ => exact (show False from h).elim
theorem int_of {r : R2} {C : Int → Int → Prop} {g : Int → Int → D} {d e : D} {S : Sto} {R : D → Sto → Prop} (h : r d e S R) (h1 : ∀ i j, r (.int i) (.int j) S R → C i j ∧ R (g i j) S) (h2 : ∀ d e, r d e S R → ∃ i j, d = .int i ∧ e = .int j) : ∃ i j, d = .int i ∧ e = .int j ∧ C i j ∧ R (g i j) S := by
  obtain ⟨i, j, rfl, rfl⟩ := h2 d e h
  exact ⟨i, j, rfl, rfl, h1 i j h⟩
theorem only_ii {r : R2} {S : Sto} {R : D → Sto → Prop} (h0 : ∀ d e, (∀ i j, ¬ (d = .int i ∧ e = .int j)) → ¬ r d e S R) : ∀ d e, r d e S R → ∃ i j, d = .int i ∧ e = .int j := fun d e h => by
  cases d with
  | int i => cases e with
    | int j => exact ⟨i, j, rfl, rfl⟩
    | _ => exact absurd h (h0 _ _ fun _ _ z => nomatch z.2)
  | _ => exact absurd h (h0 _ _ fun _ _ z => nomatch z.1)
theorem i_mul : OpR X (inplaceOp .Mult) (r2Of X.K rMul') := r2I (iop_mulAny (X := X)) fun x y H Q h => ii (g := fun i j => .int (i * j)) (fun _ _ _ _ => rfl) (fun d e S R h => by
  cases d with
  | int i => cases e with
    | int j => exact ⟨i, j, rfl, rfl, CMul_or h.1, h.2⟩
    | _ => exact (show False from h).elim
  | _ => exact (show False from h).elim) h
theorem div_ok {j : Int} (h : DivOk j) (i : Int) : Builtin.divisionGoesByPylong i j = false := by
  refine PyProof.noPylong_of_log2 ?_
  exact PySem.Flt.log2_lt_of (by decide) h.2
theorem op_divAny : OpR X (binaryOp .FloorDiv) (L2.rI (fun _ j => DivOk j) fun i j => .int (i.fdiv j)) := L2.opI fun i j _ _ _ _ _ hc q => PyProof.Rows.floordiv_int hc.1 q (.inl (div_ok hc i))
theorem iop_divAny : OpR X (inplaceOp .FloorDiv) (L2.rI (fun _ j => DivOk j) fun i j => .int (i.fdiv j)) := L2.opI fun i j _ _ _ _ _ hc q => PyProof.Rows.ifloordiv_int hc.1 q (.inl (div_ok hc i))
theorem o_div : OpR X (binaryOp .FloorDiv) (r2Of X.K rDiv) := r2I (op_divAny (X := X)) fun x y H Q h => ii (g := fun i j => .int (i.fdiv j)) (fun _ _ _ _ => rfl) (fun d e S R h => by
  cases d with
  | int i => cases e with
    | int j => exact ⟨i, j, rfl, rfl, h.1, h.2⟩
    | _ => exact (show False from h).elim
  | _ => exact (show False from h).elim) h
theorem i_div : OpR X (inplaceOp .FloorDiv) (r2Of X.K rDiv) := r2I (iop_divAny (X := X)) fun x y H Q h => ii (g := fun i j => .int (i.fdiv j)) (fun _ _ _ _ => rfl) (fun d e S R h => by
  cases d with
  | int i => cases e with
    | int j => exact ⟨i, j, rfl, rfl, h.1, h.2⟩
    | _ => exact (show False from h).elim
  | _ => exact (show False from h).elim) h
theorem o_mod : OpR X (binaryOp .Mod) (r2Of X.K rMod) := r2I (L2.op_modN (X := X)) fun x y H Q h => ii (g := fun i j => .int (i.fmod j)) (fun _ _ _ _ => rfl) (fun d e S R h => by
  cases d with
  | int i => cases e with
    | int j => exact ⟨i, j, rfl, rfl, h.1, h.2⟩
    | _ => exact (show False from h).elim
  | _ => exact (show False from h).elim) h
theorem o_pow : OpR X (binaryOp .Pow) (r2Of X.K rPow) := r2I (L2.op_pow (X := X)) fun x y H Q h => ii (g := fun i j => .int (i ^ j.toNat)) (fun _ _ _ _ => rfl) (fun d e S R h => by
  cases d with
  | int i => cases e with
    | int j => exact ⟨i, j, rfl, rfl, h.1, h.2⟩
    | _ => exact (show False from h).elim
  | _ => exact (show False from h).elim) h
theorem u_neg : UnR X (unaryOp .USub) (r1Of X.K rNeg) := r1I L2.un_neg fun x H Q ⟨m, S, d, R, s, rx, h, k⟩ => by
  cases d with
  | int i => exact ⟨i, rx, k _ (.int (-i)) H S m (Ext.refl _ _) s rfl h⟩
  | _ => exact (show False from h).elim
theorem cmp_of {f : Value → Value → Sem Value} {g : Int → Int → Bool} (h : OpR X f (L2.rI0 fun i j => .bl (g i j))) : OpR X f (r2Of X.K (rCmp g)) := r2I h fun x y H Q ⟨m, S, d, e, R, s, rx, ry, h, k⟩ => by
  cases d with
  | int i => cases e with
    | int j => exact ⟨i, j, rx, ry, k _ (.bl (g i j)) H S m (Ext.refl _ _) s rfl h⟩
    | _ => exact (show False from h).elim
  | _ => exact (show False from h).elim
theorem c_lt : OpR X (compareOp .Lt) (r2Of X.K rLt) := cmp_of L2.op_lt
theorem c_le : OpR X (compareOp .LtE) (r2Of X.K rLe) := cmp_of L2.op_le
theorem c_gt : OpR X (compareOp .Gt) (r2Of X.K rGt) := cmp_of L2.op_gt
theorem c_ge : OpR X (compareOp .GtE) (r2Of X.K rGe) := cmp_of L2.op_ge
/-! equality of plain data -/
mutual
theorem toPy_dp {K : PySem.W.Frag} {H : Hp} {m : List Addr} : ∀ (d : D) (v : V), flat d = true → Rep K H m d v → L2.Dp K H v (toPy d)
  | .non, v, _, h => by rw [show v = .non from h]; exact .non
  | .bl b, v, _, h => by rw [show v = .bl b from h]; exact .bl b
  | .int b, v, _, h => by rw [show v = .int b from h]; exact .int b
  | .str b, v, _, h => by rw [show v = .str b from h]; exact .str b
  | .tup ds, v, f, ⟨a, vs, hv, hT, r⟩ => by rw [hv]; exact .tup hT (toPys_dp ds vs f r)
  | .rol _, _, f, _ => by cases (show false = true from f)
  | .ref _, _, f, _ => by cases (show false = true from f)
  | .ty _, _, f, _ => by cases (show false = true from f)
theorem toPys_dp {K : PySem.W.Frag} {H : Hp} {m : List Addr} : ∀ (ds : List D) (vs : List V), flats ds = true → Reps K H m ds vs → L2.DpAll K H vs (toPys ds)
  | [], vs, _, h => by rw [show vs = [] from h]; exact .nil
  | d :: ds, vs, f, ⟨v, r, hv, h1, h2⟩ => by
    rw [hv]
    have f := Bool.and_eq_true_iff.mp (show (flat d && flats ds) = true from f)
    exact .cons (toPy_dp d v f.1 h1) (toPys_dp ds r f.2 h2)
end
theorem strOk_of {K : PySem.W.Frag} : True := trivial
mutual
theorem eqv_eq : ∀ (d e : D), flat d = true → flat e = true → PyData.eqv (toPy d) (toPy e) = eqD d e
  | .non, .non, _, _ => rfl
  | .non, .bl _, _, _ => rfl
  | .non, .int _, _, _ => rfl
  | .non, .str _, _, _ => rfl
  | .non, .tup _, _, _ => rfl
  | .bl _, .non, _, _ => rfl
  | .bl _, .bl _, _, _ => rfl
  | .bl _, .int _, _, _ => rfl
  | .bl _, .str _, _, _ => rfl
  | .bl _, .tup _, _, _ => rfl
  | .int _, .non, _, _ => rfl
  | .int _, .bl _, _, _ => rfl
  | .int i, .int j, _, _ => by
    show (i == j) = decide (i = j)
    rw [Bool.beq_eq_decide_eq]
  | .int _, .str _, _, _ => rfl
  | .int _, .tup _, _, _ => rfl
  | .str _, .non, _, _ => rfl
  | .str _, .bl _, _, _ => rfl
  | .str _, .int _, _, _ => rfl
  | .str i, .str j, _, _ => by
    show (i == j) = decide (i = j)
    rw [Bool.beq_eq_decide_eq]
  | .str _, .tup _, _, _ => rfl
  | .tup _, .non, _, _ => rfl
  | .tup _, .bl _, _, _ => rfl
  | .tup _, .int _, _, _ => rfl
  | .tup _, .str _, _, _ => rfl
  | .tup xs, .tup ys, f, g => eqvs_eq xs ys f g
  | .rol _, _, f, _ => by cases (show false = true from f)
  | .ref _, _, f, _ => by cases (show false = true from f)
  | .ty _, _, f, _ => by cases (show false = true from f)
  | _, .rol _, _, f => by cases (show false = true from f)
  | _, .ref _, _, f => by cases (show false = true from f)
  | _, .ty _, _, f => by cases (show false = true from f)
theorem eqvs_eq : ∀ (ds es : List D), flats ds = true → flats es = true → PyData.eqvAll (toPys ds) (toPys es) = eqDs ds es
  | [], [], _, _ => rfl
  | [], _ :: _, _, _ => rfl
  | _ :: _, [], _, _ => rfl
  | d :: ds, e :: es, f, g => by
    have f := Bool.and_eq_true_iff.mp (show (flat d && flats ds) = true from f)
    have g := Bool.and_eq_true_iff.mp (show (flat e && flats es) = true from g)
    show (PyData.eqv (toPy d) (toPy e) && PyData.eqvAll (toPys ds) (toPys es)) = (eqD d e && eqDs ds es)
    rw [eqv_eq d e f.1 g.1, eqvs_eq ds es f.2 g.2]
end
mutual
theorem deep_eq : ∀ d : D, PyData.depth (toPy d) = deep d
  | .non => rfl
  | .bl _ => rfl
  | .int _ => rfl
  | .str _ => rfl
  | .tup ds => by
    show PyData.depthAll (toPys ds) + 1 = deeps ds + 1
    rw [deeps_eq ds]
  | .rol _ => rfl
  | .ref _ => rfl
  | .ty _ => rfl
theorem deeps_eq : ∀ ds : List D, PyData.depthAll (toPys ds) = deeps ds
  | [] => rfl
  | d :: ds => by
    show max (PyData.depth (toPy d)) (PyData.depthAll (toPys ds)) = max (deep d) (deeps ds)
    rw [deep_eq d, deeps_eq ds]
end

end
end DL
set_option Elab.async false
set_option linter.all false
set_option maxRecDepth 100000
set_option maxHeartbeats 4000000
/-! DL6: comparisons of data, subscripts, slices, built-ins, methods, stores. -/
namespace DL
open PySem PySem.Spec
open L2 (V Hp HO St TE TT TA TS TG TI TO PE PT PW PA PS PSs PG PI PO Cx Inv RelV Vals SqL SqT Rd upd upd_same upd_ne ne_of ne_of_none OpR UnR CallR MtR IxR SlR It thn)
section
variable {X : Cx}
mutual
theorem lay_of : ∀ d : D, flat d = true → PyData.canLay0 (toPy d) = true
  | .non, _ => rfl
  | .bl _, _ => rfl
  | .int _, _ => rfl
  | .str x, h => h
  | .tup ds, h => lays_of ds h
  | .rol _, h => by cases (show false = true from h)
  | .ref _, h => by cases (show false = true from h)
  | .ty _, h => by cases (show false = true from h)
theorem lays_of : ∀ ds : List D, flats ds = true → PyData.canLayAll0 (toPys ds) = true
  | [], _ => rfl
  | d :: ds, h => by
    have h := Bool.and_eq_true_iff.mp (show (flat d && flats ds) = true from h)
    show (PyData.canLay0 (toPy d) && PyData.canLayAll0 (toPys ds)) = true
    rw [lay_of d h.1, lays_of ds h.2]
    rfl
end
theorem shaped_of {d : D} (h : flat d = true) (h2 : deep d ≤ 64) : SeqAt.shaped (toPy d) = true := by
  unfold SeqAt.shaped
  rw [lay_of d h, deep_eq, Bool.true_and]
  exact decide_eq_true h2
theorem shapeds_of {ds : List D} (h : flats ds = true) (h2 : deeps ds ≤ 63) : SeqAt.shaped (.list (toPys ds)) = true := by
  unfold SeqAt.shaped
  have e : PyData.canLay0 (.list (toPys ds)) = true := lays_of ds h
  rw [e, Bool.true_and]
  refine decide_eq_true ?_
  show PyData.depthAll (toPys ds) + 1 ≤ 64
  rw [deeps_eq]
  omega
theorem c_eq {kk : Nat} (hr : L2.Room kk X.A) : OpR X (compareOp .Eq) (r2Of X.K rEq) := r2I (L2.op_eqD hr.units) fun x y H Q ⟨m, S, d, e, R, s, rx, ry, ⟨⟨f1, f2, g1, g2⟩, q⟩, k⟩ =>
  ⟨toPy d, toPy e, toPy_dp d x f1 rx, toPy_dp e y f2 ry, shaped_of f1 g1, shaped_of f2 g2, by rw [eqv_eq d e f1 f2]; exact k _ (.bl (eqD d e)) H S m (Ext.refl _ _) s rfl q⟩
theorem c_ne {kk : Nat} (hr : L2.Room kk X.A) : OpR X (compareOp .NotEq) (r2Of X.K rNe) := r2I (L2.op_neD hr.units) fun x y H Q ⟨m, S, d, e, R, s, rx, ry, ⟨⟨f1, f2, g1, g2⟩, q⟩, k⟩ =>
  ⟨toPy d, toPy e, toPy_dp d x f1 rx, toPy_dp e y f2 ry, shaped_of f1 g1, shaped_of f2 g2, by rw [eqv_eq d e f1 f2]; exact k _ (.bl (!eqD d e)) H S m (Ext.refl _ _) s rfl q⟩
theorem isNon_eq {K : PySem.W.Frag} {H : Hp} {m : List Addr} {d : D} {x : V} (r : Rep K H m d x) : isNon d = decide (x = .non) := by
  cases d with
  | non => rw [show x = .non from r]; rfl
  | bl b => rw [show x = .bl b from r]; rfl
  | int b => rw [show x = .int b from r]; rfl
  | str b => rw [show x = .str b from r]; rfl
  | ty b => rw [show x = .ty b from r]; rfl
  | tup b => obtain ⟨a, vs, rfl, _⟩ := r; rfl
  | rol b => obtain ⟨a, vs, rfl, _⟩ := r; rfl
  | ref b => obtain ⟨a, _, rfl⟩ := r; rfl
theorem c_is : OpR X (compareOp .Is) (r2Of X.K rIs) := r2I ((L2.op_isN (X := X)).or L2.op_is_bl) fun x y H Q ⟨m, S, d, e, R, s, rx, ry, h, k⟩ => by
  cases e with
  | non =>
    have h : R (.bl (isNon d)) S := by cases d <;> exact h
    exact .inl ⟨ry, by rw [← isNon_eq rx]; exact k _ (.bl (isNon d)) H S m (Ext.refl _ _) s rfl h⟩
  | bl b => cases d with
    | bl a => exact .inr ⟨a, b, rx, ry, k _ (.bl (decide (a = b))) H S m (Ext.refl _ _) s rfl h⟩
    | _ => exact (show False from h).elim
  | _ => cases d <;> exact (show False from h).elim
theorem c_isnot : OpR X (compareOp .IsNot) (r2Of X.K rIsNot) := r2I ((L2.op_notN (X := X)).or L2.op_isnot_bl) fun x y H Q ⟨m, S, d, e, R, s, rx, ry, h, k⟩ => by
  cases e with
  | non =>
    have h : R (.bl (!isNon d)) S := by cases d <;> exact h
    exact .inl ⟨ry, by rw [← isNon_eq rx]; exact k _ (.bl (!isNon d)) H S m (Ext.refl _ _) s rfl h⟩
  | bl b => cases d with
    | bl a => exact .inr ⟨a, b, rx, ry, k _ (.bl (!decide (a = b))) H S m (Ext.refl _ _) s rfl h⟩
    | _ => exact (show False from h).elim
  | _ => cases d <;> exact (show False from h).elim
/-! in -/
theorem flat0_V {K : PySem.W.Frag} {H : Hp} {m : List Addr} {d : D} {x : V} (r : Rep K H m d x) (h : flat0 d = true) : L2.flatV x = true := by
  cases d with
  | non => rw [show x = .non from r]; rfl
  | bl b => rw [show x = .bl b from r]; rfl
  | int b => rw [show x = .int b from r]; rfl
  | str b => rw [show x = .str b from r]; rfl
  | _ => cases (show false = true from h)
theorem eqV_eq {K : PySem.W.Frag} {H : Hp} {m : List Addr} {d e : D} {x y : V} (r : Rep K H m d x) (r' : Rep K H m e y) (h : flat0 d = true) (h' : flat0 e = true) : L2.eqV x y = eqD d e := by
  cases d with
  | non => cases e with
    | non => rw [show x = .non from r, show y = .non from r']; rfl
    | bl b => rw [show x = .non from r, show y = .bl b from r']; rfl
    | int b => rw [show x = .non from r, show y = .int b from r']; rfl
    | str b => rw [show x = .non from r, show y = .str b from r']; rfl
    | _ => cases (show false = true from h')
  | bl a => cases e with
    | non => rw [show x = .bl a from r, show y = .non from r']; rfl
    | bl b => rw [show x = .bl a from r, show y = .bl b from r']; rfl
    | int b => rw [show x = .bl a from r, show y = .int b from r']; rfl
    | str b => rw [show x = .bl a from r, show y = .str b from r']; rfl
    | _ => cases (show false = true from h')
  | int a => cases e with
    | non => rw [show x = .int a from r, show y = .non from r']; rfl
    | bl b => rw [show x = .int a from r, show y = .bl b from r']; rfl
    | int b =>
      rw [show x = .int a from r, show y = .int b from r']
      show (a == b) = decide (a = b)
      rw [Bool.beq_eq_decide_eq]
    | str b => rw [show x = .int a from r, show y = .str b from r']; rfl
    | _ => cases (show false = true from h')
  | str a => cases e with
    | non => rw [show x = .str a from r, show y = .non from r']; rfl
    | bl b => rw [show x = .str a from r, show y = .bl b from r']; rfl
    | int b => rw [show x = .str a from r, show y = .int b from r']; rfl
    | str b =>
      rw [show x = .str a from r, show y = .str b from r']
      show (a == b) = decide (a = b)
      rw [Bool.beq_eq_decide_eq]
    | _ => cases (show false = true from h')
  | _ => cases (show false = true from h)
theorem inV_eq {K : PySem.W.Frag} {H : Hp} {m : List Addr} {d : D} {x : V} (r : Rep K H m d x) (h : flat0 d = true) : ∀ (ds : List D) (vs : List V), Reps K H m ds vs → ds.all flat0 = true → L2.inV x vs = (ds.any fun y => eqD y d) ∧ vs.all L2.flatV = true
  | [], vs, rs, _ => by rw [show vs = [] from rs]; exact ⟨rfl, rfl⟩
  | e :: ds, vs, ⟨v, us, hv, r1, r2⟩, f => by
    rw [hv]
    have f := Bool.and_eq_true_iff.mp (show (flat0 e && ds.all flat0) = true from f)
    obtain ⟨h1, h2⟩ := inV_eq r h ds us r2 f.2
    refine ⟨?_, ?_⟩
    · show (L2.eqV v x || us.any fun y => L2.eqV y x) = (eqD e d || ds.any fun y => eqD y d)
      rw [eqV_eq r1 r f.1 h]
      exact congrArg (eqD e d || ·) h1
    · show (L2.flatV v && us.all L2.flatV) = true
      rw [flat0_V r1 f.1, h2]
      rfl
theorem any_py {d : D} (h : flat d = true) : ∀ ds : List D, flats ds = true → ((toPys ds).any fun z => PyData.eqv z (toPy d)) = ds.any fun y => eqD y d
  | [], _ => rfl
  | e :: ds, f => by
    have f := Bool.and_eq_true_iff.mp (show (flat e && flats ds) = true from f)
    show (PyData.eqv (toPy e) (toPy d) || (toPys ds).any fun z => PyData.eqv z (toPy d)) = (eqD e d || ds.any fun y => eqD y d)
    rw [eqv_eq e d f.1 h, any_py h ds f.2]
theorem room65 {kk : Nat} (hr : L2.Room kk X.A) : X.A.units + 65 < cLine := by
  have := hr.un
  omega
theorem c_in {kk : Nat} (hr : L2.Room kk X.A) : OpR X (compareOp .In) (r2Of X.K (rIn false)) := r2I (L2.op_in_seq.or (L2.op_inD (room65 hr))) fun x y H Q ⟨m, S, d, e, R, s, rx, ry, h, k⟩ => by
  cases e with
  | tup ys =>
    have h : (flat0 d = true ∧ ys.all flat0 = true) ∧ R (.bl (ys.any fun y => eqD y d)) S := by cases d <;> exact h
    obtain ⟨⟨f, g⟩, q⟩ := h
    obtain ⟨a, vs, rfl, hT, rs⟩ := ry
    obtain ⟨h1, h2⟩ := inV_eq rx f ys vs rs g
    refine .inl ⟨a, vs, rfl, .inr hT, flat0_V rx f, h2, ?_⟩
    show Q (.bl (L2.inV x vs)) H
    rw [h1]
    exact k _ (.bl (ys.any fun y => eqD y d)) H S m (Ext.refl _ _) s rfl q
  | ref n =>
    have h : isLst S n fun ys => (flat d = true ∧ flats ys = true ∧ deep d ≤ 63 ∧ deeps ys ≤ 63) ∧ R (.bl (ys.any fun y => eqD y d)) S := by cases d <;> exact h
    obtain ⟨ys, e1, ⟨f1, f2, g1, g2⟩, q⟩ := isLst_iff.mp h
    obtain ⟨a, vs, h1, h2, h3⟩ := s.lst e1
    obtain ⟨b, q1, rfl⟩ := ry
    rw [h1] at q1
    cases q1
    exact .inr ⟨toPy d, toPys ys, toPy_dp d x f1 rx, .lst (SqL.of h2) (toPys_dp ys vs f2 h3), shaped_of f1 (by omega), shapeds_of f2 g2, by rw [any_py f1 ys f2]; exact k _ (.bl (ys.any fun y => eqD y d)) H S m (Ext.refl _ _) s rfl q⟩
  | _ => cases d <;> exact (show False from h).elim
theorem c_notin {kk : Nat} (hr : L2.Room kk X.A) : OpR X (compareOp .NotIn) (r2Of X.K (rIn true)) := r2I (L2.op_notIn_seq.or (L2.op_notInD (room65 hr))) fun x y H Q ⟨m, S, d, e, R, s, rx, ry, h, k⟩ => by
  cases e with
  | tup ys =>
    have h : (flat0 d = true ∧ ys.all flat0 = true) ∧ R (.bl (!ys.any fun y => eqD y d)) S := by cases d <;> exact h
    obtain ⟨⟨f, g⟩, q⟩ := h
    obtain ⟨a, vs, rfl, hT, rs⟩ := ry
    obtain ⟨h1, h2⟩ := inV_eq rx f ys vs rs g
    refine .inl ⟨a, vs, rfl, .inr hT, flat0_V rx f, h2, ?_⟩
    show Q (.bl (!L2.inV x vs)) H
    rw [h1]
    exact k _ (.bl (!ys.any fun y => eqD y d)) H S m (Ext.refl _ _) s rfl q
  | ref n =>
    have h : isLst S n fun ys => (flat d = true ∧ flats ys = true ∧ deep d ≤ 63 ∧ deeps ys ≤ 63) ∧ R (.bl (!ys.any fun y => eqD y d)) S := by cases d <;> exact h
    obtain ⟨ys, e1, ⟨f1, f2, g1, g2⟩, q⟩ := isLst_iff.mp h
    obtain ⟨a, vs, h1, h2, h3⟩ := s.lst e1
    obtain ⟨b, q1, rfl⟩ := ry
    rw [h1] at q1
    cases q1
    exact .inr ⟨toPy d, toPys ys, toPy_dp d x f1 rx, .lst (SqL.of h2) (toPys_dp ys vs f2 h3), shaped_of f1 (by omega), shapeds_of f2 g2, by rw [any_py f1 ys f2]; exact k _ (.bl (!ys.any fun y => eqD y d)) H S m (Ext.refl _ _) s rfl q⟩
  | _ => cases d <;> exact (show False from h).elim
/-! subscripts -/
theorem atZ_rep {K : PySem.W.Frag} {H : Hp} {m : List Addr} {ds : List D} {vs : List V} (r : Reps K H m ds vs) {i : Int} {d : D} (h : atZ ds i = some d) : ∃ v, L2.atI vs i = some v ∧ Rep K H m d v := by
  unfold atZ at h
  unfold L2.atI
  rw [r.len]
  cases e : ixZ ds.length i with
  | none => rw [e] at h; cases h
  | some j =>
    rw [e] at h
    obtain ⟨v, h1, h2⟩ := r.get j d h
    have e' : L2.ixN ds.length i = some j := e
    exact ⟨v, by rw [e']; exact h1, h2⟩
theorem i_ix : IxR X (r2Of X.K rIx) := rix L2.ix_seq fun x y H Q ⟨m, S, d, e, R, s, rx, ry, h, k⟩ => by
  cases d with
  | tup xs => cases e with
    | int i =>
      obtain ⟨d, hd, q⟩ := h
      obtain ⟨a, vs, rfl, hT, rs⟩ := rx
      obtain ⟨v, h1, h2⟩ := atZ_rep rs hd
      exact .inr (.inl ⟨a, vs, i, v, rfl, ry, hT, h1, k _ _ H S m (Ext.refl _ _) s h2 q⟩)
    | _ => exact (show False from h).elim
  | rol xs => cases e with
    | int i =>
      obtain ⟨d, hd, q⟩ := h
      obtain ⟨a, vs, rfl, hT, rs⟩ := rx
      obtain ⟨v, h1, h2⟩ := atZ_rep rs hd
      exact .inl ⟨a, vs, i, v, rfl, ry, hT.seq, h1, k _ _ H S m (Ext.refl _ _) s h2 q⟩
    | _ => exact (show False from h).elim
  | ref n => cases e with
    | int i =>
      obtain ⟨xs, e1, d, hd, q⟩ := isLst_iff.mp h
      obtain ⟨a, vs, h1, h2, h3⟩ := s.lst e1
      obtain ⟨b, q1, rfl⟩ := rx
      rw [h1] at q1
      cases q1
      obtain ⟨v, g1, g2⟩ := atZ_rep h3 hd
      exact .inl ⟨a, vs, i, v, rfl, ry, SqL.of h2, g1, k _ _ H S m (Ext.refl _ _) s g2 q⟩
    | _ => exact (show False from h).elim
  | str z => cases e with
    | int i =>
      obtain ⟨hz, c, hc, q⟩ := h
      exact .inr (.inr ⟨z, i, c, rx, ry, by rw [← szL']; exact hz, hc, k _ (.str ⟨#[c]⟩) H S m (Ext.refl _ _) s rfl q⟩)
    | _ => exact (show False from h).elim
  | _ => cases e <;> exact (show False from h).elim
theorem sIx_eq (n d : Nat) (o : Option Int) : sIx n d o = HT.sIx n d o := by
  cases o with
  | none => rfl
  | some v =>
    show (if v < 0 then (v + n).toNat else min v.toNat n) = _
    rfl

theorem cut_rep {K : PySem.W.Frag} {H : Hp} {m : List Addr} {ds : List D} {vs : List V} (r : Reps K H m ds vs) (lo hi : Option Int) : Reps K H m (cut ds lo hi) (L2.cutV vs lo hi) := by
  unfold cut L2.cutV
  rw [r.len, sIx_eq, sIx_eq]
  exact (r.drop _).take _
theorem cut_full {K : PySem.W.Frag} {H : Hp} {m : List Addr} {ds : List D} {vs : List V} (r : Reps K H m ds vs) (lo hi : Option Int) (h : HT.sIx vs.length 0 lo = 0 ∧ HT.sIx vs.length vs.length hi = vs.length) : cut ds lo hi = ds := by
  unfold cut
  rw [sIx_eq, sIx_eq, ← r.len, h.1, h.2, List.drop_zero, Nat.sub_zero, r.len, List.take_length]
theorem s_cut : SlR X (rsOf X.K rSl) := rsl ((L2.sl_tupA (X := X)).or L2.sl_list) fun x l u H Q ⟨m, S, d, R, s, rx, h, k⟩ => by
  cases d with
  | tup xs =>
    obtain ⟨a, vs, rfl, hT, rs⟩ := rx
    refine .inl ⟨a, vs, rfl, hT, fun hf => ?_, fun _ => k.tup s (cut_rep rs l u) h⟩
    have h : R (.tup (cut xs l u)) S := h
    rw [cut_full rs l u hf] at h
    exact k _ (.tup xs) H S m (Ext.refl _ _) s ⟨a, vs, rfl, hT, rs⟩ h
  | ref n =>
    obtain ⟨xs, e1, q⟩ := isLst_iff.mp h
    obtain ⟨a, vs, h1, h2, h3⟩ := s.lst e1
    obtain ⟨b, q1, rfl⟩ := rx
    rw [h1] at q1
    cases q1
    exact .inr ⟨a, vs, rfl, SqL.of h2, k.lst s (cut_rep h3 l u) q⟩
  | _ => exact (show False from h).elim

/-! ### built-ins -/
theorem reps1 {K : PySem.W.Frag} {H : Hp} {m : List Addr} {d : D} {vs : List V} (r : Reps K H m [d] vs) : ∃ v, vs = [v] ∧ Rep K H m d v := by
  obtain ⟨v, us, hv, h1, h2⟩ := r
  exact ⟨v, by rw [hv, show us = [] from h2], h1⟩
theorem reps2 {K : PySem.W.Frag} {H : Hp} {m : List Addr} {d e : D} {vs : List V} (r : Reps K H m [d, e] vs) : ∃ v u, vs = [v, u] ∧ Rep K H m d v ∧ Rep K H m e u := by
  obtain ⟨v, us, hv, h1, h2⟩ := r
  obtain ⟨u, rfl, h3⟩ := reps1 h2
  exact ⟨v, u, hv, h1, h3⟩
theorem b_len : CallR X (.builtin "len") (rlOf X.K rLen) := rlI L2.call_len fun xs H Q ⟨m, S, ds, R, s, rx, h, k⟩ => by
  match ds, h, rx with
  | [.tup ys], h, rx =>
    obtain ⟨v, rfl, a, vs, rfl, hT, rs⟩ := reps1 rx
    exact ⟨_, vs.length, rfl, .inr ⟨vs, hT, rfl⟩, by rw [rs.len]; exact k _ (.int ys.length) H S m (Ext.refl _ _) s rfl h⟩
  | [.rol ys], h, rx =>
    obtain ⟨v, rfl, a, vs, rfl, hT, rs⟩ := reps1 rx
    exact ⟨_, vs.length, rfl, .inl ⟨vs, hT.seq, rfl⟩, by rw [rs.len]; exact k _ (.int ys.length) H S m (Ext.refl _ _) s rfl h⟩
  | [.str z], h, rx =>
    obtain ⟨v, rfl, hv⟩ := reps1 rx
    have hv : v = .str z := hv
    subst hv
    exact ⟨_, z.length, rfl, ⟨by rw [← szL']; exact h.1, rfl⟩, k _ (.int z.length) H S m (Ext.refl _ _) s rfl h.2⟩
  | [.ref n], h, rx =>
    obtain ⟨v, rfl, b, q1, rfl⟩ := reps1 rx
    obtain ⟨ys, e1, q⟩ := isLst_iff.mp h
    obtain ⟨a, vs, h1, h2, h3⟩ := s.lst e1
    rw [h1] at q1
    cases q1
    exact ⟨_, vs.length, rfl, .inl ⟨vs, SqL.of h2, rfl⟩, by rw [h3.len]; exact k _ (.int ys.length) H S m (Ext.refl _ _) s rfl q⟩
theorem b_abs : CallR X (.builtin "abs") (rlOf X.K rAbs) := rlI L2.call_abs fun xs H Q ⟨m, S, ds, R, s, rx, h, k⟩ => by
  match ds, h, rx with
  | [.int i], h, rx =>
    obtain ⟨v, rfl, hv⟩ := reps1 rx
    have hv : v = .int i := hv
    subst hv
    refine ⟨i, rfl, ?_⟩
    have e : (if i < 0 then -i else i) = (i.natAbs : Int) := by split <;> omega
    rw [e]
    exact k _ (.int i.natAbs) H S m (Ext.refl _ _) s rfl h
theorem b_int : CallR X (.type "int") (rlOf X.K rInt) := rlI L2.call_int1 fun xs H Q ⟨m, S, ds, R, s, rx, h, k⟩ => by
  match ds, h, rx with
  | [.int i], h, rx =>
    obtain ⟨v, rfl, hv⟩ := reps1 rx
    have hv : v = .int i := hv
    subst hv
    exact .inl ⟨i, rfl, k _ (.int i) H S m (Ext.refl _ _) s rfl h⟩
  | [.bl i], h, rx =>
    obtain ⟨v, rfl, hv⟩ := reps1 rx
    have hv : v = .bl i := hv
    subst hv
    exact .inr ⟨i, rfl, k _ (.int (if i = true then 1 else 0)) H S m (Ext.refl _ _) s rfl h⟩
theorem b_max2 (hc : X.calm = true) : CallR X (.builtin "max") (rlOf X.K rMax2) := rlI (L2.call_max2 hc) fun xs H Q ⟨m, S, ds, R, s, rx, h, k⟩ => by
  match ds, h, rx with
  | [.int i, .int j], h, rx =>
    obtain ⟨v, u, rfl, hv, hu⟩ := reps2 rx
    have hv : v = .int i := hv
    have hu : u = .int j := hu
    subst hv hu
    refine ⟨i, j, rfl, ?_⟩
    have e : (if j > i then j else i) = max i j := by split <;> omega
    rw [e]
    exact k _ (.int (max i j)) H S m (Ext.refl _ _) s rfl h
theorem b_min2 (hc : X.calm = true) : CallR X (.builtin "min") (rlOf X.K rMin2) := rlI (L2.call_min2 hc) fun xs H Q ⟨m, S, ds, R, s, rx, h, k⟩ => by
  match ds, h, rx with
  | [.int i, .int j], h, rx =>
    obtain ⟨v, u, rfl, hv, hu⟩ := reps2 rx
    have hv : v = .int i := hv
    have hu : u = .int j := hu
    subst hv hu
    refine ⟨i, j, rfl, ?_⟩
    have e : (if j < i then j else i) = min i j := by split <;> omega
    rw [e]
    exact k _ (.int (min i j)) H S m (Ext.refl _ _) s rfl h
theorem b_list : CallR X (.type "list") (rlOf X.K rList) := rlI L2.call_list_of fun xs H Q ⟨m, S, ds, R, s, rx, h, k⟩ => by
  match ds, h, rx with
  | [.tup ys], h, rx =>
    obtain ⟨v, rfl, a, vs, rfl, hT, rs⟩ := reps1 rx
    exact ⟨a, vs, rfl, .inr hT, k.lst s rs h⟩
  | [.rol ys], h, rx =>
    obtain ⟨v, rfl, a, vs, rfl, hT, rs⟩ := reps1 rx
    exact ⟨a, vs, rfl, .inl hT.seq, k.lst s rs h⟩
  | [.ref n], h, rx =>
    obtain ⟨v, rfl, b, q1, rfl⟩ := reps1 rx
    obtain ⟨ys, e1, q⟩ := isLst_iff.mp h
    obtain ⟨a, vs, h1, h2, h3⟩ := s.lst e1
    rw [h1] at q1
    cases q1
    exact ⟨b, vs, rfl, .inl (SqL.of h2), k.lst s h3 q⟩
theorem b_tuple : CallR X (.type "tuple") (rlOf X.K rTuple) := rlI L2.call_tuple_of fun xs H Q ⟨m, S, ds, R, s, rx, h, k⟩ => by
  match ds, h, rx with
  | [.tup ys], h, rx =>
    obtain ⟨v, rfl, a, vs, rfl, hT, rs⟩ := reps1 rx
    exact ⟨a, vs, rfl, .inr ⟨hT, k _ (.tup ys) H S m (Ext.refl _ _) s ⟨a, vs, rfl, hT, rs⟩ h⟩⟩
  | [.rol ys], h, rx =>
    obtain ⟨v, rfl, a, vs, rfl, hT, rs⟩ := reps1 rx
    exact ⟨a, vs, rfl, .inl ⟨hT.seq, k.tup s rs h⟩⟩
  | [.ref n], h, rx =>
    obtain ⟨v, rfl, b, q1, rfl⟩ := reps1 rx
    obtain ⟨ys, e1, q⟩ := isLst_iff.mp h
    obtain ⟨a, vs, h1, h2, h3⟩ := s.lst e1
    rw [h1] at q1
    cases q1
    exact ⟨b, vs, rfl, .inl ⟨SqL.of h2, k.tup s h3 q⟩⟩
theorem b_all (hc : X.calm = true) : CallR X (.builtin "all") (rlOf X.K rAll) := rlI (L2.cr_all hc) fun xs H Q ⟨m, S, ds, R, s, rx, h, k⟩ => by
  match ds, h, rx with
  | [.ref n], h, rx =>
    obtain ⟨v, rfl, b, q1, rfl⟩ := reps1 rx
    obtain ⟨bs, e1, q⟩ := h
    obtain ⟨a, vs, h1, h2, h3⟩ := s.lst e1
    rw [h1] at q1
    cases q1
    exact ⟨b, bs, rfl, by rw [← h3.bls]; exact SqL.of h2, k _ (.bl (bs.all id)) H S m (Ext.refl _ _) s rfl q⟩
theorem b_any (hc : X.calm = true) : CallR X (.builtin "any") (rlOf X.K rAny) := rlI (L2.cr_any hc) fun xs H Q ⟨m, S, ds, R, s, rx, h, k⟩ => by
  match ds, h, rx with
  | [.ref n], h, rx =>
    obtain ⟨v, rfl, b, q1, rfl⟩ := reps1 rx
    obtain ⟨bs, e1, q⟩ := h
    obtain ⟨a, vs, h1, h2, h3⟩ := s.lst e1
    rw [h1] at q1
    cases q1
    exact ⟨b, bs, rfl, by rw [← h3.bls]; exact SqL.of h2, k _ (.bl (bs.any id)) H S m (Ext.refl _ _) s rfl q⟩
theorem b_gcd : CallR X (.builtin "math.gcd") (rlOf X.K rGcd) := rlI L2.cr_gcd fun xs H Q ⟨m, S, ds, R, s, rx, h, k⟩ => by
  match ds, h, rx with
  | [.int i, .int j], h, rx =>
    obtain ⟨v, u, rfl, hv, hu⟩ := reps2 rx
    have hv : v = .int i := hv
    have hu : u = .int j := hu
    subst hv hu
    exact ⟨i, j, rfl, k _ (.int (Nat.gcd i.natAbs j.natAbs : Nat)) H S m (Ext.refl _ _) s rfl h⟩
theorem kit5 {K : PySem.W.Frag} {a t : String} {b : Bool} (h : (["bool", "int", "str", "tuple", "list"].all fun t => decide (L2.kitB a t = some (if t = a then true else if (a, t) = ("bool", "int") then true else false))) = true) (ht : t ∈ ["bool", "int", "str", "tuple", "list"])
    (hb : b = (if t = a then true else if (a, t) = ("bool", "int") then true else false)) : PySem.W.kitOne K (.type a) (.type t) = some b := by
  refine L2.kit_ty ?_
  rw [hb]
  exact of_decide_eq_true (List.all_eq_true.mp h t ht)
theorem b_isi : CallR X (.builtin "isinstance") (rlOf X.K rIsi) := rlI L2.call_isi fun xs H Q ⟨m, S, ds, R, s, rx, h, k⟩ => by
  match ds, h, rx with
  | [d, .ty t], ⟨b, hb, q⟩, rx =>
    obtain ⟨v, u, rfl, hv, hu⟩ := reps2 rx
    have hu : u = .ty t := hu
    subst hu
    have fin : ∀ {T : String}, L2.TyX X.K H v (.type T) → PySem.W.kitOne X.K (.type T) (.type t) = some b → L2.rIsi X.K [v, .ty t] H Q := fun ty e => ⟨v, .ty t, _, _, b, rfl, .ty t, ty, e, k _ (.bl b) H S m (Ext.refl _ _) s rfl q⟩
    cases d with
    | non =>
      have hv : v = .non := hv
      subst hv
      have hb : (if t ∈ ["bool", "int", "str", "tuple", "list"] then some false else none) = some b := hb
      split at hb
      · rename_i ht
        cases hb
        refine fin (.base .non) ?_
        simp at ht
        rcases ht with rfl | rfl | rfl | rfl | rfl
        · exact kit5 (by decide +kernel) (by decide) (by decide)
        · exact kit5 (by decide +kernel) (by decide) (by decide)
        · exact kit5 (by decide +kernel) (by decide) (by decide)
        · exact kit5 (by decide +kernel) (by decide) (by decide)
        · exact kit5 (by decide +kernel) (by decide) (by decide)
      · cases hb
    | bl c =>
      have hv : v = .bl c := hv
      subst hv
      have hb : (if t ∈ ["bool", "int"] then some true else if t ∈ ["str", "tuple", "list"] then some false else none) = some b := hb
      refine fin (.base (.bl c)) ?_
      split at hb
      · rename_i ht
        cases hb
        simp at ht
        rcases ht with rfl | rfl
        · exact kit5 (by decide +kernel) (by decide) (by decide)
        · exact kit5 (by decide +kernel) (by decide) (by decide)
      · split at hb
        · rename_i ht
          cases hb
          simp at ht
          rcases ht with rfl | rfl | rfl
          · exact kit5 (by decide +kernel) (by decide) (by decide)
          · exact kit5 (by decide +kernel) (by decide) (by decide)
          · exact kit5 (by decide +kernel) (by decide) (by decide)
        · cases hb
    | int c =>
      have hv : v = .int c := hv
      subst hv
      have hb : (if t = "int" then some true else if t ∈ ["bool", "str", "tuple", "list"] then some false else none) = some b := hb
      refine fin (.base (.int c)) ?_
      split at hb
      · rename_i ht
        cases hb
        subst ht
        exact kit5 (by decide +kernel) (by decide) (by decide)
      · split at hb
        · rename_i ht
          cases hb
          simp at ht
          rcases ht with rfl | rfl | rfl | rfl
          · exact kit5 (by decide +kernel) (by decide) (by decide)
          · exact kit5 (by decide +kernel) (by decide) (by decide)
          · exact kit5 (by decide +kernel) (by decide) (by decide)
          · exact kit5 (by decide +kernel) (by decide) (by decide)
        · cases hb
    | str c =>
      have hv : v = .str c := hv
      subst hv
      have hb : (if t = "str" then some true else if t ∈ ["bool", "int", "tuple", "list"] then some false else none) = some b := hb
      refine fin (.base (.str c)) ?_
      split at hb
      · rename_i ht
        cases hb
        subst ht
        exact kit5 (by decide +kernel) (by decide) (by decide)
      · split at hb
        · rename_i ht
          cases hb
          simp at ht
          rcases ht with rfl | rfl | rfl | rfl
          · exact kit5 (by decide +kernel) (by decide) (by decide)
          · exact kit5 (by decide +kernel) (by decide) (by decide)
          · exact kit5 (by decide +kernel) (by decide) (by decide)
          · exact kit5 (by decide +kernel) (by decide) (by decide)
        · cases hb
    | tup c =>
      obtain ⟨a, vs, rfl, hT, rs⟩ := hv
      have hb : (if t = "tuple" then some true else if t ∈ ["bool", "int", "str", "list"] then some false else none) = some b := hb
      have ty : L2.TyX X.K H (.ref a) (.type "tuple") := by
        rcases hT with (hT | ⟨o, hT⟩) | ⟨o, its, n, h1, h2, _⟩
        · exact .base (.tup hT)
        · exact .fTuple hT
        · exact .kTuple h1 h2
      refine fin ty ?_
      split at hb
      · rename_i ht
        cases hb
        subst ht
        exact kit5 (by decide +kernel) (by decide) (by decide)
      · split at hb
        · rename_i ht
          cases hb
          simp at ht
          rcases ht with rfl | rfl | rfl | rfl
          · exact kit5 (by decide +kernel) (by decide) (by decide)
          · exact kit5 (by decide +kernel) (by decide) (by decide)
          · exact kit5 (by decide +kernel) (by decide) (by decide)
          · exact kit5 (by decide +kernel) (by decide) (by decide)
        · cases hb
    | ref n =>
      obtain ⟨a, ha, rfl⟩ := hv
      have hb : (if t = "list" then some true else if t ∈ ["bool", "int", "str", "tuple"] then some false else none) = some b := hb
      obtain ⟨vs, hl⟩ := s.mem (List.mem_of_getElem? ha)
      refine fin (.base (.lst hl)) ?_
      split at hb
      · rename_i ht
        cases hb
        subst ht
        exact kit5 (by decide +kernel) (by decide) (by decide)
      · split at hb
        · rename_i ht
          cases hb
          simp at ht
          rcases ht with rfl | rfl | rfl | rfl
          · exact kit5 (by decide +kernel) (by decide) (by decide)
          · exact kit5 (by decide +kernel) (by decide) (by decide)
          · exact kit5 (by decide +kernel) (by decide) (by decide)
          · exact kit5 (by decide +kernel) (by decide) (by decide)
        · cases hb
    | _ => cases (show (none : Option Bool) = some b from hb)
end
end DL
set_option Elab.async false
set_option linter.all false
set_option maxRecDepth 100000
set_option maxHeartbeats 8000000
/-! DL7: sums, greatest and least, sorting, sorted sets of ints, methods of lists, stores. -/
namespace L2
open PySem PySem.Spec PyProof.Rows
section
variable {P : Program} {w : World} {A : Around} {E : Value → Shared → Prop} {s : Shared}
theorem set_ints_list {l : Addr} {items : Array Value} (ns : List Int) {Q : Value → Shared → Prop} (hh : A.handled = none) (hl : s.heap.IsList l items) (hit : IntsAre items.toList ns) (hb : ns.length + 1 < scanBound)
    (h : ∀ (h' : Heap) (tk c : Nat), SetR w h' s.heap.objs.size (fun j => decide (j ∈ ns)) c → c ≤ ns.length → (∀ b o, s.heap.get? b = some o → h'.get? b = some o) → Q (.ref s.heap.objs.size) { s with heap := h', toks := tk }) :
    wpAny (model P w) A (call (.type "set") [.ref l]) Q E s := by
  have hisz : items.size = ns.length := by
    have q := IntsAre.length hit
    rw [Array.length_toList] at q
    exact q
  obtain ⟨c, tl, hmro⟩ := F.called_set.mro
  have hmade := F.called_set.made
  have hsub := F.called_set.sub
  refine wpAny_call (codeAny_of_tree ?_)
  show wpAny _ _ (callAny (.type "set") _) _ _ _
  refine wpAny_pure ⟨Code.quiet_builtin _ (by decide +kernel), codeAny_builtin F.entry_type_call ?_⟩
  rw [Around.under_plain (weight_type_call_type "set" [.ref l] []) rfl]
  have h1 := F.called_set.notType
  have h2 := F.called_set.canCreate
  have hct := F.typeCall_set_1 (.ref l)
  repeat (any_goals (first | assumption | wp_step))

  refine codeAny_mono (code_set_led1 (.ref l) (E := E) (Q₁ := fun obj s₁ => obj = .ref s.heap.objs.size ∧ s₁ = { s with heap := s.heap.push { cls := .type "set", dict := none, data := .set #[] 0 (.fresh 0 0 (!w.params.followText "set-order")) } }) ⟨rfl, rfl⟩) fun r s₁ hr => ?_
  cases r with
  | error e => exact hr
  | ok fl =>
    cases fl with
    | ret obj =>
      obtain ⟨rfl, rfl⟩ := hr
      have hS : (s.heap.push { cls := .type "set", dict := none, data := .set #[] 0 (.fresh 0 0 (!w.params.followText "set-order")) }).get? s.heap.objs.size = some { cls := .type "set", dict := none, data := .set #[] 0 (.fresh 0 0 (!w.params.followText "set-order")) } := Heap.get?_push_size _ rfl
      have hT : Shared.TypeIs { s with heap := s.heap.push { cls := .type "set", dict := none, data := .set #[] 0 (.fresh 0 0 (!w.params.followText "set-order")) } } (.ref s.heap.objs.size) "set" := ⟨_, hS, rfl⟩
      have hli := F.called_set.init.lookup
      have hbi := F.called_set.init.bind (.ref s.heap.objs.size)
      repeat (any_goals (first | assumption | wp_step))

      refine codeAny_mono (codeAny_call_builtin (R := wants (fun r s₂ => r = .none ∧ ∃ h' tk c, s₂ = { s with heap := h', toks := tk } ∧ SetR w h' s.heap.objs.size (fun j => decide (j ∈ ns)) c ∧ c ≤ ns.length ∧
          (∀ b o, s.heap.get? b = some o → h'.get? b = some o)) E) F.called_set.init.plain F.entry_set_init (check_set_init_1 hT ?_)) fun r₂ s₂ hr₂ => ?_
      · obtain ⟨ol, hol, hcl, nl, hdl⟩ := hl
        obtain ⟨ocls, odict, odata, oslots⟩ := ol
        simp only at hcl hdl
        subst hcl; subst hdl
        have hol' : (s.heap.push { cls := .type "set", dict := none, data := .set #[] 0 (.fresh 0 0 (!w.params.followText "set-order")) }).get? l = some { cls := .type "list", dict := odict, data := .seq items nl, slots := oslots } := Heap.get?_push_of_some _ hol
        have hsls := F.sub_list_set
        have hslf := F.sub_list_frozenset
        have hne : (Value.type "list" == Value.type "dict") = false := by decide
        have hl1 : (s.heap.push { cls := .type "set", dict := none, data := .set #[] 0 (.fresh 0 0 (!w.params.followText "set-order")) }).IsList l items := ⟨_, hol', rfl, nl, rfl⟩
        unfold Builtin.«set.__init__» noKeywords Builtin.Frozenset.updateFrom
        generalize hPI : pyIter = PI
        wp_walk
        subst hPI

        refine wpAny_pyIter_list hl1 ?_
        refine wpAny_bind (wpAny_runValue ?_)
        have hlS : l < s.heap.objs.size := Heap.lt_size hol
        have hh3 : A.in1.in1.in1.handled = none := by simp [hh]
        have hz1 : (s.heap.push { cls := .type "set", dict := none, data := .set #[] 0 (.fresh 0 0 (!w.params.followText "set-order")) }).objs.size = s.heap.objs.size + 1 := Heap.size_push ..
        have hneI : l ≠ (s.heap.push { cls := .type "set", dict := none, data := .set #[] 0 (.fresh 0 0 (!w.params.followText "set-order")) }).objs.size := by
          rw [Heap.size_push]; exact Nat.ne_of_lt (Nat.lt_succ_of_lt hlS)
        have hSf : s.heap.objs.size ∉ [(s.heap.push { cls := .type "set", dict := none, data := .set #[] 0 (.fresh 0 0 (!w.params.followText "set-order")) }).objs.size, l] := by
          rw [Heap.size_push]; simp only [List.mem_cons, List.mem_singleton, List.not_mem_nil, or_false, not_or]
          exact ⟨Nat.ne_of_lt (Nat.lt_succ_self _), Nat.ne_of_gt hlS⟩
        have hval : ∀ (i : Nat) (v : Value), items[i]? = some v → ∃ k t, ns[i]? = some k ∧ v = .int k t := fun i v hv => by
          have hi : i < ns.length := by rw [← hisz]; exact (Array.getElem?_eq_some_iff.mp hv).1
          obtain ⟨t, e⟩ := PyProof.Rows.IntsAre.int_at hit i v (by rw [Array.getElem?_toList]; exact hv)
          refine ⟨ns[i], t, List.getElem?_eq_getElem hi, ?_⟩
          rw [e, List.getD_eq_getElem?_getD, List.getElem?_eq_getElem hi] <;> rfl
        refine set_update_ints ((Walks.list hh3 _ l hneI items).toS) s.heap.objs.size
          hSf ns hisz hb hval (items.size - 0) 0 _ (by omega) (Nat.zero_le _)
          ⟨⟨_, Heap.get?_push_size _ rfl, rfl, rfl⟩, (hl1.push _)⟩ ?hS0 ?hR
        case hS0 =>
          have hget : ((s.heap.push { cls := .type "set", dict := none, data := .set #[] 0 (.fresh 0 0 (!w.params.followText "set-order")) }).push { cls := .type "list_iterator", data := .fields #[.ref l, .int 0 0] }).get? s.heap.objs.size
              = some { cls := .type "set", dict := none, data := .set #[] 0 (.fresh 0 0 (!w.params.followText "set-order")) } := Heap.get?_push_of_some _ hS
          exact ⟨0, Nat.le_refl 0, setR_new_at hget⟩
        case hR =>
          intro s' c' hm hc' hS'
          obtain ⟨h', g2, d', tk', os'⟩ := s'
          have eg : g2 = s.gens := hm.gens
          have ed : d' = s.drawn := hm.drawn
          have eo : os' = s.os := hm.os
          subst eg; subst ed; subst eo
          show wpAny _ _ _ _ _ _
          refine wpAny_pure ?_
          show wpAny _ _ (ret Value.none) _ _ _
          rw [hisz] at hc'
          refine wpAny_pure ⟨rfl, h', tk', c', rfl, hS', hc', fun b o e => ?_⟩
          have hb0 : b < s.heap.objs.size := Heap.lt_size e
          have hb1 : b ≠ s.heap.objs.size := Nat.ne_of_lt hb0
          have hb2 : b ≠ (s.heap.push { cls := .type "set", dict := none, data := .set #[] 0 (.fresh 0 0 (!w.params.followText "set-order")) }).objs.size := by
            rw [Heap.size_push]; exact Nat.ne_of_lt (Nat.lt_succ_of_lt hb0)
          exact hm.heap b o (by simp only [List.mem_cons, List.mem_singleton, List.not_mem_nil, or_false, not_or]; exact ⟨hb1, hb2⟩) (Heap.get?_push_of_some _ (Heap.get?_push_of_some _ e))

      · cases r₂ with
        | error e => exact hr₂
        | ok fl₂ =>
          cases fl₂ with
          | ret r =>
            obtain ⟨rfl, h', tk, c', rfl, hS', hc', hk'⟩ := hr₂
            repeat (any_goals (first | assumption | wp_step))
            exact h _ _ _ hS' hc' hk'
          | _ => exact hr₂.elim
    | _ => exact hr.elim

end
end L2
namespace DL
open PySem PySem.Spec
open L2 (V Hp HO St TE TT TA TS TG TI TO PE PT PW PA PS PSs PG PI PO Cx Inv RelV Vals SqL SqT Rd upd upd_same upd_ne ne_of ne_of_none OpR UnR CallR MtR IxR SlR It thn)
section
variable {X : Cx}
theorem sum_tup (hc : X.calm = true) : CallR X (.builtin "sum") (fun xs H Q => ∃ (a : Addr) (ns : List Int), xs = [V.ref a] ∧ SqT X.K H a (ns.map V.int) ∧ Q (.int ns.sum) H) := by
  intro pins s σ H xs us Q I r h
  obtain ⟨a, ns, rfl, hT, q⟩ := h
  rw [L2.Vals.ref1 r]
  obtain ⟨its, rv, pt, _⟩ := I.tuple hT
  have hi := L2.Vals.ints rv
  obtain ⟨zs, e⟩ := hi.allInts.items
  have hn : numsOf (intItems zs).toList = ns := by rw [← e]; exact hi.numsOf
  rw [nums_intItems] at hn
  have pt' : s.heap.IsTuple a (intItems zs) := by rw [← e]; exact pt
  refine PySem.W.ktm_sumG (I.ok.hd hc) pt' fun h' tk t' hk => ?_
  have e2 : preSum (numAt zs) zs.size = ns.sum := by rw [preSum_eq, List.take_of_length_le (by simp), hn]
  rw [e2]
  exact ⟨.int ns.sum, H, I.kept (h' := h') (t' := tk) hk, ⟨t', rfl⟩, q⟩
theorem itemsAt_rep {K : PySem.W.Frag} {H : Hp} {m : List Addr} {S : Sto} {d : D} {v : V} {xs : List D} (s : RepS K H m S) (r : Rep K H m d v) (h : itemsAt d S = some xs) : (∃ a vs, v = .ref a ∧ SqL K H a vs ∧ Reps K H m xs vs) ∨ ∃ a vs, v = .ref a ∧ SqT K H a vs ∧ Reps K H m xs vs := by
  cases d with
  | tup ys =>
    have h : some ys = some xs := h
    cases h
    obtain ⟨a, vs, rfl, hT, rs⟩ := r
    exact .inr ⟨a, vs, rfl, hT, rs⟩
  | ref n =>
    obtain ⟨a, ha, rfl⟩ := r
    have h : (match S[n]? with
      | some (.lst xs) => some xs
      | _ => none) = some xs := h
    split at h
    · rename_i ys hy
      cases h
      obtain ⟨b, vs, h1, h2, h3⟩ := s.lst hy
      rw [ha] at h1
      cases h1
      exact .inl ⟨a, vs, rfl, SqL.of h2, h3⟩
    · cases h
  | _ => cases (show (none : Option (List D)) = some xs from h)
theorem b_sum (hc : X.calm = true) : CallR X (.builtin "sum") (rlOf X.K rSum) := rlI ((L2.cr_sum hc).or (sum_tup hc)) fun xs H Q ⟨m, S, ds, R, s, rx, h, k⟩ => by
  match ds, h, rx with
  | [d], ⟨ns, h1, q⟩, rx =>
    obtain ⟨v, rfl, hv⟩ := reps1 rx
    rcases itemsAt_rep s hv h1 with ⟨a, vs, rfl, hL, rs⟩ | ⟨a, vs, rfl, hL, rs⟩
    · exact .inl ⟨a, ns, rfl, by rw [← rs.ints]; exact hL, k _ (.int ns.sum) H S m (Ext.refl _ _) s rfl q⟩
    · exact .inr ⟨a, ns, rfl, by rw [← rs.ints]; exact hL, k _ (.int ns.sum) H S m (Ext.refl _ _) s rfl q⟩

theorem readsI {h : Heap} : ∀ {us : List Value} {ns : List Int}, PyProof.Rows.IntsAre us ns → ReadsAll h us (ns.map PyData.int) []
  | _, _, .nil => .nil
  | _, _, .cons n t r => by
    have := ReadsAll.cons (h := h) (Reads.int n t) (readsI r)
    simpa using this
theorem alike_all_ints (ns : List Int) : PySem.W.AlikeAll (ns.map PyData.int) := by
  refine ⟨fun x hx y hy => ?_, fun x hx z => ?_⟩
  · obtain ⟨a, _, rfl⟩ := List.mem_map.mp hx
    obtain ⟨b, _, rfl⟩ := List.mem_map.mp hy
    simp [PySem.W.alike]
  · obtain ⟨a, _, rfl⟩ := List.mem_map.mp hx
    cases z
theorem fold_max : ∀ (ns : List Int) (n : Int), (ns.foldl max n = n ∨ ns.foldl max n ∈ ns) ∧ n ≤ ns.foldl max n ∧ ∀ y ∈ ns, y ≤ ns.foldl max n
  | [], n => ⟨.inl rfl, Int.le_refl _, fun y hy => nomatch hy⟩
  | a :: ns, n => by
    obtain ⟨h1, h2, h3⟩ := fold_max ns (max n a)
    rw [List.foldl_cons]
    refine ⟨?_, by omega, fun y hy => ?_⟩
    · rcases h1 with h1 | h1
      · rw [h1]
        by_cases c : n ≤ a
        · exact .inr (by rw [Int.max_eq_right c]; exact List.mem_cons_self)
        · exact .inl (Int.max_eq_left (by omega))
      · exact .inr (List.mem_cons_of_mem _ h1)
    · rcases List.mem_cons.mp hy with rfl | hy
      · omega
      · exact h3 y hy
theorem fold_min : ∀ (ns : List Int) (n : Int), (ns.foldl min n = n ∨ ns.foldl min n ∈ ns) ∧ ns.foldl min n ≤ n ∧ ∀ y ∈ ns, ns.foldl min n ≤ y
  | [], n => ⟨.inl rfl, Int.le_refl _, fun y hy => nomatch hy⟩
  | a :: ns, n => by
    obtain ⟨h1, h2, h3⟩ := fold_min ns (min n a)
    rw [List.foldl_cons]
    refine ⟨?_, by omega, fun y hy => ?_⟩
    · rcases h1 with h1 | h1
      · rw [h1]
        by_cases c : a ≤ n
        · exact .inr (by rw [Int.min_eq_right c]; exact List.mem_cons_self)
        · exact .inl (Int.min_eq_left (by omega))
      · exact .inr (List.mem_cons_of_mem _ h1)
    · rcases List.mem_cons.mp hy with rfl | hy
      · omega
      · exact h3 y hy
theorem depth_ints : ∀ ns : List Int, PyData.depthAll (ns.map PyData.int) = 0
  | [] => rfl
  | n :: ns => by
    show max 0 (PyData.depthAll (ns.map PyData.int)) = 0
    rw [depth_ints ns]
    rfl
theorem max_tup {kk : Nat} (hc : X.calm = true) (hr : L2.Room kk X.A) : CallR X (.builtin "max") (fun xs H Q => ∃ (a : Addr) (ns : List Int), xs = [V.ref a] ∧ SqT X.K H a (ns.map V.int) ∧ 0 < ns.length ∧ ∀ m, m ∈ ns → (∀ y, y ∈ ns → y ≤ m) → Q (.int m) H) := by
  intro pins s σ H xs us Q I r h
  obtain ⟨a, ns, rfl, hT, hn, q⟩ := h
  rw [L2.Vals.ref1 r]
  obtain ⟨its, rv, pt, _⟩ := I.tuple hT
  have hi := L2.Vals.ints rv
  cases ns with
  | nil => exact absurd hn (Nat.lt_irrefl 0)
  | cons n ns =>
    refine PySem.W.max_tuple_data (I.ok.hd hc) (show s.heap.IsTuple a its.toArray from pt) (x := .int n) (xs := ns.map PyData.int) (as := []) (by simpa using readsI hi) (alike_all_ints (n :: ns)) ?_ fun i v h' tk bs _ rd hk => ?_
    · have e := depth_ints (n :: ns)
      rw [List.map_cons] at e
      rw [e]
      have := hr.un
      omega
    · rw [PySem.W.maxD_ints] at rd
      obtain ⟨h1, h2, h3⟩ := fold_max ns n
      cases rd with
      | int _ t =>
        refine ⟨.int (ns.foldl max n), H, I.kept (h' := h') (t' := tk) hk, ⟨t, rfl⟩, q _ ?_ fun y hy => ?_⟩
        · rcases h1 with h1 | h1
          · rw [h1]; exact List.mem_cons_self
          · exact List.mem_cons_of_mem _ h1
        · rcases List.mem_cons.mp hy with rfl | hy
          · exact h2
          · exact h3 y hy
theorem min_tup {kk : Nat} (hc : X.calm = true) (hr : L2.Room kk X.A) : CallR X (.builtin "min") (fun xs H Q => ∃ (a : Addr) (ns : List Int), xs = [V.ref a] ∧ SqT X.K H a (ns.map V.int) ∧ 0 < ns.length ∧ ∀ m, m ∈ ns → (∀ y, y ∈ ns → m ≤ y) → Q (.int m) H) := by
  intro pins s σ H xs us Q I r h
  obtain ⟨a, ns, rfl, hT, hn, q⟩ := h
  rw [L2.Vals.ref1 r]
  obtain ⟨its, rv, pt, _⟩ := I.tuple hT
  have hi := L2.Vals.ints rv
  cases ns with
  | nil => exact absurd hn (Nat.lt_irrefl 0)
  | cons n ns =>
    refine PySem.W.min_tuple_data (I.ok.hd hc) (show s.heap.IsTuple a its.toArray from pt) (x := .int n) (xs := ns.map PyData.int) (as := []) (by simpa using readsI hi) (alike_all_ints (n :: ns)) ?_ fun i v h' tk bs _ rd hk => ?_
    · have e := depth_ints (n :: ns)
      rw [List.map_cons] at e
      rw [e]
      have := hr.un
      omega
    · rw [PySem.W.minD_ints] at rd
      obtain ⟨h1, h2, h3⟩ := fold_min ns n
      cases rd with
      | int _ t =>
        refine ⟨.int (ns.foldl min n), H, I.kept (h' := h') (t' := tk) hk, ⟨t, rfl⟩, q _ ?_ fun y hy => ?_⟩
        · rcases h1 with h1 | h1
          · rw [h1]; exact List.mem_cons_self
          · exact List.mem_cons_of_mem _ h1
        · rcases List.mem_cons.mp hy with rfl | hy
          · exact h2
          · exact h3 y hy
theorem b_max {kk : Nat} (hc : X.calm = true) (hr : L2.Room kk X.A) : CallR X (.builtin "max") (rlOf X.K rMax) := rlI ((L2.cr_max hc).or (max_tup hc hr)) fun xs H Q ⟨m, S, ds, R, s, rx, h, k⟩ => by
  match ds, h, rx with
  | [d], ⟨ns, h1, h2, q⟩, rx =>
    obtain ⟨v, rfl, hv⟩ := reps1 rx
    rcases itemsAt_rep s hv h1 with ⟨a, vs, rfl, hL, rs⟩ | ⟨a, vs, rfl, hL, rs⟩
    · exact .inl ⟨a, ns, rfl, by rw [← rs.ints]; exact hL, h2, fun n hn hy => k _ (.int n) H S m (Ext.refl _ _) s rfl (q n hn hy)⟩
    · exact .inr ⟨a, ns, rfl, by rw [← rs.ints]; exact hL, h2, fun n hn hy => k _ (.int n) H S m (Ext.refl _ _) s rfl (q n hn hy)⟩
theorem b_min {kk : Nat} (hc : X.calm = true) (hr : L2.Room kk X.A) : CallR X (.builtin "min") (rlOf X.K rMin) := rlI ((L2.cr_min hc).or (min_tup hc hr)) fun xs H Q ⟨m, S, ds, R, s, rx, h, k⟩ => by
  match ds, h, rx with
  | [d], ⟨ns, h1, h2, q⟩, rx =>
    obtain ⟨v, rfl, hv⟩ := reps1 rx
    rcases itemsAt_rep s hv h1 with ⟨a, vs, rfl, hL, rs⟩ | ⟨a, vs, rfl, hL, rs⟩
    · exact .inl ⟨a, ns, rfl, by rw [← rs.ints]; exact hL, h2, fun n hn hy => k _ (.int n) H S m (Ext.refl _ _) s rfl (q n hn hy)⟩
    · exact .inr ⟨a, ns, rfl, by rw [← rs.ints]; exact hL, h2, fun n hn hy => k _ (.int n) H S m (Ext.refl _ _) s rfl (q n hn hy)⟩
/-! methods, stores -/
theorem refL {K : PySem.W.Frag} {H : Hp} {m : List Addr} {S : Sto} {n : Nat} {x : V} {P : List D → Prop} (s : RepS K H m S) (r : Rep K H m (.ref n) x) (h : isLst S n P) : ∃ a vs xs, x = .ref a ∧ m[n]? = some a ∧ H a = some (.lst vs) ∧ Reps K H m xs vs ∧ S[n]? = some (.lst xs) ∧ P xs := by
  obtain ⟨xs, e1, q⟩ := isLst_iff.mp h
  obtain ⟨a, vs, h1, h2, h3⟩ := s.lst e1
  obtain ⟨b, q1, rfl⟩ := r
  rw [h1] at q1
  cases q1
  exact ⟨_, vs, xs, rfl, h1, h2, h3, e1, q⟩
theorem m_append : MtR X "list.append" (rmOf X.K rAppend) := rmI L2.mt_append fun x xs H Q ⟨m, S, d, ds, R, s, rx, rs, h, k⟩ => by
  match d, ds, h, rx, rs with
  | .ref n, [d], h, rx, rs =>
    obtain ⟨a, vs, ys, rfl, h1, h2, h3, e1, hz, q⟩ := refL s rx h
    obtain ⟨v, rfl, hv⟩ := reps1 rs
    exact ⟨a, vs, v, rfl, rfl, h2, by rw [h3.len, ← szL']; exact hz, k.put s e1 h1 h2 (h3.app (Reps.one hv)) (d := .non) rfl q⟩
theorem m_pop : MtR X "list.pop" (rmOf X.K rPop) := rmI L2.mt_pop fun x xs H Q ⟨m, S, d, ds, R, s, rx, rs, h, k⟩ => by
  match d, ds, h, rx, rs with
  | .ref n, [], h, rx, rs =>
    obtain ⟨a, vs, ys, rfl, h1, h2, h3, e1, d, hd, q⟩ := refL s rx h
    obtain ⟨v, g1, g2⟩ := h3.get _ _ hd
    exact ⟨a, vs, v, rfl, rs, h2, by rw [h3.len]; exact g1, k.put s e1 h1 h2 h3.dropLast g2 q⟩
theorem ixZ_seq {n : Nat} {i : Int} {j : Nat} (h : ixZ n i = some j) : seqIndex? i n = some j ∧ j < n ∧ -(n : Int) ≤ i ∧ i < n := L2.ixN_seq h
theorem m_popAt : MtR X "list.pop" (rmOf X.K rPopAt) := rmI L2.mt_popAt fun x xs H Q ⟨m, S, d, ds, R, s, rx, rs, h, k⟩ => by
  match d, ds, h, rx, rs with
  | .ref n, [.int i], h, rx, rs =>
    obtain ⟨a, vs, ys, rfl, h1, h2, h3, e1, ⟨i0, i1⟩, j, d, hj, hd, q⟩ := refL s rx h
    obtain ⟨v, rfl, hv⟩ := reps1 rs
    have hv : v = .int i := hv
    subst hv
    obtain ⟨u, g1, g2⟩ := h3.get _ _ hd
    obtain ⟨p1, p2, p3, p4⟩ := ixZ_seq hj
    exact ⟨a, vs, i, j, u, rfl, rfl, h2, i0, i1, by rw [h3.len]; exact p1, g1, k.put s e1 h1 h2 (h3.erase j) g2 q⟩
theorem m_reverse : MtR X "list.reverse" (rmOf X.K rReverse) := rmI L2.mt_reverse fun x xs H Q ⟨m, S, d, ds, R, s, rx, rs, h, k⟩ => by
  match d, ds, h, rx, rs with
  | .ref n, [], h, rx, rs =>
    obtain ⟨a, vs, ys, rfl, h1, h2, h3, e1, q⟩ := refL s rx h
    exact ⟨a, vs, rfl, rs, h2, k.put s e1 h1 h2 h3.rev (d := .non) rfl q⟩
theorem m_insert : MtR X "list.insert" (rmOf X.K rInsert) := rmI L2.mt_insert fun x xs H Q ⟨m, S, d, ds, R, s, rx, rs, h, k⟩ => by
  match d, ds, h, rx, rs with
  | .ref n, [.int i, d], h, rx, rs =>
    obtain ⟨a, vs, ys, rfl, h1, h2, h3, e1, hz, ⟨i0, i1⟩, q⟩ := refL s rx h
    obtain ⟨v, u, rfl, hv, hu⟩ := reps2 rs
    have hv : v = .int i := hv
    subst hv
    exact ⟨a, vs, i, u, rfl, rfl, h2, by rw [h3.len, ← szL']; exact hz, i0, i1, k.put s e1 h1 h2 (((h3.take _).app (Reps.one hu)).app (h3.drop _)) (d := .non) rfl q⟩
theorem p_put : L2.PSet X (rpOf X.K rPut) := fun pins s σ H o i v ov iv u Q I ro ri rv ⟨m, S, x, j, d, R, hs, rx, rk, rd, h, k⟩ => by
  match x, j, h, rx, rk with
  | .ref n, .int z, h, rx, rk =>
    obtain ⟨a, vs, ys, rfl, h1, h2, h3, e1, jj, hj, q⟩ := refL hs rx h
    have rk : i = .int z := rk
    subst rk
    refine L2.set_list pins s σ H (.ref a) (.int z) v ov iv u Q I ro ri rv ⟨a, vs, z, jj, rfl, rfl, h2, by rw [h3.len]; exact hj, ?_⟩
    exact k _ _ m (Ext.wrote (List.mem_of_getElem? h1) h2) (hs.set e1 h1 (h3.set jj rd)) q

/-! sorting -/
mutual
theorem akin_eq : ∀ a b : D, akin a b = true → PySem.W.alike (toPy a) (toPy b) = true
  | .int _, .int _, _ => by simp [toPy, PySem.W.alike]
  | .str _, .str _, _ => by simp [toPy, PySem.W.alike]
  | .tup xs, .tup ys, h => by
    have := akins_eq xs ys h
    simpa [toPy, PySem.W.alike] using this
  | .non, b, h => by cases b <;> cases (show false = true from h)
  | .bl _, b, h => by cases b <;> cases (show false = true from h)
  | .rol _, b, h => by cases b <;> cases (show false = true from h)
  | .ref _, b, h => by cases b <;> cases (show false = true from h)
  | .ty _, b, h => by cases b <;> cases (show false = true from h)
  | .int _, .non, h | .int _, .bl _, h | .int _, .str _, h | .int _, .tup _, h | .int _, .rol _, h | .int _, .ref _, h | .int _, .ty _, h => by cases (show false = true from h)
  | .str _, .non, h | .str _, .bl _, h | .str _, .int _, h | .str _, .tup _, h | .str _, .rol _, h | .str _, .ref _, h | .str _, .ty _, h => by cases (show false = true from h)
  | .tup _, .non, h | .tup _, .bl _, h | .tup _, .int _, h | .tup _, .str _, h | .tup _, .rol _, h | .tup _, .ref _, h | .tup _, .ty _, h => by cases (show false = true from h)
theorem akins_eq : ∀ a b : List D, akins a b = true → PySem.W.alikeAll (toPys a) (toPys b) = true
  | [], _, _ => by simp [toPys, PySem.W.alikeAll]
  | _ :: _, [], _ => by simp [toPys, PySem.W.alikeAll]
  | x :: xs, y :: ys, h => by
    have h := Bool.and_eq_true_iff.mp (show (akin x y && akins xs ys) = true from h)
    simp [toPys, PySem.W.alikeAll, akin_eq x y h.1, akins_eq xs ys h.2]
end
mutual
theorem lt_eq : ∀ a b : D, flat a = true → flat b = true → akin a b = true → PySem.W.dataLt (toPy a) (toPy b) = ltD a b
  | .int i, .int j, _, _, _ => PySem.W.dataLt_int i j
  | .str i, .str j, _, _, _ => PySem.W.dataLt_str i j
  | .tup xs, .tup ys, f, g, h => by
    show PySem.W.dataLt (.tuple (toPys xs)) (.tuple (toPys ys)) = ltDs xs ys
    rw [PySem.W.dataLt_tuple]
    exact lts_eq xs ys f g h
  | .non, b, _, _, h => by cases b <;> cases (show false = true from h)
  | .bl _, b, _, _, h => by cases b <;> cases (show false = true from h)
  | .rol _, b, _, _, h => by cases b <;> cases (show false = true from h)
  | .ref _, b, _, _, h => by cases b <;> cases (show false = true from h)
  | .ty _, b, _, _, h => by cases b <;> cases (show false = true from h)
  | .int _, .non, _, _, h | .int _, .bl _, _, _, h | .int _, .str _, _, _, h | .int _, .tup _, _, _, h | .int _, .rol _, _, _, h | .int _, .ref _, _, _, h | .int _, .ty _, _, _, h => by cases (show false = true from h)
  | .str _, .non, _, _, h | .str _, .bl _, _, _, h | .str _, .int _, _, _, h | .str _, .tup _, _, _, h | .str _, .rol _, _, _, h | .str _, .ref _, _, _, h | .str _, .ty _, _, _, h => by cases (show false = true from h)
  | .tup _, .non, _, _, h | .tup _, .bl _, _, _, h | .tup _, .int _, _, _, h | .tup _, .str _, _, _, h | .tup _, .rol _, _, _, h | .tup _, .ref _, _, _, h | .tup _, .ty _, _, _, h => by cases (show false = true from h)
theorem lts_eq : ∀ a b : List D, flats a = true → flats b = true → akins a b = true → PyProof.Rows.lexLt PyProof.Rows.itemOrd (PySem.W.keyToksAll (toPys a)) (PySem.W.keyToksAll (toPys b)) = ltDs a b
  | [], [], _, _, _ => PyProof.Rows.lex_irrefl _
  | [], y :: ys, _, _, _ => by
    exact PyProof.Rows.lex_true.mpr (.inl rfl)
  | x :: xs, [], _, _, _ => by
    exact PyProof.Rows.lex_false.mpr ⟨rfl, .inl rfl⟩
  | x :: xs, y :: ys, f, g, h => by
    have f := Bool.and_eq_true_iff.mp (show (flat x && flats xs) = true from f)
    have g := Bool.and_eq_true_iff.mp (show (flat y && flats ys) = true from g)
    have h := Bool.and_eq_true_iff.mp (show (akin x y && akins xs ys) = true from h)
    show PyProof.Rows.lexLt PyProof.Rows.itemOrd (PySem.W.keyToksAll (toPy x :: toPys xs)) (PySem.W.keyToksAll (toPy y :: toPys ys)) = if eqD x y = true then ltDs xs ys else ltD x y
    rw [PySem.W.dataLt_cons (akin_eq x y h.1), eqv_eq x y f.1 g.1, lts_eq xs ys f.2 g.2 h.2, lt_eq x y f.1 g.1 h.1]
end

theorem sort_trans (a b c : D) : PySem.W.dataLe false toPy a b = true → PySem.W.dataLe false toPy b c = true → PySem.W.dataLe false toPy a c = true := by
  rw [PySem.W.dataLe_eq]
  show (!PySem.W.dataLt (toPy b) (toPy a)) = true → (!PySem.W.dataLt (toPy c) (toPy b)) = true → (!PySem.W.dataLt (toPy c) (toPy a)) = true
  intro h1 h2
  cases e : PySem.W.dataLt (toPy c) (toPy a) with
  | false => rfl
  | true =>
    rcases PyProof.Rows.lex_negTrans _ (PySem.W.keyToks (toPy b)) _ e with q | q
    · rw [show PySem.W.dataLt (toPy c) (toPy b) = true from q] at h2; cases h2
    · rw [show PySem.W.dataLt (toPy b) (toPy a) = true from q] at h1; cases h1
theorem sort_total (a b : D) : (PySem.W.dataLe false toPy a b || PySem.W.dataLe false toPy b a) = true := by
  rw [PySem.W.dataLe_eq]
  show ((!PySem.W.dataLt (toPy b) (toPy a)) || (!PySem.W.dataLt (toPy a) (toPy b))) = true
  cases e : PySem.W.dataLt (toPy b) (toPy a) with
  | false => rfl
  | true =>
    cases e2 : PySem.W.dataLt (toPy a) (toPy b) with
    | false => rfl
    | true =>
      have := PyProof.Rows.lex_trans _ _ _ (show PyProof.Rows.lexLt PyProof.Rows.itemOrd (PySem.W.keyToks (toPy b)) (PySem.W.keyToks (toPy a)) = true from e) e2
      rw [PyProof.Rows.lex_irrefl] at this
      cases this
theorem flats_mem : ∀ {xs : List D}, flats xs = true → ∀ a ∈ xs, flat a = true
  | [], _, a, h => nomatch h
  | x :: xs, f, a, h => by
    have f := Bool.and_eq_true_iff.mp (show (flat x && flats xs) = true from f)
    rcases List.mem_cons.mp h with rfl | h
    · exact f.1
    · exact flats_mem f.2 a h
theorem deeps_mem : ∀ {xs : List D} (a : D), a ∈ xs → deep a ≤ deeps xs
  | [], a, h => nomatch h
  | x :: xs, a, h => by
    show deep a ≤ max (deep x) (deeps xs)
    rcases List.mem_cons.mp h with rfl | h
    · exact Nat.le_max_left _ _
    · exact Nat.le_trans (deeps_mem a h) (Nat.le_max_right _ _)
/-- a value that stands for plain data -/
def Stands (K : PySem.W.Frag) (H : Hp) (m : List Addr) (u : Value) (d : D) : Prop := ∃ v, RelV v u ∧ Rep K H m d v
theorem stands_all {K : PySem.W.Frag} {H : Hp} {m : List Addr} : ∀ {ds : List D} {vs : List V} {us : List Value}, Reps K H m ds vs → Vals vs us → PySem.W.EachIs (Stands K H m) us ds
  | [], _, _, r, rv => by
    rw [show _ = ([] : List V) from r] at rv
    cases rv
    exact .nil
  | d :: ds, _, _, ⟨v, r, h1, h2, h3⟩, rv => by
    subst h1
    cases rv with
    | cons a b => exact .cons ⟨v, a, h2⟩ (stands_all h3 b)
theorem stands_back {K : PySem.W.Frag} {H : Hp} {m : List Addr} : ∀ {ds : List D} {us : List Value}, PySem.W.EachIs (Stands K H m) us ds → ∃ vs, Reps K H m ds vs ∧ Vals vs us
  | _, _, .nil => ⟨[], rfl, .nil⟩
  | _, _, .cons ⟨v, h1, h2⟩ t => by
    obtain ⟨vs, g1, g2⟩ := stands_back t
    exact ⟨v :: vs, ⟨v, vs, rfl, h2, g1⟩, .cons h1 g2⟩
theorem toPy_tup {d : D} {x : D} {r : List D} (h : d = .tup (x :: r)) : ∃ y s, toPy d = .tuple (y :: s) := ⟨toPy x, toPys r, by rw [h]; rfl⟩
theorem b_sorted {kk : Nat} (hr : L2.Room kk X.A) : CallR X (.builtin "sorted") (rlOf X.K rSorted) := by
  intro pins s σ H vs us Q I rv ⟨m, S, ds, R, hS, rs, h, k⟩
  match ds, h, rs with
  | [.ref n], h, rs =>
    obtain ⟨v, rfl, hv⟩ := reps1 rs
    obtain ⟨a, ws, xs, rfl, h1, h2, h3, e1, ⟨f, dp, ak, so⟩, q⟩ := refL hS hv h
    rw [L2.Vals.ref1 rv]
    obtain ⟨its, rw', pl, hz⟩ := I.list (SqL.of h2)
    have st := stands_all h3 rw'
    have hm : ∀ b ∈ xs, flat b = true := flats_mem f
    have rd : ∀ {ds : List D} {us : List Value}, PySem.W.EachIs (Stands X.K H m) us ds → (∀ d ∈ ds, flat d = true) → PySem.W.EachIs (fun u d => ∃ as, Reads s.heap u (toPy d) as) us ds := by
      intro ds us e
      induction e with
      | nil => intro _; exact .nil
      | cons h t ih =>
        intro hf
        obtain ⟨v, g1, g2⟩ := h
        exact .cons (L2.Dp.reads I _ _ _ (toPy_dp _ _ (hf _ List.mem_cons_self) g2) g1) (ih fun d hd => hf d (List.mem_cons_of_mem _ hd))
    refine PySem.W.sorted_data (enc := toPy) (bs := xs) (R := Stands X.K H m) pl.isList st (rd st hm) ?_ ?_ (by rw [← h3.len]; exact hz) (fun b hb => ?_) fun out ho eo => ?_
    · intro d hd d' hd'
      obtain ⟨b, hb, rfl⟩ := List.mem_map.mp hd
      obtain ⟨b', hb', rfl⟩ := List.mem_map.mp hd'
      exact akin_eq b b' (ak b hb b' hb')
    · rcases so with so | so
      · refine .inl fun d hd => ?_
        obtain ⟨b, hb, rfl⟩ := List.mem_map.mp hd
        obtain ⟨x, r, e⟩ := so b hb
        exact toPy_tup e
      · refine .inr fun d hd => ?_
        obtain ⟨b, hb, rfl⟩ := List.mem_map.mp hd
        obtain ⟨n1, n2⟩ := so b hb
        have fb := hm b hb
        cases b with
        | non => exact absurd rfl n1
        | tup ys => exact absurd rfl (n2 ys)
        | rol _ => cases (show false = true from fb)
        | ref _ => cases (show false = true from fb)
        | ty _ => cases (show false = true from fb)
        | bl _ => exact ⟨(fun z => nomatch z), (fun _ z => nomatch z)⟩
        | int _ => exact ⟨(fun z => nomatch z), (fun _ z => nomatch z)⟩
        | str _ => exact ⟨(fun z => nomatch z), (fun _ z => nomatch z)⟩
    · rw [deep_eq]
      have := deeps_mem b hb
      have := hr.units
      omega
    · obtain ⟨c, hc⟩ := PyProof.Rows.sortedAll_at s.heap its out.toArray
      obtain ⟨ys, g1, g2⟩ := stands_back eo
      have hp : H (s.heap.objs.size + 1) = none := I.hok.fresh (Nat.le_succ _)
      have perm := List.mergeSort_perm xs (PySem.W.dataLe false toPy)
      have pw := List.pairwise_mergeSort sort_trans sort_total xs
      refine ⟨.ref (s.heap.objs.size + 1), upd H (s.heap.objs.size + 1) (.lst ys), I.laid (t' := s.toks) (fun _ _ => PyProof.Rows.sortedAll_old) (Nat.le_succ _) ⟨?_, out, c, g2, hc⟩, rfl, ?_⟩
      · rw [g1.len, List.length_mergeSort, ← h3.len]
        exact hz
      · refine k.lst hS g1 (q _ perm ?_) _ hp
        refine List.Pairwise.imp_of_mem (fun {x y} hx hy hxy => ?_) pw
        have hx' := perm.mem_iff.mp hx
        have hy' := perm.mem_iff.mp hy
        have hxy : (!PySem.W.dataLt (toPy y) (toPy x)) = true := hxy
        rw [lt_eq y x (hm y hy') (hm x hx') (ak y hy' x hx')] at hxy
        simpa using hxy
/-- set(xs) of ints: tracked beside -/
theorem set_ints (hc : X.calm = true) : CallR X (.type "set") (fun xs H Q => ∃ (a : Addr) (ns : List Int), xs = [V.ref a] ∧ (SqL X.K H a (ns.map V.int) ∨ SqT X.K H a (ns.map V.int)) ∧ ns.length < 60 ∧
    ∀ p c, H p = none → c ≤ ns.length → Q (.ref p) (upd H p (L2.SetO X.w p (fun j => decide (j ∈ ns)) c))) := by
  intro pins s σ H xs us Q I r h
  obtain ⟨a, ns, rfl, hT, hn, q⟩ := h
  rw [L2.Vals.ref1 r]
  have hb : ns.length + 1 < scanBound := by unfold scanBound; omega
  have hp : H s.heap.objs.size = none := I.hok.fresh (Nat.le_refl _)
  rcases hT with hT | hT
  · obtain ⟨its, rv, pt, _⟩ := I.list hT
    refine L2.set_ints_list (items := its.toArray) ns (I.ok.hd hc) pt.isList (by simpa using L2.Vals.ints rv) hb fun h' tk c R hc hk => ?_
    exact ⟨.ref s.heap.objs.size, _, I.laid (t' := tk) hk (Nat.le_refl _) (L2.setO_new R), rfl, q _ c hp hc⟩
  · obtain ⟨its, rv, pt, _⟩ := I.tuple hT
    refine L2.call_set_tupI (items := its.toArray) ns (I.ok.hd hc) (show s.heap.IsTuple a its.toArray from pt) (by simpa using L2.Vals.ints rv) hb fun h' tk c R hc hk => ?_
    exact ⟨.ref s.heap.objs.size, _, I.laid (t' := tk) hk (Nat.le_refl _) (L2.setO_new R), rfl, q _ c hp hc⟩
theorem d_sortedSet {e : Expr} {wa : WE} {p p2 pos pos2 : Pos} (hc : X.calm = true) (hg : L2.Gl X "sorted") (hm : X.mg "sorted" = none) (hg2 : L2.Gl X "set") (hm2 : X.mg "set" = none) (he : PE X e (teOf X.K wa))
    (h1 : starEach [e] X.env = [(false, eval e X.env)] := by rfl) : PE X (.Call (.Name "sorted" p) [.Call (.Name "set" p2) [e] [] pos2] [] pos) (teOf X.K (wSortedSet wa)) :=
  peI (L2.pe_callB (L2.cr_sortedSet hc) hg hm (by decide +kernel) (L2.pa_cons (L2.pe_callTy (set_ints hc) hg2 hm2 (by decide +kernel) (L2.pa_cons he L2.pa_nil h1) (he := h1)) L2.pa_nil)) fun σ H Q ⟨ρ, S, m, R, hE, hS, h, k⟩ =>
    ⟨ρ, S, m, _, hE, hS, h, fun v d H1 S1 m1 e1 s1 r1 ⟨ns, g1, g2, q⟩ => by
      have go : ∀ (a : Addr), v = .ref a → (SqL X.K H1 a (ns.map V.int) ∨ SqT X.K H1 a (ns.map V.int)) → ∃ (a : Addr) (ns' : List Int), [v] = [V.ref a] ∧ (SqL X.K H1 a (ns'.map V.int) ∨ SqT X.K H1 a (ns'.map V.int)) ∧ ns'.length < 60 ∧
          ∀ p c, H1 p = none → c ≤ ns'.length → (L2.tNil σ (upd H1 p (L2.SetO X.w p (fun j => decide (j ∈ ns')) c)) fun xs H2 => L2.rSortedSet X.w (V.ref p :: xs) H2 Q) := by
        rintro a rfl hT
        refine ⟨a, ns, rfl, hT, g2, fun p c hp hcl => ⟨p, _, c, rfl, upd_same, by omega, fun ms p2 pw mem hl hp2 => ?_⟩⟩
        have e2 := e1.trans (Ext.fresh (m := m1) hp (L2.SetO X.w p (fun j => decide (j ∈ ns)) c))
        exact (k.ext e2).lst (s1.fresh hp _) (ds := intD ms) Reps.of_ints (q ms pw fun kk => by rw [mem kk]; simp) p2 hp2
      rcases itemsAt_rep s1 r1 g1 with ⟨a, vs, e, hL, rs⟩ | ⟨a, vs, e, hL, rs⟩
      · exact go a e (.inl (by rw [← rs.ints]; exact hL))
      · exact go a e (.inr (by rw [← rs.ints]; exact hL))⟩
end
end DL
set_option Elab.async false
set_option linter.all false
set_option maxRecDepth 100000
set_option maxHeartbeats 4000000
/-! DL8: defs as they are called. -/
namespace DL
open PySem PySem.Spec
open L2 (V Hp HO St TE TT TA TS TG TI TO PE PT PW PA PS PSs PG PI PO Cx Inv RelV Vals SqL SqT Rd upd upd_same upd_ne ne_of ne_of_none OpR UnR CallR MtR IxR SlR It thn)
/-- the def that stands at the name x: it keeps sp, with k calls within one another -/
structure Callee (P : Program) (w : World) (K : PySem.W.Frag) (mg : Str → Option Value) (base : Heap) (x : Str) (k n : Nat) (sp : Spc) : Prop where
  ex : ∃ (f : Addr) (fd : FuncData) (ps : List Str), L2.FnOk P w K mg base L2.CX0 k f fd ps (spOf K n sp) ∧ mg x = some (.ref f) ∧ PySem.W.keepIn K (.ref f) = true ∧ L2.Binds K fd ps []
theorem Callee.imp {P : Program} {w : World} {K : PySem.W.Frag} {mg : Str → Option Value} {base : Heap} {x : Str} {k n : Nat} {sp sp' : Spc} (C : Callee P w K mg base x k n sp) (h : ∀ ds S Q, sp' ds S Q → sp ds S Q) : Callee P w K mg base x k n sp' := by
  obtain ⟨f, fd, ps, h1, h2, h3, h4⟩ := C.ex
  exact ⟨f, fd, ps, h1.imp fun vs H Q E ⟨m, S, ds, R, a, b, c, d, e⟩ => ⟨m, S, ds, R, a, b, c, h _ _ _ d, e⟩, h2, h3, h4⟩
section
variable {X : Cx} {e : Expr} {es : List Expr} {pos p : Pos} {va : WA}
theorem d_calle {kk k0 n : Nat} {sp : Spc} {x : Str} (C : Callee X.prog X.w X.K X.mg X.base x k0 n sp) (hr : L2.Room kk X.A) (hk : k0 ≤ kk) (hg : L2.Gl X x) (ha : PA X (e :: es) (taOf X.K va)) (hd : (x == ("__debug__" : Str)) = false := by decide)
    (he : starEach (e :: es) X.env = (false, eval e X.env) :: starEach es X.env := by rfl) (hpl : (backTo pos (starEach es X.env)).any (·.1) = false := by rfl) :
    PE X (.Call (.Name x p) (e :: es) [] pos) (teOf X.K (wCall n sp va)) := by
  obtain ⟨f, fd, ps, h1, h2, h3, h4⟩ := C.ex
  exact d_call h1 (hr.mono hk) hg h2 h3 h4 ha hd he hpl
end
section
variable {P : Program} {w : World} {K : PySem.W.Frag} {mg : Str → Option Value} {base : Heap}
theorem callee_of {x : Str} {st : Stmt} {f : Addr} {fd : FuncData} {N ps : List Str} {k n a : Nat} {sp : Spc} {ws : WS} (F : L2.Fun K x x st f fd) (hm : mg x = some (.ref f)) (hb : L2.Binds K fd ps []) (Sc : L2.FnScope N ps (L2.defScope st)) (hn : N.length = n) (ha : ps.length = a)
    (hw : ∀ (cdv : Value) (A : Around) (outer : List PySem.Env) (s : Shared) (H : Hp) (E : L2.XK), L2.Room k (A.deeper (PyProof.Rows.envOfC x (L2.defScope st) s.heap.objs.size f cdv)) →
      PSs (L2.cxOf L2.CX0 P w K mg base N x (L2.defScope st) f cdv A outer s H E).nox (L2.defBody st) (tsOf K ws)) (body : Body n a ws sp) : Callee P w K mg base x (k + 1) a sp :=
  ⟨f, fd, ps, fn_body F Sc hn ha hw body, hm, F.kp, hb⟩
/-- nobody calls with no calls left -/
theorem callee_none {x : Str} {st : Stmt} {f : Addr} {fd : FuncData} {ps : List Str} {a : Nat} {sp : Spc} (F : L2.Fun K x x st f fd) (hm : mg x = some (.ref f)) (hb : L2.Binds K fd ps []) (h : ∀ ds S Q, ¬ sp ds S Q) : Callee P w K mg base x 0 a sp :=
  ⟨f, fd, ps, ⟨fun vs H Q E ⟨m, S, ds, R, _, _, _, d, _⟩ => absurd d (h _ _ _), fun A outer s H args us vs Q E _ _ _ _ ⟨m, S, ds, R, _, _, _, d, _⟩ => absurd d (h _ _ _)⟩, hm, F.kp, hb⟩
end
end DL
set_option linter.all false
/-! DLX: more operations by values. -/
namespace DL
/-- a list turned -/
@[reducible] def rRevL : R1
  | .ref n, S, Q => isLst S n fun xs => Q (.ref S.length) (S ++ [.lst xs.reverse])
  | _, _, _ => False
/-- sorted of a list or a tuple -/
@[reducible] def rSortedA : RL
  | [.ref n], S, Q => isLst S n fun xs => sortOk xs ∧ ∀ ys, ys.Perm xs → ys.Pairwise (fun a b => ltD b a = false) → Q (.ref S.length) (S ++ [.lst ys])
  | [.tup xs], S, Q => sortOk xs ∧ ∀ ys, ys.Perm xs → ys.Pairwise (fun a b => ltD b a = false) → Q (.ref S.length) (S ++ [.lst ys])
  | _, _, _ => False
/-- x += y: ints, texts -/
@[reducible] def rIAdd : R2
  | .int i, .int j, S, Q => Q (.int (i + j)) S
  | .str x, .str y, S, Q => x.length + y.length ≤ szL ∧ Q (.str (x ++ y)) S
  | .ref m, .ref n, S, Q => isLst S m fun xs => isLst S n fun ys => xs.length + ys.length ≤ szL ∧ Q (.ref m) (S.set m (.lst (xs ++ ys)))
  | _, _, _, _ => False
/-! ranges with a step, ranges as lists and tuples -/
def rg3N (i j k : Int) : Nat := (if 0 < k then (if i < j then (j - i - 1) / k + 1 else 0) else (if j < i then (i - j - 1) / (-k) + 1 else 0)).toNat
def rangeD3 (i j k : Int) : List D := (List.range (rg3N i j k)).map fun (t : Nat) => D.int (i + t * k)
@[reducible] def wR3 (a b c : WE) : WI := fun ρ S R => a ρ S fun x S1 => b ρ S1 fun y S2 => c ρ S2 fun z S3 => match x, y, z with
  | .int i, .int j, .int k => (k ≠ 0 ∧ (-(2 ^ 29) < k ∧ k < 2 ^ 29) ∧ (-(2 ^ 61) ≤ i ∧ i < 2 ^ 61) ∧ (-(2 ^ 61) ≤ j ∧ j < 2 ^ 61)) ∧ R (rangeD3 i j k) (fun _ => True) S3
  | _, _, _ => False
@[reducible] def wLstR (a : WE) : WE := fun ρ S Q => a ρ S fun x S1 => match x with
  | .int j => (smallI j ∧ j ≤ szL) ∧ Q (.ref S1.length) (S1 ++ [.lst (rangeD 0 j)])
  | _ => False
@[reducible] def wTupR (a : WE) : WE := fun ρ S Q => a ρ S fun x S1 => match x with
  | .int j => (smallI j ∧ j ≤ szL) ∧ Q (.tup (rangeD 0 j)) S1
  | _ => False
end DL
set_option Elab.async false
set_option linter.all false
set_option maxRecDepth 100000
set_option maxHeartbeats 4000000
/-! DL9: more rules. -/
namespace DL
open PySem PySem.Spec
open L2 (V Hp HO St TE TT TA TS TG TI TO PE PT PW PA PS PSs PG PI PO Cx Inv RelV Vals SqL SqT Rd upd upd_same upd_ne ne_of ne_of_none OpR UnR CallR MtR IxR SlR It thn)
section
variable {X : Cx} {o : Expr} {pos p1 p2 p3 : Pos} {wo : WE}
theorem d_revL {k : Nat} (ho : PE X o (teOf X.K wo)) : PE X (.Subscript o (.Slice none none (some (.UnaryOp .USub (.Constant (.int 1) k p1) p2)) p3) pos) (teOf X.K (wUn rRevL wo)) :=
  peI (L2.pe_revL ho) fun σ H Q ⟨ρ, S, m, R, hE, hS, h, k⟩ => ⟨ρ, S, m, _, hE, hS, h, fun v x H1 S1 m1 e1 s1 r1 q1 => by
    cases x with
    | ref n =>
      obtain ⟨ys, e2, q⟩ := isLst_iff.mp q1
      obtain ⟨a, vs, h1, h2, h3⟩ := s1.lst e2
      obtain ⟨b, q2, rfl⟩ := r1
      rw [h1] at q2
      cases q2
      exact ⟨a, vs, rfl, SqL.of h2, (k.ext e1).lst s1 h3.rev q⟩
    | _ => exact (show False from q1).elim⟩
end
theorem i_add {X : Cx} : OpR X (inplaceOp .Add) (r2Of X.K rIAdd) := r2I (((L2.iop_add (X := X)).or L2.iop_add_str).or L2.iop_ext) fun x y H Q ⟨m, S, d, e, R, s, rx, ry, h, k⟩ => by
  cases d with
  | int i => cases e with
    | int j => exact .inl (.inl ⟨i, j, rx, ry, k _ (.int (i + j)) H S m (Ext.refl _ _) s rfl h⟩)
    | _ => exact (show False from h).elim
  | str z => cases e with
    | str z' =>
      obtain ⟨hz, q⟩ := h
      exact .inl (.inr ⟨z, z', rx, ry, by rw [← szL']; exact hz, k _ (.str (z ++ z')) H S m (Ext.refl _ _) s rfl q⟩)
    | _ => exact (show False from h).elim
  | ref i => cases e with
    | ref j =>
      obtain ⟨xs, e1, h⟩ := isLst_iff.mp h
      obtain ⟨ys, e2, hz, q⟩ := isLst_iff.mp h
      obtain ⟨a, vs, h1, h2, h3⟩ := s.lst e1
      obtain ⟨b, us, g1, g2, g3⟩ := s.lst e2
      obtain ⟨a', q1, rfl⟩ := rx
      obtain ⟨b', q2, rfl⟩ := ry
      rw [h1] at q1
      rw [g1] at q2
      cases q1
      cases q2
      exact .inr ⟨a, b, vs, us, rfl, rfl, h2, g2, by rw [h3.len, g3.len, ← szL']; exact hz, k.put s e1 h1 h2 (h3.app g3) (d := .ref i) ⟨a, h1, rfl⟩ q⟩
    | _ => exact (show False from h).elim
  | _ => exact (show False from h).elim
section
variable {X : Cx} {tg : Expr} {wa wb wc : WE} {a b c : Expr} {p p2 pos pos2 : Pos}
theorem rg3_ok {i j k : Int} (h : k ≠ 0 ∧ (-(2 ^ 29) < k ∧ k < 2 ^ 29) ∧ (-(2 ^ 61) ≤ i ∧ i < 2 ^ 61) ∧ (-(2 ^ 61) ≤ j ∧ j < 2 ^ 61)) : L2.RgC i j k (rg3N i j k) := by
  obtain ⟨h0, ⟨k1, k2⟩, ⟨i1, i2⟩, j1, j2⟩ := h
  have e : Builtin.Range.rangeSize i j k = (rg3N i j k : Int) ∧ (rg3N i j k : Int) < 2 ^ 63 := by
    unfold Builtin.Range.rangeSize rg3N
    by_cases hk : 0 < k
    · rw [if_pos hk]
      by_cases hc : i < j
      · rw [if_pos hc]
        have a1 : (j - i - 1) / k ≤ j - i - 1 := Int.ediv_le_self k (by omega)
        have a2 : 0 ≤ (j - i - 1) / k := Int.ediv_nonneg (by omega) (by omega)
        omega
      · rw [if_neg hc]; omega
    · rw [if_neg hk]
      by_cases hc : j < i
      · rw [if_pos hc]
        have a1 : (i - j - 1) / -k ≤ i - j - 1 := Int.ediv_le_self (-k) (by omega)
        have a2 : 0 ≤ (i - j - 1) / -k := Int.ediv_nonneg (by omega) (by omega)
        omega
      · rw [if_neg hc]; omega
  refine ⟨h0, by omega, ?_, e.1⟩
  unfold Builtin.Range.small Builtin.Range.rangeFitsLong
  rw [e.1]
  have := e.2
  have n0 : (0 : Int) ≤ rg3N i j k := by omega
  generalize (rg3N i j k : Int) = n at *
  by_cases hk : 0 < k
  · rw [if_pos hk]
    simp only [Bool.and_eq_true, Bool.or_eq_true, decide_eq_true_eq]
    omega
  · rw [if_neg hk]
    simp only [Bool.and_eq_true, Bool.or_eq_true, decide_eq_true_eq]
    omega
theorem yields_rng3 {K : PySem.W.Frag} {m : List Addr} {H : Hp} {i j k : Int} : Yields K (L2.Itc i k (rg3N i j k)) (rangeD3 i j k) (fun _ => True) m H := by
  intro m1 H1 S1 e s g
  refine ⟨fun t d hd => ?_, fun t ht => by unfold rangeD3 at ht; rw [List.length_map, List.length_range] at ht; exact ht⟩
  unfold rangeD3 at hd
  rw [List.getElem?_map] at hd
  by_cases hi : t < rg3N i j k
  · rw [List.getElem?_range hi] at hd
    have h2 := (Option.some.inj hd).symm
    exact ⟨hi, fun x H' ⟨q1, q2⟩ => ⟨m1, by rw [q1]; exact Ext.refl _ _, by rw [q1]; exact s, by rw [q2, h2]; rfl⟩⟩
  · rw [List.getElem?_eq_none (by simpa using hi)] at hd
    cases hd
theorem di_r3 (hg : L2.Gl X "range") (hm : X.mg "range" = none) (ha : PE X a (teOf X.K wa)) (hb : PE X b (teOf X.K wb)) (hc : PE X c (teOf X.K wc)) (h1 : starEach [a, b, c] X.env = (false, eval a X.env) :: starEach [b, c] X.env := by rfl) (h2 : starEach [b, c] X.env = (false, eval b X.env) :: starEach [c] X.env := by rfl)
    (h3 : starEach [c] X.env = (false, eval c X.env) :: starEach [] X.env := by rfl) (h4 : ((backTo pos (starEach [b, c] X.env)).any fun x => x.fst) = false := by rfl) : PI X tg (.Call (.Name "range" p) [a, b, c] [] pos) (tiOf X.K (wR3 wa wb wc)) :=
  piI (L2.pi_range3 hg hm (da_cons ha (da_cons hb (da_cons hc da_nil h3) h2) h1) h1 h4) fun σ H Q ⟨ρ, S, m, R, hE, hS, h, k⟩ => ⟨ρ, S, m, fun ds S1 => match ds with
    | [.int i, .int j, .int l] => (l ≠ 0 ∧ (-(2 ^ 29) < l ∧ l < 2 ^ 29) ∧ (-(2 ^ 61) ≤ i ∧ i < 2 ^ 61) ∧ (-(2 ^ 61) ≤ j ∧ j < 2 ^ 61)) ∧ R (rangeD3 i j l) (fun _ => True) S1
    | _ => False, hE, hS, (by
      show wa ρ S _
      refine cast (congrArg (wa ρ S) ?_) h
      funext x S1
      show wb ρ S1 _ = wb ρ S1 _
      refine congrArg (wb ρ S1) ?_
      funext y S2
      show wc ρ S2 _ = wc ρ S2 _
      refine congrArg (wc ρ S2) ?_
      funext z S3
      cases x <;> cases y <;> cases z <;> rfl), fun vs ds H' S' m' e s r q => by
      match ds, q, r with
      | [.int i, .int j, .int l], ⟨hok, q5⟩, ⟨v, r', hv, rv, ⟨v2, r2, hv2, rv2, ⟨v3, r3, hv3, rv3, rn⟩⟩⟩ =>
        rw [show r3 = [] from rn] at hv3
        rw [hv3] at hv2
        rw [hv2] at hv
        exact ⟨i, j, l, _, by rw [hv, show v = V.int i from rv, show v2 = V.int j from rv2, show v3 = V.int l from rv3], rg3_ok hok, k _ _ _ _ _ _ e s yields_rng3 q5⟩⟩
theorem rgV_rep {K : PySem.W.Frag} {H : Hp} {m : List Addr} (j : Int) : Reps K H m (rangeD 0 j) (L2.rgV 0 j) := by
  unfold rangeD L2.rgV
  generalize List.range (j - 0).toNat = l
  induction l with
  | nil => rfl
  | cons x l ih => exact ⟨_, _, rfl, rfl, ih⟩
theorem rgOk_of {j : Int} (h : smallI j ∧ j ≤ szL) : L2.RgOk 0 j := by
  obtain ⟨⟨h1, h2⟩, h3⟩ := h
  unfold szL at h3
  exact ⟨by omega, by omega, h1, h2, by omega⟩
theorem d_lstR (hc : X.calm = true) (hg : L2.Gl X "list") (hm : X.mg "list" = none) (hg2 : L2.Gl X "range") (hm2 : X.mg "range" = none) (ha : PE X a (teOf X.K wa)) (h1 : starEach [a] X.env = (false, eval a X.env) :: starEach [] X.env := by rfl)
    (h2 : starEach [Expr.Call (.Name "range" p2) [a] [] pos2] X.env = (false, eval (Expr.Call (.Name "range" p2) [a] [] pos2) X.env) :: starEach [] X.env := by rfl) : PE X (.Call (.Name "list" p) [.Call (.Name "range" p2) [a] [] pos2] [] pos) (teOf X.K (wLstR wa)) :=
  peI (L2.pe_listRg hc hg hm (L2.prg_1 hg2 hm2 ha h1) h2) fun σ H Q ⟨ρ, S, m, R, hE, hS, h, k⟩ => ⟨ρ, S, m, _, hE, hS, h, fun v x H1 S1 m1 e1 s1 r1 q1 => by
    cases x with
    | int j => exact ⟨j, r1, rgOk_of q1.1, (k.ext e1).lst s1 (rgV_rep j) q1.2⟩
    | _ => exact (show False from q1).elim⟩
theorem d_tupR (hc : X.calm = true) (hg : L2.Gl X "tuple") (hm : X.mg "tuple" = none) (hg2 : L2.Gl X "range") (hm2 : X.mg "range" = none) (ha : PE X a (teOf X.K wa)) (h1 : starEach [a] X.env = (false, eval a X.env) :: starEach [] X.env := by rfl)
    (h2 : starEach [Expr.Call (.Name "range" p2) [a] [] pos2] X.env = (false, eval (Expr.Call (.Name "range" p2) [a] [] pos2) X.env) :: starEach [] X.env := by rfl) : PE X (.Call (.Name "tuple" p) [.Call (.Name "range" p2) [a] [] pos2] [] pos) (teOf X.K (wTupR wa)) :=
  peI (L2.pe_tupRg hc hg hm (L2.prg_1 hg2 hm2 ha h1) h2) fun σ H Q ⟨ρ, S, m, R, hE, hS, h, k⟩ => ⟨ρ, S, m, _, hE, hS, h, fun v x H1 S1 m1 e1 s1 r1 q1 => by
    cases x with
    | int j => exact ⟨j, r1, rgOk_of q1.1, (k.ext e1).tup s1 (rgV_rep j) q1.2⟩
    | _ => exact (show False from q1).elim⟩
end
/-- a tuple of ints that the top has made -/
theorem rep_ints {K : PySem.W.Frag} {t : Addr} {od : Option Addr} {its : Array Value} {n : Nat} {sl : Array (Option Value)} {ns : List Int} (hl : K.lookup t = some ⟨.type "tuple", od, .seq its n, sl⟩) (hz : its.size ≤ sizeLine) (hv : Vals (ns.map V.int) its.toList) (H : Hp) (m : List Addr) : Rep K H m (.tup (intD ns)) (.ref t) :=
  ⟨t, ns.map V.int, rfl, .inr ⟨_, its, n, hl, rfl, rfl, hz, hv⟩, Reps.of_ints⟩
end DL
set_option Elab.async false
set_option linter.all false
set_option maxRecDepth 100000
set_option maxHeartbeats 4000000
/-! DLS: sorted(a tuple). -/
namespace DL
open PySem PySem.Spec PyProof PyProof.Rows
section
theorem collect_seqE {prog : Program} {w : World} {A : Around} {E : Value → Shared → Prop} {s : Shared} {Q : List Value → Shared → Prop} (it : Addr) {T : String} {o : Obj} {items : Array Value} {n : Nat} (hT : T = "list" ∨ T = "tuple") (ho : s.heap.get? it = some o) (hc : o.cls = Value.type T) (hd : o.data = Data.seq items n)
    (hQ : ∀ h' : Heap, (∀ (b : Addr) (o' : Obj), s.heap.get? b = some o' → h'.get? b = some o') → s.heap.objs.size ≤ h'.objs.size → Q items.toList { heap := h', gens := s.gens, drawn := s.drawn, toks := s.toks, os := s.os }) (hsz : items.size ≤ sizeLine) : wpAny (model prog w) A (collect (.ref it)) Q E s := by
  unfold collect
  refine wpAny_bind (wpAny_runValue (codeAny_builtin F.entry_proto_collect ?_))
  rw [Around.under_plainId F.plain_proto_collect]
  refine wpAny_bind (wpAny_newObj_type (wpAny_pure ⟨plainId_quiet F.plain_list_iadd _, codeAny_builtin F.entry_list_iadd ?_⟩))
  rw [Around.under_plainId F.plain_list_iadd]
  refine wpAny_extend_seq (R := fun r s' => match r with
      | Except.ok (Flow.ret v) => wpAny (model prog w) A (match v with
          | Value.ref a => do
            let __do_lift ← load a
            match __do_lift.data with
            | Data.seq xs epoch => pure xs.toList
            | x => unsupported "internal:collect"
          | x => unsupported "internal:collect") Q E s'
      | Except.ok a => False
      | Except.error e => E e s') s.heap.objs.size it (.ref s.heap.objs.size) 0 hT ?_ ?_ hc hd ?_ hsz
  · exact Heap.get?_push_size s.heap rfl
  · exact Heap.get?_push_of_some _ ho
  · show wpAny (model prog w) A _ Q E _
    refine wpAny_bind (wpAny_load (Heap.get?_update_self _ (Heap.get?_push_size s.heap rfl) rfl) ?_)
    refine wpAny_pure ?_
    have e : ((fun x => x ++ items) (#[] : Array Value)).toList = items.toList := by simp
    rw [e]
    refine hQ _ (fun b o' hb => ?_) ?_
    · rw [Heap.get?_update_other _ _ (Ne.symm (Nat.ne_of_lt (Heap.lt_size hb)))]
      exact Heap.get?_push_of_some _ hb
    · rw [Heap.size_update]
      show s.heap.objs.size ≤ (s.heap.push _).objs.size
      rw [PyProof.Rows.size_push']
      omega
theorem sorted_tup {prog : Program} {w : World} {A : Around} {E : Value → Shared → Prop} {s : Shared} {β : Type} {vs : List Value} {bs : List β} {enc : β → PyData} {R : Value → β → Prop} {l : Addr} {Q : Value → Shared → Prop}
    (hl : s.heap.IsTuple l vs.toArray) (e : PySem.W.EachIs R vs bs) (er : PySem.W.EachIs (fun v b => ∃ as, Reads s.heap v (enc b) as) vs bs) (hal : PySem.W.AllAlike (bs.map enc)) (hk : PySem.W.Sortable (bs.map enc)) (hL : bs.length ≤ sizeLine) (hu : ∀ b, b ∈ bs → A.units + 2 + (enc b).depth < cLine)
    (h : ∀ (out : List Value) (h1 : Heap) (a : Addr), out.length = bs.length → PySem.W.EachIs R out (bs.mergeSort (PySem.W.dataLe false enc)) → (∀ (b : Addr) (o : Obj), s.heap.get? b = some o → h1.get? b = some o) → s.heap.objs.size ≤ a → (∃ c, h1.get? a = some (PyProof.Rows.seqObj "list" out.toArray c)) →
      Q (.ref a) { heap := h1, gens := s.gens, drawn := s.drawn, toks := s.toks, os := s.os }) : wpAny (model prog w) A (call (.builtin "sorted") [.ref l]) Q E s := by
  obtain ⟨o, ho, hc, n, hd⟩ := hl
  have hLv : vs.length ≤ sizeLine := by rw [e.length]; exact hL
  refine PyProof.Rows.call_function_entry_kw PyProof.Rows.kind_sorted PyProof.Rows.plain_sorted PyProof.Rows.entry_sorted (PyProof.Rows.args_sorted1 (.ref l)) ?_
  refine wpAny_bind (wpAny_pure (wpAny_bind (collect_seqE l (.inr rfl) ho hc hd (fun h' keep hsz => ?_) (by simpa using hLv))))
  have hat : (h'.push (PyProof.Rows.seqObj "list" vs.toArray 0)).get? h'.objs.size = some (PyProof.Rows.seqObj "list" vs.toArray 0) := Heap.get?_push_size h' rfl
  have old1 : ∀ (b : Addr) (o : Obj), s.heap.get? b = some o → (h'.push (PyProof.Rows.seqObj "list" vs.toArray 0)).get? b = some o ∧ b < h'.objs.size := fun b o hb => by
    have hk := keep b o hb
    have hlt := Heap.lt_size hk
    exact ⟨by rw [Heap.get?_push_ne h' b _ (Nat.ne_of_lt hlt)]; exact hk, hlt⟩
  have old2 : ∀ (b : Addr) (o : Obj), s.heap.get? b = some o → (PySem.W.sortingHeap (h'.push (PyProof.Rows.seqObj "list" vs.toArray 0)) h'.objs.size vs).get? b = some o := fun b o hb => by
    obtain ⟨h1, h2⟩ := old1 b o hb
    unfold PySem.W.sortingHeap
    have z1 : ((h'.push (PyProof.Rows.seqObj "list" vs.toArray 0)).update h'.objs.size (Obj.mapSeq fun x => #[])).objs.size = h'.objs.size + 1 := by rw [Heap.size_update, PyProof.Rows.size_push']
    have z2 : (((h'.push (PyProof.Rows.seqObj "list" vs.toArray 0)).update h'.objs.size (Obj.mapSeq fun x => #[])).push (PyProof.Rows.seqObj "tuple" vs.toArray 0)).objs.size = h'.objs.size + 1 + 1 := by rw [PyProof.Rows.size_push', z1]
    rw [Heap.get?_push_ne _ b _ (by rw [z2]; exact Nat.ne_of_lt (Nat.lt_succ_of_lt (Nat.lt_succ_of_lt h2))), Heap.get?_push_ne _ b _ (by rw [z1]; exact Nat.ne_of_lt (Nat.lt_succ_of_lt h2)), Heap.get?_update_ne _ b _ _ (Nat.ne_of_lt h2)]
    exact h1
  have er' := PySem.W.EachIs.mono (fun x y ⟨as, r⟩ => (⟨as, PyProof.Rows.Reads.keeps (h' := PySem.W.sortingHeap (h'.push (PyProof.Rows.seqObj "list" vs.toArray 0)) h'.objs.size vs) (fun b o hb => old2 b o hb) r⟩ : ∃ as, _)) er
  have S := PySem.W.SortsAt.data (prog := prog) (w := w) (A := A.in1.in1) (s := { heap := PySem.W.sortingHeap (h'.push (PyProof.Rows.seqObj "list" vs.toArray 0)) h'.objs.size vs, gens := s.gens, drawn := s.drawn, toks := s.toks, os := s.os }) (PySem.W.each_map enc er') hal hk (PySem.W.bound_map hu)
  refine wpAny_bind (wpAny_newList ?_ (by simpa using hLv))
  refine wpAny_bind (wpAny_holding (PyProof.Rows.wpAny_call_entry_kw PyProof.Rows.slot_list_sort ⟨PyProof.Rows.seqObj "list" vs.toArray 0, hat, rfl⟩ PyProof.Rows.entry_list_sort ?_ (PyProof.Rows.args_list_sort (.ref h'.objs.size))))
  refine PySem.W.list_sort_vals hat S hLv ⟨.none, rfl, wpAny_pure ⟨.ref h'.objs.size, rfl, ?_⟩⟩
  refine h _ _ _ (by rw [PySem.W.sortVals_length false rfl]; exact e.length) (PySem.W.sortVals_data false e er' hal) (fun b o hb => ?_) hsz (PyProof.Rows.sortedHeap_at hat)
  obtain ⟨h1, h2⟩ := old1 b o hb
  rw [PyProof.Rows.sortedHeap_old (Nat.ne_of_lt h2) (by rw [PyProof.Rows.size_push']; exact Nat.lt_succ_of_lt h2)]
  exact h1
end
section
open L2 (V Hp HO St TE TT TA TS TG TI TO PE PT PW PA PS PSs PG PI PO Cx Inv RelV Vals SqL SqT Rd upd upd_same upd_ne ne_of ne_of_none OpR UnR CallR MtR IxR SlR It thn)
variable {X : Cx}
theorem b_sortedA {kk : Nat} (hr : L2.Room kk X.A) : CallR X (.builtin "sorted") (rlOf X.K rSortedA) := by
  intro pins s σ H vs us Q I rv ⟨m, S, ds, R, hS, rs, h, k⟩
  match ds, h, rs with
  | [.ref n], h, rs => exact b_sorted hr pins s σ H vs us Q I rv ⟨m, S, [.ref n], R, hS, rs, h, k⟩
  | [.tup xs], h, rs =>
    obtain ⟨v, rfl, a, ws, rfl, h2, h3⟩ := reps1 rs
    obtain ⟨⟨f, dp, ak, so⟩, q⟩ := h
    rw [L2.Vals.ref1 rv]
    obtain ⟨its, rw', pl, hz⟩ := I.tuple h2
    have st := stands_all h3 rw'
    have hm : ∀ b ∈ xs, flat b = true := flats_mem f
    have rd : ∀ {ds : List D} {us : List Value}, PySem.W.EachIs (Stands X.K H m) us ds → (∀ d ∈ ds, flat d = true) → PySem.W.EachIs (fun u d => ∃ as, Reads s.heap u (toPy d) as) us ds := by
      intro ds us e
      induction e with
      | nil => intro _; exact .nil
      | cons h t ih =>
        intro hf
        obtain ⟨v, g1, g2⟩ := h
        exact .cons (L2.Dp.reads I _ _ _ (toPy_dp _ _ (hf _ List.mem_cons_self) g2) g1) (ih fun d hd => hf d (List.mem_cons_of_mem _ hd))
    refine sorted_tup (enc := toPy) (bs := xs) (R := Stands X.K H m) pl st (rd st hm) ?_ ?_ (by rw [← h3.len]; exact hz) (fun b hb => ?_) fun out hh aa ho eo keep hge hat => ?_
    · intro d hd d' hd'
      obtain ⟨b, hb, rfl⟩ := List.mem_map.mp hd
      obtain ⟨b', hb', rfl⟩ := List.mem_map.mp hd'
      exact akin_eq b b' (ak b hb b' hb')
    · rcases so with so | so
      · refine .inl fun d hd => ?_
        obtain ⟨b, hb, rfl⟩ := List.mem_map.mp hd
        obtain ⟨x, r, e⟩ := so b hb
        exact toPy_tup e
      · refine .inr fun d hd => ?_
        obtain ⟨b, hb, rfl⟩ := List.mem_map.mp hd
        obtain ⟨n1, n2⟩ := so b hb
        have fb := hm b hb
        cases b with
        | non => exact absurd rfl n1
        | tup ys => exact absurd rfl (n2 ys)
        | rol _ => cases (show false = true from fb)
        | ref _ => cases (show false = true from fb)
        | ty _ => cases (show false = true from fb)
        | bl _ => exact ⟨(fun z => nomatch z), (fun _ z => nomatch z)⟩
        | int _ => exact ⟨(fun z => nomatch z), (fun _ z => nomatch z)⟩
        | str _ => exact ⟨(fun z => nomatch z), (fun _ z => nomatch z)⟩
    · rw [deep_eq]
      have := deeps_mem b hb
      have := hr.units
      omega
    · obtain ⟨c, hc⟩ := hat
      obtain ⟨ys, g1, g2⟩ := stands_back eo
      have hp : H aa = none := I.hok.fresh hge
      have perm := List.mergeSort_perm xs (PySem.W.dataLe false toPy)
      have pw := List.pairwise_mergeSort sort_trans sort_total xs
      refine ⟨.ref aa, upd H aa (.lst ys), I.laid (t' := s.toks) keep hge ⟨?_, out, c, g2, hc⟩, rfl, ?_⟩
      · rw [g1.len, List.length_mergeSort, ← h3.len]
        exact hz
      · refine k.lst hS g1 (q _ perm ?_) _ hp
        refine List.Pairwise.imp_of_mem (fun {x y} hx hy hxy => ?_) pw
        have hx' := perm.mem_iff.mp hx
        have hy' := perm.mem_iff.mp hy
        have hxy : (!PySem.W.dataLt (toPy y) (toPy x)) = true := hxy
        rw [lt_eq y x (hm y hy') (hm x hx') (ak y hy' x hx')] at hxy
        simpa using hxy
end
end DL
set_option linter.all false
set_option maxRecDepth 100000
set_option maxHeartbeats 4000000
/-! DLP: helpers over DL0: the store, lists of plain data, loops, comprehensions, what every law's own helpers keep. -/
namespace DL
/-! ### the store -/
/-- all that was there is there -/
def Sub (S S' : Sto) : Prop := ∀ (n : Nat) (o : O), S[n]? = some o → S'[n]? = some o
theorem Sub.refl (S : Sto) : Sub S S := fun _ _ h => h
theorem Sub.trans {S S1 S2 : Sto} (a : Sub S S1) (b : Sub S1 S2) : Sub S S2 := fun n o h => b n o (a n o h)
theorem Sub.push (S : Sto) (l : Sto) : Sub S (S ++ l) := fun n o h => by
  rw [List.getElem?_append_left (List.getElem?_eq_some_iff.mp h).1]
  exact h
theorem at_push (S : Sto) (o : O) : (S ++ [o])[S.length]? = some o := by simp
theorem Sub.lt {S S' : Sto} (h : Sub S S') {n : Nat} {o : O} (e : S[n]? = some o) : n < S'.length := (List.getElem?_eq_some_iff.mp (h n o e)).1
theorem at_lt {S : Sto} {n : Nat} {o : O} (e : S[n]? = some o) : n < S.length := (List.getElem?_eq_some_iff.mp e).1
theorem at_set {S : Sto} {n : Nat} {o o' : O} (e : S[n]? = some o) : (S.set n o')[n]? = some o' := List.getElem?_set_self (at_lt e)
theorem at_set_ne {S : Sto} {n k : Nat} {o' : O} (h : k ≠ n) : (S.set n o')[k]? = S[k]? := List.getElem?_set_ne (Ne.symm h)
theorem isLst_at {S : Sto} {n : Nat} {xs : List D} {P : List D → Prop} (h : S[n]? = some (.lst xs)) : isLst S n P = P xs := by
  unfold isLst
  rw [h]
/-- the draws stand at n -/
def Dr (n : Nat) (S : Sto) : Prop := ∃ ns : List Int, S[n]? = some (.lst (intD ns))
/-- all but what stands at n is there -/
def Ch (n : Nat) (S S' : Sto) : Prop := ∀ (k : Nat) (o : O), k ≠ n → S[k]? = some o → S'[k]? = some o
theorem Ch.refl (n : Nat) (S : Sto) : Ch n S S := fun _ _ _ h => h
theorem Ch.trans {n : Nat} {S S1 S2 : Sto} (a : Ch n S S1) (b : Ch n S1 S2) : Ch n S S2 := fun k o hk h => b k o hk (a k o hk h)
theorem Sub.ch {n : Nat} {S S' : Sto} (h : Sub S S') : Ch n S S' := fun k o _ e => h k o e
theorem Dr.sub {n : Nat} {S S' : Sto} (d : Dr n S) (h : Sub S S') : Dr n S' := let ⟨ns, e⟩ := d; ⟨ns, h n _ e⟩
theorem Ch.set {n : Nat} (S : Sto) (o : O) : Ch n S (S.set n o) := fun k u hk e => by rw [at_set_ne hk]; exact e

theorem ite_i {c A B : Prop} {_ : Decidable c} (h1 : c → A) (h2 : ¬ c → B) : if c then A else B := by
  by_cases h : c
  · rw [if_pos h]; exact h1 h
  · rw [if_neg h]; exact h2 h
theorem Sub.put {S S' : Sto} {n : Nat} {o : O} (h : Sub S S') (hn : S.length ≤ n) : Sub S (S'.set n o) := fun k u e => by
  rw [at_set_ne (by have := at_lt e; omega)]
  exact h k u e
theorem Sub.app {S S' : Sto} (h : Sub S S') (l : Sto) : Sub S (S' ++ l) := h.trans (Sub.push S' l)
theorem push_at {S : Sto} {n : Nat} {o : O} (h : S[n]? = some o) (l : Sto) : (S ++ l)[n]? = some o := Sub.push S l n o h
/-! ### places of lists -/
theorem atZ_nat {α : Type} {xs : List α} {i : Nat} {x : α} (h : xs[i]? = some x) : atZ xs (i : Int) = some x := by
  have hl : i < xs.length := (List.getElem?_eq_some_iff.mp h).1
  unfold atZ ixZ
  rw [if_pos (by omega), if_pos (by omega)]
  simpa using h
theorem atZ_lt {α : Type} {xs : List α} {i : Int} (h0 : 0 ≤ i) (h1 : i < xs.length) : ∃ x, atZ xs i = some x ∧ xs[i.toNat]? = some x := by
  have hl : i.toNat < xs.length := by omega
  refine ⟨xs[i.toNat], ?_, List.getElem?_eq_getElem hl⟩
  have := atZ_nat (List.getElem?_eq_getElem hl)
  rw [show ((i.toNat : Nat) : Int) = i by omega] at this
  exact this
theorem intD_get {ns : List Int} {i : Nat} {d : D} (h : (intD ns)[i]? = some d) : ∃ n, ns[i]? = some n ∧ d = .int n := by
  rw [List.getElem?_map] at h
  cases e : ns[i]? with
  | none => rw [e] at h; cases h
  | some n => rw [e] at h; exact ⟨n, rfl, (Option.some.inj h).symm⟩
theorem intD_at {ns : List Int} {i : Nat} {n : Int} (h : ns[i]? = some n) : (intD ns)[i]? = some (.int n) := by
  rw [List.getElem?_map, h]
  rfl
theorem intD_atZ {ns : List Int} {i : Int} (h0 : 0 ≤ i) (h1 : i < ns.length) : ∃ n, ns[i.toNat]? = some n ∧ atZ (intD ns) i = some (.int n) := by
  have hl : i.toNat < ns.length := by omega
  refine ⟨ns[i.toNat], List.getElem?_eq_getElem hl, ?_⟩
  have := atZ_nat (intD_at (List.getElem?_eq_getElem hl))
  rw [show ((i.toNat : Nat) : Int) = i by omega] at this
  exact this
theorem sIx_nn (n d : Nat) {i : Int} (h : 0 ≤ i) : sIx n d (some i) = min i.toNat n := by
  show (if i < 0 then (i + n).toNat else min i.toNat n) = _
  rw [if_neg (by omega)]
theorem sIx_no (n d : Nat) : sIx n d none = d := rfl
theorem cut_take {α : Type} (xs : List α) {i : Int} (h : 0 ≤ i) : cut xs none (some i) = xs.take i.toNat := by
  unfold cut
  rw [sIx_no, sIx_nn _ _ h, List.drop_zero, Nat.sub_zero]
  by_cases hc : i.toNat ≤ xs.length
  · rw [Nat.min_eq_left hc]
  · rw [Nat.min_eq_right (by omega), List.take_length, List.take_of_length_le (by omega)]
theorem cut_drop {α : Type} (xs : List α) {i : Int} (h : 0 ≤ i) : cut xs (some i) none = xs.drop i.toNat := by
  unfold cut
  rw [sIx_no, sIx_nn _ _ h]
  by_cases hc : i.toNat ≤ xs.length
  · rw [Nat.min_eq_left hc, List.take_of_length_le (by simp)]
  · rw [Nat.min_eq_right (by omega), List.drop_length, List.drop_of_length_le (by omega)]
    simp
theorem rangeD_get {lo hi : Int} {i : Nat} {d : D} (h : (rangeD lo hi)[i]? = some d) : i < (hi - lo).toNat ∧ d = .int (lo + i) := by
  unfold rangeD at h
  rw [List.getElem?_map] at h
  by_cases hi : i < (hi - lo).toNat
  · rw [List.getElem?_range hi] at h
    exact ⟨hi, (Option.some.inj h).symm⟩
  · rw [List.getElem?_eq_none (by simpa using hi)] at h
    cases h
theorem rangeD_len (lo hi : Int) : (rangeD lo hi).length = (hi - lo).toNat := by simp [rangeD]
theorem rangeD_nat (n : Nat) : rangeD 0 (n : Int) = (List.range n).map fun (i : Nat) => D.int (i : Int) := by
  unfold rangeD
  rw [show ((n : Int) - 0).toNat = n by omega]
  apply List.map_congr_left
  intro i _
  rw [Int.zero_add]
theorem mem_rangeD {lo hi : Int} {d : D} (h : d ∈ rangeD lo hi) : ∃ i : Nat, i < (hi - lo).toNat ∧ d = .int (lo + i) := by
  obtain ⟨i, hi, e⟩ := List.mem_map.mp h
  exact ⟨i, List.mem_range.mp hi, e.symm⟩
theorem flats_int : ∀ ns : List Int, flats (intD ns) = true
  | [] => rfl
  | n :: ns => by
    show (true && flats (intD ns)) = true
    rw [flats_int ns]
    rfl
theorem flats0_int (ns : List Int) : (intD ns).all flat0 = true := by
  induction ns with
  | nil => rfl
  | cons n ns ih =>
    show (true && (intD ns).all flat0) = true
    rw [ih]
    rfl
theorem deeps_int : ∀ ns : List Int, deeps (intD ns) = 0
  | [] => rfl
  | n :: ns => by
    show max 0 (deeps (intD ns)) = 0
    rw [deeps_int ns]
    rfl
/-! no tuple is longer than a store can tell -/
mutual
def slim : D → Bool
  | .tup xs => decide (xs.length ≤ szL) && slims xs
  | _ => true
def slims : List D → Bool
  | [] => true
  | x :: xs => slim x && slims xs
end
theorem slims_int : ∀ ns : List Int, slims (intD ns) = true
  | [] => rfl
  | n :: ns => by
    show (true && slims (intD ns)) = true
    rw [slims_int ns]
    rfl
theorem flats_get {xs : List D} {i : Nat} {d : D} : flats xs = true → xs[i]? = some d → flat d = true := by
  induction xs generalizing i with
  | nil => intro _ h; cases h
  | cons x xs ih =>
    intro h e
    have h := Bool.and_eq_true_iff.mp (show (flat x && flats xs) = true from h)
    cases i with
    | zero => rw [← Option.some.inj e]; exact h.1
    | succ i => exact ih h.2 e
theorem slims_get {xs : List D} {i : Nat} {d : D} : slims xs = true → xs[i]? = some d → slim d = true := by
  induction xs generalizing i with
  | nil => intro _ h; cases h
  | cons x xs ih =>
    intro h e
    have h := Bool.and_eq_true_iff.mp (show (slim x && slims xs) = true from h)
    cases i with
    | zero => rw [← Option.some.inj e]; exact h.1
    | succ i => exact ih h.2 e
theorem deeps_get {xs : List D} {i : Nat} {d : D} : xs[i]? = some d → deep d ≤ deeps xs := by
  induction xs generalizing i with
  | nil => intro h; cases h
  | cons x xs ih =>
    intro e
    show deep d ≤ max (deep x) (deeps xs)
    cases i with
    | zero => rw [← Option.some.inj e]; omega
    | succ i => have := ih e; omega
mutual
theorem eqD_self : ∀ d : D, flat d = true → eqD d d = true
  | .non, _ => rfl
  | .bl b, _ => by cases b <;> rfl
  | .int i, _ => by show decide (i = i) = true; simp
  | .str x, _ => by show decide (x = x) = true; simp
  | .tup xs, h => eqDs_self xs h
  | .rol _, h => by cases (show false = true from h)
  | .ref _, h => by cases (show false = true from h)
  | .ty _, h => by cases (show false = true from h)
theorem eqDs_self : ∀ ds : List D, flats ds = true → eqDs ds ds = true
  | [], _ => rfl
  | d :: ds, h => by
    have h := Bool.and_eq_true_iff.mp (show (flat d && flats ds) = true from h)
    show (eqD d d && eqDs ds ds) = true
    rw [eqD_self d h.1, eqDs_self ds h.2]
    rfl
end

/-! ### sorting -/
theorem perm_map {α β : Type} (f : α → β) : ∀ {ys zs : List β}, ys.Perm zs → ∀ l : List α, zs = l.map f → ∃ l' : List α, l'.Perm l ∧ ys = l'.map f := by
  intro ys zs p
  induction p with
  | nil => intro l e; cases l with
    | nil => exact ⟨[], .refl _, rfl⟩
    | cons _ _ => cases e
  | cons x p ih =>
    intro l e
    cases l with
    | nil => cases e
    | cons a l =>
      rw [List.map_cons] at e
      injection e with e1 e2
      obtain ⟨l', h1, h2⟩ := ih l e2
      exact ⟨a :: l', h1.cons a, by rw [List.map_cons, ← h2, e1]⟩
  | swap x y l0 =>
    intro l e
    match l, e with
    | a :: b :: l, e =>
      rw [List.map_cons, List.map_cons] at e
      injection e with e1 e2
      injection e2 with e2 e3
      exact ⟨b :: a :: l, .swap .., by rw [List.map_cons, List.map_cons, e1, e2, e3]⟩
  | trans p1 p2 ih1 ih2 =>
    intro l e
    obtain ⟨l2, h1, h2⟩ := ih2 l e
    obtain ⟨l1, h3, h4⟩ := ih1 l2 h2
    exact ⟨l1, h3.trans h1, h4⟩
/-- two ascending lists of the same members -/
theorem asc_one : ∀ {a b : List Int}, a.Pairwise (· < ·) → b.Pairwise (· < ·) → (∀ x, x ∈ a ↔ x ∈ b) → a = b
  | [], [], _, _, _ => rfl
  | [], y :: b, _, _, h => by have := (h y).mpr List.mem_cons_self; cases this
  | x :: a, [], _, _, h => by have := (h x).mp List.mem_cons_self; cases this
  | x :: a, y :: b, pa, pb, h => by
    rw [List.pairwise_cons] at pa pb
    have e : x = y := by
      rcases List.mem_cons.mp ((h x).mp List.mem_cons_self) with e | m1
      · exact e
      · rcases List.mem_cons.mp ((h y).mpr List.mem_cons_self) with e | m2
        · exact e.symm
        · have := pb.1 x m1
          have := pa.1 y m2
          omega
    subst e
    rw [asc_one pa.2 pb.2 fun z => ⟨fun hz => ?_, fun hz => ?_⟩]
    · rcases List.mem_cons.mp ((h z).mp (List.mem_cons_of_mem _ hz)) with e | m
      · have := pa.1 z hz
        omega
      · exact m
    · rcases List.mem_cons.mp ((h z).mpr (List.mem_cons_of_mem _ hz)) with e | m
      · have := pb.1 z hz
        omega
      · exact m

/-! ### comprehensions that change nothing: f tells what each item gives -/
theorem Lc_fun {items : List D} {guard : Sto → Prop} {S1 : Sto} {step : D → Sto → (Option D → Sto → Prop) → Prop} {Q : VK} (f : D → Option D) (hz : items.length ≤ szL) (hg : ∀ S', Sub S1 S' → guard S')
    (hs : ∀ (i : Nat) (d : D) S' R, items[i]? = some d → Sub S1 S' → (∀ S2, Sub S' S2 → R (f d) S2) → step d S' R) (hd : ∀ S', Sub S1 S' → Q (.ref S'.length) (S' ++ [.lst (items.filterMap f)])) : Lc items guard S1 step Q := by
  refine ⟨hz, fun i acc S' => Sub S1 S' ∧ acc = (items.take i).filterMap f, ⟨.refl _, rfl⟩, fun i acc S' h => hg S' h.1, ?_, ?_⟩
  · rintro i d acc S' hi ⟨h1, rfl⟩
    refine hs i d S' _ hi h1 fun S2 h2 => ⟨h1.trans h2, ?_⟩
    rw [List.take_add_one, hi]
    cases e : f d with
    | none => simp [e]
    | some y => simp [e]
  · rintro acc S' ⟨h1, rfl⟩
    rw [List.take_length]
    exact hd S' h1

theorem ite_d {c A B : Prop} {_ : Decidable c} (h1 : c → A) (h2 : ¬ c → B) : if decide c = true then A else B := by
  by_cases h : c
  · rw [if_pos (decide_eq_true h)]; exact h1 h
  · rw [if_neg (by simpa using h)]; exact h2 h
theorem okII (i j : Int) : flat (.int i) = true ∧ flat (.int j) = true ∧ deep (.int i) ≤ 64 ∧ deep (.int j) ≤ 64 := ⟨rfl, rfl, Nat.zero_le _, Nat.zero_le _⟩
theorem goEq {i j : Int} {S : Sto} {Q : VK} (h : Q (.bl (decide (i = j))) S) : (flat (.int i) = true ∧ flat (.int j) = true ∧ deep (.int i) ≤ 64 ∧ deep (.int j) ≤ 64) ∧ Q (.bl (eqD (.int i) (.int j))) S := ⟨okII i j, h⟩
theorem goNe {i j : Int} {S : Sto} {Q : VK} (h : Q (.bl (!decide (i = j))) S) : (flat (.int i) = true ∧ flat (.int j) = true ∧ deep (.int i) ≤ 64 ∧ deep (.int j) ≤ 64) ∧ Q (.bl (!eqD (.int i) (.int j))) S := ⟨okII i j, h⟩
theorem Loop_mk {items : List D} {guard : Sto → Prop} {step : D → Env → Sto → (Env → Sto → Prop) → Prop} {done : Env → Sto → Prop} {ρ : Env} {S : Sto} (I : Nat → Env → Sto → Prop)
    (h0 : I 0 ρ S) (hg : ∀ i ρ' S', I i ρ' S' → guard S') (hs : ∀ i d ρ' S', items[i]? = some d → I i ρ' S' → step d ρ' S' (I (i + 1))) (hd : ∀ ρ' S', I items.length ρ' S' → done ρ' S') : Loop items guard step done ρ S := ⟨I, h0, hg, hs, hd⟩
theorem fmod_lt {a b : Int} (h : 0 < b) : 0 ≤ a.fmod b ∧ a.fmod b < b := ⟨Int.fmod_nonneg_of_pos a h, Int.fmod_lt_of_pos a h⟩
theorem atZ_intD {ns : List Int} {i : Int} (h0 : 0 ≤ i) (h1 : i < ns.length) : atZ (intD ns) i = some (.int (ns.getD i.toNat 0)) := by
  obtain ⟨n, h, e⟩ := intD_atZ h0 h1
  rw [e, List.getD_eq_getElem?_getD, h]
  rfl
theorem ixZ_ok {n : Nat} {i : Int} (h0 : 0 ≤ i) (h1 : i < n) : ixZ n i = some i.toNat := by
  unfold ixZ
  rw [if_pos h0, if_pos h1]
theorem intD_set (ns : List Int) (i : Nat) (x : Int) : (intD ns).set i (.int x) = intD (ns.set i x) := by show (ns.map D.int).set i (D.int x) = (ns.set i x).map D.int; rw [List.map_set]
theorem smallMul {i j : Int} (h : j.natAbs < 2 ^ 64) : MulOk i j := Or.inl (Or.inr h)
theorem smallMul' {i j : Int} (h : i.natAbs < 2 ^ 64) : MulOk i j := Or.inl (Or.inl h)
abbrev natD (ns : List Nat) : List D := intD (ns.map fun (k : Nat) => (k : Int))
theorem intD_len (ns : List Int) : (intD ns).length = ns.length := List.length_map ..
theorem natD_len (ns : List Nat) : (natD ns).length = ns.length := by rw [intD_len, List.length_map]
theorem natD_get {ns : List Nat} {i : Nat} {d : D} (h : (natD ns)[i]? = some d) : ∃ n : Nat, ns[i]? = some n ∧ d = .int n := by
  obtain ⟨x, h1, rfl⟩ := intD_get h
  rw [List.getElem?_map] at h1
  cases e : ns[i]? with
  | none => rw [e] at h1; cases h1
  | some n => rw [e] at h1; exact ⟨n, rfl, by rw [← Option.some.inj h1]⟩
/-- over a range -/
theorem Lc_rf {n : Nat} {guard : Sto → Prop} {S1 : Sto} {step : D → Sto → (Option D → Sto → Prop) → Prop} {Q : VK} (p : Nat → Bool) (f : Nat → D) (hz : n ≤ szL) (hg : ∀ S', Sub S1 S' → guard S')
    (hs : ∀ (i : Nat) S' R, i < n → Sub S1 S' → (∀ S2, Sub S' S2 → R (if p i = true then some (f i) else none) S2) → step (.int (i : Int)) S' R) (hd : ∀ S', Sub S1 S' → Q (.ref S'.length) (S' ++ [.lst (((List.range n).filter p).map f)])) : Lc (rangeD 0 (n : Int)) guard S1 step Q := by
  refine ⟨by rw [rangeD_len]; omega, fun i acc S' => Sub S1 S' ∧ acc = ((List.range i).filter p).map f, ⟨.refl _, rfl⟩, fun i acc S' h => hg S' h.1, ?_, ?_⟩
  · rintro i d acc S' hi ⟨h1, rfl⟩
    obtain ⟨hi1, rfl⟩ := rangeD_get hi
    rw [Int.zero_add]
    refine hs i S' _ (by omega) h1 fun S2 h2 => ⟨h1.trans h2, ?_⟩
    rw [List.range_succ, List.filter_append, List.map_append]
    cases e : p i <;> simp [e]
  · rintro acc S' ⟨h1, rfl⟩
    rw [rangeD_len, show ((n : Int) - 0).toNat = n by omega]
    exact hd S' h1
theorem Lc_rm {n : Nat} {guard : Sto → Prop} {S1 : Sto} {step : D → Sto → (Option D → Sto → Prop) → Prop} {Q : VK} (f : Nat → D) (hz : n ≤ szL) (hg : ∀ S', Sub S1 S' → guard S')
    (hs : ∀ (i : Nat) S' R, i < n → Sub S1 S' → (∀ S2, Sub S' S2 → R (some (f i)) S2) → step (.int (i : Int)) S' R) (hd : ∀ S', Sub S1 S' → Q (.ref S'.length) (S' ++ [.lst ((List.range n).map f)])) : Lc (rangeD 0 (n : Int)) guard S1 step Q := by
  refine Lc_rf (fun _ => true) f hz hg (fun i S' R h1 h2 h3 => hs i S' R h1 h2 fun S2 h4 => h3 S2 h4) fun S' h => ?_
  rw [List.filter_eq_self.mpr (fun _ _ => rfl)]
  exact hd S' h
/-- over any list that is known by a map -/
theorem Lc_lf {α : Type} {xs : List α} {e : α → D} {guard : Sto → Prop} {S1 : Sto} {step : D → Sto → (Option D → Sto → Prop) → Prop} {Q : VK} (p : α → Bool) (f : α → D) (hz : xs.length ≤ szL) (hg : ∀ S', Sub S1 S' → guard S')
    (hs : ∀ (x : α) S' R, x ∈ xs → Sub S1 S' → (∀ S2, Sub S' S2 → R (if p x = true then some (f x) else none) S2) → step (e x) S' R) (hd : ∀ S', Sub S1 S' → Q (.ref S'.length) (S' ++ [.lst ((xs.filter p).map f)])) : Lc (xs.map e) guard S1 step Q := by
  refine ⟨by rw [List.length_map]; exact hz, fun i acc S' => Sub S1 S' ∧ acc = ((xs.take i).filter p).map f, ⟨.refl _, rfl⟩, fun i acc S' h => hg S' h.1, ?_, ?_⟩
  · rintro i d acc S' hi ⟨h1, rfl⟩
    rw [List.getElem?_map] at hi
    cases ex : xs[i]? with
    | none => rw [ex] at hi; cases hi
    | some x =>
      rw [ex] at hi
      cases Option.some.inj hi
      refine hs x S' _ (List.mem_of_getElem? ex) h1 fun S2 h2 => ⟨h1.trans h2, ?_⟩
      rw [List.take_add_one, ex]
      cases e : p x <;> simp [e]
  · rintro acc S' ⟨h1, rfl⟩
    rw [List.length_map, List.take_length]
    exact hd S' h1
theorem Lc_lm {α : Type} {xs : List α} {e : α → D} {guard : Sto → Prop} {S1 : Sto} {step : D → Sto → (Option D → Sto → Prop) → Prop} {Q : VK} (f : α → D) (hz : xs.length ≤ szL) (hg : ∀ S', Sub S1 S' → guard S')
    (hs : ∀ (x : α) S' R, x ∈ xs → Sub S1 S' → (∀ S2, Sub S' S2 → R (some (f x)) S2) → step (e x) S' R) (hd : ∀ S', Sub S1 S' → Q (.ref S'.length) (S' ++ [.lst (xs.map f)])) : Lc (xs.map e) guard S1 step Q := by
  refine Lc_lf (fun _ => true) f hz hg (fun x S' R h1 h2 h3 => hs x S' R h1 h2 fun S2 h4 => h3 S2 h4) fun S' h => ?_
  rw [List.filter_eq_self.mpr (fun _ _ => rfl)]
  exact hd S' h
theorem atZ_intN {ns : List Int} {i : Nat} (h : i < ns.length) : atZ (intD ns) (i : Int) = some (.int (ns.getD i 0)) := by
  have := atZ_intD (ns := ns) (i := (i : Int)) (by omega) (by omega)
  rwa [Int.toNat_natCast] at this
theorem flats_map {α : Type} {f : α → D} : ∀ {l : List α}, (∀ x ∈ l, flat (f x) = true) → flats (l.map f) = true
  | [], _ => rfl
  | x :: l, h => by
    show (flat (f x) && flats (l.map f)) = true
    rw [h x List.mem_cons_self, flats_map fun y hy => h y (List.mem_cons_of_mem _ hy)]
    rfl
theorem slims_map {α : Type} {f : α → D} : ∀ {l : List α}, (∀ x ∈ l, slim (f x) = true) → slims (l.map f) = true
  | [], _ => rfl
  | x :: l, h => by
    show (slim (f x) && slims (l.map f)) = true
    rw [h x List.mem_cons_self, slims_map fun y hy => h y (List.mem_cons_of_mem _ hy)]
    rfl
theorem deeps_map {α : Type} {f : α → D} {N : Nat} : ∀ {l : List α}, (∀ x ∈ l, deep (f x) ≤ N) → deeps (l.map f) ≤ N
  | [], _ => Nat.zero_le _
  | x :: l, h => by
    show max (deep (f x)) (deeps (l.map f)) ≤ N
    have := h x List.mem_cons_self
    have := deeps_map (l := l) fun y hy => h y (List.mem_cons_of_mem _ hy)
    omega
/-- ints sort -/
theorem sortOk_int (ns : List Int) : sortOk (intD ns) := by
  refine ⟨flats_int ns, by rw [deeps_int]; omega, ?_, Or.inr ?_⟩
  · intro a ha b hb
    obtain ⟨x, _, rfl⟩ := List.mem_map.mp ha
    obtain ⟨y, _, rfl⟩ := List.mem_map.mp hb
    rfl
  · intro a ha
    obtain ⟨x, _, rfl⟩ := List.mem_map.mp ha
    exact ⟨by simp, by simp⟩
theorem sort_int {ns : List Int} {ys : List D} (hp : ys.Perm (intD ns)) (hw : ys.Pairwise (fun a b => ltD b a = false)) : ∃ ms : List Int, ys = intD ms ∧ ms.Perm ns ∧ ms.Pairwise (· ≤ ·) := by
  obtain ⟨ms, h1, rfl⟩ := perm_map _ hp _ rfl
  refine ⟨ms, rfl, h1, ?_⟩
  rw [List.pairwise_map] at hw
  refine hw.imp fun {a b} h => ?_
  have h : decide (b < a) = false := h
  simpa using h
theorem get_at {S : Sto} {n : Nat} {xs : List D} (h : S[n]? = some (.lst xs)) : S[n]? = some (.lst xs) := h
theorem natD_map (l : List Nat) : natD l = l.map fun (k : Nat) => D.int (k : Int) := by simp [natD, intD]
theorem any_int (ns : List Int) (x : Int) : (intD ns).any (fun y => eqD y (.int x)) = decide (x ∈ ns) := by
  induction ns with
  | nil => simp
  | cons n ns ih =>
    show (eqD (.int n) (.int x) || (intD ns).any fun y => eqD y (.int x)) = _
    rw [ih, show eqD (.int n) (.int x) = decide (n = x) from rfl]
    simp only [List.mem_cons, Bool.decide_or]
    congr 1
    simp [eq_comm]
theorem any_nat (ns : List Nat) (x : Nat) : (natD ns).any (fun y => eqD y (.int x)) = decide (x ∈ ns) := by
  rw [any_int]
  have : ((x : Int) ∈ ns.map fun (k : Nat) => (k : Int)) ↔ x ∈ ns := by
    rw [List.mem_map]
    exact ⟨fun ⟨a, h, e⟩ => by rwa [show x = a by omega], fun h => ⟨x, h, rfl⟩⟩
  simp only [this]
theorem Ch.put {S S' : Sto} {n m : Nat} {o : O} (h : Ch n S S') (hm : S.length ≤ m) : Ch n S (S'.set m o) := fun k u hk e => by
  rw [at_set_ne (by have := at_lt e; omega)]
  exact h k u hk e
theorem Ch.app {S S' : Sto} {n : Nat} (h : Ch n S S') (l : Sto) : Ch n S (S' ++ l) := h.trans (Sub.push S' l).ch
theorem Dr.app {n : Nat} {S : Sto} (d : Dr n S) (l : Sto) : Dr n (S ++ l) := d.sub (Sub.push S l)
theorem Dr.put {n m : Nat} {S : Sto} {o : O} (d : Dr n S) (h : n ≠ m) : Dr n (S.set m o) := let ⟨ns, e⟩ := d; ⟨ns, by rw [at_set_ne h]; exact e⟩
theorem Dr.lt {n : Nat} {S : Sto} (d : Dr n S) : n < S.length := let ⟨_, e⟩ := d; at_lt e
theorem Ch.len {n : Nat} {S S' : Sto} (h : Ch n S S') (hn : n < S'.length) : S.length ≤ S'.length := by
  false_or_by_contra
  rename_i hc
  have h1 : S.length - 1 < S.length := by omega
  by_cases e : S.length - 1 = n
  · omega
  · have := at_lt (h (S.length - 1) _ e (List.getElem?_eq_getElem h1))
    omega
theorem Sub.len {S S' : Sto} (h : Sub S S') : S.length ≤ S'.length := by
  false_or_by_contra
  rename_i hc
  have h1 : S.length - 1 < S.length := by omega
  have := at_lt (h (S.length - 1) _ (List.getElem?_eq_getElem h1))
  omega
theorem ifT {c : Bool} {A B : Prop} {_ : Decidable (c = true)} (h : c = true) (a : A) : if c = true then A else B := by rw [if_pos h]; exact a
theorem ifF {c : Bool} {A B : Prop} {_ : Decidable (c = true)} (h : c = false) (b : B) : if c = true then A else B := by rw [if_neg (by rw [h]; decide)]; exact b
theorem it_at {S : Sto} {n : Nat} {xs : List D} {A : List D → Prop} (h : S[n]? = some (.lst xs)) (a : A xs) : match S[n]? with
    | some (.lst ys) => A ys
    | _ => False := by
  rw [h]
  exact a
theorem eqD_ii (i j : Int) : eqD (.int i) (.int j) = decide (i = j) := rfl
end DL
set_option linter.all false
set_option maxRecDepth 100000
set_option maxHeartbeats 4000000
/-! DLQ: fractions in lowest terms as pairs: rationals. -/
namespace DL
@[reducible] def qD (q : Rat) : D := .tup [.int q.num, .int q.den]
/-- n divided by d in lowest terms, with a divisor that is the greatest common one, with d's sign -/
theorem ratio_eq {n d : Int} (hd : d ≠ 0) : n.fdiv (if d < 0 then -((Nat.gcd n.natAbs d.natAbs : Nat) : Int) else (Nat.gcd n.natAbs d.natAbs : Nat)) = (Rat.divInt n d).num ∧ d.fdiv (if d < 0 then -((Nat.gcd n.natAbs d.natAbs : Nat) : Int) else (Nat.gcd n.natAbs d.natAbs : Nat)) = (Rat.divInt n d).den := by
  rw [Rat.num_divInt, Rat.den_divInt, if_neg hd]
  have e : Int.gcd d n = Nat.gcd n.natAbs d.natAbs := Nat.gcd_comm _ _
  have hg : 0 < Nat.gcd n.natAbs d.natAbs := Nat.gcd_pos_of_pos_right _ (by omega)
  have h1 : ((Int.gcd d n : Nat) : Int) ∣ n := Int.gcd_dvd_right ..
  have h2 : ((Int.gcd d n : Nat) : Int) ∣ d := Int.gcd_dvd_left ..
  rw [e] at h1 h2 ⊢
  generalize Nat.gcd n.natAbs d.natAbs = g at *
  obtain ⟨k, rfl⟩ := h1
  obtain ⟨m, rfl⟩ := h2
  have hg0 : (g : Int) ≠ 0 := by omega
  have hm : m ≠ 0 := fun h => hd (by rw [h, Int.mul_zero])
  have hnat : ((g : Int) * m).natAbs / g = m.natAbs := by
    rw [Int.natAbs_mul, Int.natAbs_natCast, Nat.mul_div_cancel_left _ hg]
  rw [hnat]
  rcases Int.lt_or_gt_of_ne hm with h | h
  · have hs : (g : Int) * m < 0 := Int.mul_neg_of_pos_of_neg (by omega) h
    rw [if_pos hs, Int.sign_eq_neg_one_of_neg hs]
    have e1 : ∀ x : Int, ((g : Int) * x).fdiv (-(g : Int)) = -x := fun x => by
      rw [show (g : Int) * x = -(g : Int) * -x by rw [Int.neg_mul_neg]]
      exact Int.mul_fdiv_cancel_left _ (by omega)
    rw [e1, e1]
    refine ⟨?_, by omega⟩
    rw [show (-1 : Int) * ((g : Int) * k) = (g : Int) * -k by rw [Int.mul_neg]; omega, Int.mul_ediv_cancel_left _ hg0]
  · have hs : 0 < (g : Int) * m := Int.mul_pos (by omega) h
    rw [if_neg (by omega), Int.sign_eq_one_of_pos hs, Int.one_mul, Int.mul_fdiv_cancel_left _ hg0, Int.mul_fdiv_cancel_left _ hg0, Int.mul_ediv_cancel_left _ hg0]
    exact ⟨rfl, by omega⟩
theorem divInt_eq (n d : Int) : Rat.divInt n d = (n : Rat) / (d : Rat) := Rat.divInt_eq_div n d
theorem q_plus (a b : Rat) : Rat.divInt (a.num * b.den + b.num * a.den) (a.den * b.den) = a + b := by
  have ha := a.den_nz
  have hb := b.den_nz
  rw [← Rat.divInt_add_divInt _ _ (by omega) (by omega), Rat.num_divInt_den, Rat.num_divInt_den]
theorem q_times (a b : Rat) : Rat.divInt (a.num * b.num) (a.den * b.den) = a * b := by
  rw [← Rat.divInt_mul_divInt, Rat.num_divInt_den, Rat.num_divInt_den]
theorem q_minus (a b : Rat) : Rat.divInt (a.num * b.den - b.num * a.den) (a.den * b.den) = a - b := by
  have h := q_plus a (-b)
  rw [Rat.neg_num, Rat.neg_den, Int.neg_mul] at h
  rw [Rat.sub_eq_add_neg, ← h]
  rfl
theorem q_over (a b : Rat) : Rat.divInt (a.num * b.den) (a.den * b.num) = a / b := by
  rw [Rat.div_def, Rat.inv_def]
  conv => rhs; rw [← Rat.num_divInt_den a]
  rw [Rat.divInt_mul_divInt]
theorem q_lt (a b : Rat) : decide (a.num * (b.den : Int) < b.num * (a.den : Int)) = decide (a < b) := by
  rw [decide_eq_decide, Rat.lt_iff]
theorem qD_int (i : Int) : qD (i : Rat) = .tup [.int i, .int 1] := by
  unfold qD
  rw [Rat.num_intCast, Rat.den_intCast]
  rfl
theorem qD_eq {a b : Rat} : eqD (qD a) (qD b) = decide (a = b) := by
  show (decide (a.num = b.num) && (decide ((a.den : Int) = b.den) && true)) = decide (a = b)
  rw [Bool.and_true, ← Bool.decide_and, decide_eq_decide]
  exact ⟨fun ⟨h1, h2⟩ => Rat.ext h1 (by omega), fun h => by rw [h]; exact ⟨rfl, rfl⟩⟩
theorem qD_ok (a b : Rat) : flat (qD a) = true ∧ flat (qD b) = true ∧ deep (qD a) ≤ 64 ∧ deep (qD b) ≤ 64 := ⟨rfl, rfl, by show max 0 (max 0 0) + 1 ≤ 64; decide, by show max 0 (max 0 0) + 1 ≤ 64; decide⟩
/-! sizes -/
/-- a fraction that the machine reckons with -/
def sm (q : Rat) : Prop := q.den < 2 ^ 2000 ∧ q.num.natAbs < 2 ^ 4000
theorem sm_mul {i j : Int} (hi : i.natAbs < 2 ^ 100000) (hj : j.natAbs < 2 ^ 100000) : MulOk i j := Or.inr ⟨100000, 100000, hi, hj, by decide⟩
theorem pow_le2 {a b : Nat} (h : a ≤ b) : 2 ^ a ≤ 2 ^ b := Nat.pow_le_pow_right (by decide) h
/-- q times P is whole -/
def Ov (P : Nat) (q : Rat) : Prop := q.den ∣ P
theorem Ov.mono {P P' : Nat} {q : Rat} (h : Ov P q) (hd : P ∣ P') : Ov P' q := Nat.dvd_trans h hd
theorem q_den (q : Rat) : q * (q.den : Rat) = (q.num : Rat) := by
  have h := Rat.num_divInt_den q
  rw [Rat.divInt_eq_div] at h
  have hd : ((q.den : Nat) : Rat) ≠ 0 := by
    have := q.den_nz
    intro e
    exact this (by exact_mod_cast e)
  have e : ((q.den : Int) : Rat) = ((q.den : Nat) : Rat) := rfl
  rw [e] at h
  conv => lhs; lhs; rw [← h]
  rw [Rat.div_mul_cancel hd]
theorem Ov_iff {P : Nat} {q : Rat} : Ov P q ↔ ∃ z : Int, q * (P : Rat) = (z : Rat) := by
  constructor
  · rintro ⟨m, rfl⟩
    refine ⟨q.num * m, ?_⟩
    have := q_den q
    rw [Rat.natCast_mul, ← Rat.mul_assoc, this, Rat.intCast_mul]
    rfl
  · rintro ⟨z, h⟩
    have h2 := q_den q
    have h3 : ((q.num * P : Int) : Rat) = ((z * q.den : Int) : Rat) := by
      rw [Rat.intCast_mul, Rat.intCast_mul, ← h2, ← h]
      show q * (q.den : Rat) * (P : Rat) = q * (P : Rat) * (q.den : Rat)
      rw [Rat.mul_assoc, Rat.mul_comm (q.den : Rat), ← Rat.mul_assoc]
    have h4 : q.num * P = z * q.den := Rat.intCast_inj.mp h3
    have h5 : q.den ∣ q.num.natAbs * P := by
      have := congrArg Int.natAbs h4
      rw [Int.natAbs_mul, Int.natAbs_mul, Int.natAbs_natCast, Int.natAbs_natCast] at this
      rw [this]
      exact Nat.dvd_mul_left _ _
    exact (Nat.Coprime.symm q.reduced).dvd_of_dvd_mul_left h5
theorem Ov_self (q : Rat) : Ov q.den q := Nat.dvd_refl _
theorem Ov_int (P : Nat) (i : Int) : Ov P (i : Rat) := by unfold Ov; rw [Rat.den_intCast]; exact Nat.one_dvd _
theorem Ov.add {P : Nat} {a b : Rat} (ha : Ov P a) (hb : Ov P b) : Ov P (a + b) := by
  obtain ⟨x, hx⟩ := Ov_iff.mp ha
  obtain ⟨y, hy⟩ := Ov_iff.mp hb
  exact Ov_iff.mpr ⟨x + y, by rw [Rat.add_mul, hx, hy, Rat.intCast_add]⟩
theorem Ov.neg {P : Nat} {a : Rat} (ha : Ov P a) : Ov P (-a) := by
  unfold Ov
  rw [Rat.neg_den]
  exact ha
theorem Ov.sub {P : Nat} {a b : Rat} (ha : Ov P a) (hb : Ov P b) : Ov P (a - b) := by
  rw [Rat.sub_eq_add_neg]
  exact ha.add hb.neg
theorem Ov.mul {P R : Nat} {a b : Rat} (ha : Ov P a) (hb : Ov R b) : Ov (P * R) (a * b) := by
  obtain ⟨x, hx⟩ := Ov_iff.mp ha
  obtain ⟨y, hy⟩ := Ov_iff.mp hb
  refine Ov_iff.mpr ⟨x * y, ?_⟩
  rw [Rat.intCast_mul, ← hx, ← hy, Rat.natCast_mul]
  grind
theorem Ov.over {P : Nat} {a : Rat} (ha : Ov P a) {k : Nat} (hk : k ≠ 0) : Ov (P * k) (a / (k : Rat)) := by
  obtain ⟨x, hx⟩ := Ov_iff.mp ha
  refine Ov_iff.mpr ⟨x, ?_⟩
  have h0 : (k : Rat) ≠ 0 := fun e => hk (by exact_mod_cast e)
  rw [Rat.natCast_mul, ← hx]
  grind
/-- a bound for the number and for what it is told over -/
theorem sm_of {P M : Nat} {q : Rat} (h : Ov P q) (hP : 0 < P) (h1 : -(M : Rat) ≤ q) (h2 : q ≤ (M : Rat)) (hp : P < 2 ^ 2000) (hm : M * P < 2 ^ 4000) : sm q := by
  have hd : q.den ≤ P := Nat.le_of_dvd hP h
  refine ⟨by omega, ?_⟩
  have e := q_den q
  have hd0 : (0 : Rat) ≤ (q.den : Rat) := by exact_mod_cast Nat.zero_le _
  have u : (q.num : Rat) ≤ ((M * q.den : Nat) : Rat) := by
    rw [← e, Rat.natCast_mul]
    exact Rat.mul_le_mul_of_nonneg_right h2 hd0
  have l : ((-(M * q.den : Nat) : Int) : Rat) ≤ (q.num : Rat) := by
    rw [← e, Rat.intCast_neg]
    have := Rat.mul_le_mul_of_nonneg_right h1 hd0
    rw [Rat.neg_mul] at this
    rw [show ((((M * q.den : Nat) : Int)) : Rat) = ((M * q.den : Nat) : Rat) from rfl, Rat.natCast_mul]
    exact this
  have u2 : q.num ≤ ((M * q.den : Nat) : Int) := Rat.intCast_le_intCast.mp u
  have l2 : -((M * q.den : Nat) : Int) ≤ q.num := Rat.intCast_le_intCast.mp l
  have : M * q.den ≤ M * P := Nat.mul_le_mul_left _ hd
  omega
end DL
set_option linter.all false
set_option maxRecDepth 100000
/-! the parts of the defs of oddsweighed_k96_whole_letters_in_envelop -/
namespace K96
open DL
@[reducible] def dNOTHING : D := .tup [.int 0, .int 1]
/-! divisor(one, other); slots: 0 one, 1 other -/
def w_divisor  : WS :=
  (sRet (wB rGcd (wCons (wVar 0) (wCons (wVar 1) wNil))))
/-! fraction(n, d); slots: 0 n, 1 d, 2 common -/
def w_fraction (sp_divisor : Spc) : WS :=
  (sSeq (sAsg (wCall 2 sp_divisor (wCons (wVar 0) (wCons (wVar 1) wNil))) (gN 2))
    (sSeq (sIf (wtVal (wOp rLt (wVar 1) (wC (.int 0)))) (sAsg (wUn rNeg (wVar 2)) (gN 2)) sNext)
    (sRet (wTup (wCons (wOp rDiv (wVar 0) (wVar 2)) (wCons (wOp rDiv (wVar 1) (wVar 2)) wNil))))))
/-! all_wrong(n); slots: 0 n, 1 before, 2 now, 3 many -/
def w_all_wrong  : WS :=
  (sSeq (sAsg (wTup (wCons (wC (.int 1)) (wCons (wC (.int 0)) wNil))) (gT [1, 2]))
    (sSeq (sIf (wtVal (wOp rEq (wVar 0) (wC (.int 0)))) (sRet (wVar 1)) sNext)
    (sSeq (sFor (wR2 (wC (.int 2)) (wOp rAdd (wVar 0) (wC (.int 1)))) (gN 3) (sPar 1 2 (wVar 2) (wOp rMul (wOp rSub (wVar 3) (wC (.int 1))) (wOp rAdd (wVar 1) (wVar 2)))))
    (sRet (wVar 2)))))
/-! ways(n, k); slots: 0 n, 1 k, 2 found, 3 step -/
def w_ways  : WS :=
  (sSeq (sIf (wtNot (wtVal (wChain rLe rLe (wC (.int 0)) (wVar 1) (wVar 0)))) (sRet (wC (.int 0))) sNext)
    (sSeq (sAsg (wC (.int 1)) (gN 2))
    (sSeq (sFor (wR1 (wB rMin2 (wCons (wVar 1) (wCons (wOp rSub (wVar 0) (wVar 1)) wNil)))) (gN 3) (sAsg (wOp rDiv (wOp rMul (wVar 2) (wOp rSub (wVar 0) (wVar 3))) (wOp rAdd (wVar 3) (wC (.int 1)))) (gN 2)))
    (sRet (wVar 2)))))
/-! just_right(n, k); slots: 0 n, 1 k -/
def w_just_right (sp_ways : Spc) (sp_all_wrong : Spc) : WS :=
  (sRet (wIf (wtVal (wChain rLe rLe (wC (.int 0)) (wVar 1) (wVar 0))) (wOp rMul (wCall 2 sp_ways (wCons (wVar 0) (wCons (wVar 1) wNil))) (wCall 1 sp_all_wrong (wCons (wOp rSub (wVar 0) (wVar 1)) wNil))) (wC (.int 0))))
/-! rings_of(order); slots: 0 order, 1 found, 2 seen, 3 letter, 4 ring -/
def w_rings_of  : WS :=
  (sSeq (sAsg (wLst wNil) (gN 1))
    (sSeq (sAsg (wLst wNil) (gN 2))
    (sSeq (sFor (wR1 (wB rLen (wCons (wVar 0) wNil))) (gN 3) (sIf (wtVal (wOp (rIn true) (wVar 3) (wVar 2))) (sSeq (sAsg (wLst (wCons (wVar 3) wNil)) (gN 4))
    (sSeq (sWhile (wtVal (wOp rNe (wOp rIx (wVar 0) (wOp rIx (wVar 4) (wUn rNeg (wC (.int 1))))) (wVar 3))) (sDrop (wM rAppend (wVar 4) (wCons (wOp rIx (wVar 0) (wOp rIx (wVar 4) (wUn rNeg (wC (.int 1))))) wNil))))
    (sSeq (sAug 2 (wVar 4) rIAdd)
    (sDrop (wM rAppend (wVar 1) (wCons (wB rTuple (wCons (wVar 4) wNil)) wNil)))))) sNext))
    (sRet (wB rTuple (wCons (wVar 1) wNil))))))
/-! orders_of(n); slots: 0 n, 1 found, 2 step -/
def w_orders_of  : WS :=
  (sSeq (sAsg (wC (.int 1)) (gN 1))
    (sSeq (sFor (wR1 (wVar 0)) (gN 2) (sAug 1 (wOp rAdd (wVar 2) (wC (.int 1))) rMul'))
    (sRet (wVar 1))))
/-! count_by_rings(n, k); slots: 0 n, 1 k, 2 row, 3 many, 4 longer, 5 rings -/
def w_count_by_rings  : WS :=
  (sSeq (sAsg (wLst (wCons (wC (.int 1)) wNil)) (gN 2))
    (sSeq (sFor (wR1 (wVar 0)) (gN 3) (sSeq (sAsg (wOp rAdd (wVar 2) (wLst (wCons (wC (.int 0)) wNil))) (gN 4))
    (sAsg (wLc (wR1 (wOp rAdd (wVar 3) (wC (.int 2)))) (gN 5) wtYes (wOp rAdd (wOp rMul (wVar 3) (wOp rIx (wVar 4) (wVar 5))) (wIf (wtVal (wOp rGt (wVar 5) (wC (.int 0)))) (wOp rIx (wVar 4) (wOp rSub (wVar 5) (wC (.int 1)))) (wC (.int 0)))) [5]) (gN 2))))
    (sRet (wIf (wtVal (wChain rLe rLe (wC (.int 0)) (wVar 1) (wVar 0))) (wOp rIx (wVar 2) (wVar 1)) (wC (.int 0))))))
/-! chance_of_ring(n, k); slots: 0 n, 1 k -/
def w_chance_of_ring  : WS :=
  (sRet (wIf (wtVal (wChain rLe rLe (wC (.int 1)) (wVar 1) (wVar 0))) (wTup (wCons (wC (.int 1)) (wCons (wVar 0) wNil))) (wC dNOTHING)))
/-! longest_at_most(n, k); slots: 0 n, 1 k, 2 counts, 3 many, 4 total, 5 length -/
def w_longest_at_most (sp_orders_of : Spc) (sp_fraction : Spc) : WS :=
  (sSeq (sAsg (wLst (wCons (wC (.int 1)) wNil)) (gN 2))
    (sSeq (sFor (wR2 (wC (.int 1)) (wOp rAdd (wVar 0) (wC (.int 1)))) (gN 3) (sSeq (sAsg (wC (.int 0)) (gN 4))
    (sSeq (sFor (wR2 (wC (.int 1)) (wOp rAdd (wB rMin2 (wCons (wVar 1) (wCons (wVar 3) wNil))) (wC (.int 1)))) (gN 5) (sAug 4 (wOp rDiv (wOp rMul (wOp rIx (wVar 2) (wOp rSub (wVar 3) (wVar 5))) (wCall 1 sp_orders_of (wCons (wOp rSub (wVar 3) (wC (.int 1))) wNil))) (wCall 1 sp_orders_of (wCons (wOp rSub (wVar 3) (wVar 5)) wNil))) rIAdd))
    (sDrop (wM rAppend (wVar 2) (wCons (wVar 4) wNil))))))
    (sRet (wCall 2 sp_fraction (wCons (wOp rIx (wVar 2) (wVar 0)) (wCons (wCall 1 sp_orders_of (wCons (wVar 0) wNil)) wNil))))))
/-! mean_right(n); slots: 0 n -/
def w_mean_right (sp_fraction : Spc) : WS :=
  (sRet (wCall 2 sp_fraction (wCons (wVar 0) (wCons (wVar 0) wNil))))
/-! _law_draws(script, many); slots: 0 script, 1 many, 2 cells, 3 cell, 4 rest, 5 draws, 6 k, 7 at, 8 mingled -/
def w_law_draws  : WS :=
  (sSeq (sAsg (wLc (wIt (wVar 0)) (gN 3) wtYes (wB rInt (wCons (wVar 3) wNil)) [3]) (gN 2))
    (sSeq (sIf (wtVal (wOp rEq (wB rLen (wCons (wVar 2) wNil)) (wC (.int 0)))) (sDrop (wM rAppend (wVar 2) (wCons (wC (.int 0)) wNil))) sNext)
    (sSeq (sAsg (wB rList (wCons (wVar 2) wNil)) (gN 4))
    (sSeq (sAsg (wLst wNil) (gN 5))
    (sSeq (sFor (wR1 (wVar 1)) (gN 6) (sSeq (sAsg (wOp rMod (wVar 6) (wB rLen (wCons (wVar 2) wNil))) (gN 7))
    (sIf (wtAnd (wtVal (wOp rGe (wOp rIx (wVar 2) (wVar 7)) (wOp rPow (wC (.int 10)) (wC (.int 18))))) (wtVal (wOp rGt (wOp rIx (wVar 4) (wVar 7)) (wC (.int 0))))) (sSeq (sDrop (wM rAppend (wVar 5) (wCons (wOp rMod (wB rInt (wCons (wOp rIx (wVar 4) (wVar 7)) wNil)) (wC (.int 1000))) wNil)))
    (sSub rPut (wOp rDiv (wOp rIx (wVar 4) (wVar 7)) (wC (.int 1000))) (wVar 4) (wVar 7))) (sSeq (sAsg (wOp rMod (wB rInt (wCons (wOp rAdd (wOp rAdd (wOp rMul (wOp rIx (wVar 2) (wVar 7)) (wC (.int 48271))) (wOp rMul (wVar 6) (wC (.int 69621)))) (wC (.int 11))) wNil)) (wC (.int 2147483647))) (gN 8))
    (sDrop (wM rAppend (wVar 5) (wCons (wOp rMod (wB rInt (wCons (wOp rAdd (wOp rAdd (wOp rMul (wVar 8) (wVar 8)) (wOp rMul (wC (.int 3)) (wVar 8))) (wVar 6)) wNil)) (wC (.int 1000003))) wNil)))))))
    (sSeq (sDrop (wM0 rReverse (wVar 5)))
    (sRet (wVar 5))))))))
/-! _law_take(draws, many); slots: 0 draws, 1 many -/
def w_law_take  : WS :=
  (sSeq (sIf (wtVal (wOp rEq (wB rLen (wCons (wVar 0) wNil)) (wC (.int 0)))) (sRet (wC (.int 0))) sNext)
    (sRet (wOp rMod (wB rInt (wCons (wM0 rPop (wVar 0)) wNil)) (wVar 1))))
/-! _law_same(actual, due); slots: 0 actual, 1 due, 2 k -/
def w_law_same (sp_law_same : Spc) : WS :=
  (sSeq (sIf (wtVal (wB rIsi (wCons (wVar 1) (wCons (wC (.ty "bool")) wNil)))) (sRet (wAnd (wB rIsi (wCons (wVar 0) (wCons (wC (.ty "bool")) wNil))) (wOp rEq (wVar 0) (wVar 1)))) sNext)
    (sSeq (sIf (wtVal (wB rIsi (wCons (wVar 1) (wCons (wC (.ty "int")) wNil)))) (sRet (wAnd (wB rIsi (wCons (wVar 0) (wCons (wC (.ty "int")) wNil))) (wAnd (wNot (wB rIsi (wCons (wVar 0) (wCons (wC (.ty "bool")) wNil)))) (wOp rEq (wVar 0) (wVar 1))))) sNext)
    (sSeq (sIf (wtVal (wB rIsi (wCons (wVar 1) (wCons (wC (.ty "str")) wNil)))) (sRet (wAnd (wB rIsi (wCons (wVar 0) (wCons (wC (.ty "str")) wNil))) (wOp rEq (wVar 0) (wVar 1)))) sNext)
    (sSeq (sIf (wtVal (wOp rIs (wVar 1) (wC .non))) (sRet (wOp rIs (wVar 0) (wC .non))) sNext)
    (sSeq (sIf (wtOr (wtNot (wtVal (wB rIsi (wCons (wVar 0) (wCons (wC (.ty "tuple")) wNil))))) (wtVal (wOp rNe (wB rLen (wCons (wVar 0) wNil)) (wB rLen (wCons (wVar 1) wNil))))) (sRet (wC (.bl false))) sNext)
    (sSeq (sFor (wR1 (wB rLen (wCons (wVar 1) wNil))) (gN 2) (sIf (wtNot (wtVal (wCall 2 sp_law_same (wCons (wOp rIx (wVar 0) (wVar 2)) (wCons (wOp rIx (wVar 1) (wVar 2)) wNil))))) (sRet (wC (.bl false))) sNext))
    (sRet (wC (.bl true)))))))))
/-! _law_shared(one, other); slots: 0 one, 1 other, 2 first, 3 rest, 4 k, 5 later -/
def w_law_shared  : WS :=
  (sSeq (sAsg (wB rAbs (wCons (wVar 0) wNil)) (gN 2))
    (sSeq (sAsg (wB rAbs (wCons (wVar 1) wNil)) (gN 3))
    (sSeq (sFor (wR1 (wC (.int 4000))) (gN 4) (sSeq (sIf (wtVal (wOp rEq (wVar 3) (wC (.int 0)))) sBreak sNext)
    (sSeq (sAsg (wOp rMod (wB rInt (wCons (wVar 2) wNil)) (wVar 3)) (gN 5))
    (sSeq (sAsg (wVar 3) (gN 2))
    (sAsg (wVar 5) (gN 3))))))
    (sRet (wVar 2)))))
/-! _law_frac(n, d); slots: 0 n, 1 d, 2 size -/
def w_law_frac (sp_law_shared : Spc) : WS :=
  (sSeq (sAsg (wCall 2 sp_law_shared (wCons (wVar 0) (wCons (wVar 1) wNil))) (gN 2))
    (sSeq (sIf (wtVal (wOp rLt (wVar 1) (wC (.int 0)))) (sAsg (wUn rNeg (wVar 2)) (gN 2)) sNext)
    (sRet (wTup (wCons (wOp rDiv (wVar 0) (wVar 2)) (wCons (wOp rDiv (wVar 1) (wVar 2)) wNil))))))
/-! _law_plus(one, other); slots: 0 one, 1 other -/
def w_law_plus (sp_law_frac : Spc) : WS :=
  (sRet (wCall 2 sp_law_frac (wCons (wOp rAdd (wOp rMul (wOp rIx (wVar 0) (wC (.int 0))) (wOp rIx (wVar 1) (wC (.int 1)))) (wOp rMul (wOp rIx (wVar 1) (wC (.int 0))) (wOp rIx (wVar 0) (wC (.int 1))))) (wCons (wOp rMul (wOp rIx (wVar 0) (wC (.int 1))) (wOp rIx (wVar 1) (wC (.int 1)))) wNil))))
/-! _law_mul(one, other); slots: 0 one, 1 other -/
def w_law_mul (sp_law_frac : Spc) : WS :=
  (sRet (wCall 2 sp_law_frac (wCons (wOp rMul (wOp rIx (wVar 0) (wC (.int 0))) (wOp rIx (wVar 1) (wC (.int 0)))) (wCons (wOp rMul (wOp rIx (wVar 0) (wC (.int 1))) (wOp rIx (wVar 1) (wC (.int 1)))) wNil))))
/-! _law_ways(n, k); slots: 0 n, 1 k, 2 found, 3 j -/
def w_law_ways  : WS :=
  (sSeq (sIf (wtOr (wtVal (wOp rLt (wVar 1) (wC (.int 0)))) (wtVal (wOp rGt (wVar 1) (wVar 0)))) (sRet (wC (.int 0))) sNext)
    (sSeq (sAsg (wC (.int 1)) (gN 2))
    (sSeq (sFor (wR1 (wVar 1)) (gN 3) (sAsg (wOp rDiv (wOp rMul (wVar 2) (wOp rSub (wVar 0) (wVar 3))) (wOp rAdd (wVar 3) (wC (.int 1)))) (gN 2)))
    (sRet (wVar 2)))))
/-! _law_all_orders(n); slots: 0 n, 1 found, 2 k, 3 more_of, 4 order, 5 at -/
def w_law_all_orders  : WS :=
  (sSeq (sAsg (wLst (wCons (wTup wNil) wNil)) (gN 1))
    (sSeq (sFor (wR1 (wVar 0)) (gN 2) (sSeq (sAsg (wLst wNil) (gN 3))
    (sSeq (sFor (wIt (wVar 1)) (gN 4) (sAsg (wOp rAdd (wVar 3) (wLc (wR1 (wOp rAdd (wVar 2) (wC (.int 1)))) (gN 5) wtYes (wOp rAdd (wOp rAdd (wSl rSl (wVar 4) wPNo (wPAt (wVar 5))) (wTup (wCons (wVar 2) wNil))) (wSl rSl (wVar 4) (wPAt (wVar 5)) wPNo)) [5])) (gN 3)))
    (sAsg (wVar 3) (gN 1)))))
    (sRet (wVar 1))))
/-! _law_rings(order); slots: 0 order, 1 found, 2 letter, 3 circle, 4 k -/
def w_law_rings  : WS :=
  (sSeq (sAsg (wLst wNil) (gN 1))
    (sSeq (sFor (wR1 (wB rLen (wCons (wVar 0) wNil))) (gN 2) (sSeq (sAsg (wLst (wCons (wVar 2) wNil)) (gN 3))
    (sSeq (sFor (wR1 (wB rLen (wCons (wVar 0) wNil))) (gN 4) (sSeq (sIf (wtVal (wOp rEq (wOp rIx (wVar 0) (wOp rIx (wVar 3) (wUn rNeg (wC (.int 1))))) (wVar 2))) sBreak sNext)
    (sDrop (wM rAppend (wVar 3) (wCons (wOp rIx (wVar 0) (wOp rIx (wVar 3) (wUn rNeg (wC (.int 1))))) wNil)))))
    (sIf (wtVal (wOp rEq (wB rMin (wCons (wVar 3) wNil)) (wVar 2))) (sDrop (wM rAppend (wVar 1) (wCons (wB rTuple (wCons (wVar 3) wNil)) wNil))) sNext))))
    (sRet (wB rTuple (wCons (wVar 1) wNil)))))
/-! _law_orders(n); slots: 0 n, 1 found, 2 k -/
def w_law_orders  : WS :=
  (sSeq (sAsg (wC (.int 1)) (gN 1))
    (sSeq (sFor (wR1 (wVar 0)) (gN 2) (sAsg (wOp rMul (wVar 1) (wOp rAdd (wVar 2) (wC (.int 1)))) (gN 1)))
    (sRet (wVar 1))))
/-! _law_wrong(n); slots: 0 n, 1 found, 2 many, 3 k -/
def w_law_wrong (sp_law_orders : Spc) (sp_law_ways : Spc) : WS :=
  (sSeq (sAsg (wLst wNil) (gN 1))
    (sSeq (sFor (wR1 (wOp rAdd (wVar 0) (wC (.int 1)))) (gN 2) (sDrop (wM rAppend (wVar 1) (wCons (wOp rSub (wCall 1 sp_law_orders (wCons (wVar 2) wNil)) (wB rSum (wCons (wLc (wR2 (wC (.int 1)) (wOp rAdd (wVar 2) (wC (.int 1)))) (gN 3) wtYes (wOp rMul (wCall 2 sp_law_ways (wCons (wVar 2) (wCons (wVar 3) wNil))) (wOp rIx (wVar 1) (wOp rSub (wVar 2) (wVar 3)))) [3]) wNil))) wNil))))
    (sRet (wVar 1))))
/-! _law_by_rings(n); slots: 0 n, 1 row, 2 many, 3 later, 4 k -/
def w_law_by_rings  : WS :=
  (sSeq (sAsg (wLst (wCons (wC (.int 1)) wNil)) (gN 1))
    (sSeq (sFor (wR1 (wVar 0)) (gN 2) (sSeq (sAsg (wOp rMul (wLst (wCons (wC (.int 0)) wNil)) (wOp rAdd (wVar 2) (wC (.int 2)))) (gN 3))
    (sSeq (sFor (wR1 (wOp rAdd (wVar 2) (wC (.int 1)))) (gN 4) (sSeq (sSub rPut (wOp rAdd (wOp rIx (wVar 3) (wVar 4)) (wOp rMul (wVar 2) (wOp rIx (wVar 1) (wVar 4)))) (wVar 3) (wVar 4))
    (sSub rPut (wOp rAdd (wOp rIx (wVar 3) (wOp rAdd (wVar 4) (wC (.int 1)))) (wOp rIx (wVar 1) (wVar 4))) (wVar 3) (wOp rAdd (wVar 4) (wC (.int 1))))))
    (sAsg (wVar 3) (gN 1)))))
    (sRet (wVar 1))))
/-! _law_short(n, most); slots: 0 n, 1 most, 2 found, 3 many, 4 total_of, 5 size -/
def w_law_short (sp_law_plus : Spc) (sp_law_mul : Spc) : WS :=
  (sSeq (sAsg (wLst (wCons (wTup (wCons (wC (.int 1)) (wCons (wC (.int 1)) wNil))) wNil)) (gN 2))
    (sSeq (sFor (wR2 (wC (.int 1)) (wOp rAdd (wVar 0) (wC (.int 1)))) (gN 3) (sSeq (sAsg (wTup (wCons (wC (.int 0)) (wCons (wC (.int 1)) wNil))) (gN 4))
    (sSeq (sFor (wR2 (wC (.int 1)) (wOp rAdd (wB rMin2 (wCons (wVar 1) (wCons (wVar 3) wNil))) (wC (.int 1)))) (gN 5) (sAsg (wCall 2 sp_law_plus (wCons (wVar 4) (wCons (wOp rIx (wVar 2) (wOp rSub (wVar 3) (wVar 5))) wNil))) (gN 4)))
    (sDrop (wM rAppend (wVar 2) (wCons (wCall 2 sp_law_mul (wCons (wVar 4) (wCons (wTup (wCons (wC (.int 1)) (wCons (wVar 3) wNil))) wNil))) wNil))))))
    (sRet (wOp rIx (wVar 2) (wVar 0)))))
/-! _law_few(n); slots: 0 n, 1 orders, 2 many, 3 right, 4 k, 5 order, 6 rings, 7 one, 8 good, 9 circle, 10 first -/
def w_law_few (sp_law_all_orders : Spc) (sp_law_rings : Spc) (sp_just_right : Spc) (sp_law_same : Spc) (sp_count_by_rings : Spc) (sp_all_wrong : Spc) (sp_law_frac : Spc) (sp_longest_at_most : Spc) (sp_chance_of_ring : Spc) (sp_mean_right : Spc) : WS :=
  (sSeq (sAsg (wCall 1 sp_law_all_orders (wCons (wVar 0) wNil)) (gN 1))
    (sSeq (sAsg (wB rLen (wCons (wVar 1) wNil)) (gN 2))
    (sSeq (sAsg (wLc (wIt (wVar 1)) (gN 5) wtYes (wB rLen (wCons (wLc (wR1 (wVar 0)) (gN 4) (wtVal (wOp rEq (wOp rIx (wVar 5) (wVar 4)) (wVar 4))) (wVar 4) [4]) wNil)) [5]) (gN 3))
    (sSeq (sAsg (wLc (wIt (wVar 1)) (gN 5) wtYes (wCall 1 sp_law_rings (wCons (wVar 5) wNil)) [5]) (gN 6))
    (sSeq (sFor (wR2 (wUn rNeg (wC (.int 1))) (wOp rAdd (wVar 0) (wC (.int 2)))) (gN 4) (sSeq (sIf (wtNot (wtVal (wCall 2 sp_law_same (wCons (wCall 2 sp_just_right (wCons (wVar 0) (wCons (wVar 4) wNil))) (wCons (wB rLen (wCons (wLc (wIt (wVar 3)) (gN 7) (wtVal (wOp rEq (wVar 7) (wVar 4))) (wVar 7) [7]) wNil)) wNil))))) (sRet (wC (.bl false))) sNext)
    (sIf (wtNot (wtVal (wCall 2 sp_law_same (wCons (wCall 2 sp_count_by_rings (wCons (wVar 0) (wCons (wVar 4) wNil))) (wCons (wB rLen (wCons (wLc (wIt (wVar 6)) (gN 7) (wtVal (wOp rEq (wB rLen (wCons (wVar 7) wNil)) (wVar 4))) (wVar 7) [7]) wNil)) wNil))))) (sRet (wC (.bl false))) sNext)))
    (sSeq (sIf (wtNot (wtVal (wCall 2 sp_law_same (wCons (wCall 1 sp_all_wrong (wCons (wVar 0) wNil)) (wCons (wB rLen (wCons (wLc (wIt (wVar 3)) (gN 7) (wtVal (wOp rEq (wVar 7) (wC (.int 0)))) (wVar 7) [7]) wNil)) wNil))))) (sRet (wC (.bl false))) sNext)
    (sSeq (sFor (wR1 (wOp rAdd (wVar 0) (wC (.int 2)))) (gN 4) (sSeq (sAsg (wB rLen (wCons (wLc (wIt (wVar 6)) (gN 7) (wtVal (wOp rLe (wB rMax (wCons (wOp rAdd (wLst (wCons (wC (.int 0)) wNil)) (wLc (wIt (wVar 7)) (gN 9) wtYes (wB rLen (wCons (wVar 9) wNil)) [9])) wNil)) (wVar 4))) (wVar 7) [7]) wNil)) (gN 8))
    (sSeq (sIf (wtNot (wtVal (wCall 2 sp_law_same (wCons (wCall 2 sp_longest_at_most (wCons (wVar 0) (wCons (wVar 4) wNil))) (wCons (wCall 2 sp_law_frac (wCons (wVar 8) (wCons (wVar 2) wNil))) wNil))))) (sRet (wC (.bl false))) sNext)
    (sIf (wtVal (wOp rGt (wVar 0) (wC (.int 0)))) (sSeq (sAsg (wB rLen (wCons (wLc (wIt (wVar 6)) (gN 7) (wtVal (wOp rEq (wB rLen (wCons (wOp rIx (wVar 7) (wC (.int 0))) wNil)) (wVar 4))) (wVar 7) [7]) wNil)) (gN 10))
    (sIf (wtNot (wtVal (wCall 2 sp_law_same (wCons (wCall 2 sp_chance_of_ring (wCons (wVar 0) (wCons (wVar 4) wNil))) (wCons (wCall 2 sp_law_frac (wCons (wVar 10) (wCons (wVar 2) wNil))) wNil))))) (sRet (wC (.bl false))) sNext)) sNext))))
    (sRet (wOr (wOp rEq (wVar 0) (wC (.int 0))) (wCall 2 sp_law_same (wCons (wCall 1 sp_mean_right (wCons (wVar 0) wNil)) (wCons (wCall 2 sp_law_frac (wCons (wB rSum (wCons (wVar 3) wNil)) (wCons (wVar 2) wNil))) wNil))))))))))))
/-! _law_order(draws, n); slots: 0 draws, 1 n, 2 style, 3 left, 4 found, 5 k, 6 circle -/
def w_law_order (sp_law_take : Spc) : WS :=
  (sSeq (sAsg (wCall 2 sp_law_take (wCons (wVar 0) (wCons (wC (.int 4)) wNil))) (gN 2))
    (sSeq (sAsg (wLstR (wVar 1)) (gN 3))
    (sSeq (sAsg (wLst wNil) (gN 4))
    (sSeq (sFor (wR1 (wVar 1)) (gN 5) (sDrop (wM rAppend (wVar 4) (wCons (wM rPopAt (wVar 3) (wCons (wCall 2 sp_law_take (wCons (wVar 0) (wCons (wB rLen (wCons (wVar 3) wNil)) wNil))) wNil)) wNil))))
    (sSeq (sIf (wtVal (wOp rEq (wVar 2) (wC (.int 1)))) (sAsg (wLstR (wVar 1)) (gN 4)) sNext)
    (sSeq (sIf (wtVal (wOp rEq (wVar 2) (wC (.int 2)))) (sSeq (sAsg (wVar 4) (gN 6))
    (sSeq (sAsg (wOp rMul (wLst (wCons (wC (.int 0)) wNil)) (wVar 1)) (gN 4))
    (sFor (wR1 (wVar 1)) (gN 5) (sSub rPut (wOp rIx (wVar 6) (wVar 5)) (wVar 4) (wOp rIx (wVar 6) (wOp rSub (wVar 5) (wC (.int 1)))))))) sNext)
    (sSeq (sIf (wtVal (wOp rEq (wVar 2) (wC (.int 3)))) (sSeq (sAsg (wVar 4) (gN 6))
    (sSeq (sAsg (wLstR (wVar 1)) (gN 4))
    (sFor (wR3 (wC (.int 0)) (wOp rSub (wVar 1) (wC (.int 1))) (wC (.int 2))) (gN 5) (sSeq (sSub rPut (wOp rIx (wVar 6) (wOp rAdd (wVar 5) (wC (.int 1)))) (wVar 4) (wOp rIx (wVar 6) (wVar 5)))
    (sSub rPut (wOp rIx (wVar 6) (wVar 5)) (wVar 4) (wOp rIx (wVar 6) (wOp rAdd (wVar 5) (wC (.int 1))))))))) sNext)
    (sRet (wB rTuple (wCons (wVar 4) wNil))))))))))
@[reducible] def w_law_t22 (sp_law_draws : Spc) (sp_law_take : Spc) (sp_law_few : Spc) (sp_law_order : Spc) (sp_rings_of : Spc) (sp_law_rings : Spc) (sp_law_same : Spc) (sp_law_wrong : Spc) (sp_all_wrong : Spc) (sp_law_ways : Spc) (sp_just_right : Spc) (sp_law_orders : Spc) (sp_law_by_rings : Spc) (sp_count_by_rings : Spc) (sp_law_short : Spc) (sp_longest_at_most : Spc) (sp_chance_of_ring : Spc) (sp_mean_right : Spc) : WS :=
  (sRet (wAnd (wCall 2 sp_law_same (wCons (wCall 1 sp_rings_of (wCons (wTup (wCons (wC (.int 1)) (wCons (wC (.int 0)) (wCons (wC (.int 2)) wNil)))) wNil)) (wCons (wTup (wCons (wTup (wCons (wC (.int 0)) (wCons (wC (.int 1)) wNil))) (wCons (wTup (wCons (wC (.int 2)) wNil)) wNil))) wNil))) (wAnd (wCall 2 sp_law_same (wCons (wCall 2 sp_longest_at_most (wCons (wC (.int 3)) (wCons (wC (.int 2)) wNil))) (wCons (wTup (wCons (wC (.int 2)) (wCons (wC (.int 3)) wNil))) wNil))) (wCall 2 sp_law_same (wCons (wCall 1 sp_rings_of (wCons (wVar 2) wNil)) (wCons (wVar 3) wNil))))))
@[reducible] def w_law_t21 (sp_law_draws : Spc) (sp_law_take : Spc) (sp_law_few : Spc) (sp_law_order : Spc) (sp_rings_of : Spc) (sp_law_rings : Spc) (sp_law_same : Spc) (sp_law_wrong : Spc) (sp_all_wrong : Spc) (sp_law_ways : Spc) (sp_just_right : Spc) (sp_law_orders : Spc) (sp_law_by_rings : Spc) (sp_count_by_rings : Spc) (sp_law_short : Spc) (sp_longest_at_most : Spc) (sp_chance_of_ring : Spc) (sp_mean_right : Spc) : WS :=
  (sSeq (sIf (wtOr (wtNot (wtVal (wCall 2 sp_law_same (wCons (wCall 1 sp_mean_right (wCons (wVar 10) wNil)) (wCons (wTup (wCons (wC (.int 1)) (wCons (wC (.int 1)) wNil))) wNil))))) (wtOr (wtNot (wtVal (wCall 2 sp_law_same (wCons (wCall 1 sp_all_wrong (wCons (wC (.int 4)) wNil)) (wCons (wC (.int 9)) wNil))))) (wtNot (wtVal (wCall 2 sp_law_same (wCons (wCall 2 sp_count_by_rings (wCons (wC (.int 4)) (wCons (wC (.int 2)) wNil))) (wCons (wC (.int 11)) wNil))))))) (sRet (wC (.bl false))) sNext)
    (w_law_t22 sp_law_draws sp_law_take sp_law_few sp_law_order sp_rings_of sp_law_rings sp_law_same sp_law_wrong sp_all_wrong sp_law_ways sp_just_right sp_law_orders sp_law_by_rings sp_count_by_rings sp_law_short sp_longest_at_most sp_chance_of_ring sp_mean_right))
@[reducible] def w_law_t20 (sp_law_draws : Spc) (sp_law_take : Spc) (sp_law_few : Spc) (sp_law_order : Spc) (sp_rings_of : Spc) (sp_law_rings : Spc) (sp_law_same : Spc) (sp_law_wrong : Spc) (sp_all_wrong : Spc) (sp_law_ways : Spc) (sp_just_right : Spc) (sp_law_orders : Spc) (sp_law_by_rings : Spc) (sp_count_by_rings : Spc) (sp_law_short : Spc) (sp_longest_at_most : Spc) (sp_chance_of_ring : Spc) (sp_mean_right : Spc) : WS :=
  (sSeq (sFor (wIt (wLst (wCons (wC (.int 1)) (wCons (wVar 10) (wCons (wOp rAdd (wVar 10) (wC (.int 1))) (wCons (wC (.int 0)) (wCons (wCall 2 sp_law_take (wCons (wVar 1) (wCons (wOp rAdd (wVar 10) (wC (.int 1))) wNil))) wNil))))))) (gN 7) (sSeq (sAsg (wOp rIx (wLst (wCons (wTup (wCons (wC (.int 0)) (wCons (wC (.int 1)) wNil))) (wCons (wTup (wCons (wC (.int 1)) (wCons (wVar 10) wNil))) wNil))) (wB rInt (wCons (wChain rLe rLe (wC (.int 1)) (wVar 7) (wVar 10)) wNil))) (gN 8))
    (sIf (wtNot (wtVal (wCall 2 sp_law_same (wCons (wCall 2 sp_chance_of_ring (wCons (wVar 10) (wCons (wVar 7) wNil))) (wCons (wVar 8) wNil))))) (sRet (wC (.bl false))) sNext)))
    (w_law_t21 sp_law_draws sp_law_take sp_law_few sp_law_order sp_rings_of sp_law_rings sp_law_same sp_law_wrong sp_all_wrong sp_law_ways sp_just_right sp_law_orders sp_law_by_rings sp_count_by_rings sp_law_short sp_longest_at_most sp_chance_of_ring sp_mean_right))
@[reducible] def w_law_t19 (sp_law_draws : Spc) (sp_law_take : Spc) (sp_law_few : Spc) (sp_law_order : Spc) (sp_rings_of : Spc) (sp_law_rings : Spc) (sp_law_same : Spc) (sp_law_wrong : Spc) (sp_all_wrong : Spc) (sp_law_ways : Spc) (sp_just_right : Spc) (sp_law_orders : Spc) (sp_law_by_rings : Spc) (sp_count_by_rings : Spc) (sp_law_short : Spc) (sp_longest_at_most : Spc) (sp_chance_of_ring : Spc) (sp_mean_right : Spc) : WS :=
  (sSeq (sFor (wIt (wLst (wCons (wCall 2 sp_law_take (wCons (wVar 1) (wCons (wOp rAdd (wVar 14) (wC (.int 1))) wNil))) (wCons (wVar 14) (wCons (wOp rAdd (wVar 14) (wC (.int 1))) (wCons (wC (.int 1)) wNil)))))) (gN 15) (sIf (wtNot (wtVal (wCall 2 sp_law_same (wCons (wCall 2 sp_longest_at_most (wCons (wVar 14) (wCons (wVar 15) wNil))) (wCons (wCall 2 sp_law_short (wCons (wVar 14) (wCons (wVar 15) wNil))) wNil))))) (sRet (wC (.bl false))) sNext))
    (w_law_t20 sp_law_draws sp_law_take sp_law_few sp_law_order sp_rings_of sp_law_rings sp_law_same sp_law_wrong sp_all_wrong sp_law_ways sp_just_right sp_law_orders sp_law_by_rings sp_count_by_rings sp_law_short sp_longest_at_most sp_chance_of_ring sp_mean_right))
@[reducible] def w_law_t18 (sp_law_draws : Spc) (sp_law_take : Spc) (sp_law_few : Spc) (sp_law_order : Spc) (sp_rings_of : Spc) (sp_law_rings : Spc) (sp_law_same : Spc) (sp_law_wrong : Spc) (sp_all_wrong : Spc) (sp_law_ways : Spc) (sp_just_right : Spc) (sp_law_orders : Spc) (sp_law_by_rings : Spc) (sp_count_by_rings : Spc) (sp_law_short : Spc) (sp_longest_at_most : Spc) (sp_chance_of_ring : Spc) (sp_mean_right : Spc) : WS :=
  (sSeq (sAsg (wCall 2 sp_law_take (wCons (wVar 1) (wCons (wOp rIx (wLst (wCons (wC (.int 20)) (wCons (wC (.int 61)) wNil))) (wB rInt (wCons (wOp rEq (wCall 2 sp_law_take (wCons (wVar 1) (wCons (wC (.int 8)) wNil))) (wC (.int 0))) wNil))) wNil))) (gN 14))
    (w_law_t19 sp_law_draws sp_law_take sp_law_few sp_law_order sp_rings_of sp_law_rings sp_law_same sp_law_wrong sp_all_wrong sp_law_ways sp_just_right sp_law_orders sp_law_by_rings sp_count_by_rings sp_law_short sp_longest_at_most sp_chance_of_ring sp_mean_right))
@[reducible] def w_law_t17 (sp_law_draws : Spc) (sp_law_take : Spc) (sp_law_few : Spc) (sp_law_order : Spc) (sp_rings_of : Spc) (sp_law_rings : Spc) (sp_law_same : Spc) (sp_law_wrong : Spc) (sp_all_wrong : Spc) (sp_law_ways : Spc) (sp_just_right : Spc) (sp_law_orders : Spc) (sp_law_by_rings : Spc) (sp_count_by_rings : Spc) (sp_law_short : Spc) (sp_longest_at_most : Spc) (sp_chance_of_ring : Spc) (sp_mean_right : Spc) : WS :=
  (sSeq (sFor (wIt (wLst (wCons (wC (.int 0)) (wCons (wC (.int 1)) (wCons (wVar 12) (wCons (wOp rAdd (wVar 12) (wC (.int 1))) (wCons (wUn rNeg (wC (.int 1))) (wCons (wCall 2 sp_law_take (wCons (wVar 1) (wCons (wOp rAdd (wVar 12) (wC (.int 1))) wNil))) (wCons (wOp rAdd (wC (.int 1)) (wCall 2 sp_law_take (wCons (wVar 1) (wCons (wC (.int 6)) wNil)))) wNil))))))))) (gN 7) (sSeq (sAsg (wC (.int 0)) (gN 8))
    (sSeq (sIf (wtVal (wChain rLe rLe (wC (.int 0)) (wVar 7) (wVar 12))) (sAsg (wOp rIx (wVar 13) (wVar 7)) (gN 8)) sNext)
    (sIf (wtNot (wtVal (wCall 2 sp_law_same (wCons (wCall 2 sp_count_by_rings (wCons (wVar 12) (wCons (wVar 7) wNil))) (wCons (wVar 8) wNil))))) (sRet (wC (.bl false))) sNext))))
    (w_law_t18 sp_law_draws sp_law_take sp_law_few sp_law_order sp_rings_of sp_law_rings sp_law_same sp_law_wrong sp_all_wrong sp_law_ways sp_just_right sp_law_orders sp_law_by_rings sp_count_by_rings sp_law_short sp_longest_at_most sp_chance_of_ring sp_mean_right))
@[reducible] def w_law_t16 (sp_law_draws : Spc) (sp_law_take : Spc) (sp_law_few : Spc) (sp_law_order : Spc) (sp_rings_of : Spc) (sp_law_rings : Spc) (sp_law_same : Spc) (sp_law_wrong : Spc) (sp_all_wrong : Spc) (sp_law_ways : Spc) (sp_just_right : Spc) (sp_law_orders : Spc) (sp_law_by_rings : Spc) (sp_count_by_rings : Spc) (sp_law_short : Spc) (sp_longest_at_most : Spc) (sp_chance_of_ring : Spc) (sp_mean_right : Spc) : WS :=
  (sSeq (sAsg (wCall 1 sp_law_by_rings (wCons (wVar 12) wNil)) (gN 13))
    (w_law_t17 sp_law_draws sp_law_take sp_law_few sp_law_order sp_rings_of sp_law_rings sp_law_same sp_law_wrong sp_all_wrong sp_law_ways sp_just_right sp_law_orders sp_law_by_rings sp_count_by_rings sp_law_short sp_longest_at_most sp_chance_of_ring sp_mean_right))
@[reducible] def w_law_t15 (sp_law_draws : Spc) (sp_law_take : Spc) (sp_law_few : Spc) (sp_law_order : Spc) (sp_rings_of : Spc) (sp_law_rings : Spc) (sp_law_same : Spc) (sp_law_wrong : Spc) (sp_all_wrong : Spc) (sp_law_ways : Spc) (sp_just_right : Spc) (sp_law_orders : Spc) (sp_law_by_rings : Spc) (sp_count_by_rings : Spc) (sp_law_short : Spc) (sp_longest_at_most : Spc) (sp_chance_of_ring : Spc) (sp_mean_right : Spc) : WS :=
  (sSeq (sAsg (wCall 2 sp_law_take (wCons (wVar 1) (wCons (wOp rIx (wLst (wCons (wC (.int 20)) (wCons (wC (.int 101)) wNil))) (wB rInt (wCons (wOp rEq (wCall 2 sp_law_take (wCons (wVar 1) (wCons (wC (.int 6)) wNil))) (wC (.int 0))) wNil))) wNil))) (gN 12))
    (w_law_t16 sp_law_draws sp_law_take sp_law_few sp_law_order sp_rings_of sp_law_rings sp_law_same sp_law_wrong sp_all_wrong sp_law_ways sp_just_right sp_law_orders sp_law_by_rings sp_count_by_rings sp_law_short sp_longest_at_most sp_chance_of_ring sp_mean_right))
@[reducible] def w_law_t14 (sp_law_draws : Spc) (sp_law_take : Spc) (sp_law_few : Spc) (sp_law_order : Spc) (sp_rings_of : Spc) (sp_law_rings : Spc) (sp_law_same : Spc) (sp_law_wrong : Spc) (sp_all_wrong : Spc) (sp_law_ways : Spc) (sp_just_right : Spc) (sp_law_orders : Spc) (sp_law_by_rings : Spc) (sp_count_by_rings : Spc) (sp_law_short : Spc) (sp_longest_at_most : Spc) (sp_chance_of_ring : Spc) (sp_mean_right : Spc) : WS :=
  (sSeq (sIf (wtNot (wtVal (wCall 2 sp_law_same (wCons (wCall 1 sp_all_wrong (wCons (wVar 10) wNil)) (wCons (wVar 11) wNil))))) (sRet (wC (.bl false))) sNext)
    (w_law_t15 sp_law_draws sp_law_take sp_law_few sp_law_order sp_rings_of sp_law_rings sp_law_same sp_law_wrong sp_all_wrong sp_law_ways sp_just_right sp_law_orders sp_law_by_rings sp_count_by_rings sp_law_short sp_longest_at_most sp_chance_of_ring sp_mean_right))
@[reducible] def w_law_t13 (sp_law_draws : Spc) (sp_law_take : Spc) (sp_law_few : Spc) (sp_law_order : Spc) (sp_rings_of : Spc) (sp_law_rings : Spc) (sp_law_same : Spc) (sp_law_wrong : Spc) (sp_all_wrong : Spc) (sp_law_ways : Spc) (sp_just_right : Spc) (sp_law_orders : Spc) (sp_law_by_rings : Spc) (sp_count_by_rings : Spc) (sp_law_short : Spc) (sp_longest_at_most : Spc) (sp_chance_of_ring : Spc) (sp_mean_right : Spc) : WS :=
  (sSeq (sFor (wR2 (wC (.int 1)) (wOp rAdd (wVar 10) (wC (.int 1)))) (gN 7) (sAsg (wOp rAdd (wOp rMul (wVar 11) (wVar 7)) (wOp rIx (wLst (wCons (wC (.int 1)) (wCons (wUn rNeg (wC (.int 1))) wNil))) (wOp rMod (wVar 7) (wC (.int 2))))) (gN 11)))
    (w_law_t14 sp_law_draws sp_law_take sp_law_few sp_law_order sp_rings_of sp_law_rings sp_law_same sp_law_wrong sp_all_wrong sp_law_ways sp_just_right sp_law_orders sp_law_by_rings sp_count_by_rings sp_law_short sp_longest_at_most sp_chance_of_ring sp_mean_right))
@[reducible] def w_law_t12 (sp_law_draws : Spc) (sp_law_take : Spc) (sp_law_few : Spc) (sp_law_order : Spc) (sp_rings_of : Spc) (sp_law_rings : Spc) (sp_law_same : Spc) (sp_law_wrong : Spc) (sp_all_wrong : Spc) (sp_law_ways : Spc) (sp_just_right : Spc) (sp_law_orders : Spc) (sp_law_by_rings : Spc) (sp_count_by_rings : Spc) (sp_law_short : Spc) (sp_longest_at_most : Spc) (sp_chance_of_ring : Spc) (sp_mean_right : Spc) : WS :=
  (sSeq (sAsg (wC (.int 1)) (gN 11))
    (w_law_t13 sp_law_draws sp_law_take sp_law_few sp_law_order sp_rings_of sp_law_rings sp_law_same sp_law_wrong sp_all_wrong sp_law_ways sp_just_right sp_law_orders sp_law_by_rings sp_count_by_rings sp_law_short sp_longest_at_most sp_chance_of_ring sp_mean_right))
@[reducible] def w_law_t11 (sp_law_draws : Spc) (sp_law_take : Spc) (sp_law_few : Spc) (sp_law_order : Spc) (sp_rings_of : Spc) (sp_law_rings : Spc) (sp_law_same : Spc) (sp_law_wrong : Spc) (sp_all_wrong : Spc) (sp_law_ways : Spc) (sp_just_right : Spc) (sp_law_orders : Spc) (sp_law_by_rings : Spc) (sp_count_by_rings : Spc) (sp_law_short : Spc) (sp_longest_at_most : Spc) (sp_chance_of_ring : Spc) (sp_mean_right : Spc) : WS :=
  (sSeq (sAsg (wOp rAdd (wC (.int 41)) (wCall 2 sp_law_take (wCons (wVar 1) (wCons (wC (.int 360)) wNil)))) (gN 10))
    (w_law_t12 sp_law_draws sp_law_take sp_law_few sp_law_order sp_rings_of sp_law_rings sp_law_same sp_law_wrong sp_all_wrong sp_law_ways sp_just_right sp_law_orders sp_law_by_rings sp_count_by_rings sp_law_short sp_longest_at_most sp_chance_of_ring sp_mean_right))
@[reducible] def w_law_t10 (sp_law_draws : Spc) (sp_law_take : Spc) (sp_law_few : Spc) (sp_law_order : Spc) (sp_rings_of : Spc) (sp_law_rings : Spc) (sp_law_same : Spc) (sp_law_wrong : Spc) (sp_all_wrong : Spc) (sp_law_ways : Spc) (sp_just_right : Spc) (sp_law_orders : Spc) (sp_law_by_rings : Spc) (sp_count_by_rings : Spc) (sp_law_short : Spc) (sp_longest_at_most : Spc) (sp_chance_of_ring : Spc) (sp_mean_right : Spc) : WS :=
  (sSeq (sIf (wtOr (wtVal (wOp rNe (wB rSum (wCons (wVar 9) wNil)) (wCall 1 sp_law_orders (wCons (wVar 5) wNil)))) (wtNot (wtVal (wCall 2 sp_law_same (wCons (wB rTuple (wCons (wLc (wR1 (wOp rAdd (wVar 5) (wC (.int 1)))) (gN 7) wtYes (wCall 2 sp_just_right (wCons (wVar 5) (wCons (wVar 7) wNil))) [7]) wNil)) (wCons (wVar 9) wNil)))))) (sRet (wC (.bl false))) sNext)
    (w_law_t11 sp_law_draws sp_law_take sp_law_few sp_law_order sp_rings_of sp_law_rings sp_law_same sp_law_wrong sp_all_wrong sp_law_ways sp_just_right sp_law_orders sp_law_by_rings sp_count_by_rings sp_law_short sp_longest_at_most sp_chance_of_ring sp_mean_right))
@[reducible] def w_law_t9 (sp_law_draws : Spc) (sp_law_take : Spc) (sp_law_few : Spc) (sp_law_order : Spc) (sp_rings_of : Spc) (sp_law_rings : Spc) (sp_law_same : Spc) (sp_law_wrong : Spc) (sp_all_wrong : Spc) (sp_law_ways : Spc) (sp_just_right : Spc) (sp_law_orders : Spc) (sp_law_by_rings : Spc) (sp_count_by_rings : Spc) (sp_law_short : Spc) (sp_longest_at_most : Spc) (sp_chance_of_ring : Spc) (sp_mean_right : Spc) : WS :=
  (sSeq (sAsg (wB rTuple (wCons (wLc (wR1 (wOp rAdd (wVar 5) (wC (.int 1)))) (gN 7) wtYes (wOp rMul (wCall 2 sp_law_ways (wCons (wVar 5) (wCons (wVar 7) wNil))) (wOp rIx (wVar 6) (wOp rSub (wVar 5) (wVar 7)))) [7]) wNil)) (gN 9))
    (w_law_t10 sp_law_draws sp_law_take sp_law_few sp_law_order sp_rings_of sp_law_rings sp_law_same sp_law_wrong sp_all_wrong sp_law_ways sp_just_right sp_law_orders sp_law_by_rings sp_count_by_rings sp_law_short sp_longest_at_most sp_chance_of_ring sp_mean_right))
@[reducible] def w_law_t8 (sp_law_draws : Spc) (sp_law_take : Spc) (sp_law_few : Spc) (sp_law_order : Spc) (sp_rings_of : Spc) (sp_law_rings : Spc) (sp_law_same : Spc) (sp_law_wrong : Spc) (sp_all_wrong : Spc) (sp_law_ways : Spc) (sp_just_right : Spc) (sp_law_orders : Spc) (sp_law_by_rings : Spc) (sp_count_by_rings : Spc) (sp_law_short : Spc) (sp_longest_at_most : Spc) (sp_chance_of_ring : Spc) (sp_mean_right : Spc) : WS :=
  (sSeq (sFor (wIt (wLst (wCons (wC (.int 0)) (wCons (wC (.int 1)) (wCons (wVar 5) (wCons (wOp rAdd (wVar 5) (wC (.int 1))) (wCons (wUn rNeg (wC (.int 1))) (wCons (wCall 2 sp_law_take (wCons (wVar 1) (wCons (wOp rAdd (wVar 5) (wC (.int 1))) wNil))) wNil)))))))) (gN 7) (sSeq (sAsg (wC (.int 0)) (gN 8))
    (sSeq (sIf (wtVal (wChain rLe rLe (wC (.int 0)) (wVar 7) (wVar 5))) (sAsg (wOp rMul (wCall 2 sp_law_ways (wCons (wVar 5) (wCons (wVar 7) wNil))) (wOp rIx (wVar 6) (wOp rSub (wVar 5) (wVar 7)))) (gN 8)) sNext)
    (sIf (wtNot (wtVal (wCall 2 sp_law_same (wCons (wCall 2 sp_just_right (wCons (wVar 5) (wCons (wVar 7) wNil))) (wCons (wVar 8) wNil))))) (sRet (wC (.bl false))) sNext))))
    (w_law_t9 sp_law_draws sp_law_take sp_law_few sp_law_order sp_rings_of sp_law_rings sp_law_same sp_law_wrong sp_all_wrong sp_law_ways sp_just_right sp_law_orders sp_law_by_rings sp_count_by_rings sp_law_short sp_longest_at_most sp_chance_of_ring sp_mean_right))
@[reducible] def w_law_t7 (sp_law_draws : Spc) (sp_law_take : Spc) (sp_law_few : Spc) (sp_law_order : Spc) (sp_rings_of : Spc) (sp_law_rings : Spc) (sp_law_same : Spc) (sp_law_wrong : Spc) (sp_all_wrong : Spc) (sp_law_ways : Spc) (sp_just_right : Spc) (sp_law_orders : Spc) (sp_law_by_rings : Spc) (sp_count_by_rings : Spc) (sp_law_short : Spc) (sp_longest_at_most : Spc) (sp_chance_of_ring : Spc) (sp_mean_right : Spc) : WS :=
  (sSeq (sIf (wtNot (wtVal (wCall 2 sp_law_same (wCons (wCall 1 sp_all_wrong (wCons (wVar 5) wNil)) (wCons (wOp rIx (wVar 6) (wVar 5)) wNil))))) (sRet (wC (.bl false))) sNext)
    (w_law_t8 sp_law_draws sp_law_take sp_law_few sp_law_order sp_rings_of sp_law_rings sp_law_same sp_law_wrong sp_all_wrong sp_law_ways sp_just_right sp_law_orders sp_law_by_rings sp_count_by_rings sp_law_short sp_longest_at_most sp_chance_of_ring sp_mean_right))
@[reducible] def w_law_t6 (sp_law_draws : Spc) (sp_law_take : Spc) (sp_law_few : Spc) (sp_law_order : Spc) (sp_rings_of : Spc) (sp_law_rings : Spc) (sp_law_same : Spc) (sp_law_wrong : Spc) (sp_all_wrong : Spc) (sp_law_ways : Spc) (sp_just_right : Spc) (sp_law_orders : Spc) (sp_law_by_rings : Spc) (sp_count_by_rings : Spc) (sp_law_short : Spc) (sp_longest_at_most : Spc) (sp_chance_of_ring : Spc) (sp_mean_right : Spc) : WS :=
  (sSeq (sAsg (wCall 1 sp_law_wrong (wCons (wVar 5) wNil)) (gN 6))
    (w_law_t7 sp_law_draws sp_law_take sp_law_few sp_law_order sp_rings_of sp_law_rings sp_law_same sp_law_wrong sp_all_wrong sp_law_ways sp_just_right sp_law_orders sp_law_by_rings sp_count_by_rings sp_law_short sp_longest_at_most sp_chance_of_ring sp_mean_right))
@[reducible] def w_law_t5 (sp_law_draws : Spc) (sp_law_take : Spc) (sp_law_few : Spc) (sp_law_order : Spc) (sp_rings_of : Spc) (sp_law_rings : Spc) (sp_law_same : Spc) (sp_law_wrong : Spc) (sp_all_wrong : Spc) (sp_law_ways : Spc) (sp_just_right : Spc) (sp_law_orders : Spc) (sp_law_by_rings : Spc) (sp_count_by_rings : Spc) (sp_law_short : Spc) (sp_longest_at_most : Spc) (sp_chance_of_ring : Spc) (sp_mean_right : Spc) : WS :=
  (sSeq (sAsg (wCall 2 sp_law_take (wCons (wVar 1) (wCons (wC (.int 41)) wNil))) (gN 5))
    (w_law_t6 sp_law_draws sp_law_take sp_law_few sp_law_order sp_rings_of sp_law_rings sp_law_same sp_law_wrong sp_all_wrong sp_law_ways sp_just_right sp_law_orders sp_law_by_rings sp_count_by_rings sp_law_short sp_longest_at_most sp_chance_of_ring sp_mean_right))
@[reducible] def w_law_t4 (sp_law_draws : Spc) (sp_law_take : Spc) (sp_law_few : Spc) (sp_law_order : Spc) (sp_rings_of : Spc) (sp_law_rings : Spc) (sp_law_same : Spc) (sp_law_wrong : Spc) (sp_all_wrong : Spc) (sp_law_ways : Spc) (sp_just_right : Spc) (sp_law_orders : Spc) (sp_law_by_rings : Spc) (sp_count_by_rings : Spc) (sp_law_short : Spc) (sp_longest_at_most : Spc) (sp_chance_of_ring : Spc) (sp_mean_right : Spc) : WS :=
  (sSeq (sIf (wtOr (wtNot (wtVal (wCall 2 sp_law_same (wCons (wVar 3) (wCons (wCall 1 sp_law_rings (wCons (wVar 2) wNil)) wNil))))) (wtVal (wOp rNe (wB rSum (wCons (wLc (wIt (wVar 3)) (gN 4) wtYes (wB rLen (wCons (wVar 4) wNil)) [4]) wNil)) (wB rLen (wCons (wVar 2) wNil))))) (sRet (wC (.bl false))) sNext)
    (w_law_t5 sp_law_draws sp_law_take sp_law_few sp_law_order sp_rings_of sp_law_rings sp_law_same sp_law_wrong sp_all_wrong sp_law_ways sp_just_right sp_law_orders sp_law_by_rings sp_count_by_rings sp_law_short sp_longest_at_most sp_chance_of_ring sp_mean_right))
@[reducible] def w_law_t3 (sp_law_draws : Spc) (sp_law_take : Spc) (sp_law_few : Spc) (sp_law_order : Spc) (sp_rings_of : Spc) (sp_law_rings : Spc) (sp_law_same : Spc) (sp_law_wrong : Spc) (sp_all_wrong : Spc) (sp_law_ways : Spc) (sp_just_right : Spc) (sp_law_orders : Spc) (sp_law_by_rings : Spc) (sp_count_by_rings : Spc) (sp_law_short : Spc) (sp_longest_at_most : Spc) (sp_chance_of_ring : Spc) (sp_mean_right : Spc) : WS :=
  (sSeq (sAsg (wCall 1 sp_rings_of (wCons (wVar 2) wNil)) (gN 3))
    (w_law_t4 sp_law_draws sp_law_take sp_law_few sp_law_order sp_rings_of sp_law_rings sp_law_same sp_law_wrong sp_all_wrong sp_law_ways sp_just_right sp_law_orders sp_law_by_rings sp_count_by_rings sp_law_short sp_longest_at_most sp_chance_of_ring sp_mean_right))
@[reducible] def w_law_t2 (sp_law_draws : Spc) (sp_law_take : Spc) (sp_law_few : Spc) (sp_law_order : Spc) (sp_rings_of : Spc) (sp_law_rings : Spc) (sp_law_same : Spc) (sp_law_wrong : Spc) (sp_all_wrong : Spc) (sp_law_ways : Spc) (sp_just_right : Spc) (sp_law_orders : Spc) (sp_law_by_rings : Spc) (sp_count_by_rings : Spc) (sp_law_short : Spc) (sp_longest_at_most : Spc) (sp_chance_of_ring : Spc) (sp_mean_right : Spc) : WS :=
  (sSeq (sAsg (wCall 2 sp_law_order (wCons (wVar 1) (wCons (wCall 2 sp_law_take (wCons (wVar 1) (wCons (wOp rIx (wLst (wCons (wC (.int 9)) (wCons (wC (.int 61)) wNil))) (wCall 2 sp_law_take (wCons (wVar 1) (wCons (wC (.int 2)) wNil)))) wNil))) wNil))) (gN 2))
    (w_law_t3 sp_law_draws sp_law_take sp_law_few sp_law_order sp_rings_of sp_law_rings sp_law_same sp_law_wrong sp_all_wrong sp_law_ways sp_just_right sp_law_orders sp_law_by_rings sp_count_by_rings sp_law_short sp_longest_at_most sp_chance_of_ring sp_mean_right))
@[reducible] def w_law_t1 (sp_law_draws : Spc) (sp_law_take : Spc) (sp_law_few : Spc) (sp_law_order : Spc) (sp_rings_of : Spc) (sp_law_rings : Spc) (sp_law_same : Spc) (sp_law_wrong : Spc) (sp_all_wrong : Spc) (sp_law_ways : Spc) (sp_just_right : Spc) (sp_law_orders : Spc) (sp_law_by_rings : Spc) (sp_count_by_rings : Spc) (sp_law_short : Spc) (sp_longest_at_most : Spc) (sp_chance_of_ring : Spc) (sp_mean_right : Spc) : WS :=
  (sSeq (sIf (wtNot (wtVal (wCall 1 sp_law_few (wCons (wCall 2 sp_law_take (wCons (wVar 1) (wCons (wOp rAdd (wC (.int 6)) (wB rInt (wCons (wOp rEq (wCall 2 sp_law_take (wCons (wVar 1) (wCons (wC (.int 4)) wNil))) (wC (.int 0))) wNil))) wNil))) wNil)))) (sRet (wC (.bl false))) sNext)
    (w_law_t2 sp_law_draws sp_law_take sp_law_few sp_law_order sp_rings_of sp_law_rings sp_law_same sp_law_wrong sp_all_wrong sp_law_ways sp_just_right sp_law_orders sp_law_by_rings sp_count_by_rings sp_law_short sp_longest_at_most sp_chance_of_ring sp_mean_right))
/-! law(script); slots: 0 script, 1 draws, 2 order, 3 told, 4 circle, 5 n, 6 wrong, 7 k, 8 due, 9 each, 10 great, 11 now, 12 size, 13 row, 14 many, 15 most -/
def w_law (sp_law_draws : Spc) (sp_law_take : Spc) (sp_law_few : Spc) (sp_law_order : Spc) (sp_rings_of : Spc) (sp_law_rings : Spc) (sp_law_same : Spc) (sp_law_wrong : Spc) (sp_all_wrong : Spc) (sp_law_ways : Spc) (sp_just_right : Spc) (sp_law_orders : Spc) (sp_law_by_rings : Spc) (sp_count_by_rings : Spc) (sp_law_short : Spc) (sp_longest_at_most : Spc) (sp_chance_of_ring : Spc) (sp_mean_right : Spc) : WS :=
  (sSeq (sAsg (wCall 2 sp_law_draws (wCons (wVar 0) (wCons (wC (.int 160)) wNil))) (gN 1))
    (w_law_t1 sp_law_draws sp_law_take sp_law_few sp_law_order sp_rings_of sp_law_rings sp_law_same sp_law_wrong sp_all_wrong sp_law_ways sp_just_right sp_law_orders sp_law_by_rings sp_count_by_rings sp_law_short sp_longest_at_most sp_chance_of_ring sp_mean_right))
end K96
set_option Elab.async false
set_option linter.all false
set_option maxRecDepth 100000
set_option maxHeartbeats 8000000
/-! the defs of oddsweighed_k96_whole_letters_in_envelop keep their parts -/
namespace K96
open PySem PySem.Spec DL
open L2 (V Hp HO St PE PT PW PA PS PSs PG PI PO Cx Inv RelV Vals)
def topS (i : Nat) : Stmt := PySem.Challenge.pw_oddsweighed_k96_whole_letters_in_envelop.main.body.getD i (.Pass ⟨0, 0, 0, 0⟩)
section
variable {P : Program} {w : World} {K : PySem.W.Frag} {mg : Str → Option Value} {base : Heap}
abbrev s_divisor : Stmt := topS 3
theorem sc_divisor : L2.FnScope ["one", "other"] ["one", "other"] (L2.defScope s_divisor) := ⟨rfl, rfl, rfl, by decide +kernel, rfl, by decide +kernel, by decide +kernel⟩
theorem ok_divisor {f : Addr} {fd : FuncData} {k : Nat} {sp : Spc} (F : L2.Fun K "divisor" "divisor" s_divisor f fd) (hm : mg "divisor" = some (.ref f)) (m_gcd : mg "gcd" = some (.builtin "math.gcd")) (body : Body 2 2 (w_divisor ) sp) : Callee P w K mg base "divisor" (k + 1) 2 sp :=
  callee_of F hm (F.binds (ps := ["one", "other"]) fun _ _ _ _ _ _ us hl => match us, hl with | [_, _], _ => rfl) sc_divisor rfl rfl (fun cdv A outer s H E hr => by
    unfold w_divisor
    exact (dss_one (ds_ret (d_callF b_gcd (by rfl) m_gcd (da_cons (d_var 0) (da_cons (d_var 1) da_nil)))))) body
abbrev s_fraction : Stmt := topS 4
theorem sc_fraction : L2.FnScope ["n", "d", "common"] ["n", "d"] (L2.defScope s_fraction) := ⟨rfl, rfl, rfl, by decide +kernel, rfl, by decide +kernel, by decide +kernel⟩
theorem ok_fraction {f : Addr} {fd : FuncData} {k : Nat} {sp : Spc} (F : L2.Fun K "fraction" "fraction" s_fraction f fd) (hm : mg "fraction" = some (.ref f)) {sp_divisor : Spc} {k_divisor : Nat} (C_divisor : Callee P w K mg base "divisor" k_divisor 2 sp_divisor) (h_divisor : k_divisor ≤ k) (body : Body 3 2 (w_fraction sp_divisor) sp) : Callee P w K mg base "fraction" (k + 1) 2 sp :=
  callee_of F hm (F.binds (ps := ["n", "d"]) fun _ _ _ _ _ _ us hl => match us, hl with | [_, _], _ => rfl) sc_fraction rfl rfl (fun cdv A outer s H E hr => by
    unfold w_fraction
    exact (dss_cons (ds_set 2 sc_fraction.nd (d_calle C_divisor hr h_divisor (by rfl) (da_cons (d_var 0) (da_cons (d_var 1) da_nil))))
      (dss_cons (ds_if (dt_cmp c_lt (d_var 1) d_int) (dss_one (ds_set 2 sc_fraction.nd (d_un u_neg (d_var 2)))) dss_nil)
      (dss_one (ds_ret (d_tup (da_cons (d_op o_div (d_var 0) (d_var 2)) (da_cons (d_op o_div (d_var 1) (d_var 2)) da_nil)))))))) body
abbrev s_all_wrong : Stmt := topS 6
theorem sc_all_wrong : L2.FnScope ["n", "before", "now", "many"] ["n"] (L2.defScope s_all_wrong) := ⟨rfl, rfl, rfl, by decide +kernel, rfl, by decide +kernel, by decide +kernel⟩
theorem ok_all_wrong {f : Addr} {fd : FuncData} {k : Nat} {sp : Spc} (F : L2.Fun K "all_wrong" "all_wrong" s_all_wrong f fd) (hm : mg "all_wrong" = some (.ref f)) (m_range : mg "range" = none) (body : Body 4 1 (w_all_wrong ) sp) : Callee P w K mg base "all_wrong" (k + 1) 1 sp :=
  callee_of F hm (F.binds (ps := ["n"]) fun _ _ _ _ _ _ us hl => match us, hl with | [_], _ => rfl) sc_all_wrong rfl rfl (fun cdv A outer s H E hr => by
    unfold w_all_wrong
    exact (dss_cons (ds_asg (d_tup (da_cons d_int (da_cons d_int da_nil))) (dg_tup rfl (dgs_one 1 sc_all_wrong.nd (dgs_one 2 sc_all_wrong.nd .nil))))
      (dss_cons (ds_if (dt_cmp (c_eq hr) (d_var 0) d_int) (dss_one (ds_ret (d_var 1))) dss_nil)
      (dss_cons (ds_for rfl PassesOwn.never (di_r2 (by rfl) m_range d_int (d_op o_add (d_var 0) d_int)) (dg_name 3 sc_all_wrong.nd) (dss_one (ds_par 1 2 rfl sc_all_wrong.nd (d_var 2) (d_op o_mul (d_op o_sub (d_var 3) d_int) (d_op o_add (d_var 1) (d_var 2))))))
      (dss_one (ds_ret (d_var 2))))))) body
abbrev s_ways : Stmt := topS 7
theorem sc_ways : L2.FnScope ["n", "k", "found", "step"] ["n", "k"] (L2.defScope s_ways) := ⟨rfl, rfl, rfl, by decide +kernel, rfl, by decide +kernel, by decide +kernel⟩
theorem ok_ways {f : Addr} {fd : FuncData} {k : Nat} {sp : Spc} (F : L2.Fun K "ways" "ways" s_ways f fd) (hm : mg "ways" = some (.ref f)) (m_min : mg "min" = none) (m_range : mg "range" = none) (body : Body 4 2 (w_ways ) sp) : Callee P w K mg base "ways" (k + 1) 2 sp :=
  callee_of F hm (F.binds (ps := ["n", "k"]) fun _ _ _ _ _ _ us hl => match us, hl with | [_, _], _ => rfl) sc_ways rfl rfl (fun cdv A outer s H E hr => by
    unfold w_ways
    exact (dss_cons (ds_if (dt_not (dt_chain c_le c_le d_int (d_var 1) (d_var 0))) (dss_one (ds_ret d_int)) dss_nil)
      (dss_cons (ds_set 2 sc_ways.nd d_int)
      (dss_cons (ds_for rfl PassesOwn.never (di_r1 (by rfl) m_range (d_callB (b_min2 rfl) (by rfl) m_min (by decide +kernel) (da_cons (d_var 1) (da_cons (d_op o_sub (d_var 0) (d_var 1)) da_nil)))) (dg_name 3 sc_ways.nd) (dss_one (ds_set 2 sc_ways.nd (d_op o_div (d_op o_mul (d_var 2) (d_op o_sub (d_var 0) (d_var 3))) (d_op o_add (d_var 3) d_int)))))
      (dss_one (ds_ret (d_var 2))))))) body
abbrev s_just_right : Stmt := topS 8
theorem sc_just_right : L2.FnScope ["n", "k"] ["n", "k"] (L2.defScope s_just_right) := ⟨rfl, rfl, rfl, by decide +kernel, rfl, by decide +kernel, by decide +kernel⟩
theorem ok_just_right {f : Addr} {fd : FuncData} {k : Nat} {sp : Spc} (F : L2.Fun K "just_right" "just_right" s_just_right f fd) (hm : mg "just_right" = some (.ref f)) {sp_ways : Spc} {k_ways : Nat} (C_ways : Callee P w K mg base "ways" k_ways 2 sp_ways) (h_ways : k_ways ≤ k) {sp_all_wrong : Spc} {k_all_wrong : Nat} (C_all_wrong : Callee P w K mg base "all_wrong" k_all_wrong 1 sp_all_wrong) (h_all_wrong : k_all_wrong ≤ k) (body : Body 2 2 (w_just_right sp_ways sp_all_wrong) sp) : Callee P w K mg base "just_right" (k + 1) 2 sp :=
  callee_of F hm (F.binds (ps := ["n", "k"]) fun _ _ _ _ _ _ us hl => match us, hl with | [_, _], _ => rfl) sc_just_right rfl rfl (fun cdv A outer s H E hr => by
    unfold w_just_right
    exact (dss_one (ds_ret (d_if (dt_chain c_le c_le d_int (d_var 1) (d_var 0)) (d_op o_mul (d_calle C_ways hr h_ways (by rfl) (da_cons (d_var 0) (da_cons (d_var 1) da_nil))) (d_calle C_all_wrong hr h_all_wrong (by rfl) (da_cons (d_op o_sub (d_var 0) (d_var 1)) da_nil))) d_int)))) body
abbrev s_rings_of : Stmt := topS 9
theorem sc_rings_of : L2.FnScope ["order", "found", "seen", "letter", "ring"] ["order"] (L2.defScope s_rings_of) := ⟨rfl, rfl, rfl, by decide +kernel, rfl, by decide +kernel, by decide +kernel⟩
theorem ok_rings_of {f : Addr} {fd : FuncData} {k : Nat} {sp : Spc} (F : L2.Fun K "rings_of" "rings_of" s_rings_of f fd) (hm : mg "rings_of" = some (.ref f)) (m_len : mg "len" = none) (m_range : mg "range" = none) (m_tuple : mg "tuple" = none) (body : Body 5 1 (w_rings_of ) sp) : Callee P w K mg base "rings_of" (k + 1) 1 sp :=
  callee_of F hm (F.binds (ps := ["order"]) fun _ _ _ _ _ _ us hl => match us, hl with | [_], _ => rfl) sc_rings_of rfl rfl (fun cdv A outer s H E hr => by
    unfold w_rings_of
    exact (dss_cons (ds_set 1 sc_rings_of.nd (d_lst da_nil))
      (dss_cons (ds_set 2 sc_rings_of.nd (d_lst da_nil))
      (dss_cons (ds_for rfl PassesOwn.never (di_r1 (by rfl) m_range (d_callB b_len (by rfl) m_len (by decide +kernel) (da_cons (d_var 0) da_nil))) (dg_name 3 sc_rings_of.nd) (dss_one (ds_if (dt_cmp (c_notin hr) (d_var 3) (d_var 2)) (dss_cons (ds_set 4 sc_rings_of.nd (d_lst (da_cons (d_var 3) da_nil)))
      (dss_cons (ds_while PassesOwn.never (dt_cmp (c_ne hr) (d_ix i_ix (d_var 0) (d_ix i_ix (d_var 4) (d_un u_neg d_int))) (d_var 3)) (dss_one (ds_expr (d_m PySem.F.slot_list_append PySem.F.type_list_append m_append (d_var 4) (da_cons (d_ix i_ix (d_var 0) (d_ix i_ix (d_var 4) (d_un u_neg d_int))) da_nil)))))
      (dss_cons (ds_aug 2 sc_rings_of.nd i_add (d_var 4))
      (dss_one (ds_expr (d_m PySem.F.slot_list_append PySem.F.type_list_append m_append (d_var 1) (da_cons (d_callT b_tuple (by rfl) m_tuple (by decide +kernel) (da_cons (d_var 4) da_nil)) da_nil))))))) dss_nil)))
      (dss_one (ds_ret (d_callT b_tuple (by rfl) m_tuple (by decide +kernel) (da_cons (d_var 1) da_nil)))))))) body
abbrev s_orders_of : Stmt := topS 10
theorem sc_orders_of : L2.FnScope ["n", "found", "step"] ["n"] (L2.defScope s_orders_of) := ⟨rfl, rfl, rfl, by decide +kernel, rfl, by decide +kernel, by decide +kernel⟩
theorem ok_orders_of {f : Addr} {fd : FuncData} {k : Nat} {sp : Spc} (F : L2.Fun K "orders_of" "orders_of" s_orders_of f fd) (hm : mg "orders_of" = some (.ref f)) (m_range : mg "range" = none) (body : Body 3 1 (w_orders_of ) sp) : Callee P w K mg base "orders_of" (k + 1) 1 sp :=
  callee_of F hm (F.binds (ps := ["n"]) fun _ _ _ _ _ _ us hl => match us, hl with | [_], _ => rfl) sc_orders_of rfl rfl (fun cdv A outer s H E hr => by
    unfold w_orders_of
    exact (dss_cons (ds_set 1 sc_orders_of.nd d_int)
      (dss_cons (ds_for rfl PassesOwn.never (di_r1 (by rfl) m_range (d_var 0)) (dg_name 2 sc_orders_of.nd) (dss_one (ds_aug 1 sc_orders_of.nd i_mul (d_op o_add (d_var 2) d_int))))
      (dss_one (ds_ret (d_var 1)))))) body
abbrev s_count_by_rings : Stmt := topS 11
theorem sc_count_by_rings : L2.FnScope ["n", "k", "row", "many", "longer", "rings"] ["n", "k"] (L2.defScope s_count_by_rings) := ⟨rfl, rfl, rfl, by decide +kernel, rfl, by decide +kernel, by decide +kernel⟩
theorem ok_count_by_rings {f : Addr} {fd : FuncData} {k : Nat} {sp : Spc} (F : L2.Fun K "count_by_rings" "count_by_rings" s_count_by_rings f fd) (hm : mg "count_by_rings" = some (.ref f)) (m_range : mg "range" = none) (body : Body 6 2 (w_count_by_rings ) sp) : Callee P w K mg base "count_by_rings" (k + 1) 2 sp :=
  callee_of F hm (F.binds (ps := ["n", "k"]) fun _ _ _ _ _ _ us hl => match us, hl with | [_, _], _ => rfl) sc_count_by_rings rfl rfl (fun cdv A outer s H E hr => by
    unfold w_count_by_rings
    exact (dss_cons (ds_set 2 sc_count_by_rings.nd (d_lst (da_cons d_int da_nil)))
      (dss_cons (ds_for rfl PassesOwn.never (di_r1 (by rfl) m_range (d_var 0)) (dg_name 3 sc_count_by_rings.nd) (dss_cons (ds_set 4 sc_count_by_rings.nd (d_op o_add (d_var 2) (d_lst (da_cons d_int da_nil))))
      (dss_one (by first | exact (ds_set 2 sc_count_by_rings.nd (d_lc (own := [("rings", 5)]) rfl sc_count_by_rings.nd (di_r1 (by rfl) m_range (d_op o_add (d_var 3) d_int)) (L2.blkOk_by (by rfl)) (fun _ _ _ _ _ => (dg_name 5 sc_count_by_rings.nd)) (fun _ _ _ _ _ => dts_nil) (fun _ _ _ _ _ => (d_op o_add (d_op o_mul (d_var 3) (d_ix i_ix (d_var 4) (d_var 5))) (d_if (dt_cmp c_gt (d_var 5) d_int) (d_ix i_ix (d_var 4) (d_op o_sub (d_var 5) d_int)) d_int))))) | exact (ds_setLc 2 (own := [("rings", 5)]) rfl sc_count_by_rings.nd (di_r1 (by rfl) m_range (d_op o_add (d_var 3) d_int)) (L2.blkOk_by (by rfl)) (fun _ _ _ _ _ => (dg_name 5 sc_count_by_rings.nd)) (fun _ _ _ _ _ => dts_nil) (fun _ _ _ _ _ => (d_op o_add (d_op o_mul (d_var 3) (d_ix i_ix (d_var 4) (d_var 5))) (d_if (dt_cmp c_gt (d_var 5) d_int) (d_ix i_ix (d_var 4) (d_op o_sub (d_var 5) d_int)) d_int))) (L2.sw_true rfl rfl rfl (by decide +kernel)))))))
      (dss_one (ds_ret (d_if (dt_chain c_le c_le d_int (d_var 1) (d_var 0)) (d_ix i_ix (d_var 2) (d_var 1)) d_int)))))) body
abbrev s_chance_of_ring : Stmt := topS 12
theorem sc_chance_of_ring : L2.FnScope ["n", "k"] ["n", "k"] (L2.defScope s_chance_of_ring) := ⟨rfl, rfl, rfl, by decide +kernel, rfl, by decide +kernel, by decide +kernel⟩
theorem ok_chance_of_ring {f : Addr} {fd : FuncData} {k : Nat} {sp : Spc} (F : L2.Fun K "chance_of_ring" "chance_of_ring" s_chance_of_ring f fd) (hm : mg "chance_of_ring" = some (.ref f)) {v_NOTHING : V} {u_NOTHING : Value} (g_NOTHING : mg "NOTHING" = some u_NOTHING) (r_NOTHING : RelV v_NOTHING u_NOTHING) (h_NOTHING : ∀ H m, Rep K H m dNOTHING v_NOTHING) (body : Body 2 2 (w_chance_of_ring ) sp) : Callee P w K mg base "chance_of_ring" (k + 1) 2 sp :=
  callee_of F hm (F.binds (ps := ["n", "k"]) fun _ _ _ _ _ _ us hl => match us, hl with | [_, _], _ => rfl) sc_chance_of_ring rfl rfl (fun cdv A outer s H E hr => by
    unfold w_chance_of_ring
    exact (dss_one (ds_ret (d_if (dt_chain c_le c_le d_int (d_var 1) (d_var 0)) (d_tup (da_cons d_int (da_cons (d_var 0) da_nil))) (d_glob (by rfl) g_NOTHING r_NOTHING h_NOTHING))))) body
abbrev s_longest_at_most : Stmt := topS 13
theorem sc_longest_at_most : L2.FnScope ["n", "k", "counts", "many", "total", "length"] ["n", "k"] (L2.defScope s_longest_at_most) := ⟨rfl, rfl, rfl, by decide +kernel, rfl, by decide +kernel, by decide +kernel⟩
theorem ok_longest_at_most {f : Addr} {fd : FuncData} {k : Nat} {sp : Spc} (F : L2.Fun K "longest_at_most" "longest_at_most" s_longest_at_most f fd) (hm : mg "longest_at_most" = some (.ref f)) (m_range : mg "range" = none) (m_min : mg "min" = none) {sp_orders_of : Spc} {k_orders_of : Nat} (C_orders_of : Callee P w K mg base "orders_of" k_orders_of 1 sp_orders_of) (h_orders_of : k_orders_of ≤ k) {sp_fraction : Spc} {k_fraction : Nat} (C_fraction : Callee P w K mg base "fraction" k_fraction 2 sp_fraction) (h_fraction : k_fraction ≤ k) (body : Body 6 2 (w_longest_at_most sp_orders_of sp_fraction) sp) : Callee P w K mg base "longest_at_most" (k + 1) 2 sp :=
  callee_of F hm (F.binds (ps := ["n", "k"]) fun _ _ _ _ _ _ us hl => match us, hl with | [_, _], _ => rfl) sc_longest_at_most rfl rfl (fun cdv A outer s H E hr => by
    unfold w_longest_at_most
    exact (dss_cons (ds_set 2 sc_longest_at_most.nd (d_lst (da_cons d_int da_nil)))
      (dss_cons (ds_for rfl PassesOwn.never (di_r2 (by rfl) m_range d_int (d_op o_add (d_var 0) d_int)) (dg_name 3 sc_longest_at_most.nd) (dss_cons (ds_set 4 sc_longest_at_most.nd d_int)
      (dss_cons (ds_for rfl PassesOwn.never (di_r2 (by rfl) m_range d_int (d_op o_add (d_callB (b_min2 rfl) (by rfl) m_min (by decide +kernel) (da_cons (d_var 1) (da_cons (d_var 3) da_nil))) d_int)) (dg_name 5 sc_longest_at_most.nd) (dss_one (ds_aug 4 sc_longest_at_most.nd i_add (d_op o_div (d_op o_mul (d_ix i_ix (d_var 2) (d_op o_sub (d_var 3) (d_var 5))) (d_calle C_orders_of hr h_orders_of (by rfl) (da_cons (d_op o_sub (d_var 3) d_int) da_nil))) (d_calle C_orders_of hr h_orders_of (by rfl) (da_cons (d_op o_sub (d_var 3) (d_var 5)) da_nil))))))
      (dss_one (ds_expr (d_m PySem.F.slot_list_append PySem.F.type_list_append m_append (d_var 2) (da_cons (d_var 4) da_nil)))))))
      (dss_one (ds_ret (d_calle C_fraction hr h_fraction (by rfl) (da_cons (d_ix i_ix (d_var 2) (d_var 0)) (da_cons (d_calle C_orders_of hr h_orders_of (by rfl) (da_cons (d_var 0) da_nil)) da_nil)))))))) body
abbrev s_mean_right : Stmt := topS 14
theorem sc_mean_right : L2.FnScope ["n"] ["n"] (L2.defScope s_mean_right) := ⟨rfl, rfl, rfl, by decide +kernel, rfl, by decide +kernel, by decide +kernel⟩
theorem ok_mean_right {f : Addr} {fd : FuncData} {k : Nat} {sp : Spc} (F : L2.Fun K "mean_right" "mean_right" s_mean_right f fd) (hm : mg "mean_right" = some (.ref f)) {sp_fraction : Spc} {k_fraction : Nat} (C_fraction : Callee P w K mg base "fraction" k_fraction 2 sp_fraction) (h_fraction : k_fraction ≤ k) (body : Body 1 1 (w_mean_right sp_fraction) sp) : Callee P w K mg base "mean_right" (k + 1) 1 sp :=
  callee_of F hm (F.binds (ps := ["n"]) fun _ _ _ _ _ _ us hl => match us, hl with | [_], _ => rfl) sc_mean_right rfl rfl (fun cdv A outer s H E hr => by
    unfold w_mean_right
    exact (dss_one (ds_ret (d_calle C_fraction hr h_fraction (by rfl) (da_cons (d_var 0) (da_cons (d_var 0) da_nil)))))) body
abbrev s_law_draws : Stmt := topS 16
theorem sc_law_draws : L2.FnScope ["script", "many", "cells", "cell", "rest", "draws", "k", "at", "mingled"] ["script", "many"] (L2.defScope s_law_draws) := ⟨rfl, rfl, rfl, by decide +kernel, rfl, by decide +kernel, by decide +kernel⟩
theorem ok_law_draws {f : Addr} {fd : FuncData} {k : Nat} {sp : Spc} (F : L2.Fun K "_law_draws" "_law_draws" s_law_draws f fd) (hm : mg "_law_draws" = some (.ref f)) (m_int : mg "int" = none) (m_len : mg "len" = none) (m_list : mg "list" = none) (m_range : mg "range" = none) (body : Body 9 2 (w_law_draws ) sp) : Callee P w K mg base "_law_draws" (k + 1) 2 sp :=
  callee_of F hm (F.binds (ps := ["script", "many"]) fun _ _ _ _ _ _ us hl => match us, hl with | [_, _], _ => rfl) sc_law_draws rfl rfl (fun cdv A outer s H E hr => by
    unfold w_law_draws
    exact (dss_cons (by first | exact (ds_set 2 sc_law_draws.nd (d_lc (own := [("cell", 3)]) rfl sc_law_draws.nd (di_it (d_var 0)) (L2.blkOk_by (by rfl)) (fun _ _ _ _ _ => (dg_name 3 sc_law_draws.nd)) (fun _ _ _ _ _ => dts_nil) (fun _ _ _ _ _ => (d_callT b_int (by rfl) m_int (by decide +kernel) (da_cons (d_var 3) da_nil))))) | exact (ds_setLc 2 (own := [("cell", 3)]) rfl sc_law_draws.nd (di_it (d_var 0)) (L2.blkOk_by (by rfl)) (fun _ _ _ _ _ => (dg_name 3 sc_law_draws.nd)) (fun _ _ _ _ _ => dts_nil) (fun _ _ _ _ _ => (d_callT b_int (by rfl) m_int (by decide +kernel) (da_cons (d_var 3) da_nil))) (L2.sw_true rfl rfl rfl (by decide +kernel))))
      (dss_cons (ds_if (dt_cmp (c_eq hr) (d_callB b_len (by rfl) m_len (by decide +kernel) (da_cons (d_var 2) da_nil)) d_int) (dss_one (ds_expr (d_m PySem.F.slot_list_append PySem.F.type_list_append m_append (d_var 2) (da_cons d_int da_nil)))) dss_nil)
      (dss_cons (ds_set 4 sc_law_draws.nd (d_callT b_list (by rfl) m_list (by decide +kernel) (da_cons (d_var 2) da_nil)))
      (dss_cons (ds_set 5 sc_law_draws.nd (d_lst da_nil))
      (dss_cons (ds_for rfl PassesOwn.never (di_r1 (by rfl) m_range (d_var 1)) (dg_name 6 sc_law_draws.nd) (dss_cons (ds_set 7 sc_law_draws.nd (d_op o_mod (d_var 6) (d_callB b_len (by rfl) m_len (by decide +kernel) (da_cons (d_var 2) da_nil))))
      (dss_one (ds_if (PW.pt (dw_and (dt_cmp c_ge (d_ix i_ix (d_var 2) (d_var 7)) (d_op o_pow d_int d_int)) (dw_and1 (dt_cmp c_gt (d_ix i_ix (d_var 4) (d_var 7)) d_int)))) (dss_cons (ds_expr (d_m PySem.F.slot_list_append PySem.F.type_list_append m_append (d_var 5) (da_cons (d_op o_mod (d_callT b_int (by rfl) m_int (by decide +kernel) (da_cons (d_ix i_ix (d_var 4) (d_var 7)) da_nil)) d_int) da_nil)))
      (dss_one (ds_sub p_put (d_op o_div (d_ix i_ix (d_var 4) (d_var 7)) d_int) (d_var 4) (d_var 7)))) (dss_cons (ds_set 8 sc_law_draws.nd (d_op o_mod (d_callT b_int (by rfl) m_int (by decide +kernel) (da_cons (d_op o_add (d_op o_add (d_op o_mul (d_ix i_ix (d_var 2) (d_var 7)) d_int) (d_op o_mul (d_var 6) d_int)) d_int) da_nil)) d_int))
      (dss_one (ds_expr (d_m PySem.F.slot_list_append PySem.F.type_list_append m_append (d_var 5) (da_cons (d_op o_mod (d_callT b_int (by rfl) m_int (by decide +kernel) (da_cons (d_op o_add (d_op o_add (d_op o_mul (d_var 8) (d_var 8)) (d_op o_mul d_int (d_var 8))) (d_var 6)) da_nil)) d_int) da_nil)))))))))
      (dss_cons (ds_expr (d_m0 PySem.F.slot_list_reverse PySem.F.type_list_reverse m_reverse (d_var 5)))
      (dss_one (ds_ret (d_var 5)))))))))) body
abbrev s_law_take : Stmt := topS 17
theorem sc_law_take : L2.FnScope ["draws", "many"] ["draws", "many"] (L2.defScope s_law_take) := ⟨rfl, rfl, rfl, by decide +kernel, rfl, by decide +kernel, by decide +kernel⟩
theorem ok_law_take {f : Addr} {fd : FuncData} {k : Nat} {sp : Spc} (F : L2.Fun K "_law_take" "_law_take" s_law_take f fd) (hm : mg "_law_take" = some (.ref f)) (m_len : mg "len" = none) (m_int : mg "int" = none) (body : Body 2 2 (w_law_take ) sp) : Callee P w K mg base "_law_take" (k + 1) 2 sp :=
  callee_of F hm (F.binds (ps := ["draws", "many"]) fun _ _ _ _ _ _ us hl => match us, hl with | [_, _], _ => rfl) sc_law_take rfl rfl (fun cdv A outer s H E hr => by
    unfold w_law_take
    exact (dss_cons (ds_if (dt_cmp (c_eq hr) (d_callB b_len (by rfl) m_len (by decide +kernel) (da_cons (d_var 0) da_nil)) d_int) (dss_one (ds_ret d_int)) dss_nil)
      (dss_one (ds_ret (d_op o_mod (d_callT b_int (by rfl) m_int (by decide +kernel) (da_cons (d_m0 PySem.F.slot_list_pop PySem.F.type_list_pop m_pop (d_var 0)) da_nil)) (d_var 1)))))) body
abbrev s_law_same : Stmt := topS 18
theorem sc_law_same : L2.FnScope ["actual", "due", "k"] ["actual", "due"] (L2.defScope s_law_same) := ⟨rfl, rfl, rfl, by decide +kernel, rfl, by decide +kernel, by decide +kernel⟩
theorem ok_law_same {f : Addr} {fd : FuncData} {k : Nat} {sp : Spc} (F : L2.Fun K "_law_same" "_law_same" s_law_same f fd) (hm : mg "_law_same" = some (.ref f)) (m_bool : mg "bool" = none) (m_isinstance : mg "isinstance" = none) (m_int : mg "int" = none) (m_str : mg "str" = none) (m_tuple : mg "tuple" = none) (m_len : mg "len" = none) (m_range : mg "range" = none) {sp_law_same : Spc} {k_law_same : Nat} (C_law_same : Callee P w K mg base "_law_same" k_law_same 2 sp_law_same) (h_law_same : k_law_same ≤ k) (body : Body 3 2 (w_law_same sp_law_same) sp) : Callee P w K mg base "_law_same" (k + 1) 2 sp :=
  callee_of F hm (F.binds (ps := ["actual", "due"]) fun _ _ _ _ _ _ us hl => match us, hl with | [_, _], _ => rfl) sc_law_same rfl rfl (fun cdv A outer s H E hr => by
    unfold w_law_same
    exact (dss_cons (ds_if (dt_val (d_callB b_isi (by rfl) m_isinstance (by decide +kernel) (da_cons (d_var 1) (da_cons (d_ty (by rfl) m_bool (by decide +kernel)) da_nil)))) (dss_one (ds_ret (d_and (d_callB b_isi (by rfl) m_isinstance (by decide +kernel) (da_cons (d_var 0) (da_cons (d_ty (by rfl) m_bool (by decide +kernel)) da_nil))) (d_one (d_cmp (c_eq hr) (d_var 0) (d_var 1)))))) dss_nil)
      (dss_cons (ds_if (dt_val (d_callB b_isi (by rfl) m_isinstance (by decide +kernel) (da_cons (d_var 1) (da_cons (d_ty (by rfl) m_int (by decide +kernel)) da_nil)))) (dss_one (ds_ret (d_and (d_callB b_isi (by rfl) m_isinstance (by decide +kernel) (da_cons (d_var 0) (da_cons (d_ty (by rfl) m_int (by decide +kernel)) da_nil))) (d_and (d_not (d_callB b_isi (by rfl) m_isinstance (by decide +kernel) (da_cons (d_var 0) (da_cons (d_ty (by rfl) m_bool (by decide +kernel)) da_nil)))) (d_one (d_cmp (c_eq hr) (d_var 0) (d_var 1))))))) dss_nil)
      (dss_cons (ds_if (dt_val (d_callB b_isi (by rfl) m_isinstance (by decide +kernel) (da_cons (d_var 1) (da_cons (d_ty (by rfl) m_str (by decide +kernel)) da_nil)))) (dss_one (ds_ret (d_and (d_callB b_isi (by rfl) m_isinstance (by decide +kernel) (da_cons (d_var 0) (da_cons (d_ty (by rfl) m_str (by decide +kernel)) da_nil))) (d_one (d_cmp (c_eq hr) (d_var 0) (d_var 1)))))) dss_nil)
      (dss_cons (ds_if (dt_cmp c_is (d_var 1) d_non) (dss_one (ds_ret (d_cmp c_is (d_var 0) d_non))) dss_nil)
      (dss_cons (ds_if (PW.pt (dw_or (dt_not (dt_val (d_callB b_isi (by rfl) m_isinstance (by decide +kernel) (da_cons (d_var 0) (da_cons (d_ty (by rfl) m_tuple (by decide +kernel)) da_nil))))) (dw_or1 (dt_cmp (c_ne hr) (d_callB b_len (by rfl) m_len (by decide +kernel) (da_cons (d_var 0) da_nil)) (d_callB b_len (by rfl) m_len (by decide +kernel) (da_cons (d_var 1) da_nil)))))) (dss_one (ds_ret d_bl)) dss_nil)
      (dss_cons (ds_for rfl PassesOwn.never (di_r1 (by rfl) m_range (d_callB b_len (by rfl) m_len (by decide +kernel) (da_cons (d_var 1) da_nil))) (dg_name 2 sc_law_same.nd) (dss_one (ds_if (dt_not (dt_val (d_calle C_law_same hr h_law_same (by rfl) (da_cons (d_ix i_ix (d_var 0) (d_var 2)) (da_cons (d_ix i_ix (d_var 1) (d_var 2)) da_nil))))) (dss_one (ds_ret d_bl)) dss_nil)))
      (dss_one (ds_ret d_bl))))))))) body
abbrev s_law_shared : Stmt := topS 19
theorem sc_law_shared : L2.FnScope ["one", "other", "first", "rest", "k", "later"] ["one", "other"] (L2.defScope s_law_shared) := ⟨rfl, rfl, rfl, by decide +kernel, rfl, by decide +kernel, by decide +kernel⟩
theorem ok_law_shared {f : Addr} {fd : FuncData} {k : Nat} {sp : Spc} (F : L2.Fun K "_law_shared" "_law_shared" s_law_shared f fd) (hm : mg "_law_shared" = some (.ref f)) (m_abs : mg "abs" = none) (m_range : mg "range" = none) (m_int : mg "int" = none) (body : Body 6 2 (w_law_shared ) sp) : Callee P w K mg base "_law_shared" (k + 1) 2 sp :=
  callee_of F hm (F.binds (ps := ["one", "other"]) fun _ _ _ _ _ _ us hl => match us, hl with | [_, _], _ => rfl) sc_law_shared rfl rfl (fun cdv A outer s H E hr => by
    unfold w_law_shared
    exact (dss_cons (ds_set 2 sc_law_shared.nd (d_callB b_abs (by rfl) m_abs (by decide +kernel) (da_cons (d_var 0) da_nil)))
      (dss_cons (ds_set 3 sc_law_shared.nd (d_callB b_abs (by rfl) m_abs (by decide +kernel) (da_cons (d_var 1) da_nil)))
      (dss_cons (ds_for rfl PassesOwn.never (di_r1 (by rfl) m_range d_int) (dg_name 4 sc_law_shared.nd) (dss_cons (ds_if (dt_cmp (c_eq hr) (d_var 3) d_int) (dss_one ds_break) dss_nil)
      (dss_cons (ds_set 5 sc_law_shared.nd (d_op o_mod (d_callT b_int (by rfl) m_int (by decide +kernel) (da_cons (d_var 2) da_nil)) (d_var 3)))
      (dss_cons (ds_set 2 sc_law_shared.nd (d_var 3))
      (dss_one (ds_set 3 sc_law_shared.nd (d_var 5)))))))
      (dss_one (ds_ret (d_var 2))))))) body
abbrev s_law_frac : Stmt := topS 20
theorem sc_law_frac : L2.FnScope ["n", "d", "size"] ["n", "d"] (L2.defScope s_law_frac) := ⟨rfl, rfl, rfl, by decide +kernel, rfl, by decide +kernel, by decide +kernel⟩
theorem ok_law_frac {f : Addr} {fd : FuncData} {k : Nat} {sp : Spc} (F : L2.Fun K "_law_frac" "_law_frac" s_law_frac f fd) (hm : mg "_law_frac" = some (.ref f)) {sp_law_shared : Spc} {k_law_shared : Nat} (C_law_shared : Callee P w K mg base "_law_shared" k_law_shared 2 sp_law_shared) (h_law_shared : k_law_shared ≤ k) (body : Body 3 2 (w_law_frac sp_law_shared) sp) : Callee P w K mg base "_law_frac" (k + 1) 2 sp :=
  callee_of F hm (F.binds (ps := ["n", "d"]) fun _ _ _ _ _ _ us hl => match us, hl with | [_, _], _ => rfl) sc_law_frac rfl rfl (fun cdv A outer s H E hr => by
    unfold w_law_frac
    exact (dss_cons (ds_set 2 sc_law_frac.nd (d_calle C_law_shared hr h_law_shared (by rfl) (da_cons (d_var 0) (da_cons (d_var 1) da_nil))))
      (dss_cons (ds_if (dt_cmp c_lt (d_var 1) d_int) (dss_one (ds_set 2 sc_law_frac.nd (d_un u_neg (d_var 2)))) dss_nil)
      (dss_one (ds_ret (d_tup (da_cons (d_op o_div (d_var 0) (d_var 2)) (da_cons (d_op o_div (d_var 1) (d_var 2)) da_nil)))))))) body
abbrev s_law_plus : Stmt := topS 21
theorem sc_law_plus : L2.FnScope ["one", "other"] ["one", "other"] (L2.defScope s_law_plus) := ⟨rfl, rfl, rfl, by decide +kernel, rfl, by decide +kernel, by decide +kernel⟩
theorem ok_law_plus {f : Addr} {fd : FuncData} {k : Nat} {sp : Spc} (F : L2.Fun K "_law_plus" "_law_plus" s_law_plus f fd) (hm : mg "_law_plus" = some (.ref f)) {sp_law_frac : Spc} {k_law_frac : Nat} (C_law_frac : Callee P w K mg base "_law_frac" k_law_frac 2 sp_law_frac) (h_law_frac : k_law_frac ≤ k) (body : Body 2 2 (w_law_plus sp_law_frac) sp) : Callee P w K mg base "_law_plus" (k + 1) 2 sp :=
  callee_of F hm (F.binds (ps := ["one", "other"]) fun _ _ _ _ _ _ us hl => match us, hl with | [_, _], _ => rfl) sc_law_plus rfl rfl (fun cdv A outer s H E hr => by
    unfold w_law_plus
    exact (dss_one (ds_ret (d_calle C_law_frac hr h_law_frac (by rfl) (da_cons (d_op o_add (d_op o_mul (d_ix i_ix (d_var 0) d_int) (d_ix i_ix (d_var 1) d_int)) (d_op o_mul (d_ix i_ix (d_var 1) d_int) (d_ix i_ix (d_var 0) d_int))) (da_cons (d_op o_mul (d_ix i_ix (d_var 0) d_int) (d_ix i_ix (d_var 1) d_int)) da_nil)))))) body
abbrev s_law_mul : Stmt := topS 22
theorem sc_law_mul : L2.FnScope ["one", "other"] ["one", "other"] (L2.defScope s_law_mul) := ⟨rfl, rfl, rfl, by decide +kernel, rfl, by decide +kernel, by decide +kernel⟩
theorem ok_law_mul {f : Addr} {fd : FuncData} {k : Nat} {sp : Spc} (F : L2.Fun K "_law_mul" "_law_mul" s_law_mul f fd) (hm : mg "_law_mul" = some (.ref f)) {sp_law_frac : Spc} {k_law_frac : Nat} (C_law_frac : Callee P w K mg base "_law_frac" k_law_frac 2 sp_law_frac) (h_law_frac : k_law_frac ≤ k) (body : Body 2 2 (w_law_mul sp_law_frac) sp) : Callee P w K mg base "_law_mul" (k + 1) 2 sp :=
  callee_of F hm (F.binds (ps := ["one", "other"]) fun _ _ _ _ _ _ us hl => match us, hl with | [_, _], _ => rfl) sc_law_mul rfl rfl (fun cdv A outer s H E hr => by
    unfold w_law_mul
    exact (dss_one (ds_ret (d_calle C_law_frac hr h_law_frac (by rfl) (da_cons (d_op o_mul (d_ix i_ix (d_var 0) d_int) (d_ix i_ix (d_var 1) d_int)) (da_cons (d_op o_mul (d_ix i_ix (d_var 0) d_int) (d_ix i_ix (d_var 1) d_int)) da_nil)))))) body
abbrev s_law_ways : Stmt := topS 23
theorem sc_law_ways : L2.FnScope ["n", "k", "found", "j"] ["n", "k"] (L2.defScope s_law_ways) := ⟨rfl, rfl, rfl, by decide +kernel, rfl, by decide +kernel, by decide +kernel⟩
theorem ok_law_ways {f : Addr} {fd : FuncData} {k : Nat} {sp : Spc} (F : L2.Fun K "_law_ways" "_law_ways" s_law_ways f fd) (hm : mg "_law_ways" = some (.ref f)) (m_range : mg "range" = none) (body : Body 4 2 (w_law_ways ) sp) : Callee P w K mg base "_law_ways" (k + 1) 2 sp :=
  callee_of F hm (F.binds (ps := ["n", "k"]) fun _ _ _ _ _ _ us hl => match us, hl with | [_, _], _ => rfl) sc_law_ways rfl rfl (fun cdv A outer s H E hr => by
    unfold w_law_ways
    exact (dss_cons (ds_if (PW.pt (dw_or (dt_cmp c_lt (d_var 1) d_int) (dw_or1 (dt_cmp c_gt (d_var 1) (d_var 0))))) (dss_one (ds_ret d_int)) dss_nil)
      (dss_cons (ds_set 2 sc_law_ways.nd d_int)
      (dss_cons (ds_for rfl PassesOwn.never (di_r1 (by rfl) m_range (d_var 1)) (dg_name 3 sc_law_ways.nd) (dss_one (ds_set 2 sc_law_ways.nd (d_op o_div (d_op o_mul (d_var 2) (d_op o_sub (d_var 0) (d_var 3))) (d_op o_add (d_var 3) d_int)))))
      (dss_one (ds_ret (d_var 2))))))) body
abbrev s_law_all_orders : Stmt := topS 24
theorem sc_law_all_orders : L2.FnScope ["n", "found", "k", "more_of", "order", "at"] ["n"] (L2.defScope s_law_all_orders) := ⟨rfl, rfl, rfl, by decide +kernel, rfl, by decide +kernel, by decide +kernel⟩
theorem ok_law_all_orders {f : Addr} {fd : FuncData} {k : Nat} {sp : Spc} (F : L2.Fun K "_law_all_orders" "_law_all_orders" s_law_all_orders f fd) (hm : mg "_law_all_orders" = some (.ref f)) (m_range : mg "range" = none) (body : Body 6 1 (w_law_all_orders ) sp) : Callee P w K mg base "_law_all_orders" (k + 1) 1 sp :=
  callee_of F hm (F.binds (ps := ["n"]) fun _ _ _ _ _ _ us hl => match us, hl with | [_], _ => rfl) sc_law_all_orders rfl rfl (fun cdv A outer s H E hr => by
    unfold w_law_all_orders
    exact (dss_cons (ds_set 1 sc_law_all_orders.nd (d_lst (da_cons (d_tup da_nil) da_nil)))
      (dss_cons (ds_for rfl PassesOwn.never (di_r1 (by rfl) m_range (d_var 0)) (dg_name 2 sc_law_all_orders.nd) (dss_cons (ds_set 3 sc_law_all_orders.nd (d_lst da_nil))
      (dss_cons (ds_for rfl PassesOwn.never (di_it (d_var 1)) (dg_name 4 sc_law_all_orders.nd) (dss_one (ds_set 3 sc_law_all_orders.nd (d_op o_add (d_var 3) (d_lc (own := [("at", 5)]) rfl sc_law_all_orders.nd (di_r1 (by rfl) m_range (d_op o_add (d_var 2) d_int)) (L2.blkOk_by (by rfl)) (fun _ _ _ _ _ => (dg_name 5 sc_law_all_orders.nd)) (fun _ _ _ _ _ => dts_nil) (fun _ _ _ _ _ => (d_op o_add (d_op o_add (d_sl s_cut (d_var 4) dp_no (dp_at (d_var 5))) (d_tup (da_cons (d_var 2) da_nil))) (d_sl s_cut (d_var 4) (dp_at (d_var 5)) dp_no))))))))
      (dss_one (ds_set 1 sc_law_all_orders.nd (d_var 3))))))
      (dss_one (ds_ret (d_var 1)))))) body
abbrev s_law_rings : Stmt := topS 25
theorem sc_law_rings : L2.FnScope ["order", "found", "letter", "circle", "k"] ["order"] (L2.defScope s_law_rings) := ⟨rfl, rfl, rfl, by decide +kernel, rfl, by decide +kernel, by decide +kernel⟩
theorem ok_law_rings {f : Addr} {fd : FuncData} {k : Nat} {sp : Spc} (F : L2.Fun K "_law_rings" "_law_rings" s_law_rings f fd) (hm : mg "_law_rings" = some (.ref f)) (m_len : mg "len" = none) (m_range : mg "range" = none) (m_min : mg "min" = none) (m_tuple : mg "tuple" = none) (body : Body 5 1 (w_law_rings ) sp) : Callee P w K mg base "_law_rings" (k + 1) 1 sp :=
  callee_of F hm (F.binds (ps := ["order"]) fun _ _ _ _ _ _ us hl => match us, hl with | [_], _ => rfl) sc_law_rings rfl rfl (fun cdv A outer s H E hr => by
    unfold w_law_rings
    exact (dss_cons (ds_set 1 sc_law_rings.nd (d_lst da_nil))
      (dss_cons (ds_for rfl PassesOwn.never (di_r1 (by rfl) m_range (d_callB b_len (by rfl) m_len (by decide +kernel) (da_cons (d_var 0) da_nil))) (dg_name 2 sc_law_rings.nd) (dss_cons (ds_set 3 sc_law_rings.nd (d_lst (da_cons (d_var 2) da_nil)))
      (dss_cons (ds_for rfl PassesOwn.never (di_r1 (by rfl) m_range (d_callB b_len (by rfl) m_len (by decide +kernel) (da_cons (d_var 0) da_nil))) (dg_name 4 sc_law_rings.nd) (dss_cons (ds_if (dt_cmp (c_eq hr) (d_ix i_ix (d_var 0) (d_ix i_ix (d_var 3) (d_un u_neg d_int))) (d_var 2)) (dss_one ds_break) dss_nil)
      (dss_one (ds_expr (d_m PySem.F.slot_list_append PySem.F.type_list_append m_append (d_var 3) (da_cons (d_ix i_ix (d_var 0) (d_ix i_ix (d_var 3) (d_un u_neg d_int))) da_nil))))))
      (dss_one (ds_if (dt_cmp (c_eq hr) (d_callB (b_min rfl hr) (by rfl) m_min (by decide +kernel) (da_cons (d_var 3) da_nil)) (d_var 2)) (dss_one (ds_expr (d_m PySem.F.slot_list_append PySem.F.type_list_append m_append (d_var 1) (da_cons (d_callT b_tuple (by rfl) m_tuple (by decide +kernel) (da_cons (d_var 3) da_nil)) da_nil)))) dss_nil)))))
      (dss_one (ds_ret (d_callT b_tuple (by rfl) m_tuple (by decide +kernel) (da_cons (d_var 1) da_nil))))))) body
abbrev s_law_orders : Stmt := topS 26
theorem sc_law_orders : L2.FnScope ["n", "found", "k"] ["n"] (L2.defScope s_law_orders) := ⟨rfl, rfl, rfl, by decide +kernel, rfl, by decide +kernel, by decide +kernel⟩
theorem ok_law_orders {f : Addr} {fd : FuncData} {k : Nat} {sp : Spc} (F : L2.Fun K "_law_orders" "_law_orders" s_law_orders f fd) (hm : mg "_law_orders" = some (.ref f)) (m_range : mg "range" = none) (body : Body 3 1 (w_law_orders ) sp) : Callee P w K mg base "_law_orders" (k + 1) 1 sp :=
  callee_of F hm (F.binds (ps := ["n"]) fun _ _ _ _ _ _ us hl => match us, hl with | [_], _ => rfl) sc_law_orders rfl rfl (fun cdv A outer s H E hr => by
    unfold w_law_orders
    exact (dss_cons (ds_set 1 sc_law_orders.nd d_int)
      (dss_cons (ds_for rfl PassesOwn.never (di_r1 (by rfl) m_range (d_var 0)) (dg_name 2 sc_law_orders.nd) (dss_one (ds_set 1 sc_law_orders.nd (d_op o_mul (d_var 1) (d_op o_add (d_var 2) d_int)))))
      (dss_one (ds_ret (d_var 1)))))) body
abbrev s_law_wrong : Stmt := topS 27
theorem sc_law_wrong : L2.FnScope ["n", "found", "many", "k"] ["n"] (L2.defScope s_law_wrong) := ⟨rfl, rfl, rfl, by decide +kernel, rfl, by decide +kernel, by decide +kernel⟩
theorem ok_law_wrong {f : Addr} {fd : FuncData} {k : Nat} {sp : Spc} (F : L2.Fun K "_law_wrong" "_law_wrong" s_law_wrong f fd) (hm : mg "_law_wrong" = some (.ref f)) (m_range : mg "range" = none) (m_sum : mg "sum" = none) {sp_law_orders : Spc} {k_law_orders : Nat} (C_law_orders : Callee P w K mg base "_law_orders" k_law_orders 1 sp_law_orders) (h_law_orders : k_law_orders ≤ k) {sp_law_ways : Spc} {k_law_ways : Nat} (C_law_ways : Callee P w K mg base "_law_ways" k_law_ways 2 sp_law_ways) (h_law_ways : k_law_ways ≤ k) (body : Body 4 1 (w_law_wrong sp_law_orders sp_law_ways) sp) : Callee P w K mg base "_law_wrong" (k + 1) 1 sp :=
  callee_of F hm (F.binds (ps := ["n"]) fun _ _ _ _ _ _ us hl => match us, hl with | [_], _ => rfl) sc_law_wrong rfl rfl (fun cdv A outer s H E hr => by
    unfold w_law_wrong
    exact (dss_cons (ds_set 1 sc_law_wrong.nd (d_lst da_nil))
      (dss_cons (ds_for rfl PassesOwn.never (di_r1 (by rfl) m_range (d_op o_add (d_var 0) d_int)) (dg_name 2 sc_law_wrong.nd) (dss_one (ds_expr (d_m PySem.F.slot_list_append PySem.F.type_list_append m_append (d_var 1) (da_cons (d_op o_sub (d_calle C_law_orders hr h_law_orders (by rfl) (da_cons (d_var 2) da_nil)) (d_callB (b_sum rfl) (by rfl) m_sum (by decide +kernel) (da_cons (d_lc (own := [("k", 3)]) rfl sc_law_wrong.nd (di_r2 (by rfl) m_range d_int (d_op o_add (d_var 2) d_int)) (L2.blkOk_by (by rfl)) (fun _ _ _ _ _ => (dg_name 3 sc_law_wrong.nd)) (fun _ _ _ _ _ => dts_nil) (fun _ _ _ _ _ => (d_op o_mul (d_calle C_law_ways hr h_law_ways (by rfl) (da_cons (d_var 2) (da_cons (d_var 3) da_nil))) (d_ix i_ix (d_var 1) (d_op o_sub (d_var 2) (d_var 3)))))) da_nil))) da_nil)))))
      (dss_one (ds_ret (d_var 1)))))) body
abbrev s_law_by_rings : Stmt := topS 28
theorem sc_law_by_rings : L2.FnScope ["n", "row", "many", "later", "k"] ["n"] (L2.defScope s_law_by_rings) := ⟨rfl, rfl, rfl, by decide +kernel, rfl, by decide +kernel, by decide +kernel⟩
theorem ok_law_by_rings {f : Addr} {fd : FuncData} {k : Nat} {sp : Spc} (F : L2.Fun K "_law_by_rings" "_law_by_rings" s_law_by_rings f fd) (hm : mg "_law_by_rings" = some (.ref f)) (m_range : mg "range" = none) (body : Body 5 1 (w_law_by_rings ) sp) : Callee P w K mg base "_law_by_rings" (k + 1) 1 sp :=
  callee_of F hm (F.binds (ps := ["n"]) fun _ _ _ _ _ _ us hl => match us, hl with | [_], _ => rfl) sc_law_by_rings rfl rfl (fun cdv A outer s H E hr => by
    unfold w_law_by_rings
    exact (dss_cons (ds_set 1 sc_law_by_rings.nd (d_lst (da_cons d_int da_nil)))
      (dss_cons (ds_for rfl PassesOwn.never (di_r1 (by rfl) m_range (d_var 0)) (dg_name 2 sc_law_by_rings.nd) (dss_cons (ds_set 3 sc_law_by_rings.nd (d_op o_mul (d_lst (da_cons d_int da_nil)) (d_op o_add (d_var 2) d_int)))
      (dss_cons (ds_for rfl PassesOwn.never (di_r1 (by rfl) m_range (d_op o_add (d_var 2) d_int)) (dg_name 4 sc_law_by_rings.nd) (dss_cons (ds_sub p_put (d_op o_add (d_ix i_ix (d_var 3) (d_var 4)) (d_op o_mul (d_var 2) (d_ix i_ix (d_var 1) (d_var 4)))) (d_var 3) (d_var 4))
      (dss_one (ds_sub p_put (d_op o_add (d_ix i_ix (d_var 3) (d_op o_add (d_var 4) d_int)) (d_ix i_ix (d_var 1) (d_var 4))) (d_var 3) (d_op o_add (d_var 4) d_int)))))
      (dss_one (ds_set 1 sc_law_by_rings.nd (d_var 3))))))
      (dss_one (ds_ret (d_var 1)))))) body
abbrev s_law_short : Stmt := topS 29
theorem sc_law_short : L2.FnScope ["n", "most", "found", "many", "total_of", "size"] ["n", "most"] (L2.defScope s_law_short) := ⟨rfl, rfl, rfl, by decide +kernel, rfl, by decide +kernel, by decide +kernel⟩
theorem ok_law_short {f : Addr} {fd : FuncData} {k : Nat} {sp : Spc} (F : L2.Fun K "_law_short" "_law_short" s_law_short f fd) (hm : mg "_law_short" = some (.ref f)) (m_range : mg "range" = none) (m_min : mg "min" = none) {sp_law_plus : Spc} {k_law_plus : Nat} (C_law_plus : Callee P w K mg base "_law_plus" k_law_plus 2 sp_law_plus) (h_law_plus : k_law_plus ≤ k) {sp_law_mul : Spc} {k_law_mul : Nat} (C_law_mul : Callee P w K mg base "_law_mul" k_law_mul 2 sp_law_mul) (h_law_mul : k_law_mul ≤ k) (body : Body 6 2 (w_law_short sp_law_plus sp_law_mul) sp) : Callee P w K mg base "_law_short" (k + 1) 2 sp :=
  callee_of F hm (F.binds (ps := ["n", "most"]) fun _ _ _ _ _ _ us hl => match us, hl with | [_, _], _ => rfl) sc_law_short rfl rfl (fun cdv A outer s H E hr => by
    unfold w_law_short
    exact (dss_cons (ds_set 2 sc_law_short.nd (d_lst (da_cons (d_tup (da_cons d_int (da_cons d_int da_nil))) da_nil)))
      (dss_cons (ds_for rfl PassesOwn.never (di_r2 (by rfl) m_range d_int (d_op o_add (d_var 0) d_int)) (dg_name 3 sc_law_short.nd) (dss_cons (ds_set 4 sc_law_short.nd (d_tup (da_cons d_int (da_cons d_int da_nil))))
      (dss_cons (ds_for rfl PassesOwn.never (di_r2 (by rfl) m_range d_int (d_op o_add (d_callB (b_min2 rfl) (by rfl) m_min (by decide +kernel) (da_cons (d_var 1) (da_cons (d_var 3) da_nil))) d_int)) (dg_name 5 sc_law_short.nd) (dss_one (ds_set 4 sc_law_short.nd (d_calle C_law_plus hr h_law_plus (by rfl) (da_cons (d_var 4) (da_cons (d_ix i_ix (d_var 2) (d_op o_sub (d_var 3) (d_var 5))) da_nil))))))
      (dss_one (ds_expr (d_m PySem.F.slot_list_append PySem.F.type_list_append m_append (d_var 2) (da_cons (d_calle C_law_mul hr h_law_mul (by rfl) (da_cons (d_var 4) (da_cons (d_tup (da_cons d_int (da_cons (d_var 3) da_nil))) da_nil))) da_nil)))))))
      (dss_one (ds_ret (d_ix i_ix (d_var 2) (d_var 0))))))) body
abbrev s_law_few : Stmt := topS 30
theorem sc_law_few : L2.FnScope ["n", "orders", "many", "right", "k", "order", "rings", "one", "good", "circle", "first"] ["n"] (L2.defScope s_law_few) := ⟨rfl, rfl, rfl, by decide +kernel, rfl, by decide +kernel, by decide +kernel⟩
theorem ok_law_few {f : Addr} {fd : FuncData} {k : Nat} {sp : Spc} (F : L2.Fun K "_law_few" "_law_few" s_law_few f fd) (hm : mg "_law_few" = some (.ref f)) (m_len : mg "len" = none) (m_range : mg "range" = none) (m_max : mg "max" = none) (m_sum : mg "sum" = none) {sp_law_all_orders : Spc} {k_law_all_orders : Nat} (C_law_all_orders : Callee P w K mg base "_law_all_orders" k_law_all_orders 1 sp_law_all_orders) (h_law_all_orders : k_law_all_orders ≤ k) {sp_law_rings : Spc} {k_law_rings : Nat} (C_law_rings : Callee P w K mg base "_law_rings" k_law_rings 1 sp_law_rings) (h_law_rings : k_law_rings ≤ k) {sp_just_right : Spc} {k_just_right : Nat} (C_just_right : Callee P w K mg base "just_right" k_just_right 2 sp_just_right) (h_just_right : k_just_right ≤ k) {sp_law_same : Spc} {k_law_same : Nat} (C_law_same : Callee P w K mg base "_law_same" k_law_same 2 sp_law_same) (h_law_same : k_law_same ≤ k) {sp_count_by_rings : Spc} {k_count_by_rings : Nat} (C_count_by_rings : Callee P w K mg base "count_by_rings" k_count_by_rings 2 sp_count_by_rings) (h_count_by_rings : k_count_by_rings ≤ k) {sp_all_wrong : Spc} {k_all_wrong : Nat} (C_all_wrong : Callee P w K mg base "all_wrong" k_all_wrong 1 sp_all_wrong) (h_all_wrong : k_all_wrong ≤ k) {sp_law_frac : Spc} {k_law_frac : Nat} (C_law_frac : Callee P w K mg base "_law_frac" k_law_frac 2 sp_law_frac) (h_law_frac : k_law_frac ≤ k) {sp_longest_at_most : Spc} {k_longest_at_most : Nat} (C_longest_at_most : Callee P w K mg base "longest_at_most" k_longest_at_most 2 sp_longest_at_most) (h_longest_at_most : k_longest_at_most ≤ k) {sp_chance_of_ring : Spc} {k_chance_of_ring : Nat} (C_chance_of_ring : Callee P w K mg base "chance_of_ring" k_chance_of_ring 2 sp_chance_of_ring) (h_chance_of_ring : k_chance_of_ring ≤ k) {sp_mean_right : Spc} {k_mean_right : Nat} (C_mean_right : Callee P w K mg base "mean_right" k_mean_right 1 sp_mean_right) (h_mean_right : k_mean_right ≤ k) (body : Body 11 1 (w_law_few sp_law_all_orders sp_law_rings sp_just_right sp_law_same sp_count_by_rings sp_all_wrong sp_law_frac sp_longest_at_most sp_chance_of_ring sp_mean_right) sp) : Callee P w K mg base "_law_few" (k + 1) 1 sp :=
  callee_of F hm (F.binds (ps := ["n"]) fun _ _ _ _ _ _ us hl => match us, hl with | [_], _ => rfl) sc_law_few rfl rfl (fun cdv A outer s H E hr => by
    unfold w_law_few
    exact (dss_cons (ds_set 1 sc_law_few.nd (d_calle C_law_all_orders hr h_law_all_orders (by rfl) (da_cons (d_var 0) da_nil)))
      (dss_cons (ds_set 2 sc_law_few.nd (d_callB b_len (by rfl) m_len (by decide +kernel) (da_cons (d_var 1) da_nil)))
      (dss_cons (by first | exact (ds_set 3 sc_law_few.nd (d_lc (own := [("order", 5)]) rfl sc_law_few.nd (di_it (d_var 1)) (L2.blkOk_by (by rfl)) (fun _ _ _ _ _ => (dg_name 5 sc_law_few.nd)) (fun _ _ _ _ _ => dts_nil) (fun _ _ _ _ _ => (d_callB b_len (by rfl) m_len (by decide +kernel) (da_cons (d_lc (own := [("k", 4)]) rfl sc_law_few.nd (di_r1 (by rfl) m_range (d_var 0)) (L2.blkOk_by (by rfl)) (fun _ _ _ _ _ => (dg_name 4 sc_law_few.nd)) (fun _ _ _ _ _ => (dts_one (dt_cmp (c_eq hr) (d_ix i_ix (d_var 5) (d_var 4)) (d_var 4)))) (fun _ _ _ _ _ => (d_var 4))) da_nil))))) | exact (ds_setLc 3 (own := [("order", 5)]) rfl sc_law_few.nd (di_it (d_var 1)) (L2.blkOk_by (by rfl)) (fun _ _ _ _ _ => (dg_name 5 sc_law_few.nd)) (fun _ _ _ _ _ => dts_nil) (fun _ _ _ _ _ => (d_callB b_len (by rfl) m_len (by decide +kernel) (da_cons (d_lc (own := [("k", 4)]) rfl sc_law_few.nd (di_r1 (by rfl) m_range (d_var 0)) (L2.blkOk_by (by rfl)) (fun _ _ _ _ _ => (dg_name 4 sc_law_few.nd)) (fun _ _ _ _ _ => (dts_one (dt_cmp (c_eq hr) (d_ix i_ix (d_var 5) (d_var 4)) (d_var 4)))) (fun _ _ _ _ _ => (d_var 4))) da_nil))) (L2.sw_true rfl rfl rfl (by decide +kernel))))
      (dss_cons (by first | exact (ds_set 6 sc_law_few.nd (d_lc (own := [("order", 5)]) rfl sc_law_few.nd (di_it (d_var 1)) (L2.blkOk_by (by rfl)) (fun _ _ _ _ _ => (dg_name 5 sc_law_few.nd)) (fun _ _ _ _ _ => dts_nil) (fun _ _ _ _ _ => (d_calle C_law_rings hr h_law_rings (by rfl) (da_cons (d_var 5) da_nil))))) | exact (ds_setLc 6 (own := [("order", 5)]) rfl sc_law_few.nd (di_it (d_var 1)) (L2.blkOk_by (by rfl)) (fun _ _ _ _ _ => (dg_name 5 sc_law_few.nd)) (fun _ _ _ _ _ => dts_nil) (fun _ _ _ _ _ => (d_calle C_law_rings hr h_law_rings (by rfl) (da_cons (d_var 5) da_nil))) (L2.sw_true rfl rfl rfl (by decide +kernel))))
      (dss_cons (ds_for rfl PassesOwn.never (di_r2 (by rfl) m_range (d_un u_neg d_int) (d_op o_add (d_var 0) d_int)) (dg_name 4 sc_law_few.nd) (dss_cons (ds_if (dt_not (dt_val (d_calle C_law_same hr h_law_same (by rfl) (da_cons (d_calle C_just_right hr h_just_right (by rfl) (da_cons (d_var 0) (da_cons (d_var 4) da_nil))) (da_cons (d_callB b_len (by rfl) m_len (by decide +kernel) (da_cons (d_lc (own := [("one", 7)]) rfl sc_law_few.nd (di_it (d_var 3)) (L2.blkOk_by (by rfl)) (fun _ _ _ _ _ => (dg_name 7 sc_law_few.nd)) (fun _ _ _ _ _ => (dts_one (dt_cmp (c_eq hr) (d_var 7) (d_var 4)))) (fun _ _ _ _ _ => (d_var 7))) da_nil)) da_nil))))) (dss_one (ds_ret d_bl)) dss_nil)
      (dss_one (ds_if (dt_not (dt_val (d_calle C_law_same hr h_law_same (by rfl) (da_cons (d_calle C_count_by_rings hr h_count_by_rings (by rfl) (da_cons (d_var 0) (da_cons (d_var 4) da_nil))) (da_cons (d_callB b_len (by rfl) m_len (by decide +kernel) (da_cons (d_lc (own := [("one", 7)]) rfl sc_law_few.nd (di_it (d_var 6)) (L2.blkOk_by (by rfl)) (fun _ _ _ _ _ => (dg_name 7 sc_law_few.nd)) (fun _ _ _ _ _ => (dts_one (dt_cmp (c_eq hr) (d_callB b_len (by rfl) m_len (by decide +kernel) (da_cons (d_var 7) da_nil)) (d_var 4)))) (fun _ _ _ _ _ => (d_var 7))) da_nil)) da_nil))))) (dss_one (ds_ret d_bl)) dss_nil))))
      (dss_cons (ds_if (dt_not (dt_val (d_calle C_law_same hr h_law_same (by rfl) (da_cons (d_calle C_all_wrong hr h_all_wrong (by rfl) (da_cons (d_var 0) da_nil)) (da_cons (d_callB b_len (by rfl) m_len (by decide +kernel) (da_cons (d_lc (own := [("one", 7)]) rfl sc_law_few.nd (di_it (d_var 3)) (L2.blkOk_by (by rfl)) (fun _ _ _ _ _ => (dg_name 7 sc_law_few.nd)) (fun _ _ _ _ _ => (dts_one (dt_cmp (c_eq hr) (d_var 7) d_int))) (fun _ _ _ _ _ => (d_var 7))) da_nil)) da_nil))))) (dss_one (ds_ret d_bl)) dss_nil)
      (dss_cons (ds_for rfl PassesOwn.never (di_r1 (by rfl) m_range (d_op o_add (d_var 0) d_int)) (dg_name 4 sc_law_few.nd) (dss_cons (ds_set 8 sc_law_few.nd (d_callB b_len (by rfl) m_len (by decide +kernel) (da_cons (d_lc (own := [("one", 7)]) rfl sc_law_few.nd (di_it (d_var 6)) (L2.blkOk_by (by rfl)) (fun _ _ _ _ _ => (dg_name 7 sc_law_few.nd)) (fun _ _ _ _ _ => (dts_one (dt_cmp c_le (d_callB (b_max rfl hr) (by rfl) m_max (by decide +kernel) (da_cons (d_op o_add (d_lst (da_cons d_int da_nil)) (d_lc (own := [("circle", 9)]) rfl sc_law_few.nd (di_it (d_var 7)) (L2.blkOk_by (by rfl)) (fun _ _ _ _ _ => (dg_name 9 sc_law_few.nd)) (fun _ _ _ _ _ => dts_nil) (fun _ _ _ _ _ => (d_callB b_len (by rfl) m_len (by decide +kernel) (da_cons (d_var 9) da_nil))))) da_nil)) (d_var 4)))) (fun _ _ _ _ _ => (d_var 7))) da_nil)))
      (dss_cons (ds_if (dt_not (dt_val (d_calle C_law_same hr h_law_same (by rfl) (da_cons (d_calle C_longest_at_most hr h_longest_at_most (by rfl) (da_cons (d_var 0) (da_cons (d_var 4) da_nil))) (da_cons (d_calle C_law_frac hr h_law_frac (by rfl) (da_cons (d_var 8) (da_cons (d_var 2) da_nil))) da_nil))))) (dss_one (ds_ret d_bl)) dss_nil)
      (dss_one (ds_if (dt_cmp c_gt (d_var 0) d_int) (dss_cons (ds_set 10 sc_law_few.nd (d_callB b_len (by rfl) m_len (by decide +kernel) (da_cons (d_lc (own := [("one", 7)]) rfl sc_law_few.nd (di_it (d_var 6)) (L2.blkOk_by (by rfl)) (fun _ _ _ _ _ => (dg_name 7 sc_law_few.nd)) (fun _ _ _ _ _ => (dts_one (dt_cmp (c_eq hr) (d_callB b_len (by rfl) m_len (by decide +kernel) (da_cons (d_ix i_ix (d_var 7) d_int) da_nil)) (d_var 4)))) (fun _ _ _ _ _ => (d_var 7))) da_nil)))
      (dss_one (ds_if (dt_not (dt_val (d_calle C_law_same hr h_law_same (by rfl) (da_cons (d_calle C_chance_of_ring hr h_chance_of_ring (by rfl) (da_cons (d_var 0) (da_cons (d_var 4) da_nil))) (da_cons (d_calle C_law_frac hr h_law_frac (by rfl) (da_cons (d_var 10) (da_cons (d_var 2) da_nil))) da_nil))))) (dss_one (ds_ret d_bl)) dss_nil))) dss_nil)))))
      (dss_one (ds_ret (d_or (d_cmp (c_eq hr) (d_var 0) d_int) (d_one (d_calle C_law_same hr h_law_same (by rfl) (da_cons (d_calle C_mean_right hr h_mean_right (by rfl) (da_cons (d_var 0) da_nil)) (da_cons (d_calle C_law_frac hr h_law_frac (by rfl) (da_cons (d_callB (b_sum rfl) (by rfl) m_sum (by decide +kernel) (da_cons (d_var 3) da_nil)) (da_cons (d_var 2) da_nil))) da_nil))))))))))))))) body
abbrev s_law_order : Stmt := topS 31
theorem sc_law_order : L2.FnScope ["draws", "n", "style", "left", "found", "k", "circle"] ["draws", "n"] (L2.defScope s_law_order) := ⟨rfl, rfl, rfl, by decide +kernel, rfl, by decide +kernel, by decide +kernel⟩
theorem ok_law_order {f : Addr} {fd : FuncData} {k : Nat} {sp : Spc} (F : L2.Fun K "_law_order" "_law_order" s_law_order f fd) (hm : mg "_law_order" = some (.ref f)) (m_list : mg "list" = none) (m_range : mg "range" = none) (m_len : mg "len" = none) (m_tuple : mg "tuple" = none) {sp_law_take : Spc} {k_law_take : Nat} (C_law_take : Callee P w K mg base "_law_take" k_law_take 2 sp_law_take) (h_law_take : k_law_take ≤ k) (body : Body 7 2 (w_law_order sp_law_take) sp) : Callee P w K mg base "_law_order" (k + 1) 2 sp :=
  callee_of F hm (F.binds (ps := ["draws", "n"]) fun _ _ _ _ _ _ us hl => match us, hl with | [_, _], _ => rfl) sc_law_order rfl rfl (fun cdv A outer s H E hr => by
    unfold w_law_order
    exact (dss_cons (ds_set 2 sc_law_order.nd (d_calle C_law_take hr h_law_take (by rfl) (da_cons (d_var 0) (da_cons d_int da_nil))))
      (dss_cons (ds_set 3 sc_law_order.nd (d_lstR rfl (by rfl) m_list (by rfl) m_range (d_var 1)))
      (dss_cons (ds_set 4 sc_law_order.nd (d_lst da_nil))
      (dss_cons (ds_for rfl PassesOwn.never (di_r1 (by rfl) m_range (d_var 1)) (dg_name 5 sc_law_order.nd) (dss_one (ds_expr (d_m PySem.F.slot_list_append PySem.F.type_list_append m_append (d_var 4) (da_cons (d_m PySem.F.slot_list_pop PySem.F.type_list_pop m_popAt (d_var 3) (da_cons (d_calle C_law_take hr h_law_take (by rfl) (da_cons (d_var 0) (da_cons (d_callB b_len (by rfl) m_len (by decide +kernel) (da_cons (d_var 3) da_nil)) da_nil))) da_nil)) da_nil)))))
      (dss_cons (ds_if (dt_cmp (c_eq hr) (d_var 2) d_int) (dss_one (ds_set 4 sc_law_order.nd (d_lstR rfl (by rfl) m_list (by rfl) m_range (d_var 1)))) dss_nil)
      (dss_cons (ds_if (dt_cmp (c_eq hr) (d_var 2) d_int) (dss_cons (ds_set 6 sc_law_order.nd (d_var 4))
      (dss_cons (ds_set 4 sc_law_order.nd (d_op o_mul (d_lst (da_cons d_int da_nil)) (d_var 1)))
      (dss_one (ds_for rfl PassesOwn.never (di_r1 (by rfl) m_range (d_var 1)) (dg_name 5 sc_law_order.nd) (dss_one (ds_sub p_put (d_ix i_ix (d_var 6) (d_var 5)) (d_var 4) (d_ix i_ix (d_var 6) (d_op o_sub (d_var 5) d_int)))))))) dss_nil)
      (dss_cons (ds_if (dt_cmp (c_eq hr) (d_var 2) d_int) (dss_cons (ds_set 6 sc_law_order.nd (d_var 4))
      (dss_cons (ds_set 4 sc_law_order.nd (d_lstR rfl (by rfl) m_list (by rfl) m_range (d_var 1)))
      (dss_one (ds_for rfl PassesOwn.never (di_r3 (by rfl) m_range d_int (d_op o_sub (d_var 1) d_int) d_int) (dg_name 5 sc_law_order.nd) (dss_cons (ds_sub p_put (d_ix i_ix (d_var 6) (d_op o_add (d_var 5) d_int)) (d_var 4) (d_ix i_ix (d_var 6) (d_var 5)))
      (dss_one (ds_sub p_put (d_ix i_ix (d_var 6) (d_var 5)) (d_var 4) (d_ix i_ix (d_var 6) (d_op o_add (d_var 5) d_int))))))))) dss_nil)
      (dss_one (ds_ret (d_callT b_tuple (by rfl) m_tuple (by decide +kernel) (da_cons (d_var 4) da_nil)))))))))))) body
abbrev s_law : Stmt := topS 32
theorem sc_law : L2.FnScope ["script", "draws", "order", "told", "circle", "n", "wrong", "k", "due", "each", "great", "now", "size", "row", "many", "most"] ["script"] (L2.defScope s_law) := ⟨rfl, rfl, rfl, by decide +kernel, rfl, by decide +kernel, by decide +kernel⟩
theorem ok_law {f : Addr} {fd : FuncData} {k : Nat} {sp : Spc} (F : L2.Fun K "law" "law" s_law f fd) (hm : mg "law" = some (.ref f)) (m_int : mg "int" = none) (m_len : mg "len" = none) (m_sum : mg "sum" = none) (m_range : mg "range" = none) (m_tuple : mg "tuple" = none) {sp_law_draws : Spc} {k_law_draws : Nat} (C_law_draws : Callee P w K mg base "_law_draws" k_law_draws 2 sp_law_draws) (h_law_draws : k_law_draws ≤ k) {sp_law_take : Spc} {k_law_take : Nat} (C_law_take : Callee P w K mg base "_law_take" k_law_take 2 sp_law_take) (h_law_take : k_law_take ≤ k) {sp_law_few : Spc} {k_law_few : Nat} (C_law_few : Callee P w K mg base "_law_few" k_law_few 1 sp_law_few) (h_law_few : k_law_few ≤ k) {sp_law_order : Spc} {k_law_order : Nat} (C_law_order : Callee P w K mg base "_law_order" k_law_order 2 sp_law_order) (h_law_order : k_law_order ≤ k) {sp_rings_of : Spc} {k_rings_of : Nat} (C_rings_of : Callee P w K mg base "rings_of" k_rings_of 1 sp_rings_of) (h_rings_of : k_rings_of ≤ k) {sp_law_rings : Spc} {k_law_rings : Nat} (C_law_rings : Callee P w K mg base "_law_rings" k_law_rings 1 sp_law_rings) (h_law_rings : k_law_rings ≤ k) {sp_law_same : Spc} {k_law_same : Nat} (C_law_same : Callee P w K mg base "_law_same" k_law_same 2 sp_law_same) (h_law_same : k_law_same ≤ k) {sp_law_wrong : Spc} {k_law_wrong : Nat} (C_law_wrong : Callee P w K mg base "_law_wrong" k_law_wrong 1 sp_law_wrong) (h_law_wrong : k_law_wrong ≤ k) {sp_all_wrong : Spc} {k_all_wrong : Nat} (C_all_wrong : Callee P w K mg base "all_wrong" k_all_wrong 1 sp_all_wrong) (h_all_wrong : k_all_wrong ≤ k) {sp_law_ways : Spc} {k_law_ways : Nat} (C_law_ways : Callee P w K mg base "_law_ways" k_law_ways 2 sp_law_ways) (h_law_ways : k_law_ways ≤ k) {sp_just_right : Spc} {k_just_right : Nat} (C_just_right : Callee P w K mg base "just_right" k_just_right 2 sp_just_right) (h_just_right : k_just_right ≤ k) {sp_law_orders : Spc} {k_law_orders : Nat} (C_law_orders : Callee P w K mg base "_law_orders" k_law_orders 1 sp_law_orders) (h_law_orders : k_law_orders ≤ k) {sp_law_by_rings : Spc} {k_law_by_rings : Nat} (C_law_by_rings : Callee P w K mg base "_law_by_rings" k_law_by_rings 1 sp_law_by_rings) (h_law_by_rings : k_law_by_rings ≤ k) {sp_count_by_rings : Spc} {k_count_by_rings : Nat} (C_count_by_rings : Callee P w K mg base "count_by_rings" k_count_by_rings 2 sp_count_by_rings) (h_count_by_rings : k_count_by_rings ≤ k) {sp_law_short : Spc} {k_law_short : Nat} (C_law_short : Callee P w K mg base "_law_short" k_law_short 2 sp_law_short) (h_law_short : k_law_short ≤ k) {sp_longest_at_most : Spc} {k_longest_at_most : Nat} (C_longest_at_most : Callee P w K mg base "longest_at_most" k_longest_at_most 2 sp_longest_at_most) (h_longest_at_most : k_longest_at_most ≤ k) {sp_chance_of_ring : Spc} {k_chance_of_ring : Nat} (C_chance_of_ring : Callee P w K mg base "chance_of_ring" k_chance_of_ring 2 sp_chance_of_ring) (h_chance_of_ring : k_chance_of_ring ≤ k) {sp_mean_right : Spc} {k_mean_right : Nat} (C_mean_right : Callee P w K mg base "mean_right" k_mean_right 1 sp_mean_right) (h_mean_right : k_mean_right ≤ k) (body : Body 16 1 (w_law sp_law_draws sp_law_take sp_law_few sp_law_order sp_rings_of sp_law_rings sp_law_same sp_law_wrong sp_all_wrong sp_law_ways sp_just_right sp_law_orders sp_law_by_rings sp_count_by_rings sp_law_short sp_longest_at_most sp_chance_of_ring sp_mean_right) sp) : L2.FnOk P w K mg base L2.CX0 (k + 1) f fd ["script"] (spOf K 1 sp) :=
  fn_body F sc_law rfl rfl (fun cdv A outer s H E hr => by
    unfold w_law
    exact (dss_cons (ds_set 1 sc_law.nd (d_calle C_law_draws hr h_law_draws (by rfl) (da_cons (d_var 0) (da_cons d_int da_nil))))
      (dss_cons (ds_if (dt_not (dt_val (d_calle C_law_few hr h_law_few (by rfl) (da_cons (d_calle C_law_take hr h_law_take (by rfl) (da_cons (d_var 1) (da_cons (d_op o_add d_int (d_callT b_int (by rfl) m_int (by decide +kernel) (da_cons (d_cmp (c_eq hr) (d_calle C_law_take hr h_law_take (by rfl) (da_cons (d_var 1) (da_cons d_int da_nil))) d_int) da_nil))) da_nil))) da_nil)))) (dss_one (ds_ret d_bl)) dss_nil)
      (dss_cons (ds_set 2 sc_law.nd (d_calle C_law_order hr h_law_order (by rfl) (da_cons (d_var 1) (da_cons (d_calle C_law_take hr h_law_take (by rfl) (da_cons (d_var 1) (da_cons (d_ix i_ix (d_lst (da_cons d_int (da_cons d_int da_nil))) (d_calle C_law_take hr h_law_take (by rfl) (da_cons (d_var 1) (da_cons d_int da_nil)))) da_nil))) da_nil))))
      (dss_cons (ds_set 3 sc_law.nd (d_calle C_rings_of hr h_rings_of (by rfl) (da_cons (d_var 2) da_nil)))
      (dss_cons (ds_if (PW.pt (dw_or (dt_not (dt_val (d_calle C_law_same hr h_law_same (by rfl) (da_cons (d_var 3) (da_cons (d_calle C_law_rings hr h_law_rings (by rfl) (da_cons (d_var 2) da_nil)) da_nil))))) (dw_or1 (dt_cmp (c_ne hr) (d_callB (b_sum rfl) (by rfl) m_sum (by decide +kernel) (da_cons (d_lc (own := [("circle", 4)]) rfl sc_law.nd (di_it (d_var 3)) (L2.blkOk_by (by rfl)) (fun _ _ _ _ _ => (dg_name 4 sc_law.nd)) (fun _ _ _ _ _ => dts_nil) (fun _ _ _ _ _ => (d_callB b_len (by rfl) m_len (by decide +kernel) (da_cons (d_var 4) da_nil)))) da_nil)) (d_callB b_len (by rfl) m_len (by decide +kernel) (da_cons (d_var 2) da_nil)))))) (dss_one (ds_ret d_bl)) dss_nil)
      (dss_cons (ds_set 5 sc_law.nd (d_calle C_law_take hr h_law_take (by rfl) (da_cons (d_var 1) (da_cons d_int da_nil))))
      (dss_cons (ds_set 6 sc_law.nd (d_calle C_law_wrong hr h_law_wrong (by rfl) (da_cons (d_var 5) da_nil)))
      (dss_cons (ds_if (dt_not (dt_val (d_calle C_law_same hr h_law_same (by rfl) (da_cons (d_calle C_all_wrong hr h_all_wrong (by rfl) (da_cons (d_var 5) da_nil)) (da_cons (d_ix i_ix (d_var 6) (d_var 5)) da_nil))))) (dss_one (ds_ret d_bl)) dss_nil)
      (dss_cons (ds_for rfl PassesOwn.never (di_it (d_lst (da_cons d_int (da_cons d_int (da_cons (d_var 5) (da_cons (d_op o_add (d_var 5) d_int) (da_cons (d_un u_neg d_int) (da_cons (d_calle C_law_take hr h_law_take (by rfl) (da_cons (d_var 1) (da_cons (d_op o_add (d_var 5) d_int) da_nil))) da_nil)))))))) (dg_name 7 sc_law.nd) (dss_cons (ds_set 8 sc_law.nd d_int)
      (dss_cons (ds_if (dt_chain c_le c_le d_int (d_var 7) (d_var 5)) (dss_one (ds_set 8 sc_law.nd (d_op o_mul (d_calle C_law_ways hr h_law_ways (by rfl) (da_cons (d_var 5) (da_cons (d_var 7) da_nil))) (d_ix i_ix (d_var 6) (d_op o_sub (d_var 5) (d_var 7)))))) dss_nil)
      (dss_one (ds_if (dt_not (dt_val (d_calle C_law_same hr h_law_same (by rfl) (da_cons (d_calle C_just_right hr h_just_right (by rfl) (da_cons (d_var 5) (da_cons (d_var 7) da_nil))) (da_cons (d_var 8) da_nil))))) (dss_one (ds_ret d_bl)) dss_nil)))))
      (dss_cons (ds_set 9 sc_law.nd (d_callT b_tuple (by rfl) m_tuple (by decide +kernel) (da_cons (d_lc (own := [("k", 7)]) rfl sc_law.nd (di_r1 (by rfl) m_range (d_op o_add (d_var 5) d_int)) (L2.blkOk_by (by rfl)) (fun _ _ _ _ _ => (dg_name 7 sc_law.nd)) (fun _ _ _ _ _ => dts_nil) (fun _ _ _ _ _ => (d_op o_mul (d_calle C_law_ways hr h_law_ways (by rfl) (da_cons (d_var 5) (da_cons (d_var 7) da_nil))) (d_ix i_ix (d_var 6) (d_op o_sub (d_var 5) (d_var 7)))))) da_nil)))
      (dss_cons (ds_if (PW.pt (dw_or (dt_cmp (c_ne hr) (d_callB (b_sum rfl) (by rfl) m_sum (by decide +kernel) (da_cons (d_var 9) da_nil)) (d_calle C_law_orders hr h_law_orders (by rfl) (da_cons (d_var 5) da_nil))) (dw_or1 (dt_not (dt_val (d_calle C_law_same hr h_law_same (by rfl) (da_cons (d_callT b_tuple (by rfl) m_tuple (by decide +kernel) (da_cons (d_lc (own := [("k", 7)]) rfl sc_law.nd (di_r1 (by rfl) m_range (d_op o_add (d_var 5) d_int)) (L2.blkOk_by (by rfl)) (fun _ _ _ _ _ => (dg_name 7 sc_law.nd)) (fun _ _ _ _ _ => dts_nil) (fun _ _ _ _ _ => (d_calle C_just_right hr h_just_right (by rfl) (da_cons (d_var 5) (da_cons (d_var 7) da_nil))))) da_nil)) (da_cons (d_var 9) da_nil)))))))) (dss_one (ds_ret d_bl)) dss_nil)
      (dss_cons (ds_set 10 sc_law.nd (d_op o_add d_int (d_calle C_law_take hr h_law_take (by rfl) (da_cons (d_var 1) (da_cons d_int da_nil)))))
      (dss_cons (ds_set 11 sc_law.nd d_int)
      (dss_cons (ds_for rfl PassesOwn.never (di_r2 (by rfl) m_range d_int (d_op o_add (d_var 10) d_int)) (dg_name 7 sc_law.nd) (dss_one (ds_set 11 sc_law.nd (d_op o_add (d_op o_mul (d_var 11) (d_var 7)) (d_ix i_ix (d_lst (da_cons d_int (da_cons (d_un u_neg d_int) da_nil))) (d_op o_mod (d_var 7) d_int))))))
      (dss_cons (ds_if (dt_not (dt_val (d_calle C_law_same hr h_law_same (by rfl) (da_cons (d_calle C_all_wrong hr h_all_wrong (by rfl) (da_cons (d_var 10) da_nil)) (da_cons (d_var 11) da_nil))))) (dss_one (ds_ret d_bl)) dss_nil)
      (dss_cons (ds_set 12 sc_law.nd (d_calle C_law_take hr h_law_take (by rfl) (da_cons (d_var 1) (da_cons (d_ix i_ix (d_lst (da_cons d_int (da_cons d_int da_nil))) (d_callT b_int (by rfl) m_int (by decide +kernel) (da_cons (d_cmp (c_eq hr) (d_calle C_law_take hr h_law_take (by rfl) (da_cons (d_var 1) (da_cons d_int da_nil))) d_int) da_nil))) da_nil))))
      (dss_cons (ds_set 13 sc_law.nd (d_calle C_law_by_rings hr h_law_by_rings (by rfl) (da_cons (d_var 12) da_nil)))
      (dss_cons (ds_for rfl PassesOwn.never (di_it (d_lst (da_cons d_int (da_cons d_int (da_cons (d_var 12) (da_cons (d_op o_add (d_var 12) d_int) (da_cons (d_un u_neg d_int) (da_cons (d_calle C_law_take hr h_law_take (by rfl) (da_cons (d_var 1) (da_cons (d_op o_add (d_var 12) d_int) da_nil))) (da_cons (d_op o_add d_int (d_calle C_law_take hr h_law_take (by rfl) (da_cons (d_var 1) (da_cons d_int da_nil)))) da_nil))))))))) (dg_name 7 sc_law.nd) (dss_cons (ds_set 8 sc_law.nd d_int)
      (dss_cons (ds_if (dt_chain c_le c_le d_int (d_var 7) (d_var 12)) (dss_one (ds_set 8 sc_law.nd (d_ix i_ix (d_var 13) (d_var 7)))) dss_nil)
      (dss_one (ds_if (dt_not (dt_val (d_calle C_law_same hr h_law_same (by rfl) (da_cons (d_calle C_count_by_rings hr h_count_by_rings (by rfl) (da_cons (d_var 12) (da_cons (d_var 7) da_nil))) (da_cons (d_var 8) da_nil))))) (dss_one (ds_ret d_bl)) dss_nil)))))
      (dss_cons (ds_set 14 sc_law.nd (d_calle C_law_take hr h_law_take (by rfl) (da_cons (d_var 1) (da_cons (d_ix i_ix (d_lst (da_cons d_int (da_cons d_int da_nil))) (d_callT b_int (by rfl) m_int (by decide +kernel) (da_cons (d_cmp (c_eq hr) (d_calle C_law_take hr h_law_take (by rfl) (da_cons (d_var 1) (da_cons d_int da_nil))) d_int) da_nil))) da_nil))))
      (dss_cons (ds_for rfl PassesOwn.never (di_it (d_lst (da_cons (d_calle C_law_take hr h_law_take (by rfl) (da_cons (d_var 1) (da_cons (d_op o_add (d_var 14) d_int) da_nil))) (da_cons (d_var 14) (da_cons (d_op o_add (d_var 14) d_int) (da_cons d_int da_nil)))))) (dg_name 15 sc_law.nd) (dss_one (ds_if (dt_not (dt_val (d_calle C_law_same hr h_law_same (by rfl) (da_cons (d_calle C_longest_at_most hr h_longest_at_most (by rfl) (da_cons (d_var 14) (da_cons (d_var 15) da_nil))) (da_cons (d_calle C_law_short hr h_law_short (by rfl) (da_cons (d_var 14) (da_cons (d_var 15) da_nil))) da_nil))))) (dss_one (ds_ret d_bl)) dss_nil)))
      (dss_cons (ds_for rfl PassesOwn.never (di_it (d_lst (da_cons d_int (da_cons (d_var 10) (da_cons (d_op o_add (d_var 10) d_int) (da_cons d_int (da_cons (d_calle C_law_take hr h_law_take (by rfl) (da_cons (d_var 1) (da_cons (d_op o_add (d_var 10) d_int) da_nil))) da_nil))))))) (dg_name 7 sc_law.nd) (dss_cons (ds_set 8 sc_law.nd (d_ix i_ix (d_lst (da_cons (d_tup (da_cons d_int (da_cons d_int da_nil))) (da_cons (d_tup (da_cons d_int (da_cons (d_var 10) da_nil))) da_nil))) (d_callT b_int (by rfl) m_int (by decide +kernel) (da_cons (d_chain c_le c_le d_int (d_var 7) (d_var 10)) da_nil))))
      (dss_one (ds_if (dt_not (dt_val (d_calle C_law_same hr h_law_same (by rfl) (da_cons (d_calle C_chance_of_ring hr h_chance_of_ring (by rfl) (da_cons (d_var 10) (da_cons (d_var 7) da_nil))) (da_cons (d_var 8) da_nil))))) (dss_one (ds_ret d_bl)) dss_nil))))
      (dss_cons (ds_if (PW.pt (dw_or (dt_not (dt_val (d_calle C_law_same hr h_law_same (by rfl) (da_cons (d_calle C_mean_right hr h_mean_right (by rfl) (da_cons (d_var 10) da_nil)) (da_cons (d_tup (da_cons d_int (da_cons d_int da_nil))) da_nil))))) (dw_or (dt_not (dt_val (d_calle C_law_same hr h_law_same (by rfl) (da_cons (d_calle C_all_wrong hr h_all_wrong (by rfl) (da_cons d_int da_nil)) (da_cons d_int da_nil))))) (dw_or1 (dt_not (dt_val (d_calle C_law_same hr h_law_same (by rfl) (da_cons (d_calle C_count_by_rings hr h_count_by_rings (by rfl) (da_cons d_int (da_cons d_int da_nil))) (da_cons d_int da_nil))))))))) (dss_one (ds_ret d_bl)) dss_nil)
      (dss_one (ds_ret (d_and (d_calle C_law_same hr h_law_same (by rfl) (da_cons (d_calle C_rings_of hr h_rings_of (by rfl) (da_cons (d_tup (da_cons d_int (da_cons d_int (da_cons d_int da_nil)))) da_nil)) (da_cons (d_tup (da_cons (d_tup (da_cons d_int (da_cons d_int da_nil))) (da_cons (d_tup (da_cons d_int da_nil)) da_nil))) da_nil))) (d_and (d_calle C_law_same hr h_law_same (by rfl) (da_cons (d_calle C_longest_at_most hr h_longest_at_most (by rfl) (da_cons d_int (da_cons d_int da_nil))) (da_cons (d_tup (da_cons d_int (da_cons d_int da_nil))) da_nil))) (d_one (d_calle C_law_same hr h_law_same (by rfl) (da_cons (d_calle C_rings_of hr h_rings_of (by rfl) (da_cons (d_var 2) da_nil)) (da_cons (d_var 3) da_nil))))))))))))))))))))))))))))))) body
end
end K96
set_option linter.all false
set_option maxHeartbeats 4000000
/-! K96A: orders, choices in plain numbers -/
namespace K96
open DL
def der : Nat → Int
  | 0 => 1
  | 1 => 0
  | n + 2 => (n + 1) * (der n + der (n + 1))
def fct : Nat → Nat
  | 0 => 1
  | n + 1 => fct n * (n + 1)
theorem fct_pos : ∀ n, 0 < fct n
  | 0 => Nat.one_pos
  | n + 1 => Nat.mul_pos (fct_pos n) (Nat.succ_pos n)
def chs : Nat → Nat → Nat
  | _, 0 => 1
  | 0, _ + 1 => 0
  | n + 1, k + 1 => chs n k + chs n (k + 1)
theorem chs_0 (n : Nat) : chs n 0 = 1 := by cases n <;> rfl
theorem chs_a : ∀ n k, (k + 1) * chs (n + 1) (k + 1) = (n + 1) * chs n k
  | 0, 0 => rfl
  | 0, k + 1 => by show (k + 1 + 1) * (chs 0 (k + 1) + chs 0 (k + 2)) = 1 * chs 0 (k + 1); show (k + 1 + 1) * (0 + 0) = 1 * 0; omega
  | n + 1, 0 => by
    have ih := chs_a n 0
    show (0 + 1) * (chs (n + 1) 0 + chs (n + 1) 1) = (n + 1 + 1) * chs (n + 1) 0
    rw [chs_0] at ih ⊢
    rw [show chs (n + 1) (0 + 1) = chs (n + 1) 1 from rfl] at ih
    grind
  | n + 1, k + 1 => by
    have h1 := chs_a n k
    have h2 := chs_a n (k + 1)
    show (k + 1 + 1) * (chs (n + 1) (k + 1) + chs (n + 1) (k + 1 + 1)) = (n + 1 + 1) * (chs n k + chs n (k + 1))
    have e : chs (n + 1) (k + 1) = chs n k + chs n (k + 1) := rfl
    rw [e] at h1
    rw [e]
    generalize chs (n + 1) (k + 1 + 1) = c at *
    generalize chs n k = a at *
    generalize chs n (k + 1) = b at *
    grind
theorem chs_b {n k : Nat} (h : k ≤ n) : chs n (k + 1) * (k + 1) = chs n k * (n - k) := by
  have h1 := chs_a n k
  have e : chs (n + 1) (k + 1) = chs n k + chs n (k + 1) := rfl
  rw [e, Nat.mul_add] at h1
  obtain ⟨j, rfl⟩ : ∃ j, n = k + j := ⟨n - k, by omega⟩
  rw [Nat.add_sub_cancel_left, Nat.mul_comm _ (k + 1), Nat.mul_comm (chs (k + j) k) j]
  have e2 : (k + j + 1) * chs (k + j) k = (k + 1) * chs (k + j) k + j * chs (k + j) k := by rw [← Nat.add_mul]; congr 1; omega
  omega
theorem chs_c : ∀ (k n : Nat), k ≤ n → chs n k * (fct k * fct (n - k)) = fct n
  | 0, n, _ => by rw [chs_0, Nat.one_mul, Nat.sub_zero]; show 1 * fct n = fct n; omega
  | k + 1, n, h => by
    have ih := chs_c k n (by omega)
    obtain ⟨j, rfl⟩ : ∃ j, n = k + 1 + j := ⟨n - (k + 1), by omega⟩
    have hb := chs_b (n := k + 1 + j) (k := k) (by omega)
    rw [show k + 1 + j - k = j + 1 by omega] at ih hb
    rw [show k + 1 + j - (k + 1) = j by omega, ← ih]
    show chs (k + 1 + j) (k + 1) * (fct k * (k + 1) * fct j) = chs (k + 1 + j) k * (fct k * (fct j * (j + 1)))
    grind
theorem chs_sym {n k : Nat} (h : k ≤ n) : chs n k = chs n (n - k) := by
  have h1 := chs_c k n h
  have h2 := chs_c (n - k) n (by omega)
  rw [show n - (n - k) = k by omega, Nat.mul_comm (fct (n - k))] at h2
  exact Nat.eq_of_mul_eq_mul_right (Nat.mul_pos (fct_pos k) (fct_pos (n - k))) (h1.trans h2.symm)
theorem chs_div {n k : Nat} (h : k ≤ n) : chs n k * (n - k) / (k + 1) = chs n (k + 1) := by
  rw [← chs_b h]
  exact Nat.mul_div_cancel _ (Nat.succ_pos k)
theorem chs_big : ∀ {n k : Nat}, n < k → chs n k = 0
  | 0, k + 1, _ => rfl
  | n + 1, k + 1, h => by
    show chs n k + chs n (k + 1) = 0
    rw [chs_big (show n < k by omega), chs_big (show n < k + 1 by omega)]
/-- with one more -/
theorem der_next : ∀ n : Nat, der (n + 1) = der n * ((n + 1 : Nat) : Int) + if (n + 1) % 2 = 0 then 1 else -1
  | 0 => rfl
  | n + 1 => by
    have ih := der_next n
    show ((n : Int) + 1) * (der n + der (n + 1)) = der (n + 1) * ((n + 1 + 1 : Nat) : Int) + _
    have e : ((n + 1 + 1 : Nat) : Int) = ((n : Int) + 1) + 1 := by omega
    have e1 : ((n + 1 : Nat) : Int) = (n : Int) + 1 := by omega
    rw [e1] at ih
    rw [e, Int.mul_add, Int.mul_add, Int.mul_one, Int.mul_comm _ (der n), Int.mul_comm _ (der (n + 1))]
    split at ih <;> split <;> omega
/-- ways as it is asked: any ints -/
def waysZ (n k : Int) : Int := if 0 ≤ k ∧ k ≤ n then (chs n.toNat k.toNat : Nat) else 0
end K96
set_option linter.all false
set_option maxRecDepth 100000
set_option maxHeartbeats 4000000
namespace K96
open DL
@[reducible] def sp_take : Spc := fun ds S Q => ∃ n many, ds = [.ref n, .int many] ∧ 0 < many ∧ Dr n S ∧ ∀ r S', 0 ≤ r → r < many → Dr n S' → Ch n S S' → Q (.int r) S'
theorem body_law_take : Body 2 2 w_law_take sp_take := by
  rintro ds S Q _ ⟨n, many, rfl, hm, ⟨ns, hS⟩, k⟩
  unfold w_law_take
  (simp only [start, List.map_cons, List.map_nil, List.length_cons, List.length_nil, Nat.reduceAdd, Nat.reduceSub, List.replicate_succ, List.replicate_zero, List.cons_append, List.nil_append, Nat.sub_self, Nat.zero_add])
  ((with_reducible conv => whnf); repeat (first | (refine And.intro (okII _ _) ?_; rw [eqD_ii]; with_reducible conv => whnf) | (refine And.intro (by first | assumption | exact Exists.intro _ (by assumption) | exact ⟨rfl, rfl, by decide, by decide⟩ | exact Nat.le_of_ble_eq_true rfl | exact rfl) ?_; with_reducible conv => whnf) | (rw [isLst_at (by assumption)]; with_reducible conv => whnf) | (refine ifT rfl ?_; with_reducible conv => whnf) | (refine ifF rfl ?_; with_reducible conv => whnf) | (refine it_at (by assumption) ?_; with_reducible conv => whnf)))
  refine ite_d (fun hc => k 0 S (Int.le_refl _) hm ⟨ns, hS⟩ (Ch.refl _ _)) fun hc => ?_
  ((with_reducible conv => whnf); repeat (first | (refine And.intro (okII _ _) ?_; rw [eqD_ii]; with_reducible conv => whnf) | (refine And.intro (by first | assumption | exact Exists.intro _ (by assumption) | exact ⟨rfl, rfl, by decide, by decide⟩ | exact Nat.le_of_ble_eq_true rfl | exact rfl) ?_; with_reducible conv => whnf) | (rw [isLst_at (by assumption)]; with_reducible conv => whnf) | (refine ifT rfl ?_; with_reducible conv => whnf) | (refine ifF rfl ?_; with_reducible conv => whnf) | (refine it_at (by assumption) ?_; with_reducible conv => whnf)))
  have hl : 0 < ns.length := by
    rw [List.length_map] at hc
    omega
  refine ⟨.int ns[ns.length - 1], ?_, ?_⟩
  · rw [List.length_map]
    exact intD_at (List.getElem?_eq_getElem (by omega))
  · ((with_reducible conv => whnf); repeat (first | (refine And.intro (okII _ _) ?_; rw [eqD_ii]; with_reducible conv => whnf) | (refine And.intro (by first | assumption | exact Exists.intro _ (by assumption) | exact ⟨rfl, rfl, by decide, by decide⟩ | exact Nat.le_of_ble_eq_true rfl | exact rfl) ?_; with_reducible conv => whnf) | (rw [isLst_at (by assumption)]; with_reducible conv => whnf) | (refine ifT rfl ?_; with_reducible conv => whnf) | (refine ifF rfl ?_; with_reducible conv => whnf) | (refine it_at (by assumption) ?_; with_reducible conv => whnf)))
    obtain ⟨h0, h1⟩ := fmod_lt (a := ns[ns.length - 1]) hm
    refine ⟨by omega, k _ _ h0 h1 ⟨ns.dropLast, ?_⟩ (Ch.set _ _)⟩
    rw [at_set hS, ← List.map_dropLast]
@[reducible] def sp_draws : Spc := fun ds S Q => ∃ ns many, ds = [.rol (intD ns), .int many] ∧ ns.length ≤ 63 ∧ 0 ≤ many ∧ many ≤ 1000 ∧ ∀ n S', Dr n S' → Sub S S' → S.length ≤ n → Q (.ref n) S'
theorem body_law_draws : Body 9 2 w_law_draws sp_draws := by
  rintro ds S Q _ ⟨ns, many, rfl, hl, hm, hm2, k⟩
  unfold w_law_draws
  (simp only [start, List.map_cons, List.map_nil, List.length_cons, List.length_nil, Nat.reduceAdd, Nat.reduceSub, List.replicate_succ, List.replicate_zero, List.cons_append, List.nil_append, Nat.sub_self, Nat.zero_add])
  ((with_reducible conv => whnf); repeat (first | (refine And.intro (okII _ _) ?_; rw [eqD_ii]; with_reducible conv => whnf) | (refine And.intro (by first | assumption | exact Exists.intro _ (by assumption) | exact ⟨rfl, rfl, by decide, by decide⟩ | exact Nat.le_of_ble_eq_true rfl | exact rfl) ?_; with_reducible conv => whnf) | (rw [isLst_at (by assumption)]; with_reducible conv => whnf) | (refine ifT rfl ?_; with_reducible conv => whnf) | (refine ifF rfl ?_; with_reducible conv => whnf) | (refine it_at (by assumption) ?_; with_reducible conv => whnf)))
  refine Lc_fun (fun d => some d) ?_ (fun _ _ => trivial) (fun i d S' R hi hs hR => ?_) fun S1 hs1 => ?_
  · rw [List.length_map]; unfold szL; omega
  · obtain ⟨x, _, rfl⟩ := intD_get hi
    ((with_reducible conv => whnf); repeat (first | (refine And.intro (okII _ _) ?_; rw [eqD_ii]; with_reducible conv => whnf) | (refine And.intro (by first | assumption | exact Exists.intro _ (by assumption) | exact ⟨rfl, rfl, by decide, by decide⟩ | exact Nat.le_of_ble_eq_true rfl | exact rfl) ?_; with_reducible conv => whnf) | (rw [isLst_at (by assumption)]; with_reducible conv => whnf) | (refine ifT rfl ?_; with_reducible conv => whnf) | (refine ifF rfl ?_; with_reducible conv => whnf) | (refine it_at (by assumption) ?_; with_reducible conv => whnf)))
    exact hR _ (Sub.refl _)
  rw [List.filterMap_some]
  have h2 := at_push S1 (.lst (intD ns))
  have hS1 := hs1.app [.lst (intD ns)]
  have hln : S.length ≤ S1.length := by
    false_or_by_contra
    rename_i hc
    cases S with
    | nil => simp at hc
    | cons o r =>
      have := at_lt (hs1 ((o :: r).length - 1) _ (List.getElem?_eq_getElem (by simp)))
      simp at this hc
      omega
  generalize hm0 : S1.length = m0 at *
  generalize S1 ++ [.lst (intD ns)] = S2 at *
  -- from here: cells cs at m0
  have main : ∀ (cs : List Int) S3, 0 < cs.length → cs.length ≤ 63 → S3[m0]? = some (.lst (intD cs)) → Sub S S3 → sSeq (sAsg (wB rList (wCons (wVar 2) wNil)) (gN 4))
    (sSeq (sAsg (wLst wNil) (gN 5))
    (sSeq (sFor (wR1 (wVar 1)) (gN 6) (sSeq (sAsg (wOp rMod (wVar 6) (wB rLen (wCons (wVar 2) wNil))) (gN 7))
    (sIf (wtAnd (wtVal (wOp rGe (wOp rIx (wVar 2) (wVar 7)) (wOp rPow (wC (.int 10)) (wC (.int 18))))) (wtVal (wOp rGt (wOp rIx (wVar 4) (wVar 7)) (wC (.int 0))))) (sSeq (sDrop (wM rAppend (wVar 5) (wCons (wOp rMod (wB rInt (wCons (wOp rIx (wVar 4) (wVar 7)) wNil)) (wC (.int 1000))) wNil)))
    (sSub rPut (wOp rDiv (wOp rIx (wVar 4) (wVar 7)) (wC (.int 1000))) (wVar 4) (wVar 7))) (sSeq (sAsg (wOp rMod (wB rInt (wCons (wOp rAdd (wOp rAdd (wOp rMul (wOp rIx (wVar 2) (wVar 7)) (wC (.int 48271))) (wOp rMul (wVar 6) (wC (.int 69621)))) (wC (.int 11))) wNil)) (wC (.int 2147483647))) (gN 8))
    (sDrop (wM rAppend (wVar 5) (wCons (wOp rMod (wB rInt (wCons (wOp rAdd (wOp rAdd (wOp rMul (wVar 8) (wVar 8)) (wOp rMul (wC (.int 3)) (wVar 8))) (wVar 6)) wNil)) (wC (.int 1000003))) wNil)))))))
    (sSeq (sDrop (wM0 rReverse (wVar 5)))
    (sRet (wVar 5))))) { nx := fun x S' => Q D.non S', rt := Q, bk := fun x x_1 => False, ct := fun x x_1 => False } [some (.rol (intD ns)), some (.int many), some (.ref m0), none, none, none, none, none, none] S3 := by
    intro cs S3 hc0 hc1 e3 s3
    ((with_reducible conv => whnf); repeat (first | (refine And.intro (okII _ _) ?_; rw [eqD_ii]; with_reducible conv => whnf) | (refine And.intro (by first | assumption | exact Exists.intro _ (by assumption) | exact ⟨rfl, rfl, by decide, by decide⟩ | exact Nat.le_of_ble_eq_true rfl | exact rfl) ?_; with_reducible conv => whnf) | (rw [isLst_at (by assumption)]; with_reducible conv => whnf) | (refine ifT rfl ?_; with_reducible conv => whnf) | (refine ifF rfl ?_; with_reducible conv => whnf) | (refine it_at (by assumption) ?_; with_reducible conv => whnf)))
    refine ⟨⟨by omega, by omega⟩, ?_⟩
    have e4 := push_at e3 [.lst (intD cs)]
    have e5 := at_push S3 (.lst (intD cs))
    have s4 := s3.app [.lst (intD cs)]
    have l3 := at_lt e3
    generalize hm4 : S3.length = m4 at *
    have hm5 : (S3 ++ [O.lst (intD cs)]).length = m4 + 1 := by simp [hm4]
    generalize S3 ++ [.lst (intD cs)] = S4 at *
    have e6 := push_at e4 [.lst []]
    have e7 := push_at e5 [.lst []]
    have e8 := at_push S4 (.lst [])
    have s5 := s4.app [.lst []]
    rw [hm5] at e8 ⊢
    generalize S4 ++ [.lst []] = S5 at *
    refine Loop_mk (fun i ρ S' => ∃ o6 o7 o8 rs ws, ρ = [some (.rol (intD ns)), some (.int many), some (.ref m0), none, some (.ref m4), some (.ref (m4 + 1)), o6, o7, o8] ∧ S'[m0]? = some (.lst (intD cs)) ∧ S'[m4]? = some (.lst (intD rs)) ∧ rs.length = cs.length ∧ S'[m4 + 1]? = some (.lst (intD ws)) ∧ ws.length = i ∧ Sub S S') ?_ ?_ ?_ ?_
    · exact ⟨none, none, none, cs, [], rfl, e6, e7, rfl, e8, rfl, s5⟩
    · intros; trivial
    · rintro i d ρ' S' hi ⟨o6, o7, o8, rs, ws, rfl, f0, f1, f2, f3, f4, f5⟩
      obtain ⟨hi1, rfl⟩ := rangeD_get hi
      ((with_reducible conv => whnf); repeat (first | (refine And.intro (okII _ _) ?_; rw [eqD_ii]; with_reducible conv => whnf) | (refine And.intro (by first | assumption | exact Exists.intro _ (by assumption) | exact ⟨rfl, rfl, by decide, by decide⟩ | exact Nat.le_of_ble_eq_true rfl | exact rfl) ?_; with_reducible conv => whnf) | (rw [isLst_at (by assumption)]; with_reducible conv => whnf) | (refine ifT rfl ?_; with_reducible conv => whnf) | (refine ifF rfl ?_; with_reducible conv => whnf) | (refine it_at (by assumption) ?_; with_reducible conv => whnf)))
      have hz : ((intD cs).length : Int) ≠ 0 := by rw [List.length_map]; omega
      have hz0 : (0 : Int) < ((intD cs).length : Int) := by rw [List.length_map]; omega
      obtain ⟨g0, g1⟩ := fmod_lt (a := 0 + (i : Int)) hz0
      refine ⟨hz, ?_⟩
      generalize hat : (0 + (i : Int)).fmod ((intD cs).length : Int) = at' at *
      rw [List.length_map] at g1
      ((with_reducible conv => whnf); repeat (first | (refine And.intro (okII _ _) ?_; rw [eqD_ii]; with_reducible conv => whnf) | (refine And.intro (by first | assumption | exact Exists.intro _ (by assumption) | exact ⟨rfl, rfl, by decide, by decide⟩ | exact Nat.le_of_ble_eq_true rfl | exact rfl) ?_; with_reducible conv => whnf) | (rw [isLst_at (by assumption)]; with_reducible conv => whnf) | (refine ifT rfl ?_; with_reducible conv => whnf) | (refine ifF rfl ?_; with_reducible conv => whnf) | (refine it_at (by assumption) ?_; with_reducible conv => whnf)))
      refine ⟨_, atZ_intD g0 g1, ?_⟩
      ((with_reducible conv => whnf); repeat (first | (refine And.intro (okII _ _) ?_; rw [eqD_ii]; with_reducible conv => whnf) | (refine And.intro (by first | assumption | exact Exists.intro _ (by assumption) | exact ⟨rfl, rfl, by decide, by decide⟩ | exact Nat.le_of_ble_eq_true rfl | exact rfl) ?_; with_reducible conv => whnf) | (rw [isLst_at (by assumption)]; with_reducible conv => whnf) | (refine ifT rfl ?_; with_reducible conv => whnf) | (refine ifF rfl ?_; with_reducible conv => whnf) | (refine it_at (by assumption) ?_; with_reducible conv => whnf)))
      refine ⟨⟨by omega, by omega, by decide⟩, ?_⟩
      ((with_reducible conv => whnf); repeat (first | (refine And.intro (okII _ _) ?_; rw [eqD_ii]; with_reducible conv => whnf) | (refine And.intro (by first | assumption | exact Exists.intro _ (by assumption) | exact ⟨rfl, rfl, by decide, by decide⟩ | exact Nat.le_of_ble_eq_true rfl | exact rfl) ?_; with_reducible conv => whnf) | (rw [isLst_at (by assumption)]; with_reducible conv => whnf) | (refine ifT rfl ?_; with_reducible conv => whnf) | (refine ifF rfl ?_; with_reducible conv => whnf) | (refine it_at (by assumption) ?_; with_reducible conv => whnf)))
      have push : ∀ (c : Int) o7 o8 rs, S'[m4]? = some (.lst (intD rs)) → rs.length = cs.length → ∀ S6, S6 = S'.set (m4 + 1) (.lst (intD (ws ++ [c]))) → ∃ o6' o7' o8' rs' ws', [some (D.rol (intD ns)), some (D.int many), some (D.ref m0), none, some (D.ref m4), some (D.ref (m4 + 1)), some (.int (0 + i)), o7, o8] =
          [some (D.rol (intD ns)), some (D.int many), some (D.ref m0), none, some (D.ref m4), some (D.ref (m4 + 1)), o6', o7', o8'] ∧ S6[m0]? = some (.lst (intD cs)) ∧ S6[m4]? = some (.lst (intD rs')) ∧ rs'.length = cs.length ∧ S6[m4 + 1]? = some (.lst (intD ws')) ∧ ws'.length = i + 1 ∧ Sub S S6 := by
        rintro c o7 o8 rs q1 q2 S6 rfl
        refine ⟨_, _, _, rs, ws ++ [c], rfl, ?_, ?_, q2, ?_, by simp [f4], f5.put (by omega)⟩
        · rw [at_set_ne (by omega), f0]
        · rw [at_set_ne (by omega), q1]
        · rw [at_set f3]
      have hw : (intD ws).length < szL := by rw [List.length_map]; unfold szL; omega
      have hw2 : ∀ c : Int, intD ws ++ [D.int c] = intD (ws ++ [c]) := fun c => by simp [intD]
      refine ite_i (fun hc => ?_) fun hc => ?_
      · ((with_reducible conv => whnf); repeat (first | (refine And.intro (okII _ _) ?_; rw [eqD_ii]; with_reducible conv => whnf) | (refine And.intro (by first | assumption | exact Exists.intro _ (by assumption) | exact ⟨rfl, rfl, by decide, by decide⟩ | exact Nat.le_of_ble_eq_true rfl | exact rfl) ?_; with_reducible conv => whnf) | (rw [isLst_at (by assumption)]; with_reducible conv => whnf) | (refine ifT rfl ?_; with_reducible conv => whnf) | (refine ifF rfl ?_; with_reducible conv => whnf) | (refine it_at (by assumption) ?_; with_reducible conv => whnf)))
        refine ⟨_, atZ_intD g0 (by rw [f2]; exact g1), ?_⟩
        ((with_reducible conv => whnf); repeat (first | (refine And.intro (okII _ _) ?_; rw [eqD_ii]; with_reducible conv => whnf) | (refine And.intro (by first | assumption | exact Exists.intro _ (by assumption) | exact ⟨rfl, rfl, by decide, by decide⟩ | exact Nat.le_of_ble_eq_true rfl | exact rfl) ?_; with_reducible conv => whnf) | (rw [isLst_at (by assumption)]; with_reducible conv => whnf) | (refine ifT rfl ?_; with_reducible conv => whnf) | (refine ifF rfl ?_; with_reducible conv => whnf) | (refine it_at (by assumption) ?_; with_reducible conv => whnf)))
        refine ite_d (fun hc2 => ?_) fun hc2 => ?_
        · ((with_reducible conv => whnf); repeat (first | (refine And.intro (okII _ _) ?_; rw [eqD_ii]; with_reducible conv => whnf) | (refine And.intro (by first | assumption | exact Exists.intro _ (by assumption) | exact ⟨rfl, rfl, by decide, by decide⟩ | exact Nat.le_of_ble_eq_true rfl | exact rfl) ?_; with_reducible conv => whnf) | (rw [isLst_at (by assumption)]; with_reducible conv => whnf) | (refine ifT rfl ?_; with_reducible conv => whnf) | (refine ifF rfl ?_; with_reducible conv => whnf) | (refine it_at (by assumption) ?_; with_reducible conv => whnf)))
          refine ⟨_, atZ_intD g0 (by rw [f2]; exact g1), ?_⟩
          ((with_reducible conv => whnf); repeat (first | (refine And.intro (okII _ _) ?_; rw [eqD_ii]; with_reducible conv => whnf) | (refine And.intro (by first | assumption | exact Exists.intro _ (by assumption) | exact ⟨rfl, rfl, by decide, by decide⟩ | exact Nat.le_of_ble_eq_true rfl | exact rfl) ?_; with_reducible conv => whnf) | (rw [isLst_at (by assumption)]; with_reducible conv => whnf) | (refine ifT rfl ?_; with_reducible conv => whnf) | (refine ifF rfl ?_; with_reducible conv => whnf) | (refine it_at (by assumption) ?_; with_reducible conv => whnf)))
          refine ⟨by decide, ?_⟩
          ((with_reducible conv => whnf); repeat (first | (refine And.intro (okII _ _) ?_; rw [eqD_ii]; with_reducible conv => whnf) | (refine And.intro (by first | assumption | exact Exists.intro _ (by assumption) | exact ⟨rfl, rfl, by decide, by decide⟩ | exact Nat.le_of_ble_eq_true rfl | exact rfl) ?_; with_reducible conv => whnf) | (rw [isLst_at (by assumption)]; with_reducible conv => whnf) | (refine ifT rfl ?_; with_reducible conv => whnf) | (refine ifF rfl ?_; with_reducible conv => whnf) | (refine it_at (by assumption) ?_; with_reducible conv => whnf)))
          rw [hw2]
          have q4 : (S'.set (m4 + 1) (.lst (intD (ws ++ [(rs.getD at'.toNat 0).fmod 1000]))))[m4]? = some (.lst (intD rs)) := by rw [at_set_ne (by omega), f1]
          ((with_reducible conv => whnf); repeat (first | (refine And.intro (okII _ _) ?_; rw [eqD_ii]; with_reducible conv => whnf) | (refine And.intro (by first | assumption | exact Exists.intro _ (by assumption) | exact ⟨rfl, rfl, by decide, by decide⟩ | exact Nat.le_of_ble_eq_true rfl | exact rfl) ?_; with_reducible conv => whnf) | (rw [isLst_at (by assumption)]; with_reducible conv => whnf) | (refine ifT rfl ?_; with_reducible conv => whnf) | (refine ifF rfl ?_; with_reducible conv => whnf) | (refine it_at (by assumption) ?_; with_reducible conv => whnf)))
          refine ⟨_, atZ_intD g0 (by rw [f2]; exact g1), ?_⟩
          ((with_reducible conv => whnf); repeat (first | (refine And.intro (okII _ _) ?_; rw [eqD_ii]; with_reducible conv => whnf) | (refine And.intro (by first | assumption | exact Exists.intro _ (by assumption) | exact ⟨rfl, rfl, by decide, by decide⟩ | exact Nat.le_of_ble_eq_true rfl | exact rfl) ?_; with_reducible conv => whnf) | (rw [isLst_at (by assumption)]; with_reducible conv => whnf) | (refine ifT rfl ?_; with_reducible conv => whnf) | (refine ifF rfl ?_; with_reducible conv => whnf) | (refine it_at (by assumption) ?_; with_reducible conv => whnf)))
          refine ⟨⟨by decide, by decide⟩, ?_⟩
          ((with_reducible conv => whnf); repeat (first | (refine And.intro (okII _ _) ?_; rw [eqD_ii]; with_reducible conv => whnf) | (refine And.intro (by first | assumption | exact Exists.intro _ (by assumption) | exact ⟨rfl, rfl, by decide, by decide⟩ | exact Nat.le_of_ble_eq_true rfl | exact rfl) ?_; with_reducible conv => whnf) | (rw [isLst_at (by assumption)]; with_reducible conv => whnf) | (refine ifT rfl ?_; with_reducible conv => whnf) | (refine ifF rfl ?_; with_reducible conv => whnf) | (refine it_at (by assumption) ?_; with_reducible conv => whnf)))
          refine ⟨_, ixZ_ok g0 (by rw [List.length_map, f2]; exact g1), ?_⟩
          ((with_reducible conv => whnf); repeat (first | (refine And.intro (okII _ _) ?_; rw [eqD_ii]; with_reducible conv => whnf) | (refine And.intro (by first | assumption | exact Exists.intro _ (by assumption) | exact ⟨rfl, rfl, by decide, by decide⟩ | exact Nat.le_of_ble_eq_true rfl | exact rfl) ?_; with_reducible conv => whnf) | (rw [isLst_at (by assumption)]; with_reducible conv => whnf) | (refine ifT rfl ?_; with_reducible conv => whnf) | (refine ifF rfl ?_; with_reducible conv => whnf) | (refine it_at (by assumption) ?_; with_reducible conv => whnf)))
          rw [intD_set]
          obtain ⟨a1, a2, a3, a4, a5, a6, a7, a8, a9, a10, a11, a12⟩ := push ((rs.getD at'.toNat 0).fmod 1000) (some (.int at')) o8 rs f1 f2 _ rfl
          refine ⟨_, _, _, rs.set at'.toNat _, a5, rfl, ?_, at_set a8, by rw [List.length_set, f2], ?_, a11, a12.put (by omega)⟩
          · rw [at_set_ne (by omega), a7]
          · rw [at_set_ne (by omega), a10]
        · ((with_reducible conv => whnf); repeat (first | (refine And.intro (okII _ _) ?_; rw [eqD_ii]; with_reducible conv => whnf) | (refine And.intro (by first | assumption | exact Exists.intro _ (by assumption) | exact ⟨rfl, rfl, by decide, by decide⟩ | exact Nat.le_of_ble_eq_true rfl | exact rfl) ?_; with_reducible conv => whnf) | (rw [isLst_at (by assumption)]; with_reducible conv => whnf) | (refine ifT rfl ?_; with_reducible conv => whnf) | (refine ifF rfl ?_; with_reducible conv => whnf) | (refine it_at (by assumption) ?_; with_reducible conv => whnf)))
          refine ⟨_, atZ_intD g0 g1, ?_⟩
          ((with_reducible conv => whnf); repeat (first | (refine And.intro (okII _ _) ?_; rw [eqD_ii]; with_reducible conv => whnf) | (refine And.intro (by first | assumption | exact Exists.intro _ (by assumption) | exact ⟨rfl, rfl, by decide, by decide⟩ | exact Nat.le_of_ble_eq_true rfl | exact rfl) ?_; with_reducible conv => whnf) | (rw [isLst_at (by assumption)]; with_reducible conv => whnf) | (refine ifT rfl ?_; with_reducible conv => whnf) | (refine ifF rfl ?_; with_reducible conv => whnf) | (refine it_at (by assumption) ?_; with_reducible conv => whnf)))
          refine ⟨smallMul (by decide), ?_⟩
          ((with_reducible conv => whnf); repeat (first | (refine And.intro (okII _ _) ?_; rw [eqD_ii]; with_reducible conv => whnf) | (refine And.intro (by first | assumption | exact Exists.intro _ (by assumption) | exact ⟨rfl, rfl, by decide, by decide⟩ | exact Nat.le_of_ble_eq_true rfl | exact rfl) ?_; with_reducible conv => whnf) | (rw [isLst_at (by assumption)]; with_reducible conv => whnf) | (refine ifT rfl ?_; with_reducible conv => whnf) | (refine ifF rfl ?_; with_reducible conv => whnf) | (refine it_at (by assumption) ?_; with_reducible conv => whnf)))
          refine ⟨smallMul (by decide), ?_⟩
          ((with_reducible conv => whnf); repeat (first | (refine And.intro (okII _ _) ?_; rw [eqD_ii]; with_reducible conv => whnf) | (refine And.intro (by first | assumption | exact Exists.intro _ (by assumption) | exact ⟨rfl, rfl, by decide, by decide⟩ | exact Nat.le_of_ble_eq_true rfl | exact rfl) ?_; with_reducible conv => whnf) | (rw [isLst_at (by assumption)]; with_reducible conv => whnf) | (refine ifT rfl ?_; with_reducible conv => whnf) | (refine ifF rfl ?_; with_reducible conv => whnf) | (refine it_at (by assumption) ?_; with_reducible conv => whnf)))
          refine ⟨by decide, ?_⟩
          ((with_reducible conv => whnf); repeat (first | (refine And.intro (okII _ _) ?_; rw [eqD_ii]; with_reducible conv => whnf) | (refine And.intro (by first | assumption | exact Exists.intro _ (by assumption) | exact ⟨rfl, rfl, by decide, by decide⟩ | exact Nat.le_of_ble_eq_true rfl | exact rfl) ?_; with_reducible conv => whnf) | (rw [isLst_at (by assumption)]; with_reducible conv => whnf) | (refine ifT rfl ?_; with_reducible conv => whnf) | (refine ifF rfl ?_; with_reducible conv => whnf) | (refine it_at (by assumption) ?_; with_reducible conv => whnf)))
          obtain ⟨h0, h1⟩ := fmod_lt (a := (cs.getD at'.toNat 0) * 48271 + (0 + (i : Int)) * 69621 + 11) (b := 2147483647) (by decide)
          refine ⟨smallMul (by omega), ?_⟩
          ((with_reducible conv => whnf); repeat (first | (refine And.intro (okII _ _) ?_; rw [eqD_ii]; with_reducible conv => whnf) | (refine And.intro (by first | assumption | exact Exists.intro _ (by assumption) | exact ⟨rfl, rfl, by decide, by decide⟩ | exact Nat.le_of_ble_eq_true rfl | exact rfl) ?_; with_reducible conv => whnf) | (rw [isLst_at (by assumption)]; with_reducible conv => whnf) | (refine ifT rfl ?_; with_reducible conv => whnf) | (refine ifF rfl ?_; with_reducible conv => whnf) | (refine it_at (by assumption) ?_; with_reducible conv => whnf)))
          refine ⟨smallMul' (by decide), ?_⟩
          ((with_reducible conv => whnf); repeat (first | (refine And.intro (okII _ _) ?_; rw [eqD_ii]; with_reducible conv => whnf) | (refine And.intro (by first | assumption | exact Exists.intro _ (by assumption) | exact ⟨rfl, rfl, by decide, by decide⟩ | exact Nat.le_of_ble_eq_true rfl | exact rfl) ?_; with_reducible conv => whnf) | (rw [isLst_at (by assumption)]; with_reducible conv => whnf) | (refine ifT rfl ?_; with_reducible conv => whnf) | (refine ifF rfl ?_; with_reducible conv => whnf) | (refine it_at (by assumption) ?_; with_reducible conv => whnf)))
          refine ⟨by decide, ?_⟩
          ((with_reducible conv => whnf); repeat (first | (refine And.intro (okII _ _) ?_; rw [eqD_ii]; with_reducible conv => whnf) | (refine And.intro (by first | assumption | exact Exists.intro _ (by assumption) | exact ⟨rfl, rfl, by decide, by decide⟩ | exact Nat.le_of_ble_eq_true rfl | exact rfl) ?_; with_reducible conv => whnf) | (rw [isLst_at (by assumption)]; with_reducible conv => whnf) | (refine ifT rfl ?_; with_reducible conv => whnf) | (refine ifF rfl ?_; with_reducible conv => whnf) | (refine it_at (by assumption) ?_; with_reducible conv => whnf)))
          rw [hw2]
          exact push _ _ _ rs f1 f2 _ rfl
      · ((with_reducible conv => whnf); repeat (first | (refine And.intro (okII _ _) ?_; rw [eqD_ii]; with_reducible conv => whnf) | (refine And.intro (by first | assumption | exact Exists.intro _ (by assumption) | exact ⟨rfl, rfl, by decide, by decide⟩ | exact Nat.le_of_ble_eq_true rfl | exact rfl) ?_; with_reducible conv => whnf) | (rw [isLst_at (by assumption)]; with_reducible conv => whnf) | (refine ifT rfl ?_; with_reducible conv => whnf) | (refine ifF rfl ?_; with_reducible conv => whnf) | (refine it_at (by assumption) ?_; with_reducible conv => whnf)))
        refine ⟨_, atZ_intD g0 g1, ?_⟩
        ((with_reducible conv => whnf); repeat (first | (refine And.intro (okII _ _) ?_; rw [eqD_ii]; with_reducible conv => whnf) | (refine And.intro (by first | assumption | exact Exists.intro _ (by assumption) | exact ⟨rfl, rfl, by decide, by decide⟩ | exact Nat.le_of_ble_eq_true rfl | exact rfl) ?_; with_reducible conv => whnf) | (rw [isLst_at (by assumption)]; with_reducible conv => whnf) | (refine ifT rfl ?_; with_reducible conv => whnf) | (refine ifF rfl ?_; with_reducible conv => whnf) | (refine it_at (by assumption) ?_; with_reducible conv => whnf)))
        refine ⟨smallMul (by decide), ?_⟩
        ((with_reducible conv => whnf); repeat (first | (refine And.intro (okII _ _) ?_; rw [eqD_ii]; with_reducible conv => whnf) | (refine And.intro (by first | assumption | exact Exists.intro _ (by assumption) | exact ⟨rfl, rfl, by decide, by decide⟩ | exact Nat.le_of_ble_eq_true rfl | exact rfl) ?_; with_reducible conv => whnf) | (rw [isLst_at (by assumption)]; with_reducible conv => whnf) | (refine ifT rfl ?_; with_reducible conv => whnf) | (refine ifF rfl ?_; with_reducible conv => whnf) | (refine it_at (by assumption) ?_; with_reducible conv => whnf)))
        refine ⟨smallMul (by decide), ?_⟩
        ((with_reducible conv => whnf); repeat (first | (refine And.intro (okII _ _) ?_; rw [eqD_ii]; with_reducible conv => whnf) | (refine And.intro (by first | assumption | exact Exists.intro _ (by assumption) | exact ⟨rfl, rfl, by decide, by decide⟩ | exact Nat.le_of_ble_eq_true rfl | exact rfl) ?_; with_reducible conv => whnf) | (rw [isLst_at (by assumption)]; with_reducible conv => whnf) | (refine ifT rfl ?_; with_reducible conv => whnf) | (refine ifF rfl ?_; with_reducible conv => whnf) | (refine it_at (by assumption) ?_; with_reducible conv => whnf)))
        refine ⟨by decide, ?_⟩
        ((with_reducible conv => whnf); repeat (first | (refine And.intro (okII _ _) ?_; rw [eqD_ii]; with_reducible conv => whnf) | (refine And.intro (by first | assumption | exact Exists.intro _ (by assumption) | exact ⟨rfl, rfl, by decide, by decide⟩ | exact Nat.le_of_ble_eq_true rfl | exact rfl) ?_; with_reducible conv => whnf) | (rw [isLst_at (by assumption)]; with_reducible conv => whnf) | (refine ifT rfl ?_; with_reducible conv => whnf) | (refine ifF rfl ?_; with_reducible conv => whnf) | (refine it_at (by assumption) ?_; with_reducible conv => whnf)))
        obtain ⟨h0, h1⟩ := fmod_lt (a := (cs.getD at'.toNat 0) * 48271 + (0 + (i : Int)) * 69621 + 11) (b := 2147483647) (by decide)
        refine ⟨smallMul (by omega), ?_⟩
        ((with_reducible conv => whnf); repeat (first | (refine And.intro (okII _ _) ?_; rw [eqD_ii]; with_reducible conv => whnf) | (refine And.intro (by first | assumption | exact Exists.intro _ (by assumption) | exact ⟨rfl, rfl, by decide, by decide⟩ | exact Nat.le_of_ble_eq_true rfl | exact rfl) ?_; with_reducible conv => whnf) | (rw [isLst_at (by assumption)]; with_reducible conv => whnf) | (refine ifT rfl ?_; with_reducible conv => whnf) | (refine ifF rfl ?_; with_reducible conv => whnf) | (refine it_at (by assumption) ?_; with_reducible conv => whnf)))
        refine ⟨smallMul' (by decide), ?_⟩
        ((with_reducible conv => whnf); repeat (first | (refine And.intro (okII _ _) ?_; rw [eqD_ii]; with_reducible conv => whnf) | (refine And.intro (by first | assumption | exact Exists.intro _ (by assumption) | exact ⟨rfl, rfl, by decide, by decide⟩ | exact Nat.le_of_ble_eq_true rfl | exact rfl) ?_; with_reducible conv => whnf) | (rw [isLst_at (by assumption)]; with_reducible conv => whnf) | (refine ifT rfl ?_; with_reducible conv => whnf) | (refine ifF rfl ?_; with_reducible conv => whnf) | (refine it_at (by assumption) ?_; with_reducible conv => whnf)))
        refine ⟨by decide, ?_⟩
        ((with_reducible conv => whnf); repeat (first | (refine And.intro (okII _ _) ?_; rw [eqD_ii]; with_reducible conv => whnf) | (refine And.intro (by first | assumption | exact Exists.intro _ (by assumption) | exact ⟨rfl, rfl, by decide, by decide⟩ | exact Nat.le_of_ble_eq_true rfl | exact rfl) ?_; with_reducible conv => whnf) | (rw [isLst_at (by assumption)]; with_reducible conv => whnf) | (refine ifT rfl ?_; with_reducible conv => whnf) | (refine ifF rfl ?_; with_reducible conv => whnf) | (refine it_at (by assumption) ?_; with_reducible conv => whnf)))
        rw [hw2]
        exact push _ _ _ rs f1 f2 _ rfl
    · rintro ρ' S' ⟨o6, o7, o8, rs, ws, rfl, f0, f1, f2, f3, f4, f5⟩
      ((with_reducible conv => whnf); repeat (first | (refine And.intro (okII _ _) ?_; rw [eqD_ii]; with_reducible conv => whnf) | (refine And.intro (by first | assumption | exact Exists.intro _ (by assumption) | exact ⟨rfl, rfl, by decide, by decide⟩ | exact Nat.le_of_ble_eq_true rfl | exact rfl) ?_; with_reducible conv => whnf) | (rw [isLst_at (by assumption)]; with_reducible conv => whnf) | (refine ifT rfl ?_; with_reducible conv => whnf) | (refine ifF rfl ?_; with_reducible conv => whnf) | (refine it_at (by assumption) ?_; with_reducible conv => whnf)))
      refine k _ _ ⟨ws.reverse, ?_⟩ (f5.put (by omega)) (by omega)
      rw [at_set f3, ← List.map_reverse]
  ((with_reducible conv => whnf); repeat (first | (refine And.intro (okII _ _) ?_; rw [eqD_ii]; with_reducible conv => whnf) | (refine And.intro (by first | assumption | exact Exists.intro _ (by assumption) | exact ⟨rfl, rfl, by decide, by decide⟩ | exact Nat.le_of_ble_eq_true rfl | exact rfl) ?_; with_reducible conv => whnf) | (rw [isLst_at (by assumption)]; with_reducible conv => whnf) | (refine ifT rfl ?_; with_reducible conv => whnf) | (refine ifF rfl ?_; with_reducible conv => whnf) | (refine it_at (by assumption) ?_; with_reducible conv => whnf)))
  refine ite_d (fun hc => ?_) fun hc => ?_
  · ((with_reducible conv => whnf); repeat (first | (refine And.intro (okII _ _) ?_; rw [eqD_ii]; with_reducible conv => whnf) | (refine And.intro (by first | assumption | exact Exists.intro _ (by assumption) | exact ⟨rfl, rfl, by decide, by decide⟩ | exact Nat.le_of_ble_eq_true rfl | exact rfl) ?_; with_reducible conv => whnf) | (rw [isLst_at (by assumption)]; with_reducible conv => whnf) | (refine ifT rfl ?_; with_reducible conv => whnf) | (refine ifF rfl ?_; with_reducible conv => whnf) | (refine it_at (by assumption) ?_; with_reducible conv => whnf)))
    have hn : ns = [] := by
      rw [List.length_map] at hc
      exact List.length_eq_zero_iff.mp (by omega)
    subst hn
    refine ⟨by decide, ?_⟩
    exact main [0] _ (by decide) (by decide) (at_set h2) (hS1.put hln)
  · rw [List.length_map] at hc
    exact main ns S2 (by omega) hl h2 hS1

@[reducible] def sp_same (N : Nat) : Spc := fun ds S Q => ∃ d, ds = [d, d] ∧ flat d = true ∧ slim d = true ∧ deep d ≤ N ∧ ∀ S', Sub S S' → Q (.bl true) S'
@[reducible] def spNo : Spc := fun _ _ _ => False
theorem body_law_same (sp : Spc) (N : Nat) (hN : N ≤ 60) (hsp : N = 0 ∨ ∃ M, N = M + 1 ∧ sp = sp_same M) : Body 3 2 (w_law_same sp) (sp_same N) := by
  rintro ds S Q _ ⟨d, rfl, hf, hsl, hd, k⟩
  unfold w_law_same
  have hself := eqD_self d hf
  have k0 := k S (Sub.refl _)
  (simp only [start, List.map_cons, List.map_nil, List.length_cons, List.length_nil, Nat.reduceAdd, Nat.reduceSub, List.replicate_succ, List.replicate_zero, List.cons_append, List.nil_append, Nat.sub_self, Nat.zero_add])
  cases d with
  | rol xs => cases hf
  | ref xs => cases hf
  | ty xs => cases hf
  | non =>
    ((with_reducible conv => whnf); repeat (first | (refine And.intro (okII _ _) ?_; rw [eqD_ii]; with_reducible conv => whnf) | (refine And.intro (by first | assumption | exact Exists.intro _ (by assumption) | exact ⟨rfl, rfl, by decide, by decide⟩ | exact Nat.le_of_ble_eq_true rfl | exact rfl) ?_; with_reducible conv => whnf) | (rw [isLst_at (by assumption)]; with_reducible conv => whnf) | (refine ifT rfl ?_; with_reducible conv => whnf) | (refine ifF rfl ?_; with_reducible conv => whnf) | (refine it_at (by assumption) ?_; with_reducible conv => whnf)))
    refine ⟨false, rfl, ?_⟩
    ((with_reducible conv => whnf); repeat (first | (refine And.intro (okII _ _) ?_; rw [eqD_ii]; with_reducible conv => whnf) | (refine And.intro (by first | assumption | exact Exists.intro _ (by assumption) | exact ⟨rfl, rfl, by decide, by decide⟩ | exact Nat.le_of_ble_eq_true rfl | exact rfl) ?_; with_reducible conv => whnf) | (rw [isLst_at (by assumption)]; with_reducible conv => whnf) | (refine ifT rfl ?_; with_reducible conv => whnf) | (refine ifF rfl ?_; with_reducible conv => whnf) | (refine it_at (by assumption) ?_; with_reducible conv => whnf)))
    refine ⟨false, rfl, ?_⟩
    ((with_reducible conv => whnf); repeat (first | (refine And.intro (okII _ _) ?_; rw [eqD_ii]; with_reducible conv => whnf) | (refine And.intro (by first | assumption | exact Exists.intro _ (by assumption) | exact ⟨rfl, rfl, by decide, by decide⟩ | exact Nat.le_of_ble_eq_true rfl | exact rfl) ?_; with_reducible conv => whnf) | (rw [isLst_at (by assumption)]; with_reducible conv => whnf) | (refine ifT rfl ?_; with_reducible conv => whnf) | (refine ifF rfl ?_; with_reducible conv => whnf) | (refine it_at (by assumption) ?_; with_reducible conv => whnf)))
    refine ⟨false, rfl, ?_⟩
    ((with_reducible conv => whnf); repeat (first | (refine And.intro (okII _ _) ?_; rw [eqD_ii]; with_reducible conv => whnf) | (refine And.intro (by first | assumption | exact Exists.intro _ (by assumption) | exact ⟨rfl, rfl, by decide, by decide⟩ | exact Nat.le_of_ble_eq_true rfl | exact rfl) ?_; with_reducible conv => whnf) | (rw [isLst_at (by assumption)]; with_reducible conv => whnf) | (refine ifT rfl ?_; with_reducible conv => whnf) | (refine ifF rfl ?_; with_reducible conv => whnf) | (refine it_at (by assumption) ?_; with_reducible conv => whnf)))
    exact k0
  | bl b =>
    ((with_reducible conv => whnf); repeat (first | (refine And.intro (okII _ _) ?_; rw [eqD_ii]; with_reducible conv => whnf) | (refine And.intro (by first | assumption | exact Exists.intro _ (by assumption) | exact ⟨rfl, rfl, by decide, by decide⟩ | exact Nat.le_of_ble_eq_true rfl | exact rfl) ?_; with_reducible conv => whnf) | (rw [isLst_at (by assumption)]; with_reducible conv => whnf) | (refine ifT rfl ?_; with_reducible conv => whnf) | (refine ifF rfl ?_; with_reducible conv => whnf) | (refine it_at (by assumption) ?_; with_reducible conv => whnf)))
    refine ⟨true, rfl, ?_⟩
    ((with_reducible conv => whnf); repeat (first | (refine And.intro (okII _ _) ?_; rw [eqD_ii]; with_reducible conv => whnf) | (refine And.intro (by first | assumption | exact Exists.intro _ (by assumption) | exact ⟨rfl, rfl, by decide, by decide⟩ | exact Nat.le_of_ble_eq_true rfl | exact rfl) ?_; with_reducible conv => whnf) | (rw [isLst_at (by assumption)]; with_reducible conv => whnf) | (refine ifT rfl ?_; with_reducible conv => whnf) | (refine ifF rfl ?_; with_reducible conv => whnf) | (refine it_at (by assumption) ?_; with_reducible conv => whnf)))
    refine ⟨true, rfl, ?_⟩
    ((with_reducible conv => whnf); repeat (first | (refine And.intro (okII _ _) ?_; rw [eqD_ii]; with_reducible conv => whnf) | (refine And.intro (by first | assumption | exact Exists.intro _ (by assumption) | exact ⟨rfl, rfl, by decide, by decide⟩ | exact Nat.le_of_ble_eq_true rfl | exact rfl) ?_; with_reducible conv => whnf) | (rw [isLst_at (by assumption)]; with_reducible conv => whnf) | (refine ifT rfl ?_; with_reducible conv => whnf) | (refine ifF rfl ?_; with_reducible conv => whnf) | (refine it_at (by assumption) ?_; with_reducible conv => whnf)))
    refine ⟨⟨hf, hf, Nat.zero_le _, Nat.zero_le _⟩, ?_⟩
    rw [hself]
    exact k0
  | int i =>
    ((with_reducible conv => whnf); repeat (first | (refine And.intro (okII _ _) ?_; rw [eqD_ii]; with_reducible conv => whnf) | (refine And.intro (by first | assumption | exact Exists.intro _ (by assumption) | exact ⟨rfl, rfl, by decide, by decide⟩ | exact Nat.le_of_ble_eq_true rfl | exact rfl) ?_; with_reducible conv => whnf) | (rw [isLst_at (by assumption)]; with_reducible conv => whnf) | (refine ifT rfl ?_; with_reducible conv => whnf) | (refine ifF rfl ?_; with_reducible conv => whnf) | (refine it_at (by assumption) ?_; with_reducible conv => whnf)))
    refine ⟨false, rfl, ?_⟩
    ((with_reducible conv => whnf); repeat (first | (refine And.intro (okII _ _) ?_; rw [eqD_ii]; with_reducible conv => whnf) | (refine And.intro (by first | assumption | exact Exists.intro _ (by assumption) | exact ⟨rfl, rfl, by decide, by decide⟩ | exact Nat.le_of_ble_eq_true rfl | exact rfl) ?_; with_reducible conv => whnf) | (rw [isLst_at (by assumption)]; with_reducible conv => whnf) | (refine ifT rfl ?_; with_reducible conv => whnf) | (refine ifF rfl ?_; with_reducible conv => whnf) | (refine it_at (by assumption) ?_; with_reducible conv => whnf)))
    refine ⟨true, rfl, ?_⟩
    ((with_reducible conv => whnf); repeat (first | (refine And.intro (okII _ _) ?_; rw [eqD_ii]; with_reducible conv => whnf) | (refine And.intro (by first | assumption | exact Exists.intro _ (by assumption) | exact ⟨rfl, rfl, by decide, by decide⟩ | exact Nat.le_of_ble_eq_true rfl | exact rfl) ?_; with_reducible conv => whnf) | (rw [isLst_at (by assumption)]; with_reducible conv => whnf) | (refine ifT rfl ?_; with_reducible conv => whnf) | (refine ifF rfl ?_; with_reducible conv => whnf) | (refine it_at (by assumption) ?_; with_reducible conv => whnf)))
    refine ⟨true, rfl, ?_⟩
    ((with_reducible conv => whnf); repeat (first | (refine And.intro (okII _ _) ?_; rw [eqD_ii]; with_reducible conv => whnf) | (refine And.intro (by first | assumption | exact Exists.intro _ (by assumption) | exact ⟨rfl, rfl, by decide, by decide⟩ | exact Nat.le_of_ble_eq_true rfl | exact rfl) ?_; with_reducible conv => whnf) | (rw [isLst_at (by assumption)]; with_reducible conv => whnf) | (refine ifT rfl ?_; with_reducible conv => whnf) | (refine ifF rfl ?_; with_reducible conv => whnf) | (refine it_at (by assumption) ?_; with_reducible conv => whnf)))
    refine ⟨false, rfl, ?_⟩
    ((with_reducible conv => whnf); repeat (first | (refine And.intro (okII _ _) ?_; rw [eqD_ii]; with_reducible conv => whnf) | (refine And.intro (by first | assumption | exact Exists.intro _ (by assumption) | exact ⟨rfl, rfl, by decide, by decide⟩ | exact Nat.le_of_ble_eq_true rfl | exact rfl) ?_; with_reducible conv => whnf) | (rw [isLst_at (by assumption)]; with_reducible conv => whnf) | (refine ifT rfl ?_; with_reducible conv => whnf) | (refine ifF rfl ?_; with_reducible conv => whnf) | (refine it_at (by assumption) ?_; with_reducible conv => whnf)))
    rw [decide_eq_true rfl]
    exact k0
  | str x =>
    ((with_reducible conv => whnf); repeat (first | (refine And.intro (okII _ _) ?_; rw [eqD_ii]; with_reducible conv => whnf) | (refine And.intro (by first | assumption | exact Exists.intro _ (by assumption) | exact ⟨rfl, rfl, by decide, by decide⟩ | exact Nat.le_of_ble_eq_true rfl | exact rfl) ?_; with_reducible conv => whnf) | (rw [isLst_at (by assumption)]; with_reducible conv => whnf) | (refine ifT rfl ?_; with_reducible conv => whnf) | (refine ifF rfl ?_; with_reducible conv => whnf) | (refine it_at (by assumption) ?_; with_reducible conv => whnf)))
    refine ⟨false, rfl, ?_⟩
    ((with_reducible conv => whnf); repeat (first | (refine And.intro (okII _ _) ?_; rw [eqD_ii]; with_reducible conv => whnf) | (refine And.intro (by first | assumption | exact Exists.intro _ (by assumption) | exact ⟨rfl, rfl, by decide, by decide⟩ | exact Nat.le_of_ble_eq_true rfl | exact rfl) ?_; with_reducible conv => whnf) | (rw [isLst_at (by assumption)]; with_reducible conv => whnf) | (refine ifT rfl ?_; with_reducible conv => whnf) | (refine ifF rfl ?_; with_reducible conv => whnf) | (refine it_at (by assumption) ?_; with_reducible conv => whnf)))
    refine ⟨false, rfl, ?_⟩
    ((with_reducible conv => whnf); repeat (first | (refine And.intro (okII _ _) ?_; rw [eqD_ii]; with_reducible conv => whnf) | (refine And.intro (by first | assumption | exact Exists.intro _ (by assumption) | exact ⟨rfl, rfl, by decide, by decide⟩ | exact Nat.le_of_ble_eq_true rfl | exact rfl) ?_; with_reducible conv => whnf) | (rw [isLst_at (by assumption)]; with_reducible conv => whnf) | (refine ifT rfl ?_; with_reducible conv => whnf) | (refine ifF rfl ?_; with_reducible conv => whnf) | (refine it_at (by assumption) ?_; with_reducible conv => whnf)))
    refine ⟨true, rfl, ?_⟩
    ((with_reducible conv => whnf); repeat (first | (refine And.intro (okII _ _) ?_; rw [eqD_ii]; with_reducible conv => whnf) | (refine And.intro (by first | assumption | exact Exists.intro _ (by assumption) | exact ⟨rfl, rfl, by decide, by decide⟩ | exact Nat.le_of_ble_eq_true rfl | exact rfl) ?_; with_reducible conv => whnf) | (rw [isLst_at (by assumption)]; with_reducible conv => whnf) | (refine ifT rfl ?_; with_reducible conv => whnf) | (refine ifF rfl ?_; with_reducible conv => whnf) | (refine it_at (by assumption) ?_; with_reducible conv => whnf)))
    refine ⟨true, rfl, ?_⟩
    ((with_reducible conv => whnf); repeat (first | (refine And.intro (okII _ _) ?_; rw [eqD_ii]; with_reducible conv => whnf) | (refine And.intro (by first | assumption | exact Exists.intro _ (by assumption) | exact ⟨rfl, rfl, by decide, by decide⟩ | exact Nat.le_of_ble_eq_true rfl | exact rfl) ?_; with_reducible conv => whnf) | (rw [isLst_at (by assumption)]; with_reducible conv => whnf) | (refine ifT rfl ?_; with_reducible conv => whnf) | (refine ifF rfl ?_; with_reducible conv => whnf) | (refine it_at (by assumption) ?_; with_reducible conv => whnf)))
    refine ⟨⟨hf, hf, Nat.zero_le _, Nat.zero_le _⟩, ?_⟩
    rw [hself]
    exact k0
  | tup xs =>
    ((with_reducible conv => whnf); repeat (first | (refine And.intro (okII _ _) ?_; rw [eqD_ii]; with_reducible conv => whnf) | (refine And.intro (by first | assumption | exact Exists.intro _ (by assumption) | exact ⟨rfl, rfl, by decide, by decide⟩ | exact Nat.le_of_ble_eq_true rfl | exact rfl) ?_; with_reducible conv => whnf) | (rw [isLst_at (by assumption)]; with_reducible conv => whnf) | (refine ifT rfl ?_; with_reducible conv => whnf) | (refine ifF rfl ?_; with_reducible conv => whnf) | (refine it_at (by assumption) ?_; with_reducible conv => whnf)))
    refine ⟨false, rfl, ?_⟩
    ((with_reducible conv => whnf); repeat (first | (refine And.intro (okII _ _) ?_; rw [eqD_ii]; with_reducible conv => whnf) | (refine And.intro (by first | assumption | exact Exists.intro _ (by assumption) | exact ⟨rfl, rfl, by decide, by decide⟩ | exact Nat.le_of_ble_eq_true rfl | exact rfl) ?_; with_reducible conv => whnf) | (rw [isLst_at (by assumption)]; with_reducible conv => whnf) | (refine ifT rfl ?_; with_reducible conv => whnf) | (refine ifF rfl ?_; with_reducible conv => whnf) | (refine it_at (by assumption) ?_; with_reducible conv => whnf)))
    refine ⟨false, rfl, ?_⟩
    ((with_reducible conv => whnf); repeat (first | (refine And.intro (okII _ _) ?_; rw [eqD_ii]; with_reducible conv => whnf) | (refine And.intro (by first | assumption | exact Exists.intro _ (by assumption) | exact ⟨rfl, rfl, by decide, by decide⟩ | exact Nat.le_of_ble_eq_true rfl | exact rfl) ?_; with_reducible conv => whnf) | (rw [isLst_at (by assumption)]; with_reducible conv => whnf) | (refine ifT rfl ?_; with_reducible conv => whnf) | (refine ifF rfl ?_; with_reducible conv => whnf) | (refine it_at (by assumption) ?_; with_reducible conv => whnf)))
    refine ⟨false, rfl, ?_⟩
    ((with_reducible conv => whnf); repeat (first | (refine And.intro (okII _ _) ?_; rw [eqD_ii]; with_reducible conv => whnf) | (refine And.intro (by first | assumption | exact Exists.intro _ (by assumption) | exact ⟨rfl, rfl, by decide, by decide⟩ | exact Nat.le_of_ble_eq_true rfl | exact rfl) ?_; with_reducible conv => whnf) | (rw [isLst_at (by assumption)]; with_reducible conv => whnf) | (refine ifT rfl ?_; with_reducible conv => whnf) | (refine ifF rfl ?_; with_reducible conv => whnf) | (refine it_at (by assumption) ?_; with_reducible conv => whnf)))
    refine ⟨true, rfl, ?_⟩
    ((with_reducible conv => whnf); repeat (first | (refine And.intro (okII _ _) ?_; rw [eqD_ii]; with_reducible conv => whnf) | (refine And.intro (by first | assumption | exact Exists.intro _ (by assumption) | exact ⟨rfl, rfl, by decide, by decide⟩ | exact Nat.le_of_ble_eq_true rfl | exact rfl) ?_; with_reducible conv => whnf) | (rw [isLst_at (by assumption)]; with_reducible conv => whnf) | (refine ifT rfl ?_; with_reducible conv => whnf) | (refine ifF rfl ?_; with_reducible conv => whnf) | (refine it_at (by assumption) ?_; with_reducible conv => whnf)))
    rw [if_neg (by simp)]
    have hsl := Bool.and_eq_true_iff.mp (show (decide (xs.length ≤ szL) && slims xs) = true from hsl)
    have hz := of_decide_eq_true hsl.1
    unfold szL at hz
    ((with_reducible conv => whnf); repeat (first | (refine And.intro (okII _ _) ?_; rw [eqD_ii]; with_reducible conv => whnf) | (refine And.intro (by first | assumption | exact Exists.intro _ (by assumption) | exact ⟨rfl, rfl, by decide, by decide⟩ | exact Nat.le_of_ble_eq_true rfl | exact rfl) ?_; with_reducible conv => whnf) | (rw [isLst_at (by assumption)]; with_reducible conv => whnf) | (refine ifT rfl ?_; with_reducible conv => whnf) | (refine ifF rfl ?_; with_reducible conv => whnf) | (refine it_at (by assumption) ?_; with_reducible conv => whnf)))
    refine ⟨⟨by omega, by omega⟩, ?_⟩
    refine Loop_mk (fun _ ρ S' => ∃ o, ρ = [some (.tup xs), some (.tup xs), o] ∧ Sub S S') ⟨_, rfl, Sub.refl _⟩ (by intros; trivial) ?_ ?_
    · rintro i d ρ' S' hi ⟨o, rfl, hs⟩
      obtain ⟨hi1, rfl⟩ := rangeD_get hi
      have hl : i < xs.length := by omega
      have e := List.getElem?_eq_getElem hl
      have ez := atZ_nat e
      rw [show ((i : Nat) : Int) = 0 + i by omega] at ez
      ((with_reducible conv => whnf); repeat (first | (refine And.intro (okII _ _) ?_; rw [eqD_ii]; with_reducible conv => whnf) | (refine And.intro (by first | assumption | exact Exists.intro _ (by assumption) | exact ⟨rfl, rfl, by decide, by decide⟩ | exact Nat.le_of_ble_eq_true rfl | exact rfl) ?_; with_reducible conv => whnf) | (rw [isLst_at (by assumption)]; with_reducible conv => whnf) | (refine ifT rfl ?_; with_reducible conv => whnf) | (refine ifF rfl ?_; with_reducible conv => whnf) | (refine it_at (by assumption) ?_; with_reducible conv => whnf)))
      refine ⟨_, ez, ?_⟩
      ((with_reducible conv => whnf); repeat (first | (refine And.intro (okII _ _) ?_; rw [eqD_ii]; with_reducible conv => whnf) | (refine And.intro (by first | assumption | exact Exists.intro _ (by assumption) | exact ⟨rfl, rfl, by decide, by decide⟩ | exact Nat.le_of_ble_eq_true rfl | exact rfl) ?_; with_reducible conv => whnf) | (rw [isLst_at (by assumption)]; with_reducible conv => whnf) | (refine ifT rfl ?_; with_reducible conv => whnf) | (refine ifF rfl ?_; with_reducible conv => whnf) | (refine it_at (by assumption) ?_; with_reducible conv => whnf)))
      refine ⟨_, ez, ?_⟩
      ((with_reducible conv => whnf); repeat (first | (refine And.intro (okII _ _) ?_; rw [eqD_ii]; with_reducible conv => whnf) | (refine And.intro (by first | assumption | exact Exists.intro _ (by assumption) | exact ⟨rfl, rfl, by decide, by decide⟩ | exact Nat.le_of_ble_eq_true rfl | exact rfl) ?_; with_reducible conv => whnf) | (rw [isLst_at (by assumption)]; with_reducible conv => whnf) | (refine ifT rfl ?_; with_reducible conv => whnf) | (refine ifF rfl ?_; with_reducible conv => whnf) | (refine it_at (by assumption) ?_; with_reducible conv => whnf)))
      have hdd : deep (.tup xs) = deeps xs + 1 := rfl
      rcases hsp with h0 | ⟨M, hM, rfl⟩
      · omega
      ((with_reducible conv => whnf); repeat (first | (refine And.intro (okII _ _) ?_; rw [eqD_ii]; with_reducible conv => whnf) | (refine And.intro (by first | assumption | exact Exists.intro _ (by assumption) | exact ⟨rfl, rfl, by decide, by decide⟩ | exact Nat.le_of_ble_eq_true rfl | exact rfl) ?_; with_reducible conv => whnf) | (rw [isLst_at (by assumption)]; with_reducible conv => whnf) | (refine ifT rfl ?_; with_reducible conv => whnf) | (refine ifF rfl ?_; with_reducible conv => whnf) | (refine it_at (by assumption) ?_; with_reducible conv => whnf)))
      have := deeps_get e
      refine ⟨_, rfl, flats_get hf e, slims_get hsl.2 e, by omega, fun S2 hs2 => ?_⟩
      ((with_reducible conv => whnf); repeat (first | (refine And.intro (okII _ _) ?_; rw [eqD_ii]; with_reducible conv => whnf) | (refine And.intro (by first | assumption | exact Exists.intro _ (by assumption) | exact ⟨rfl, rfl, by decide, by decide⟩ | exact Nat.le_of_ble_eq_true rfl | exact rfl) ?_; with_reducible conv => whnf) | (rw [isLst_at (by assumption)]; with_reducible conv => whnf) | (refine ifT rfl ?_; with_reducible conv => whnf) | (refine ifF rfl ?_; with_reducible conv => whnf) | (refine it_at (by assumption) ?_; with_reducible conv => whnf)))
      exact ⟨_, rfl, hs.trans hs2⟩
    · rintro ρ' S' ⟨o, rfl, hs⟩
      ((with_reducible conv => whnf); repeat (first | (refine And.intro (okII _ _) ?_; rw [eqD_ii]; with_reducible conv => whnf) | (refine And.intro (by first | assumption | exact Exists.intro _ (by assumption) | exact ⟨rfl, rfl, by decide, by decide⟩ | exact Nat.le_of_ble_eq_true rfl | exact rfl) ?_; with_reducible conv => whnf) | (rw [isLst_at (by assumption)]; with_reducible conv => whnf) | (refine ifT rfl ?_; with_reducible conv => whnf) | (refine ifF rfl ?_; with_reducible conv => whnf) | (refine it_at (by assumption) ?_; with_reducible conv => whnf)))
      exact k _ hs
@[reducible] def sp_gcd : Spc := fun ds S Q => ∃ n d, ds = [.int n, .int d] ∧ ∀ S', Sub S S' → Q (.int (Nat.gcd n.natAbs d.natAbs : Nat)) S'
theorem body_divisor : Body 2 2 w_divisor sp_gcd := by
  rintro ds S Q _ ⟨n, d, rfl, k⟩
  unfold w_divisor
  (simp only [start, List.map_cons, List.map_nil, List.length_cons, List.length_nil, Nat.reduceAdd, Nat.reduceSub, List.replicate_succ, List.replicate_zero, List.cons_append, List.nil_append, Nat.sub_self, Nat.zero_add])
  ((with_reducible conv => whnf); repeat (first | (rw [natD_len]; with_reducible conv => whnf) | (rw [intD_len]; with_reducible conv => whnf) | (refine Exists.intro _ (And.intro (rfl : _ = some _) ?_); with_reducible conv => whnf) | (refine And.intro (okII _ _) ?_; rw [eqD_ii]; with_reducible conv => whnf) | (refine And.intro (by first | assumption | exact Exists.intro _ (by assumption) | exact ⟨rfl, rfl, by decide, by decide⟩ | exact Nat.le_of_ble_eq_true rfl | exact rfl) ?_; with_reducible conv => whnf) | (rw [isLst_at (by assumption)]; with_reducible conv => whnf) | (refine ifT rfl ?_; with_reducible conv => whnf) | (refine ifF rfl ?_; with_reducible conv => whnf) | (refine it_at (by assumption) ?_; with_reducible conv => whnf)))
  exact k _ (Sub.refl _)
@[reducible] def sp_ratio : Spc := fun ds S Q => ∃ n d, ds = [.int n, .int d] ∧ d ≠ 0 ∧ d.natAbs < 2 ^ 9000 ∧ ∀ S', Sub S S' → Q (qD (Rat.divInt n d)) S'
theorem body_fraction : Body 3 2 (w_fraction sp_gcd) sp_ratio := by
  rintro ds S Q _ ⟨n, d, rfl, h0, hb, k⟩
  unfold w_fraction
  (simp only [start, List.map_cons, List.map_nil, List.length_cons, List.length_nil, Nat.reduceAdd, Nat.reduceSub, List.replicate_succ, List.replicate_zero, List.cons_append, List.nil_append, Nat.sub_self, Nat.zero_add])
  ((with_reducible conv => whnf); repeat (first | (rw [natD_len]; with_reducible conv => whnf) | (rw [intD_len]; with_reducible conv => whnf) | (refine Exists.intro _ (And.intro (rfl : _ = some _) ?_); with_reducible conv => whnf) | (refine And.intro (okII _ _) ?_; rw [eqD_ii]; with_reducible conv => whnf) | (refine And.intro (by first | assumption | exact Exists.intro _ (by assumption) | exact ⟨rfl, rfl, by decide, by decide⟩ | exact Nat.le_of_ble_eq_true rfl | exact rfl) ?_; with_reducible conv => whnf) | (rw [isLst_at (by assumption)]; with_reducible conv => whnf) | (refine ifT rfl ?_; with_reducible conv => whnf) | (refine ifF rfl ?_; with_reducible conv => whnf) | (refine it_at (by assumption) ?_; with_reducible conv => whnf)))
  refine ⟨_, _, rfl, fun S1 h1 => ?_⟩
  have hg : 0 < Nat.gcd n.natAbs d.natAbs := Nat.gcd_pos_of_pos_right _ (by omega)
  have hle : Nat.gcd n.natAbs d.natAbs ≤ d.natAbs := Nat.gcd_le_right _ (by omega)
  have e := ratio_eq (n := n) h0
  have k := k S1 h1
  unfold qD at k
  rw [← e.1, ← e.2] at k
  ((with_reducible conv => whnf); repeat (first | (rw [natD_len]; with_reducible conv => whnf) | (rw [intD_len]; with_reducible conv => whnf) | (refine Exists.intro _ (And.intro (rfl : _ = some _) ?_); with_reducible conv => whnf) | (refine And.intro (okII _ _) ?_; rw [eqD_ii]; with_reducible conv => whnf) | (refine And.intro (by first | assumption | exact Exists.intro _ (by assumption) | exact ⟨rfl, rfl, by decide, by decide⟩ | exact Nat.le_of_ble_eq_true rfl | exact rfl) ?_; with_reducible conv => whnf) | (rw [isLst_at (by assumption)]; with_reducible conv => whnf) | (refine ifT rfl ?_; with_reducible conv => whnf) | (refine ifF rfl ?_; with_reducible conv => whnf) | (refine it_at (by assumption) ?_; with_reducible conv => whnf)))
  refine ite_d (fun hc => ?_) fun hc => ?_
  · rw [if_pos hc] at k
    ((with_reducible conv => whnf); repeat (first | (rw [natD_len]; with_reducible conv => whnf) | (rw [intD_len]; with_reducible conv => whnf) | (refine Exists.intro _ (And.intro (rfl : _ = some _) ?_); with_reducible conv => whnf) | (refine And.intro (okII _ _) ?_; rw [eqD_ii]; with_reducible conv => whnf) | (refine And.intro (by first | assumption | exact Exists.intro _ (by assumption) | exact ⟨rfl, rfl, by decide, by decide⟩ | exact Nat.le_of_ble_eq_true rfl | exact rfl) ?_; with_reducible conv => whnf) | (rw [isLst_at (by assumption)]; with_reducible conv => whnf) | (refine ifT rfl ?_; with_reducible conv => whnf) | (refine ifF rfl ?_; with_reducible conv => whnf) | (refine it_at (by assumption) ?_; with_reducible conv => whnf)))
    refine ⟨⟨by omega, by omega⟩, ?_⟩
    ((with_reducible conv => whnf); repeat (first | (rw [natD_len]; with_reducible conv => whnf) | (rw [intD_len]; with_reducible conv => whnf) | (refine Exists.intro _ (And.intro (rfl : _ = some _) ?_); with_reducible conv => whnf) | (refine And.intro (okII _ _) ?_; rw [eqD_ii]; with_reducible conv => whnf) | (refine And.intro (by first | assumption | exact Exists.intro _ (by assumption) | exact ⟨rfl, rfl, by decide, by decide⟩ | exact Nat.le_of_ble_eq_true rfl | exact rfl) ?_; with_reducible conv => whnf) | (rw [isLst_at (by assumption)]; with_reducible conv => whnf) | (refine ifT rfl ?_; with_reducible conv => whnf) | (refine ifF rfl ?_; with_reducible conv => whnf) | (refine it_at (by assumption) ?_; with_reducible conv => whnf)))
    refine ⟨⟨by omega, by omega⟩, ?_⟩
    ((with_reducible conv => whnf); repeat (first | (rw [natD_len]; with_reducible conv => whnf) | (rw [intD_len]; with_reducible conv => whnf) | (refine Exists.intro _ (And.intro (rfl : _ = some _) ?_); with_reducible conv => whnf) | (refine And.intro (okII _ _) ?_; rw [eqD_ii]; with_reducible conv => whnf) | (refine And.intro (by first | assumption | exact Exists.intro _ (by assumption) | exact ⟨rfl, rfl, by decide, by decide⟩ | exact Nat.le_of_ble_eq_true rfl | exact rfl) ?_; with_reducible conv => whnf) | (rw [isLst_at (by assumption)]; with_reducible conv => whnf) | (refine ifT rfl ?_; with_reducible conv => whnf) | (refine ifF rfl ?_; with_reducible conv => whnf) | (refine it_at (by assumption) ?_; with_reducible conv => whnf)))
    exact k
  · rw [if_neg hc] at k
    ((with_reducible conv => whnf); repeat (first | (rw [natD_len]; with_reducible conv => whnf) | (rw [intD_len]; with_reducible conv => whnf) | (refine Exists.intro _ (And.intro (rfl : _ = some _) ?_); with_reducible conv => whnf) | (refine And.intro (okII _ _) ?_; rw [eqD_ii]; with_reducible conv => whnf) | (refine And.intro (by first | assumption | exact Exists.intro _ (by assumption) | exact ⟨rfl, rfl, by decide, by decide⟩ | exact Nat.le_of_ble_eq_true rfl | exact rfl) ?_; with_reducible conv => whnf) | (rw [isLst_at (by assumption)]; with_reducible conv => whnf) | (refine ifT rfl ?_; with_reducible conv => whnf) | (refine ifF rfl ?_; with_reducible conv => whnf) | (refine it_at (by assumption) ?_; with_reducible conv => whnf)))
    refine ⟨⟨by omega, by omega⟩, ?_⟩
    ((with_reducible conv => whnf); repeat (first | (rw [natD_len]; with_reducible conv => whnf) | (rw [intD_len]; with_reducible conv => whnf) | (refine Exists.intro _ (And.intro (rfl : _ = some _) ?_); with_reducible conv => whnf) | (refine And.intro (okII _ _) ?_; rw [eqD_ii]; with_reducible conv => whnf) | (refine And.intro (by first | assumption | exact Exists.intro _ (by assumption) | exact ⟨rfl, rfl, by decide, by decide⟩ | exact Nat.le_of_ble_eq_true rfl | exact rfl) ?_; with_reducible conv => whnf) | (rw [isLst_at (by assumption)]; with_reducible conv => whnf) | (refine ifT rfl ?_; with_reducible conv => whnf) | (refine ifF rfl ?_; with_reducible conv => whnf) | (refine it_at (by assumption) ?_; with_reducible conv => whnf)))
    refine ⟨⟨by omega, by omega⟩, ?_⟩
    ((with_reducible conv => whnf); repeat (first | (rw [natD_len]; with_reducible conv => whnf) | (rw [intD_len]; with_reducible conv => whnf) | (refine Exists.intro _ (And.intro (rfl : _ = some _) ?_); with_reducible conv => whnf) | (refine And.intro (okII _ _) ?_; rw [eqD_ii]; with_reducible conv => whnf) | (refine And.intro (by first | assumption | exact Exists.intro _ (by assumption) | exact ⟨rfl, rfl, by decide, by decide⟩ | exact Nat.le_of_ble_eq_true rfl | exact rfl) ?_; with_reducible conv => whnf) | (rw [isLst_at (by assumption)]; with_reducible conv => whnf) | (refine ifT rfl ?_; with_reducible conv => whnf) | (refine ifF rfl ?_; with_reducible conv => whnf) | (refine it_at (by assumption) ?_; with_reducible conv => whnf)))
    exact k
theorem half_step {a b : Nat} (hb : 0 < b) (hab : b ≤ a) : 2 * (b * (a % b)) ≤ a * b := by
  have h1 : a % b < b := Nat.mod_lt _ hb
  have h2 := Nat.div_add_mod a b
  have h3 : 1 ≤ a / b := (Nat.one_le_div_iff hb).mpr hab
  have h4 : b * 1 ≤ b * (a / b) := Nat.mul_le_mul_left b h3
  have h5 : 2 * (a % b) ≤ a := by omega
  have h6 := Nat.mul_le_mul_right b h5
  rw [Nat.mul_assoc, Nat.mul_comm (a % b) b] at h6
  exact h6
@[reducible] def sp_shared : Spc := fun ds S Q => ∃ n d, ds = [.int n, .int d] ∧ d.natAbs < 2 ^ 1900 ∧ ∀ S', Sub S S' → Q (.int (Nat.gcd n.natAbs d.natAbs : Nat)) S'
theorem body_law_shared : Body 6 2 w_law_shared sp_shared := by
  rintro ds S Q _ ⟨n, d, rfl, hd, k⟩
  unfold w_law_shared
  (simp only [start, List.map_cons, List.map_nil, List.length_cons, List.length_nil, Nat.reduceAdd, Nat.reduceSub, List.replicate_succ, List.replicate_zero, List.cons_append, List.nil_append, Nat.sub_self, Nat.zero_add])
  ((with_reducible conv => whnf); repeat (first | (rw [natD_len]; with_reducible conv => whnf) | (rw [intD_len]; with_reducible conv => whnf) | (refine Exists.intro _ (And.intro (rfl : _ = some _) ?_); with_reducible conv => whnf) | (refine And.intro (okII _ _) ?_; rw [eqD_ii]; with_reducible conv => whnf) | (refine And.intro (by first | assumption | exact Exists.intro _ (by assumption) | exact ⟨rfl, rfl, by decide, by decide⟩ | exact Nat.le_of_ble_eq_true rfl | exact rfl) ?_; with_reducible conv => whnf) | (rw [isLst_at (by assumption)]; with_reducible conv => whnf) | (refine ifT rfl ?_; with_reducible conv => whnf) | (refine ifF rfl ?_; with_reducible conv => whnf) | (refine it_at (by assumption) ?_; with_reducible conv => whnf)))
  refine ⟨⟨by decide, by decide⟩, ?_⟩
  refine Loop_mk (fun i ρ S' => ∃ (a b : Nat) (o4 o5 : Option D), ρ = [some (.int n), some (.int d), some (.int a), some (.int b), o4, o5] ∧ Nat.gcd a b = Nat.gcd n.natAbs d.natAbs ∧ (i = 0 → b = d.natAbs) ∧ (0 < i → b < a ∧ a * b * 2 ^ i ≤ 2 * (d.natAbs * d.natAbs)) ∧ S' = S) ⟨_, _, none, none, rfl, rfl, fun _ => rfl, by omega, rfl⟩ (by intros; trivial) ?_ ?_
  · rintro i dd ρ' S' hi ⟨a, b, o4, o5, rfl, hg, h0, h1, rfl⟩
    obtain ⟨_, rfl⟩ := rangeD_get hi
    ((with_reducible conv => whnf); repeat (first | (rw [natD_len]; with_reducible conv => whnf) | (rw [intD_len]; with_reducible conv => whnf) | (refine Exists.intro _ (And.intro (rfl : _ = some _) ?_); with_reducible conv => whnf) | (refine And.intro (okII _ _) ?_; rw [eqD_ii]; with_reducible conv => whnf) | (refine And.intro (by first | assumption | exact Exists.intro _ (by assumption) | exact ⟨rfl, rfl, by decide, by decide⟩ | exact Nat.le_of_ble_eq_true rfl | exact rfl) ?_; with_reducible conv => whnf) | (rw [isLst_at (by assumption)]; with_reducible conv => whnf) | (refine ifT rfl ?_; with_reducible conv => whnf) | (refine ifF rfl ?_; with_reducible conv => whnf) | (refine it_at (by assumption) ?_; with_reducible conv => whnf)))
    by_cases hb : b = 0
    · subst hb
      refine ifT (by simp) ?_
      ((with_reducible conv => whnf); repeat (first | (rw [natD_len]; with_reducible conv => whnf) | (rw [intD_len]; with_reducible conv => whnf) | (refine Exists.intro _ (And.intro (rfl : _ = some _) ?_); with_reducible conv => whnf) | (refine And.intro (okII _ _) ?_; rw [eqD_ii]; with_reducible conv => whnf) | (refine And.intro (by first | assumption | exact Exists.intro _ (by assumption) | exact ⟨rfl, rfl, by decide, by decide⟩ | exact Nat.le_of_ble_eq_true rfl | exact rfl) ?_; with_reducible conv => whnf) | (rw [isLst_at (by assumption)]; with_reducible conv => whnf) | (refine ifT rfl ?_; with_reducible conv => whnf) | (refine ifF rfl ?_; with_reducible conv => whnf) | (refine it_at (by assumption) ?_; with_reducible conv => whnf)))
      have := k S' (Sub.refl _)
      rw [← hg, Nat.gcd_zero_right] at this
      exact this
    · refine ifF (by simp; omega) ?_
      ((with_reducible conv => whnf); repeat (first | (rw [natD_len]; with_reducible conv => whnf) | (rw [intD_len]; with_reducible conv => whnf) | (refine Exists.intro _ (And.intro (rfl : _ = some _) ?_); with_reducible conv => whnf) | (refine And.intro (okII _ _) ?_; rw [eqD_ii]; with_reducible conv => whnf) | (refine And.intro (by first | assumption | exact Exists.intro _ (by assumption) | exact ⟨rfl, rfl, by decide, by decide⟩ | exact Nat.le_of_ble_eq_true rfl | exact rfl) ?_; with_reducible conv => whnf) | (rw [isLst_at (by assumption)]; with_reducible conv => whnf) | (refine ifT rfl ?_; with_reducible conv => whnf) | (refine ifF rfl ?_; with_reducible conv => whnf) | (refine it_at (by assumption) ?_; with_reducible conv => whnf)))
      refine ⟨by omega, ?_⟩
      have e : (a : Int).fmod (b : Int) = ((a % b : Nat) : Int) := by
        rw [Int.fmod_eq_emod_of_nonneg _ (by omega), Int.natCast_emod]
      rw [e]
      ((with_reducible conv => whnf); repeat (first | (rw [natD_len]; with_reducible conv => whnf) | (rw [intD_len]; with_reducible conv => whnf) | (refine Exists.intro _ (And.intro (rfl : _ = some _) ?_); with_reducible conv => whnf) | (refine And.intro (okII _ _) ?_; rw [eqD_ii]; with_reducible conv => whnf) | (refine And.intro (by first | assumption | exact Exists.intro _ (by assumption) | exact ⟨rfl, rfl, by decide, by decide⟩ | exact Nat.le_of_ble_eq_true rfl | exact rfl) ?_; with_reducible conv => whnf) | (rw [isLst_at (by assumption)]; with_reducible conv => whnf) | (refine ifT rfl ?_; with_reducible conv => whnf) | (refine ifF rfl ?_; with_reducible conv => whnf) | (refine it_at (by assumption) ?_; with_reducible conv => whnf)))
      have hb0 : 0 < b := by omega
      refine ⟨b, a % b, _, _, rfl, ?_, by omega, fun _ => ⟨Nat.mod_lt _ hb0, ?_⟩, rfl⟩
      · rw [← hg, Nat.gcd_comm a b, Nat.gcd_rec b a, Nat.gcd_comm]
      · rcases Nat.eq_zero_or_pos i with c | c
        · subst c
          have hbd := h0 rfl
          have h2 : b * (a % b) ≤ b * b := Nat.mul_le_mul_left b (Nat.le_of_lt (Nat.mod_lt _ hb0))
          rw [← hbd]
          show b * (a % b) * 2 ≤ _
          omega
        · obtain ⟨h2, h3⟩ := h1 c
          have h4 := half_step hb0 (Nat.le_of_lt h2)
          have h5 := Nat.mul_le_mul_right (2 ^ i) h4
          rw [Nat.pow_succ]
          have h6 : b * (a % b) * (2 ^ i * 2) = 2 * (b * (a % b)) * 2 ^ i := by
            rw [Nat.mul_comm (2 ^ i) 2, ← Nat.mul_assoc, Nat.mul_comm (b * (a % b)) 2]
          rw [h6]
          exact Nat.le_trans h5 h3
  · rintro ρ' S' ⟨a, b, o4, o5, rfl, hg, h0, h1, rfl⟩
    rw [rangeD_len] at h1
    obtain ⟨h2, h3⟩ := h1 (by decide)
    have hb : b = 0 := by
      false_or_by_contra
      rename_i hc
      have h4 : 1 ≤ a * b := Nat.mul_pos (by omega) (by omega)
      have h5 := Nat.mul_le_mul_right (2 ^ (4000 - 0 : Int).toNat) h4
      have h6 : d.natAbs * d.natAbs < 2 ^ 1900 * 2 ^ 1900 := Nat.mul_lt_mul'' hd hd
      rw [← Nat.pow_add] at h6
      have h7 : 2 * 2 ^ (1900 + 1900) = 2 ^ 3801 := by rw [← Nat.pow_succ']
      have h8 : (2 : Nat) ^ 3801 ≤ 2 ^ (4000 - 0 : Int).toNat := Nat.pow_le_pow_right (by decide) (by decide)
      omega
    subst hb
    ((with_reducible conv => whnf); repeat (first | (rw [natD_len]; with_reducible conv => whnf) | (rw [intD_len]; with_reducible conv => whnf) | (refine Exists.intro _ (And.intro (rfl : _ = some _) ?_); with_reducible conv => whnf) | (refine And.intro (okII _ _) ?_; rw [eqD_ii]; with_reducible conv => whnf) | (refine And.intro (by first | assumption | exact Exists.intro _ (by assumption) | exact ⟨rfl, rfl, by decide, by decide⟩ | exact Nat.le_of_ble_eq_true rfl | exact rfl) ?_; with_reducible conv => whnf) | (rw [isLst_at (by assumption)]; with_reducible conv => whnf) | (refine ifT rfl ?_; with_reducible conv => whnf) | (refine ifF rfl ?_; with_reducible conv => whnf) | (refine it_at (by assumption) ?_; with_reducible conv => whnf)))
    have := k S' (Sub.refl _)
    rw [← hg, Nat.gcd_zero_right] at this
    exact this
@[reducible] def sp_frac : Spc := fun ds S Q => ∃ n d, ds = [.int n, .int d] ∧ d ≠ 0 ∧ d.natAbs < 2 ^ 1900 ∧ ∀ S', Sub S S' → Q (qD (Rat.divInt n d)) S'
theorem body_law_frac : Body 3 2 (w_law_frac sp_shared) sp_frac := by
  rintro ds S Q _ ⟨n, d, rfl, h0, hb, k⟩
  unfold w_law_frac
  (simp only [start, List.map_cons, List.map_nil, List.length_cons, List.length_nil, Nat.reduceAdd, Nat.reduceSub, List.replicate_succ, List.replicate_zero, List.cons_append, List.nil_append, Nat.sub_self, Nat.zero_add])
  ((with_reducible conv => whnf); repeat (first | (rw [natD_len]; with_reducible conv => whnf) | (rw [intD_len]; with_reducible conv => whnf) | (refine Exists.intro _ (And.intro (rfl : _ = some _) ?_); with_reducible conv => whnf) | (refine And.intro (okII _ _) ?_; rw [eqD_ii]; with_reducible conv => whnf) | (refine And.intro (by first | assumption | exact Exists.intro _ (by assumption) | exact ⟨rfl, rfl, by decide, by decide⟩ | exact Nat.le_of_ble_eq_true rfl | exact rfl) ?_; with_reducible conv => whnf) | (rw [isLst_at (by assumption)]; with_reducible conv => whnf) | (refine ifT rfl ?_; with_reducible conv => whnf) | (refine ifF rfl ?_; with_reducible conv => whnf) | (refine it_at (by assumption) ?_; with_reducible conv => whnf)))
  refine ⟨_, _, rfl, hb, fun S1 h1 => ?_⟩
  have hg : 0 < Nat.gcd n.natAbs d.natAbs := Nat.gcd_pos_of_pos_right _ (by omega)
  have hle : Nat.gcd n.natAbs d.natAbs ≤ d.natAbs := Nat.gcd_le_right _ (by omega)
  have hlt : Nat.gcd n.natAbs d.natAbs < 2 ^ 9000 := Nat.lt_of_le_of_lt hle (Nat.lt_of_lt_of_le hb (Nat.pow_le_pow_right (by decide) (by decide)))
  have e := ratio_eq (n := n) h0
  have k := k S1 h1
  unfold qD at k
  rw [← e.1, ← e.2] at k
  ((with_reducible conv => whnf); repeat (first | (rw [natD_len]; with_reducible conv => whnf) | (rw [intD_len]; with_reducible conv => whnf) | (refine Exists.intro _ (And.intro (rfl : _ = some _) ?_); with_reducible conv => whnf) | (refine And.intro (okII _ _) ?_; rw [eqD_ii]; with_reducible conv => whnf) | (refine And.intro (by first | assumption | exact Exists.intro _ (by assumption) | exact ⟨rfl, rfl, by decide, by decide⟩ | exact Nat.le_of_ble_eq_true rfl | exact rfl) ?_; with_reducible conv => whnf) | (rw [isLst_at (by assumption)]; with_reducible conv => whnf) | (refine ifT rfl ?_; with_reducible conv => whnf) | (refine ifF rfl ?_; with_reducible conv => whnf) | (refine it_at (by assumption) ?_; with_reducible conv => whnf)))
  refine ite_d (fun hc => ?_) fun hc => ?_
  · rw [if_pos hc] at k
    ((with_reducible conv => whnf); repeat (first | (rw [natD_len]; with_reducible conv => whnf) | (rw [intD_len]; with_reducible conv => whnf) | (refine Exists.intro _ (And.intro (rfl : _ = some _) ?_); with_reducible conv => whnf) | (refine And.intro (okII _ _) ?_; rw [eqD_ii]; with_reducible conv => whnf) | (refine And.intro (by first | assumption | exact Exists.intro _ (by assumption) | exact ⟨rfl, rfl, by decide, by decide⟩ | exact Nat.le_of_ble_eq_true rfl | exact rfl) ?_; with_reducible conv => whnf) | (rw [isLst_at (by assumption)]; with_reducible conv => whnf) | (refine ifT rfl ?_; with_reducible conv => whnf) | (refine ifF rfl ?_; with_reducible conv => whnf) | (refine it_at (by assumption) ?_; with_reducible conv => whnf)))
    refine ⟨⟨by omega, by omega⟩, ?_⟩
    ((with_reducible conv => whnf); repeat (first | (rw [natD_len]; with_reducible conv => whnf) | (rw [intD_len]; with_reducible conv => whnf) | (refine Exists.intro _ (And.intro (rfl : _ = some _) ?_); with_reducible conv => whnf) | (refine And.intro (okII _ _) ?_; rw [eqD_ii]; with_reducible conv => whnf) | (refine And.intro (by first | assumption | exact Exists.intro _ (by assumption) | exact ⟨rfl, rfl, by decide, by decide⟩ | exact Nat.le_of_ble_eq_true rfl | exact rfl) ?_; with_reducible conv => whnf) | (rw [isLst_at (by assumption)]; with_reducible conv => whnf) | (refine ifT rfl ?_; with_reducible conv => whnf) | (refine ifF rfl ?_; with_reducible conv => whnf) | (refine it_at (by assumption) ?_; with_reducible conv => whnf)))
    refine ⟨⟨by omega, by omega⟩, ?_⟩
    ((with_reducible conv => whnf); repeat (first | (rw [natD_len]; with_reducible conv => whnf) | (rw [intD_len]; with_reducible conv => whnf) | (refine Exists.intro _ (And.intro (rfl : _ = some _) ?_); with_reducible conv => whnf) | (refine And.intro (okII _ _) ?_; rw [eqD_ii]; with_reducible conv => whnf) | (refine And.intro (by first | assumption | exact Exists.intro _ (by assumption) | exact ⟨rfl, rfl, by decide, by decide⟩ | exact Nat.le_of_ble_eq_true rfl | exact rfl) ?_; with_reducible conv => whnf) | (rw [isLst_at (by assumption)]; with_reducible conv => whnf) | (refine ifT rfl ?_; with_reducible conv => whnf) | (refine ifF rfl ?_; with_reducible conv => whnf) | (refine it_at (by assumption) ?_; with_reducible conv => whnf)))
    exact k
  · rw [if_neg hc] at k
    ((with_reducible conv => whnf); repeat (first | (rw [natD_len]; with_reducible conv => whnf) | (rw [intD_len]; with_reducible conv => whnf) | (refine Exists.intro _ (And.intro (rfl : _ = some _) ?_); with_reducible conv => whnf) | (refine And.intro (okII _ _) ?_; rw [eqD_ii]; with_reducible conv => whnf) | (refine And.intro (by first | assumption | exact Exists.intro _ (by assumption) | exact ⟨rfl, rfl, by decide, by decide⟩ | exact Nat.le_of_ble_eq_true rfl | exact rfl) ?_; with_reducible conv => whnf) | (rw [isLst_at (by assumption)]; with_reducible conv => whnf) | (refine ifT rfl ?_; with_reducible conv => whnf) | (refine ifF rfl ?_; with_reducible conv => whnf) | (refine it_at (by assumption) ?_; with_reducible conv => whnf)))
    refine ⟨⟨by omega, by omega⟩, ?_⟩
    ((with_reducible conv => whnf); repeat (first | (rw [natD_len]; with_reducible conv => whnf) | (rw [intD_len]; with_reducible conv => whnf) | (refine Exists.intro _ (And.intro (rfl : _ = some _) ?_); with_reducible conv => whnf) | (refine And.intro (okII _ _) ?_; rw [eqD_ii]; with_reducible conv => whnf) | (refine And.intro (by first | assumption | exact Exists.intro _ (by assumption) | exact ⟨rfl, rfl, by decide, by decide⟩ | exact Nat.le_of_ble_eq_true rfl | exact rfl) ?_; with_reducible conv => whnf) | (rw [isLst_at (by assumption)]; with_reducible conv => whnf) | (refine ifT rfl ?_; with_reducible conv => whnf) | (refine ifF rfl ?_; with_reducible conv => whnf) | (refine it_at (by assumption) ?_; with_reducible conv => whnf)))
    refine ⟨⟨by omega, by omega⟩, ?_⟩
    ((with_reducible conv => whnf); repeat (first | (rw [natD_len]; with_reducible conv => whnf) | (rw [intD_len]; with_reducible conv => whnf) | (refine Exists.intro _ (And.intro (rfl : _ = some _) ?_); with_reducible conv => whnf) | (refine And.intro (okII _ _) ?_; rw [eqD_ii]; with_reducible conv => whnf) | (refine And.intro (by first | assumption | exact Exists.intro _ (by assumption) | exact ⟨rfl, rfl, by decide, by decide⟩ | exact Nat.le_of_ble_eq_true rfl | exact rfl) ?_; with_reducible conv => whnf) | (rw [isLst_at (by assumption)]; with_reducible conv => whnf) | (refine ifT rfl ?_; with_reducible conv => whnf) | (refine ifF rfl ?_; with_reducible conv => whnf) | (refine it_at (by assumption) ?_; with_reducible conv => whnf)))
    exact k
end K96
set_option linter.all false
set_option maxRecDepth 100000
set_option maxHeartbeats 4000000
namespace K96
open DL
@[reducible] def sp_wrong : Spc := fun ds S Q => ∃ n : Nat, ds = [.int n] ∧ n ≤ 500 ∧ ∀ S', Sub S S' → Q (.int (der n)) S'
theorem body_all_wrong : Body 4 1 w_all_wrong sp_wrong := by
  rintro ds S Q _ ⟨n, rfl, hn, k⟩
  unfold w_all_wrong
  (simp only [start, List.map_cons, List.map_nil, List.length_cons, List.length_nil, Nat.reduceAdd, Nat.reduceSub, List.replicate_succ, List.replicate_zero, List.cons_append, List.nil_append, Nat.sub_self, Nat.zero_add])
  ((with_reducible conv => whnf); repeat (first | (rw [natD_len]; with_reducible conv => whnf) | (rw [intD_len]; with_reducible conv => whnf) | (refine Exists.intro _ (And.intro (rfl : _ = some _) ?_); with_reducible conv => whnf) | (refine And.intro (okII _ _) ?_; rw [eqD_ii]; with_reducible conv => whnf) | (refine And.intro (by first | assumption | exact Exists.intro _ (by assumption) | exact ⟨rfl, rfl, by decide, by decide⟩ | exact Nat.le_of_ble_eq_true rfl | exact rfl) ?_; with_reducible conv => whnf) | (rw [isLst_at (by assumption)]; with_reducible conv => whnf) | (refine ifT rfl ?_; with_reducible conv => whnf) | (refine ifF rfl ?_; with_reducible conv => whnf) | (refine it_at (by assumption) ?_; with_reducible conv => whnf)))
  refine ite_d (fun hc => ?_) fun hc => ?_
  · have : n = 0 := by omega
    subst this
    exact k S (Sub.refl _)
  · ((with_reducible conv => whnf); repeat (first | (rw [natD_len]; with_reducible conv => whnf) | (rw [intD_len]; with_reducible conv => whnf) | (refine Exists.intro _ (And.intro (rfl : _ = some _) ?_); with_reducible conv => whnf) | (refine And.intro (okII _ _) ?_; rw [eqD_ii]; with_reducible conv => whnf) | (refine And.intro (by first | assumption | exact Exists.intro _ (by assumption) | exact ⟨rfl, rfl, by decide, by decide⟩ | exact Nat.le_of_ble_eq_true rfl | exact rfl) ?_; with_reducible conv => whnf) | (rw [isLst_at (by assumption)]; with_reducible conv => whnf) | (refine ifT rfl ?_; with_reducible conv => whnf) | (refine ifF rfl ?_; with_reducible conv => whnf) | (refine it_at (by assumption) ?_; with_reducible conv => whnf)))
    refine ⟨⟨by decide, by decide⟩, ⟨by omega, by omega⟩, ?_⟩
    refine Loop_mk (fun i ρ S' => ∃ o3, ρ = [some (.int n), some (.int (der i)), some (.int (der (i + 1))), o3] ∧ S' = S) ⟨none, rfl, rfl⟩ (by intros; trivial) ?_ ?_
    · rintro i d ρ' S' hi ⟨o3, rfl, rfl⟩
      obtain ⟨hi1, rfl⟩ := rangeD_get hi
      ((with_reducible conv => whnf); repeat (first | (rw [natD_len]; with_reducible conv => whnf) | (rw [intD_len]; with_reducible conv => whnf) | (refine Exists.intro _ (And.intro (rfl : _ = some _) ?_); with_reducible conv => whnf) | (refine And.intro (okII _ _) ?_; rw [eqD_ii]; with_reducible conv => whnf) | (refine And.intro (by first | assumption | exact Exists.intro _ (by assumption) | exact ⟨rfl, rfl, by decide, by decide⟩ | exact Nat.le_of_ble_eq_true rfl | exact rfl) ?_; with_reducible conv => whnf) | (rw [isLst_at (by assumption)]; with_reducible conv => whnf) | (refine ifT rfl ?_; with_reducible conv => whnf) | (refine ifF rfl ?_; with_reducible conv => whnf) | (refine it_at (by assumption) ?_; with_reducible conv => whnf)))
      refine ⟨smallMul' (by omega), ?_⟩
      ((with_reducible conv => whnf); repeat (first | (rw [natD_len]; with_reducible conv => whnf) | (rw [intD_len]; with_reducible conv => whnf) | (refine Exists.intro _ (And.intro (rfl : _ = some _) ?_); with_reducible conv => whnf) | (refine And.intro (okII _ _) ?_; rw [eqD_ii]; with_reducible conv => whnf) | (refine And.intro (by first | assumption | exact Exists.intro _ (by assumption) | exact ⟨rfl, rfl, by decide, by decide⟩ | exact Nat.le_of_ble_eq_true rfl | exact rfl) ?_; with_reducible conv => whnf) | (rw [isLst_at (by assumption)]; with_reducible conv => whnf) | (refine ifT rfl ?_; with_reducible conv => whnf) | (refine ifF rfl ?_; with_reducible conv => whnf) | (refine it_at (by assumption) ?_; with_reducible conv => whnf)))
      rw [show (2 + (i : Int) - 1) = (i : Int) + 1 by omega]
      exact ⟨_, rfl, rfl⟩
    · rintro ρ' S' ⟨o3, rfl, rfl⟩
      rw [rangeD_len, show ((n : Int) + 1 - 2).toNat + 1 = n by omega]
      ((with_reducible conv => whnf); repeat (first | (rw [natD_len]; with_reducible conv => whnf) | (rw [intD_len]; with_reducible conv => whnf) | (refine Exists.intro _ (And.intro (rfl : _ = some _) ?_); with_reducible conv => whnf) | (refine And.intro (okII _ _) ?_; rw [eqD_ii]; with_reducible conv => whnf) | (refine And.intro (by first | assumption | exact Exists.intro _ (by assumption) | exact ⟨rfl, rfl, by decide, by decide⟩ | exact Nat.le_of_ble_eq_true rfl | exact rfl) ?_; with_reducible conv => whnf) | (rw [isLst_at (by assumption)]; with_reducible conv => whnf) | (refine ifT rfl ?_; with_reducible conv => whnf) | (refine ifF rfl ?_; with_reducible conv => whnf) | (refine it_at (by assumption) ?_; with_reducible conv => whnf)))
      exact k S' (Sub.refl _)
@[reducible] def sp_orders : Spc := fun ds S Q => ∃ n : Nat, ds = [.int n] ∧ n ≤ 500 ∧ ∀ S', Sub S S' → Q (.int (fct n : Nat)) S'
theorem body_orders_of : Body 3 1 w_orders_of sp_orders := by
  rintro ds S Q _ ⟨n, rfl, hn, k⟩
  unfold w_orders_of
  (simp only [start, List.map_cons, List.map_nil, List.length_cons, List.length_nil, Nat.reduceAdd, Nat.reduceSub, List.replicate_succ, List.replicate_zero, List.cons_append, List.nil_append, Nat.sub_self, Nat.zero_add])
  ((with_reducible conv => whnf); repeat (first | (rw [natD_len]; with_reducible conv => whnf) | (rw [intD_len]; with_reducible conv => whnf) | (refine Exists.intro _ (And.intro (rfl : _ = some _) ?_); with_reducible conv => whnf) | (refine And.intro (okII _ _) ?_; rw [eqD_ii]; with_reducible conv => whnf) | (refine And.intro (by first | assumption | exact Exists.intro _ (by assumption) | exact ⟨rfl, rfl, by decide, by decide⟩ | exact Nat.le_of_ble_eq_true rfl | exact rfl) ?_; with_reducible conv => whnf) | (rw [isLst_at (by assumption)]; with_reducible conv => whnf) | (refine ifT rfl ?_; with_reducible conv => whnf) | (refine ifF rfl ?_; with_reducible conv => whnf) | (refine it_at (by assumption) ?_; with_reducible conv => whnf)))
  refine ⟨⟨by omega, by omega⟩, ?_⟩
  refine Loop_mk (fun i ρ S' => ∃ o2, ρ = [some (.int n), some (.int (fct i : Nat)), o2] ∧ S' = S) ⟨none, rfl, rfl⟩ (by intros; trivial) ?_ ?_
  · rintro i d ρ' S' hi ⟨o3, rfl, rfl⟩
    obtain ⟨hi1, rfl⟩ := rangeD_get hi
    ((with_reducible conv => whnf); repeat (first | (rw [natD_len]; with_reducible conv => whnf) | (rw [intD_len]; with_reducible conv => whnf) | (refine Exists.intro _ (And.intro (rfl : _ = some _) ?_); with_reducible conv => whnf) | (refine And.intro (okII _ _) ?_; rw [eqD_ii]; with_reducible conv => whnf) | (refine And.intro (by first | assumption | exact Exists.intro _ (by assumption) | exact ⟨rfl, rfl, by decide, by decide⟩ | exact Nat.le_of_ble_eq_true rfl | exact rfl) ?_; with_reducible conv => whnf) | (rw [isLst_at (by assumption)]; with_reducible conv => whnf) | (refine ifT rfl ?_; with_reducible conv => whnf) | (refine ifF rfl ?_; with_reducible conv => whnf) | (refine it_at (by assumption) ?_; with_reducible conv => whnf)))
    refine ⟨smallMul (by omega), ?_⟩
    ((with_reducible conv => whnf); repeat (first | (rw [natD_len]; with_reducible conv => whnf) | (rw [intD_len]; with_reducible conv => whnf) | (refine Exists.intro _ (And.intro (rfl : _ = some _) ?_); with_reducible conv => whnf) | (refine And.intro (okII _ _) ?_; rw [eqD_ii]; with_reducible conv => whnf) | (refine And.intro (by first | assumption | exact Exists.intro _ (by assumption) | exact ⟨rfl, rfl, by decide, by decide⟩ | exact Nat.le_of_ble_eq_true rfl | exact rfl) ?_; with_reducible conv => whnf) | (rw [isLst_at (by assumption)]; with_reducible conv => whnf) | (refine ifT rfl ?_; with_reducible conv => whnf) | (refine ifF rfl ?_; with_reducible conv => whnf) | (refine it_at (by assumption) ?_; with_reducible conv => whnf)))
    refine ⟨some (.int (0 + i)), ?_, rfl⟩
    rw [show ((fct i : Nat) : Int) * (0 + i + 1) = (fct (i + 1) : Nat) by show _ = ((fct i * (i + 1) : Nat) : Int); rw [Int.natCast_mul]; congr 1; omega]
  · rintro ρ' S' ⟨o3, rfl, rfl⟩
    rw [rangeD_len, show ((n : Int) - 0).toNat = n by omega]
    ((with_reducible conv => whnf); repeat (first | (rw [natD_len]; with_reducible conv => whnf) | (rw [intD_len]; with_reducible conv => whnf) | (refine Exists.intro _ (And.intro (rfl : _ = some _) ?_); with_reducible conv => whnf) | (refine And.intro (okII _ _) ?_; rw [eqD_ii]; with_reducible conv => whnf) | (refine And.intro (by first | assumption | exact Exists.intro _ (by assumption) | exact ⟨rfl, rfl, by decide, by decide⟩ | exact Nat.le_of_ble_eq_true rfl | exact rfl) ?_; with_reducible conv => whnf) | (rw [isLst_at (by assumption)]; with_reducible conv => whnf) | (refine ifT rfl ?_; with_reducible conv => whnf) | (refine ifF rfl ?_; with_reducible conv => whnf) | (refine it_at (by assumption) ?_; with_reducible conv => whnf)))
    exact k S' (Sub.refl _)
theorem body_law_orders : Body 3 1 w_law_orders sp_orders := by
  rintro ds S Q _ ⟨n, rfl, hn, k⟩
  unfold w_law_orders
  (simp only [start, List.map_cons, List.map_nil, List.length_cons, List.length_nil, Nat.reduceAdd, Nat.reduceSub, List.replicate_succ, List.replicate_zero, List.cons_append, List.nil_append, Nat.sub_self, Nat.zero_add])
  ((with_reducible conv => whnf); repeat (first | (rw [natD_len]; with_reducible conv => whnf) | (rw [intD_len]; with_reducible conv => whnf) | (refine Exists.intro _ (And.intro (rfl : _ = some _) ?_); with_reducible conv => whnf) | (refine And.intro (okII _ _) ?_; rw [eqD_ii]; with_reducible conv => whnf) | (refine And.intro (by first | assumption | exact Exists.intro _ (by assumption) | exact ⟨rfl, rfl, by decide, by decide⟩ | exact Nat.le_of_ble_eq_true rfl | exact rfl) ?_; with_reducible conv => whnf) | (rw [isLst_at (by assumption)]; with_reducible conv => whnf) | (refine ifT rfl ?_; with_reducible conv => whnf) | (refine ifF rfl ?_; with_reducible conv => whnf) | (refine it_at (by assumption) ?_; with_reducible conv => whnf)))
  refine ⟨⟨by omega, by omega⟩, ?_⟩
  refine Loop_mk (fun i ρ S' => ∃ o2, ρ = [some (.int n), some (.int (fct i : Nat)), o2] ∧ S' = S) ⟨none, rfl, rfl⟩ (by intros; trivial) ?_ ?_
  · rintro i d ρ' S' hi ⟨o3, rfl, rfl⟩
    obtain ⟨hi1, rfl⟩ := rangeD_get hi
    ((with_reducible conv => whnf); repeat (first | (rw [natD_len]; with_reducible conv => whnf) | (rw [intD_len]; with_reducible conv => whnf) | (refine Exists.intro _ (And.intro (rfl : _ = some _) ?_); with_reducible conv => whnf) | (refine And.intro (okII _ _) ?_; rw [eqD_ii]; with_reducible conv => whnf) | (refine And.intro (by first | assumption | exact Exists.intro _ (by assumption) | exact ⟨rfl, rfl, by decide, by decide⟩ | exact Nat.le_of_ble_eq_true rfl | exact rfl) ?_; with_reducible conv => whnf) | (rw [isLst_at (by assumption)]; with_reducible conv => whnf) | (refine ifT rfl ?_; with_reducible conv => whnf) | (refine ifF rfl ?_; with_reducible conv => whnf) | (refine it_at (by assumption) ?_; with_reducible conv => whnf)))
    refine ⟨smallMul (by omega), ?_⟩
    ((with_reducible conv => whnf); repeat (first | (rw [natD_len]; with_reducible conv => whnf) | (rw [intD_len]; with_reducible conv => whnf) | (refine Exists.intro _ (And.intro (rfl : _ = some _) ?_); with_reducible conv => whnf) | (refine And.intro (okII _ _) ?_; rw [eqD_ii]; with_reducible conv => whnf) | (refine And.intro (by first | assumption | exact Exists.intro _ (by assumption) | exact ⟨rfl, rfl, by decide, by decide⟩ | exact Nat.le_of_ble_eq_true rfl | exact rfl) ?_; with_reducible conv => whnf) | (rw [isLst_at (by assumption)]; with_reducible conv => whnf) | (refine ifT rfl ?_; with_reducible conv => whnf) | (refine ifF rfl ?_; with_reducible conv => whnf) | (refine it_at (by assumption) ?_; with_reducible conv => whnf)))
    refine ⟨some (.int (0 + i)), ?_, rfl⟩
    rw [show ((fct i : Nat) : Int) * (0 + i + 1) = (fct (i + 1) : Nat) by show _ = ((fct i * (i + 1) : Nat) : Int); rw [Int.natCast_mul]; congr 1; omega]
  · rintro ρ' S' ⟨o3, rfl, rfl⟩
    rw [rangeD_len, show ((n : Int) - 0).toNat = n by omega]
    ((with_reducible conv => whnf); repeat (first | (rw [natD_len]; with_reducible conv => whnf) | (rw [intD_len]; with_reducible conv => whnf) | (refine Exists.intro _ (And.intro (rfl : _ = some _) ?_); with_reducible conv => whnf) | (refine And.intro (okII _ _) ?_; rw [eqD_ii]; with_reducible conv => whnf) | (refine And.intro (by first | assumption | exact Exists.intro _ (by assumption) | exact ⟨rfl, rfl, by decide, by decide⟩ | exact Nat.le_of_ble_eq_true rfl | exact rfl) ?_; with_reducible conv => whnf) | (rw [isLst_at (by assumption)]; with_reducible conv => whnf) | (refine ifT rfl ?_; with_reducible conv => whnf) | (refine ifF rfl ?_; with_reducible conv => whnf) | (refine it_at (by assumption) ?_; with_reducible conv => whnf)))
    exact k S' (Sub.refl _)
@[reducible] def sp_ways : Spc := fun ds S Q => ∃ n k : Int, ds = [.int n, .int k] ∧ n ≤ 500 ∧ -10 ≤ k ∧ k ≤ 510 ∧ ∀ S', Sub S S' → Q (.int (waysZ n k)) S'
theorem step_ways {n j : Nat} (h : j ≤ n) : (((chs n j : Nat) : Int) * ((n : Int) - (0 + (j : Int)))).fdiv (0 + (j : Int) + 1) = ((chs n (j + 1) : Nat) : Int) := by
  rw [show (n : Int) - (0 + (j : Int)) = ((n - j : Nat) : Int) by omega, show (0 + (j : Int) + 1) = ((j + 1 : Nat) : Int) by omega, ← Int.natCast_mul, Int.fdiv_eq_ediv_of_nonneg _ (by omega), ← Int.natCast_ediv, chs_div h]
theorem waysZ_no {n k : Int} (h : ¬ (0 ≤ k ∧ k ≤ n)) : waysZ n k = 0 := if_neg h
theorem waysZ_yes {n k : Nat} (h : k ≤ n) : waysZ n k = (chs n k : Nat) := by
  unfold waysZ
  rw [if_pos (by omega), Int.toNat_natCast, Int.toNat_natCast]
theorem body_ways : Body 4 2 w_ways sp_ways := by
  rintro ds S Q _ ⟨n, kk, rfl, hn, hk0, hk1, k⟩
  unfold w_ways
  (simp only [start, List.map_cons, List.map_nil, List.length_cons, List.length_nil, Nat.reduceAdd, Nat.reduceSub, List.replicate_succ, List.replicate_zero, List.cons_append, List.nil_append, Nat.sub_self, Nat.zero_add])
  have fin := k S (Sub.refl _)
  ((with_reducible conv => whnf); repeat (first | (rw [natD_len]; with_reducible conv => whnf) | (rw [intD_len]; with_reducible conv => whnf) | (refine Exists.intro _ (And.intro (rfl : _ = some _) ?_); with_reducible conv => whnf) | (refine And.intro (okII _ _) ?_; rw [eqD_ii]; with_reducible conv => whnf) | (refine And.intro (by first | assumption | exact Exists.intro _ (by assumption) | exact ⟨rfl, rfl, by decide, by decide⟩ | exact Nat.le_of_ble_eq_true rfl | exact rfl) ?_; with_reducible conv => whnf) | (rw [isLst_at (by assumption)]; with_reducible conv => whnf) | (refine ifT rfl ?_; with_reducible conv => whnf) | (refine ifF rfl ?_; with_reducible conv => whnf) | (refine it_at (by assumption) ?_; with_reducible conv => whnf)))
  refine ite_d (fun hc => ?_) fun hc => ?_
  · ((with_reducible conv => whnf); repeat (first | (rw [natD_len]; with_reducible conv => whnf) | (rw [intD_len]; with_reducible conv => whnf) | (refine Exists.intro _ (And.intro (rfl : _ = some _) ?_); with_reducible conv => whnf) | (refine And.intro (okII _ _) ?_; rw [eqD_ii]; with_reducible conv => whnf) | (refine And.intro (by first | assumption | exact Exists.intro _ (by assumption) | exact ⟨rfl, rfl, by decide, by decide⟩ | exact Nat.le_of_ble_eq_true rfl | exact rfl) ?_; with_reducible conv => whnf) | (rw [isLst_at (by assumption)]; with_reducible conv => whnf) | (refine ifT rfl ?_; with_reducible conv => whnf) | (refine ifF rfl ?_; with_reducible conv => whnf) | (refine it_at (by assumption) ?_; with_reducible conv => whnf)))
    by_cases hc2 : kk ≤ n
    · refine ifF (by simp [hc2]) ?_
      obtain ⟨kn, rfl⟩ : ∃ m : Nat, kk = m := ⟨kk.toNat, by omega⟩
      obtain ⟨nn, rfl⟩ : ∃ m : Nat, n = m := ⟨n.toNat, by omega⟩
      have hkn : kn ≤ nn := by omega
      rw [waysZ_yes hkn] at fin
      ((with_reducible conv => whnf); repeat (first | (rw [natD_len]; with_reducible conv => whnf) | (rw [intD_len]; with_reducible conv => whnf) | (refine Exists.intro _ (And.intro (rfl : _ = some _) ?_); with_reducible conv => whnf) | (refine And.intro (okII _ _) ?_; rw [eqD_ii]; with_reducible conv => whnf) | (refine And.intro (by first | assumption | exact Exists.intro _ (by assumption) | exact ⟨rfl, rfl, by decide, by decide⟩ | exact Nat.le_of_ble_eq_true rfl | exact rfl) ?_; with_reducible conv => whnf) | (rw [isLst_at (by assumption)]; with_reducible conv => whnf) | (refine ifT rfl ?_; with_reducible conv => whnf) | (refine ifF rfl ?_; with_reducible conv => whnf) | (refine it_at (by assumption) ?_; with_reducible conv => whnf)))
      refine ⟨⟨by omega, by omega⟩, ?_⟩
      refine Loop_mk (fun i ρ S' => ∃ o3, ρ = [some (.int nn), some (.int kn), some (.int (chs nn i : Nat)), o3] ∧ S' = S) ⟨none, by rw [chs_0]; rfl, rfl⟩ (by intros; trivial) ?_ ?_
      · rintro i d ρ' S' hi ⟨o3, rfl, rfl⟩
        obtain ⟨hi1, rfl⟩ := rangeD_get hi
        ((with_reducible conv => whnf); repeat (first | (rw [natD_len]; with_reducible conv => whnf) | (rw [intD_len]; with_reducible conv => whnf) | (refine Exists.intro _ (And.intro (rfl : _ = some _) ?_); with_reducible conv => whnf) | (refine And.intro (okII _ _) ?_; rw [eqD_ii]; with_reducible conv => whnf) | (refine And.intro (by first | assumption | exact Exists.intro _ (by assumption) | exact ⟨rfl, rfl, by decide, by decide⟩ | exact Nat.le_of_ble_eq_true rfl | exact rfl) ?_; with_reducible conv => whnf) | (rw [isLst_at (by assumption)]; with_reducible conv => whnf) | (refine ifT rfl ?_; with_reducible conv => whnf) | (refine ifF rfl ?_; with_reducible conv => whnf) | (refine it_at (by assumption) ?_; with_reducible conv => whnf)))
        refine ⟨smallMul (by omega), ?_⟩
        ((with_reducible conv => whnf); repeat (first | (rw [natD_len]; with_reducible conv => whnf) | (rw [intD_len]; with_reducible conv => whnf) | (refine Exists.intro _ (And.intro (rfl : _ = some _) ?_); with_reducible conv => whnf) | (refine And.intro (okII _ _) ?_; rw [eqD_ii]; with_reducible conv => whnf) | (refine And.intro (by first | assumption | exact Exists.intro _ (by assumption) | exact ⟨rfl, rfl, by decide, by decide⟩ | exact Nat.le_of_ble_eq_true rfl | exact rfl) ?_; with_reducible conv => whnf) | (rw [isLst_at (by assumption)]; with_reducible conv => whnf) | (refine ifT rfl ?_; with_reducible conv => whnf) | (refine ifF rfl ?_; with_reducible conv => whnf) | (refine it_at (by assumption) ?_; with_reducible conv => whnf)))
        refine ⟨⟨by omega, Nat.lt_of_lt_of_le (show (0 + (i : Int) + 1).natAbs < 2 ^ 10 by omega) (Nat.pow_le_pow_right (by decide) (by decide))⟩, ?_⟩
        ((with_reducible conv => whnf); repeat (first | (rw [natD_len]; with_reducible conv => whnf) | (rw [intD_len]; with_reducible conv => whnf) | (refine Exists.intro _ (And.intro (rfl : _ = some _) ?_); with_reducible conv => whnf) | (refine And.intro (okII _ _) ?_; rw [eqD_ii]; with_reducible conv => whnf) | (refine And.intro (by first | assumption | exact Exists.intro _ (by assumption) | exact ⟨rfl, rfl, by decide, by decide⟩ | exact Nat.le_of_ble_eq_true rfl | exact rfl) ?_; with_reducible conv => whnf) | (rw [isLst_at (by assumption)]; with_reducible conv => whnf) | (refine ifT rfl ?_; with_reducible conv => whnf) | (refine ifF rfl ?_; with_reducible conv => whnf) | (refine it_at (by assumption) ?_; with_reducible conv => whnf)))
        rw [step_ways (by omega)]
        exact ⟨_, rfl, rfl⟩
      · rintro ρ' S' ⟨o3, rfl, rfl⟩
        rw [rangeD_len]
        ((with_reducible conv => whnf); repeat (first | (rw [natD_len]; with_reducible conv => whnf) | (rw [intD_len]; with_reducible conv => whnf) | (refine Exists.intro _ (And.intro (rfl : _ = some _) ?_); with_reducible conv => whnf) | (refine And.intro (okII _ _) ?_; rw [eqD_ii]; with_reducible conv => whnf) | (refine And.intro (by first | assumption | exact Exists.intro _ (by assumption) | exact ⟨rfl, rfl, by decide, by decide⟩ | exact Nat.le_of_ble_eq_true rfl | exact rfl) ?_; with_reducible conv => whnf) | (rw [isLst_at (by assumption)]; with_reducible conv => whnf) | (refine ifT rfl ?_; with_reducible conv => whnf) | (refine ifF rfl ?_; with_reducible conv => whnf) | (refine it_at (by assumption) ?_; with_reducible conv => whnf)))
        have e : chs nn ((min (kn : Int) ((nn : Int) - kn)) - 0).toNat = chs nn kn := by
          rcases Nat.le_total kn (nn - kn) with h | h
          · rw [show ((min (kn : Int) ((nn : Int) - kn)) - 0).toNat = kn by omega]
          · rw [show ((min (kn : Int) ((nn : Int) - kn)) - 0).toNat = nn - kn by omega, ← chs_sym hkn]
        rw [e]
        exact fin
    · refine ifT (by simp [hc2]) ?_
      rw [waysZ_no (by omega)] at fin
      exact fin
  · rw [waysZ_no (by omega)] at fin
    ((with_reducible conv => whnf); repeat (first | (rw [natD_len]; with_reducible conv => whnf) | (rw [intD_len]; with_reducible conv => whnf) | (refine Exists.intro _ (And.intro (rfl : _ = some _) ?_); with_reducible conv => whnf) | (refine And.intro (okII _ _) ?_; rw [eqD_ii]; with_reducible conv => whnf) | (refine And.intro (by first | assumption | exact Exists.intro _ (by assumption) | exact ⟨rfl, rfl, by decide, by decide⟩ | exact Nat.le_of_ble_eq_true rfl | exact rfl) ?_; with_reducible conv => whnf) | (rw [isLst_at (by assumption)]; with_reducible conv => whnf) | (refine ifT rfl ?_; with_reducible conv => whnf) | (refine ifF rfl ?_; with_reducible conv => whnf) | (refine it_at (by assumption) ?_; with_reducible conv => whnf)))
    exact fin
theorem body_law_ways : Body 4 2 w_law_ways sp_ways := by
  rintro ds S Q _ ⟨n, kk, rfl, hn, hk0, hk1, k⟩
  unfold w_law_ways
  (simp only [start, List.map_cons, List.map_nil, List.length_cons, List.length_nil, Nat.reduceAdd, Nat.reduceSub, List.replicate_succ, List.replicate_zero, List.cons_append, List.nil_append, Nat.sub_self, Nat.zero_add])
  have fin := k S (Sub.refl _)
  ((with_reducible conv => whnf); repeat (first | (rw [natD_len]; with_reducible conv => whnf) | (rw [intD_len]; with_reducible conv => whnf) | (refine Exists.intro _ (And.intro (rfl : _ = some _) ?_); with_reducible conv => whnf) | (refine And.intro (okII _ _) ?_; rw [eqD_ii]; with_reducible conv => whnf) | (refine And.intro (by first | assumption | exact Exists.intro _ (by assumption) | exact ⟨rfl, rfl, by decide, by decide⟩ | exact Nat.le_of_ble_eq_true rfl | exact rfl) ?_; with_reducible conv => whnf) | (rw [isLst_at (by assumption)]; with_reducible conv => whnf) | (refine ifT rfl ?_; with_reducible conv => whnf) | (refine ifF rfl ?_; with_reducible conv => whnf) | (refine it_at (by assumption) ?_; with_reducible conv => whnf)))
  refine ite_d (fun hc => ?_) fun hc => ?_
  · rw [waysZ_no (by omega)] at fin
    ((with_reducible conv => whnf); repeat (first | (rw [natD_len]; with_reducible conv => whnf) | (rw [intD_len]; with_reducible conv => whnf) | (refine Exists.intro _ (And.intro (rfl : _ = some _) ?_); with_reducible conv => whnf) | (refine And.intro (okII _ _) ?_; rw [eqD_ii]; with_reducible conv => whnf) | (refine And.intro (by first | assumption | exact Exists.intro _ (by assumption) | exact ⟨rfl, rfl, by decide, by decide⟩ | exact Nat.le_of_ble_eq_true rfl | exact rfl) ?_; with_reducible conv => whnf) | (rw [isLst_at (by assumption)]; with_reducible conv => whnf) | (refine ifT rfl ?_; with_reducible conv => whnf) | (refine ifF rfl ?_; with_reducible conv => whnf) | (refine it_at (by assumption) ?_; with_reducible conv => whnf)))
    exact fin
  · ((with_reducible conv => whnf); repeat (first | (rw [natD_len]; with_reducible conv => whnf) | (rw [intD_len]; with_reducible conv => whnf) | (refine Exists.intro _ (And.intro (rfl : _ = some _) ?_); with_reducible conv => whnf) | (refine And.intro (okII _ _) ?_; rw [eqD_ii]; with_reducible conv => whnf) | (refine And.intro (by first | assumption | exact Exists.intro _ (by assumption) | exact ⟨rfl, rfl, by decide, by decide⟩ | exact Nat.le_of_ble_eq_true rfl | exact rfl) ?_; with_reducible conv => whnf) | (rw [isLst_at (by assumption)]; with_reducible conv => whnf) | (refine ifT rfl ?_; with_reducible conv => whnf) | (refine ifF rfl ?_; with_reducible conv => whnf) | (refine it_at (by assumption) ?_; with_reducible conv => whnf)))
    refine ite_d (fun hc2 => ?_) fun hc2 => ?_
    · rw [waysZ_no (by omega)] at fin
      exact fin
    · obtain ⟨kn, rfl⟩ : ∃ m : Nat, kk = m := ⟨kk.toNat, by omega⟩
      obtain ⟨nn, rfl⟩ : ∃ m : Nat, n = m := ⟨n.toNat, by omega⟩
      have hkn : kn ≤ nn := by omega
      rw [waysZ_yes hkn] at fin
      ((with_reducible conv => whnf); repeat (first | (rw [natD_len]; with_reducible conv => whnf) | (rw [intD_len]; with_reducible conv => whnf) | (refine Exists.intro _ (And.intro (rfl : _ = some _) ?_); with_reducible conv => whnf) | (refine And.intro (okII _ _) ?_; rw [eqD_ii]; with_reducible conv => whnf) | (refine And.intro (by first | assumption | exact Exists.intro _ (by assumption) | exact ⟨rfl, rfl, by decide, by decide⟩ | exact Nat.le_of_ble_eq_true rfl | exact rfl) ?_; with_reducible conv => whnf) | (rw [isLst_at (by assumption)]; with_reducible conv => whnf) | (refine ifT rfl ?_; with_reducible conv => whnf) | (refine ifF rfl ?_; with_reducible conv => whnf) | (refine it_at (by assumption) ?_; with_reducible conv => whnf)))
      refine ⟨⟨by omega, by omega⟩, ?_⟩
      refine Loop_mk (fun i ρ S' => ∃ o3, ρ = [some (.int nn), some (.int kn), some (.int (chs nn i : Nat)), o3] ∧ S' = S) ⟨none, by rw [chs_0]; rfl, rfl⟩ (by intros; trivial) ?_ ?_
      · rintro i d ρ' S' hi ⟨o3, rfl, rfl⟩
        obtain ⟨hi1, rfl⟩ := rangeD_get hi
        ((with_reducible conv => whnf); repeat (first | (rw [natD_len]; with_reducible conv => whnf) | (rw [intD_len]; with_reducible conv => whnf) | (refine Exists.intro _ (And.intro (rfl : _ = some _) ?_); with_reducible conv => whnf) | (refine And.intro (okII _ _) ?_; rw [eqD_ii]; with_reducible conv => whnf) | (refine And.intro (by first | assumption | exact Exists.intro _ (by assumption) | exact ⟨rfl, rfl, by decide, by decide⟩ | exact Nat.le_of_ble_eq_true rfl | exact rfl) ?_; with_reducible conv => whnf) | (rw [isLst_at (by assumption)]; with_reducible conv => whnf) | (refine ifT rfl ?_; with_reducible conv => whnf) | (refine ifF rfl ?_; with_reducible conv => whnf) | (refine it_at (by assumption) ?_; with_reducible conv => whnf)))
        refine ⟨smallMul (by omega), ?_⟩
        ((with_reducible conv => whnf); repeat (first | (rw [natD_len]; with_reducible conv => whnf) | (rw [intD_len]; with_reducible conv => whnf) | (refine Exists.intro _ (And.intro (rfl : _ = some _) ?_); with_reducible conv => whnf) | (refine And.intro (okII _ _) ?_; rw [eqD_ii]; with_reducible conv => whnf) | (refine And.intro (by first | assumption | exact Exists.intro _ (by assumption) | exact ⟨rfl, rfl, by decide, by decide⟩ | exact Nat.le_of_ble_eq_true rfl | exact rfl) ?_; with_reducible conv => whnf) | (rw [isLst_at (by assumption)]; with_reducible conv => whnf) | (refine ifT rfl ?_; with_reducible conv => whnf) | (refine ifF rfl ?_; with_reducible conv => whnf) | (refine it_at (by assumption) ?_; with_reducible conv => whnf)))
        refine ⟨⟨by omega, Nat.lt_of_lt_of_le (show (0 + (i : Int) + 1).natAbs < 2 ^ 10 by omega) (Nat.pow_le_pow_right (by decide) (by decide))⟩, ?_⟩
        ((with_reducible conv => whnf); repeat (first | (rw [natD_len]; with_reducible conv => whnf) | (rw [intD_len]; with_reducible conv => whnf) | (refine Exists.intro _ (And.intro (rfl : _ = some _) ?_); with_reducible conv => whnf) | (refine And.intro (okII _ _) ?_; rw [eqD_ii]; with_reducible conv => whnf) | (refine And.intro (by first | assumption | exact Exists.intro _ (by assumption) | exact ⟨rfl, rfl, by decide, by decide⟩ | exact Nat.le_of_ble_eq_true rfl | exact rfl) ?_; with_reducible conv => whnf) | (rw [isLst_at (by assumption)]; with_reducible conv => whnf) | (refine ifT rfl ?_; with_reducible conv => whnf) | (refine ifF rfl ?_; with_reducible conv => whnf) | (refine it_at (by assumption) ?_; with_reducible conv => whnf)))
        rw [step_ways (by omega)]
        exact ⟨_, rfl, rfl⟩
      · rintro ρ' S' ⟨o3, rfl, rfl⟩
        rw [rangeD_len, show ((kn : Int) - 0).toNat = kn by omega]
        ((with_reducible conv => whnf); repeat (first | (rw [natD_len]; with_reducible conv => whnf) | (rw [intD_len]; with_reducible conv => whnf) | (refine Exists.intro _ (And.intro (rfl : _ = some _) ?_); with_reducible conv => whnf) | (refine And.intro (okII _ _) ?_; rw [eqD_ii]; with_reducible conv => whnf) | (refine And.intro (by first | assumption | exact Exists.intro _ (by assumption) | exact ⟨rfl, rfl, by decide, by decide⟩ | exact Nat.le_of_ble_eq_true rfl | exact rfl) ?_; with_reducible conv => whnf) | (rw [isLst_at (by assumption)]; with_reducible conv => whnf) | (refine ifT rfl ?_; with_reducible conv => whnf) | (refine ifF rfl ?_; with_reducible conv => whnf) | (refine it_at (by assumption) ?_; with_reducible conv => whnf)))
        exact fin
def justZ (n k : Int) : Int := if 0 ≤ k ∧ k ≤ n then waysZ n k * der (n - k).toNat else 0
@[reducible] def sp_just : Spc := fun ds S Q => ∃ n k : Int, ds = [.int n, .int k] ∧ n ≤ 60 ∧ ∀ S', Sub S S' → Q (.int (justZ n k)) S'
theorem chs_le : ∀ n k, chs n k ≤ 2 ^ n
  | _, 0 => by rw [chs_0]; exact Nat.one_le_two_pow
  | 0, k + 1 => by show 0 ≤ _; omega
  | n + 1, k + 1 => by
    have a := chs_le n k
    have b := chs_le n (k + 1)
    show chs n k + chs n (k + 1) ≤ _
    rw [Nat.pow_succ]
    omega
theorem body_just_right : Body 2 2 (w_just_right sp_ways sp_wrong) sp_just := by
  rintro ds S Q _ ⟨n, kk, rfl, hn, k⟩
  unfold w_just_right
  (simp only [start, List.map_cons, List.map_nil, List.length_cons, List.length_nil, Nat.reduceAdd, Nat.reduceSub, List.replicate_succ, List.replicate_zero, List.cons_append, List.nil_append, Nat.sub_self, Nat.zero_add])
  have fin := k
  unfold justZ at fin
  ((with_reducible conv => whnf); repeat (first | (rw [natD_len]; with_reducible conv => whnf) | (rw [intD_len]; with_reducible conv => whnf) | (refine Exists.intro _ (And.intro (rfl : _ = some _) ?_); with_reducible conv => whnf) | (refine And.intro (okII _ _) ?_; rw [eqD_ii]; with_reducible conv => whnf) | (refine And.intro (by first | assumption | exact Exists.intro _ (by assumption) | exact ⟨rfl, rfl, by decide, by decide⟩ | exact Nat.le_of_ble_eq_true rfl | exact rfl) ?_; with_reducible conv => whnf) | (rw [isLst_at (by assumption)]; with_reducible conv => whnf) | (refine ifT rfl ?_; with_reducible conv => whnf) | (refine ifF rfl ?_; with_reducible conv => whnf) | (refine it_at (by assumption) ?_; with_reducible conv => whnf)))
  refine ite_d (fun hc => ?_) fun hc => ?_
  · ((with_reducible conv => whnf); repeat (first | (rw [natD_len]; with_reducible conv => whnf) | (rw [intD_len]; with_reducible conv => whnf) | (refine Exists.intro _ (And.intro (rfl : _ = some _) ?_); with_reducible conv => whnf) | (refine And.intro (okII _ _) ?_; rw [eqD_ii]; with_reducible conv => whnf) | (refine And.intro (by first | assumption | exact Exists.intro _ (by assumption) | exact ⟨rfl, rfl, by decide, by decide⟩ | exact Nat.le_of_ble_eq_true rfl | exact rfl) ?_; with_reducible conv => whnf) | (rw [isLst_at (by assumption)]; with_reducible conv => whnf) | (refine ifT rfl ?_; with_reducible conv => whnf) | (refine ifF rfl ?_; with_reducible conv => whnf) | (refine it_at (by assumption) ?_; with_reducible conv => whnf)))
    refine ite_d (fun hc2 => ?_) fun hc2 => ?_
    · ((with_reducible conv => whnf); repeat (first | (rw [natD_len]; with_reducible conv => whnf) | (rw [intD_len]; with_reducible conv => whnf) | (refine Exists.intro _ (And.intro (rfl : _ = some _) ?_); with_reducible conv => whnf) | (refine And.intro (okII _ _) ?_; rw [eqD_ii]; with_reducible conv => whnf) | (refine And.intro (by first | assumption | exact Exists.intro _ (by assumption) | exact ⟨rfl, rfl, by decide, by decide⟩ | exact Nat.le_of_ble_eq_true rfl | exact rfl) ?_; with_reducible conv => whnf) | (rw [isLst_at (by assumption)]; with_reducible conv => whnf) | (refine ifT rfl ?_; with_reducible conv => whnf) | (refine ifF rfl ?_; with_reducible conv => whnf) | (refine it_at (by assumption) ?_; with_reducible conv => whnf)))
      refine ⟨n, kk, rfl, by omega, by omega, by omega, fun S1 h1 => ?_⟩
      ((with_reducible conv => whnf); repeat (first | (rw [natD_len]; with_reducible conv => whnf) | (rw [intD_len]; with_reducible conv => whnf) | (refine Exists.intro _ (And.intro (rfl : _ = some _) ?_); with_reducible conv => whnf) | (refine And.intro (okII _ _) ?_; rw [eqD_ii]; with_reducible conv => whnf) | (refine And.intro (by first | assumption | exact Exists.intro _ (by assumption) | exact ⟨rfl, rfl, by decide, by decide⟩ | exact Nat.le_of_ble_eq_true rfl | exact rfl) ?_; with_reducible conv => whnf) | (rw [isLst_at (by assumption)]; with_reducible conv => whnf) | (refine ifT rfl ?_; with_reducible conv => whnf) | (refine ifF rfl ?_; with_reducible conv => whnf) | (refine it_at (by assumption) ?_; with_reducible conv => whnf)))
      refine ⟨(n - kk).toNat, by rw [show (((n - kk).toNat : Nat) : Int) = n - kk by omega], by omega, fun S2 h2 => ?_⟩
      have f := fin S2 (h1.trans h2)
      rw [if_pos ⟨hc, hc2⟩] at f
      ((with_reducible conv => whnf); repeat (first | (rw [natD_len]; with_reducible conv => whnf) | (rw [intD_len]; with_reducible conv => whnf) | (refine Exists.intro _ (And.intro (rfl : _ = some _) ?_); with_reducible conv => whnf) | (refine And.intro (okII _ _) ?_; rw [eqD_ii]; with_reducible conv => whnf) | (refine And.intro (by first | assumption | exact Exists.intro _ (by assumption) | exact ⟨rfl, rfl, by decide, by decide⟩ | exact Nat.le_of_ble_eq_true rfl | exact rfl) ?_; with_reducible conv => whnf) | (rw [isLst_at (by assumption)]; with_reducible conv => whnf) | (refine ifT rfl ?_; with_reducible conv => whnf) | (refine ifF rfl ?_; with_reducible conv => whnf) | (refine it_at (by assumption) ?_; with_reducible conv => whnf)))
      refine ⟨smallMul' ?_, f⟩
      obtain ⟨kn, rfl⟩ : ∃ m : Nat, kk = m := ⟨kk.toNat, by omega⟩
      obtain ⟨nn, rfl⟩ : ∃ m : Nat, n = m := ⟨n.toNat, by omega⟩
      rw [waysZ_yes (by omega), Int.natAbs_natCast]
      exact Nat.lt_of_le_of_lt (chs_le nn kn) (Nat.pow_lt_pow_right (by decide) (by omega))
    · have f := fin S (Sub.refl _)
      rw [if_neg (by omega)] at f
      exact f
  · have f := fin S (Sub.refl _)
    rw [if_neg (by omega)] at f
    ((with_reducible conv => whnf); repeat (first | (rw [natD_len]; with_reducible conv => whnf) | (rw [intD_len]; with_reducible conv => whnf) | (refine Exists.intro _ (And.intro (rfl : _ = some _) ?_); with_reducible conv => whnf) | (refine And.intro (okII _ _) ?_; rw [eqD_ii]; with_reducible conv => whnf) | (refine And.intro (by first | assumption | exact Exists.intro _ (by assumption) | exact ⟨rfl, rfl, by decide, by decide⟩ | exact Nat.le_of_ble_eq_true rfl | exact rfl) ?_; with_reducible conv => whnf) | (rw [isLst_at (by assumption)]; with_reducible conv => whnf) | (refine ifT rfl ?_; with_reducible conv => whnf) | (refine ifF rfl ?_; with_reducible conv => whnf) | (refine it_at (by assumption) ?_; with_reducible conv => whnf)))
    exact f
end K96
set_option linter.all false
set_option maxRecDepth 100000
set_option maxHeartbeats 4000000
namespace K96
open DL
@[reducible] def chanD (n k : Int) : D := if 1 ≤ k ∧ k ≤ n then .tup [.int 1, .int n] else .tup [.int 0, .int 1]
@[reducible] def sp_chan : Spc := fun ds S Q => ∃ n k : Int, ds = [.int n, .int k] ∧ ∀ S', Sub S S' → Q (chanD n k) S'
theorem body_chance_of_ring : Body 2 2 w_chance_of_ring sp_chan := by
  rintro ds S Q _ ⟨n, kk, rfl, k⟩
  unfold w_chance_of_ring
  (simp only [start, List.map_cons, List.map_nil, List.length_cons, List.length_nil, Nat.reduceAdd, Nat.reduceSub, List.replicate_succ, List.replicate_zero, List.cons_append, List.nil_append, Nat.sub_self, Nat.zero_add])
  have fin := k S (Sub.refl _)
  unfold chanD at fin
  ((with_reducible conv => whnf); repeat (first | (rw [natD_len]; with_reducible conv => whnf) | (rw [intD_len]; with_reducible conv => whnf) | (refine Exists.intro _ (And.intro (rfl : _ = some _) ?_); with_reducible conv => whnf) | (refine And.intro (okII _ _) ?_; rw [eqD_ii]; with_reducible conv => whnf) | (refine And.intro (by first | assumption | exact Exists.intro _ (by assumption) | exact ⟨rfl, rfl, by decide, by decide⟩ | exact Nat.le_of_ble_eq_true rfl | exact rfl) ?_; with_reducible conv => whnf) | (rw [isLst_at (by assumption)]; with_reducible conv => whnf) | (refine ifT rfl ?_; with_reducible conv => whnf) | (refine ifF rfl ?_; with_reducible conv => whnf) | (refine it_at (by assumption) ?_; with_reducible conv => whnf)))
  refine ite_d (fun hc => ?_) fun hc => ?_
  · ((with_reducible conv => whnf); repeat (first | (rw [natD_len]; with_reducible conv => whnf) | (rw [intD_len]; with_reducible conv => whnf) | (refine Exists.intro _ (And.intro (rfl : _ = some _) ?_); with_reducible conv => whnf) | (refine And.intro (okII _ _) ?_; rw [eqD_ii]; with_reducible conv => whnf) | (refine And.intro (by first | assumption | exact Exists.intro _ (by assumption) | exact ⟨rfl, rfl, by decide, by decide⟩ | exact Nat.le_of_ble_eq_true rfl | exact rfl) ?_; with_reducible conv => whnf) | (rw [isLst_at (by assumption)]; with_reducible conv => whnf) | (refine ifT rfl ?_; with_reducible conv => whnf) | (refine ifF rfl ?_; with_reducible conv => whnf) | (refine it_at (by assumption) ?_; with_reducible conv => whnf)))
    refine ite_d (fun hc2 => ?_) fun hc2 => ?_
    · rw [if_pos ⟨hc, hc2⟩] at fin
      ((with_reducible conv => whnf); repeat (first | (rw [natD_len]; with_reducible conv => whnf) | (rw [intD_len]; with_reducible conv => whnf) | (refine Exists.intro _ (And.intro (rfl : _ = some _) ?_); with_reducible conv => whnf) | (refine And.intro (okII _ _) ?_; rw [eqD_ii]; with_reducible conv => whnf) | (refine And.intro (by first | assumption | exact Exists.intro _ (by assumption) | exact ⟨rfl, rfl, by decide, by decide⟩ | exact Nat.le_of_ble_eq_true rfl | exact rfl) ?_; with_reducible conv => whnf) | (rw [isLst_at (by assumption)]; with_reducible conv => whnf) | (refine ifT rfl ?_; with_reducible conv => whnf) | (refine ifF rfl ?_; with_reducible conv => whnf) | (refine it_at (by assumption) ?_; with_reducible conv => whnf)))
      exact fin
    · rw [if_neg (by omega)] at fin
      exact fin
  · rw [if_neg (by omega)] at fin
    ((with_reducible conv => whnf); repeat (first | (rw [natD_len]; with_reducible conv => whnf) | (rw [intD_len]; with_reducible conv => whnf) | (refine Exists.intro _ (And.intro (rfl : _ = some _) ?_); with_reducible conv => whnf) | (refine And.intro (okII _ _) ?_; rw [eqD_ii]; with_reducible conv => whnf) | (refine And.intro (by first | assumption | exact Exists.intro _ (by assumption) | exact ⟨rfl, rfl, by decide, by decide⟩ | exact Nat.le_of_ble_eq_true rfl | exact rfl) ?_; with_reducible conv => whnf) | (rw [isLst_at (by assumption)]; with_reducible conv => whnf) | (refine ifT rfl ?_; with_reducible conv => whnf) | (refine ifF rfl ?_; with_reducible conv => whnf) | (refine it_at (by assumption) ?_; with_reducible conv => whnf)))
    exact fin
@[reducible] def sp_mean : Spc := fun ds S Q => ∃ n : Int, ds = [.int n] ∧ 1 ≤ n ∧ n ≤ 1000 ∧ ∀ S', Sub S S' → Q (.tup [.int 1, .int 1]) S'
theorem divInt_self' {n : Int} (h : 1 ≤ n) : Rat.divInt n n = ((1 : Int) : Rat) := by
  rw [divInt_eq]
  have : (1 : Rat) ≤ (n : Rat) := by exact_mod_cast h
  show (n : Rat) / (n : Rat) = 1
  grind
theorem body_mean_right : Body 1 1 (w_mean_right sp_ratio) sp_mean := by
  rintro ds S Q _ ⟨n, rfl, h0, h1, k⟩
  unfold w_mean_right
  (simp only [start, List.map_cons, List.map_nil, List.length_cons, List.length_nil, Nat.reduceAdd, Nat.reduceSub, List.replicate_succ, List.replicate_zero, List.cons_append, List.nil_append, Nat.sub_self, Nat.zero_add])
  ((with_reducible conv => whnf); repeat (first | (rw [natD_len]; with_reducible conv => whnf) | (rw [intD_len]; with_reducible conv => whnf) | (refine Exists.intro _ (And.intro (rfl : _ = some _) ?_); with_reducible conv => whnf) | (refine And.intro (okII _ _) ?_; rw [eqD_ii]; with_reducible conv => whnf) | (refine And.intro (by first | assumption | exact Exists.intro _ (by assumption) | exact ⟨rfl, rfl, by decide, by decide⟩ | exact Nat.le_of_ble_eq_true rfl | exact rfl) ?_; with_reducible conv => whnf) | (rw [isLst_at (by assumption)]; with_reducible conv => whnf) | (refine ifT rfl ?_; with_reducible conv => whnf) | (refine ifF rfl ?_; with_reducible conv => whnf) | (refine it_at (by assumption) ?_; with_reducible conv => whnf)))
  refine ⟨n, n, rfl, by omega, Nat.lt_of_lt_of_le (show n.natAbs < 2 ^ 10 by omega) (Nat.pow_le_pow_right (by decide) (by decide)), fun S1 hs => ?_⟩
  rw [divInt_self' h0, qD_int]
  exact k S1 hs
/-! by rings -/
def rowR : Nat → List Int
  | 0 => [1]
  | m + 1 => (List.range (m + 2)).map fun r => (m : Int) * (rowR m ++ [0]).getD r 0 + (if 0 < r then (rowR m ++ [0]).getD (r - 1) 0 else 0)
theorem rowR_len : ∀ m, (rowR m).length = m + 1
  | 0 => rfl
  | m + 1 => by unfold rowR; rw [List.length_map, List.length_range]
def cntZ (n : Nat) (k : Int) : Int := if 0 ≤ k ∧ k ≤ n then (rowR n).getD k.toNat 0 else 0
@[reducible] def sp_cnt : Spc := fun ds S Q => ∃ (n : Nat) (k : Int), ds = [.int n, .int k] ∧ n ≤ 200 ∧ ∀ S', Sub S S' → Q (.int (cntZ n k)) S'
theorem intD_app1 (ns : List Int) (x : Int) : intD ns ++ [.int x] = intD (ns ++ [x]) := by simp [intD]
theorem body_count_by_rings : Body 6 2 w_count_by_rings sp_cnt := by
  rintro ds S Q _ ⟨n, kk, rfl, hn, k⟩
  unfold w_count_by_rings
  (simp only [start, List.map_cons, List.map_nil, List.length_cons, List.length_nil, Nat.reduceAdd, Nat.reduceSub, List.replicate_succ, List.replicate_zero, List.cons_append, List.nil_append, Nat.sub_self, Nat.zero_add])
  ((with_reducible conv => whnf); repeat (first | (rw [natD_len]; with_reducible conv => whnf) | (rw [intD_len]; with_reducible conv => whnf) | (refine Exists.intro _ (And.intro (rfl : _ = some _) ?_); with_reducible conv => whnf) | (refine And.intro (okII _ _) ?_; rw [eqD_ii]; with_reducible conv => whnf) | (refine And.intro (by first | assumption | exact Exists.intro _ (by assumption) | exact ⟨rfl, rfl, by decide, by decide⟩ | exact Nat.le_of_ble_eq_true rfl | exact rfl) ?_; with_reducible conv => whnf) | (rw [isLst_at (by assumption)]; with_reducible conv => whnf) | (refine ifT rfl ?_; with_reducible conv => whnf) | (refine ifF rfl ?_; with_reducible conv => whnf) | (refine it_at (by assumption) ?_; with_reducible conv => whnf)))
  have e0 := at_push S (.lst [.int 1])
  have s0 := (Sub.refl S).app [.lst [.int 1]]
  generalize S ++ [.lst [.int 1]] = S1 at *
  generalize S.length = n0 at *
  refine ⟨⟨by omega, by omega⟩, ?_⟩
  refine Loop_mk (fun i ρ S' => ∃ m o3 o4, ρ = [some (.int n), some (.int kk), some (.ref m), o3, o4, none] ∧ S'[m]? = some (.lst (intD (rowR i))) ∧ Sub S S') ⟨n0, none, none, rfl, e0, s0⟩ (by intros; trivial) ?_ ?_
  · rintro i d ρ' S' hi ⟨m, o3, o4, rfl, f1, f2⟩
    obtain ⟨hi1, rfl⟩ := rangeD_get hi
    have e1 := at_push S' (.lst [.int 0])
    have f1 := push_at f1 [.lst [.int 0]]
    have f2 := f2.app [.lst [.int 0]]
    ((with_reducible conv => whnf); repeat (first | (rw [natD_len]; with_reducible conv => whnf) | (rw [intD_len]; with_reducible conv => whnf) | (refine Exists.intro _ (And.intro (rfl : _ = some _) ?_); with_reducible conv => whnf) | (refine And.intro (okII _ _) ?_; rw [eqD_ii]; with_reducible conv => whnf) | (refine And.intro (by first | assumption | exact Exists.intro _ (by assumption) | exact ⟨rfl, rfl, by decide, by decide⟩ | exact Nat.le_of_ble_eq_true rfl | exact rfl) ?_; with_reducible conv => whnf) | (rw [isLst_at (by assumption)]; with_reducible conv => whnf) | (refine ifT rfl ?_; with_reducible conv => whnf) | (refine ifF rfl ?_; with_reducible conv => whnf) | (refine it_at (by assumption) ?_; with_reducible conv => whnf)))
    generalize S' ++ [.lst [.int 0]] = S2 at *
    refine ⟨by rw [rowR_len]; show i + 1 + 1 ≤ _; unfold szL; omega, ?_⟩
    rw [intD_app1]
    have e2 := at_push S2 (.lst (intD (rowR i ++ [0])))
    have f2 := f2.app [.lst (intD (rowR i ++ [0]))]
    ((with_reducible conv => whnf); repeat (first | (rw [natD_len]; with_reducible conv => whnf) | (rw [intD_len]; with_reducible conv => whnf) | (refine Exists.intro _ (And.intro (rfl : _ = some _) ?_); with_reducible conv => whnf) | (refine And.intro (okII _ _) ?_; rw [eqD_ii]; with_reducible conv => whnf) | (refine And.intro (by first | assumption | exact Exists.intro _ (by assumption) | exact ⟨rfl, rfl, by decide, by decide⟩ | exact Nat.le_of_ble_eq_true rfl | exact rfl) ?_; with_reducible conv => whnf) | (rw [isLst_at (by assumption)]; with_reducible conv => whnf) | (refine ifT rfl ?_; with_reducible conv => whnf) | (refine ifF rfl ?_; with_reducible conv => whnf) | (refine it_at (by assumption) ?_; with_reducible conv => whnf)))
    generalize S2 ++ [.lst (intD (rowR i ++ [0]))] = S3 at *
    refine ⟨⟨by omega, by omega⟩, ?_⟩
    rw [show (0 : Int) + i + 2 = ((i + 2 : Nat) : Int) by omega]
    have hl : (rowR i ++ [0]).length = i + 2 := by rw [List.length_append, rowR_len]; rfl
    refine Lc_rm (fun r => .int ((i : Int) * (rowR i ++ [0]).getD r 0 + (if 0 < r then (rowR i ++ [0]).getD (r - 1) 0 else 0))) (by unfold szL; omega) (by intros; trivial) (fun r S4 R hr h4 hR => ?_) fun S4 h4 => ?_
    · have e2 := h4 _ _ e2
      ((with_reducible conv => whnf); repeat (first | (rw [natD_len]; with_reducible conv => whnf) | (rw [intD_len]; with_reducible conv => whnf) | (refine Exists.intro _ (And.intro (rfl : _ = some _) ?_); with_reducible conv => whnf) | (refine And.intro (okII _ _) ?_; rw [eqD_ii]; with_reducible conv => whnf) | (refine And.intro (by first | assumption | exact Exists.intro _ (by assumption) | exact ⟨rfl, rfl, by decide, by decide⟩ | exact Nat.le_of_ble_eq_true rfl | exact rfl) ?_; with_reducible conv => whnf) | (rw [isLst_at (by assumption)]; with_reducible conv => whnf) | (refine ifT rfl ?_; with_reducible conv => whnf) | (refine ifF rfl ?_; with_reducible conv => whnf) | (refine it_at (by assumption) ?_; with_reducible conv => whnf)))
      refine ⟨_, atZ_intN (by omega), ?_⟩
      ((with_reducible conv => whnf); repeat (first | (rw [natD_len]; with_reducible conv => whnf) | (rw [intD_len]; with_reducible conv => whnf) | (refine Exists.intro _ (And.intro (rfl : _ = some _) ?_); with_reducible conv => whnf) | (refine And.intro (okII _ _) ?_; rw [eqD_ii]; with_reducible conv => whnf) | (refine And.intro (by first | assumption | exact Exists.intro _ (by assumption) | exact ⟨rfl, rfl, by decide, by decide⟩ | exact Nat.le_of_ble_eq_true rfl | exact rfl) ?_; with_reducible conv => whnf) | (rw [isLst_at (by assumption)]; with_reducible conv => whnf) | (refine ifT rfl ?_; with_reducible conv => whnf) | (refine ifF rfl ?_; with_reducible conv => whnf) | (refine it_at (by assumption) ?_; with_reducible conv => whnf)))
      refine ⟨smallMul' (by omega), ?_⟩
      ((with_reducible conv => whnf); repeat (first | (rw [natD_len]; with_reducible conv => whnf) | (rw [intD_len]; with_reducible conv => whnf) | (refine Exists.intro _ (And.intro (rfl : _ = some _) ?_); with_reducible conv => whnf) | (refine And.intro (okII _ _) ?_; rw [eqD_ii]; with_reducible conv => whnf) | (refine And.intro (by first | assumption | exact Exists.intro _ (by assumption) | exact ⟨rfl, rfl, by decide, by decide⟩ | exact Nat.le_of_ble_eq_true rfl | exact rfl) ?_; with_reducible conv => whnf) | (rw [isLst_at (by assumption)]; with_reducible conv => whnf) | (refine ifT rfl ?_; with_reducible conv => whnf) | (refine ifF rfl ?_; with_reducible conv => whnf) | (refine it_at (by assumption) ?_; with_reducible conv => whnf)))
      have := hR S4 (Sub.refl _)
      refine ite_d (fun hc => ?_) fun hc => ?_
      · ((with_reducible conv => whnf); repeat (first | (rw [natD_len]; with_reducible conv => whnf) | (rw [intD_len]; with_reducible conv => whnf) | (refine Exists.intro _ (And.intro (rfl : _ = some _) ?_); with_reducible conv => whnf) | (refine And.intro (okII _ _) ?_; rw [eqD_ii]; with_reducible conv => whnf) | (refine And.intro (by first | assumption | exact Exists.intro _ (by assumption) | exact ⟨rfl, rfl, by decide, by decide⟩ | exact Nat.le_of_ble_eq_true rfl | exact rfl) ?_; with_reducible conv => whnf) | (rw [isLst_at (by assumption)]; with_reducible conv => whnf) | (refine ifT rfl ?_; with_reducible conv => whnf) | (refine ifF rfl ?_; with_reducible conv => whnf) | (refine it_at (by assumption) ?_; with_reducible conv => whnf)))
        rw [show (r : Int) - 1 = ((r - 1 : Nat) : Int) by omega]
        refine ⟨_, atZ_intN (by omega), ?_⟩
        rw [if_pos (by omega)] at this
        rw [show (0 : Int) + i = i by omega]
        exact this
      · ((with_reducible conv => whnf); repeat (first | (rw [natD_len]; with_reducible conv => whnf) | (rw [intD_len]; with_reducible conv => whnf) | (refine Exists.intro _ (And.intro (rfl : _ = some _) ?_); with_reducible conv => whnf) | (refine And.intro (okII _ _) ?_; rw [eqD_ii]; with_reducible conv => whnf) | (refine And.intro (by first | assumption | exact Exists.intro _ (by assumption) | exact ⟨rfl, rfl, by decide, by decide⟩ | exact Nat.le_of_ble_eq_true rfl | exact rfl) ?_; with_reducible conv => whnf) | (rw [isLst_at (by assumption)]; with_reducible conv => whnf) | (refine ifT rfl ?_; with_reducible conv => whnf) | (refine ifF rfl ?_; with_reducible conv => whnf) | (refine it_at (by assumption) ?_; with_reducible conv => whnf)))
        rw [if_neg (by omega)] at this
        rw [show (0 : Int) + i = i by omega]
        exact this
    · refine ⟨_, _, _, rfl, ?_, (f2.trans h4).app _⟩
      rw [at_push]
      simp [intD, rowR]
  · rintro ρ' S' ⟨m, o3, o4, rfl, f1, f2⟩
    rw [rangeD_len, show ((n : Int) - 0).toNat = n by omega] at f1
    have fin := k S' f2
    unfold cntZ at fin
    ((with_reducible conv => whnf); repeat (first | (rw [natD_len]; with_reducible conv => whnf) | (rw [intD_len]; with_reducible conv => whnf) | (refine Exists.intro _ (And.intro (rfl : _ = some _) ?_); with_reducible conv => whnf) | (refine And.intro (okII _ _) ?_; rw [eqD_ii]; with_reducible conv => whnf) | (refine And.intro (by first | assumption | exact Exists.intro _ (by assumption) | exact ⟨rfl, rfl, by decide, by decide⟩ | exact Nat.le_of_ble_eq_true rfl | exact rfl) ?_; with_reducible conv => whnf) | (rw [isLst_at (by assumption)]; with_reducible conv => whnf) | (refine ifT rfl ?_; with_reducible conv => whnf) | (refine ifF rfl ?_; with_reducible conv => whnf) | (refine it_at (by assumption) ?_; with_reducible conv => whnf)))
    refine ite_d (fun hc => ?_) fun hc => ?_
    · ((with_reducible conv => whnf); repeat (first | (rw [natD_len]; with_reducible conv => whnf) | (rw [intD_len]; with_reducible conv => whnf) | (refine Exists.intro _ (And.intro (rfl : _ = some _) ?_); with_reducible conv => whnf) | (refine And.intro (okII _ _) ?_; rw [eqD_ii]; with_reducible conv => whnf) | (refine And.intro (by first | assumption | exact Exists.intro _ (by assumption) | exact ⟨rfl, rfl, by decide, by decide⟩ | exact Nat.le_of_ble_eq_true rfl | exact rfl) ?_; with_reducible conv => whnf) | (rw [isLst_at (by assumption)]; with_reducible conv => whnf) | (refine ifT rfl ?_; with_reducible conv => whnf) | (refine ifF rfl ?_; with_reducible conv => whnf) | (refine it_at (by assumption) ?_; with_reducible conv => whnf)))
      refine ite_d (fun hc2 => ?_) fun hc2 => ?_
      · rw [if_pos ⟨hc, hc2⟩] at fin
        ((with_reducible conv => whnf); repeat (first | (rw [natD_len]; with_reducible conv => whnf) | (rw [intD_len]; with_reducible conv => whnf) | (refine Exists.intro _ (And.intro (rfl : _ = some _) ?_); with_reducible conv => whnf) | (refine And.intro (okII _ _) ?_; rw [eqD_ii]; with_reducible conv => whnf) | (refine And.intro (by first | assumption | exact Exists.intro _ (by assumption) | exact ⟨rfl, rfl, by decide, by decide⟩ | exact Nat.le_of_ble_eq_true rfl | exact rfl) ?_; with_reducible conv => whnf) | (rw [isLst_at (by assumption)]; with_reducible conv => whnf) | (refine ifT rfl ?_; with_reducible conv => whnf) | (refine ifF rfl ?_; with_reducible conv => whnf) | (refine it_at (by assumption) ?_; with_reducible conv => whnf)))
        exact ⟨_, atZ_intD hc (by rw [rowR_len]; omega), fin⟩
      · rw [if_neg (by omega)] at fin
        exact fin
    · rw [if_neg (by omega)] at fin
      ((with_reducible conv => whnf); repeat (first | (rw [natD_len]; with_reducible conv => whnf) | (rw [intD_len]; with_reducible conv => whnf) | (refine Exists.intro _ (And.intro (rfl : _ = some _) ?_); with_reducible conv => whnf) | (refine And.intro (okII _ _) ?_; rw [eqD_ii]; with_reducible conv => whnf) | (refine And.intro (by first | assumption | exact Exists.intro _ (by assumption) | exact ⟨rfl, rfl, by decide, by decide⟩ | exact Nat.le_of_ble_eq_true rfl | exact rfl) ?_; with_reducible conv => whnf) | (rw [isLst_at (by assumption)]; with_reducible conv => whnf) | (refine ifT rfl ?_; with_reducible conv => whnf) | (refine ifF rfl ?_; with_reducible conv => whnf) | (refine it_at (by assumption) ?_; with_reducible conv => whnf)))
      exact fin
end K96
set_option linter.all false
set_option maxRecDepth 100000
set_option maxHeartbeats 4000000
namespace K96
open DL
/-- the next row behind j turns -/
def midR (m j : Nat) (row : List Int) : List Int := (List.range (m + 2)).map fun r => (if r < j then (m : Int) * row.getD r 0 else 0) + (if 0 < r ∧ r ≤ j then row.getD (r - 1) 0 else 0)
theorem midR_len (m j : Nat) (row : List Int) : (midR m j row).length = m + 2 := by unfold midR; rw [List.length_map, List.length_range]
theorem midR_get {m j r : Nat} {row : List Int} (h : r < m + 2) : (midR m j row).getD r 0 = (if r < j then (m : Int) * row.getD r 0 else 0) + (if 0 < r ∧ r ≤ j then row.getD (r - 1) 0 else 0) := by
  unfold midR
  rw [List.getD_eq_getElem?_getD, List.getElem?_map, List.getElem?_range h]
  rfl
theorem getD_ext {a b : List Int} (hl : a.length = b.length) (h : ∀ r, r < a.length → a.getD r 0 = b.getD r 0) : a = b := by
  apply List.ext_getElem hl
  intro r h1 h2
  have := h r h1
  rw [List.getD_eq_getElem?_getD, List.getD_eq_getElem?_getD, List.getElem?_eq_getElem h1, List.getElem?_eq_getElem h2] at this
  exact this
theorem getD_set {l : List Int} {i r : Nat} {x : Int} (hi : i < l.length) : (l.set i x).getD r 0 = if i = r then x else l.getD r 0 := by
  rw [List.getD_eq_getElem?_getD, List.getD_eq_getElem?_getD, List.getElem?_set]
  by_cases h : i = r
  · subst h
    rw [if_pos rfl, if_pos rfl, if_pos hi]
    rfl
  · rw [if_neg h, if_neg h]
theorem mid_step {m j : Nat} {row : List Int} (hj : j < m + 1) (hl : row.length = m + 1) : ((midR m j row).set j ((midR m j row).getD j 0 + (m : Int) * row.getD j 0)).set (j + 1) (((midR m j row).set j ((midR m j row).getD j 0 + (m : Int) * row.getD j 0)).getD (j + 1) 0 + row.getD j 0) = midR m (j + 1) row := by
  have l0 := midR_len m j row
  apply getD_ext
  · rw [List.length_set, List.length_set, midR_len, midR_len]
  · intro r hr
    rw [List.length_set, List.length_set, midR_len] at hr
    rw [getD_set (by rw [List.length_set, midR_len]; omega), getD_set (by rw [midR_len]; omega), getD_set (by rw [midR_len]; omega), midR_get hr, midR_get (show j < m + 2 by omega), midR_get (show j + 1 < m + 2 by omega), midR_get hr]
    grind
theorem mid_last (m : Nat) : midR m (m + 1) (rowR m) = rowR (m + 1) := by
  have hl := rowR_len m
  apply getD_ext
  · rw [midR_len, rowR_len]
  · intro r hr
    rw [midR_len] at hr
    rw [midR_get hr]
    have hR : (rowR (m + 1)).getD r 0 = (m : Int) * (rowR m ++ [0]).getD r 0 + (if 0 < r then (rowR m ++ [0]).getD (r - 1) 0 else 0) := by
      show ((List.range (m + 2)).map _).getD r 0 = _
      rw [List.getD_eq_getElem?_getD, List.getElem?_map, List.getElem?_range hr]
      rfl
    rw [hR]
    show _ = (m : Int) * (rowR m ++ [0]).getD r 0 + (if 0 < r then (rowR m ++ [0]).getD (r - 1) 0 else 0)
    have ap : ∀ q, (rowR m ++ [0]).getD q 0 = (rowR m).getD q 0 := by
      intro q
      rw [List.getD_eq_getElem?_getD, List.getD_eq_getElem?_getD]
      rcases Nat.lt_or_ge q (rowR m).length with h | h
      · rw [List.getElem?_append_left h]
      · rw [List.getElem?_append_right h, List.getElem?_eq_none h]
        rcases Nat.eq_zero_or_pos (q - (rowR m).length) with e | e
        · rw [e]; rfl
        · rw [List.getElem?_eq_none (by simp; omega)]
    rw [ap, ap]
    congr 1
    · by_cases h : r < m + 1
      · rw [if_pos h]
      · rw [if_neg h, List.getD_eq_getElem?_getD, List.getElem?_eq_none (by omega)]
        show (0 : Int) = (m : Int) * 0
        omega
    · by_cases h : 0 < r
      · rw [if_pos h, if_pos (by omega)]
      · rw [if_neg h, if_neg (by omega)]
theorem mid_0 (m : Nat) (row : List Int) : midR m 0 row = List.replicate (m + 2) 0 := by
  apply getD_ext
  · rw [midR_len, List.length_replicate]
  · intro r hr
    rw [midR_len] at hr
    rw [midR_get hr, if_neg (by omega), if_neg (by omega), List.getD_eq_getElem?_getD, List.getElem?_replicate, if_pos hr]
    rfl
@[reducible] def sp_rows : Spc := fun ds S Q => ∃ n : Nat, ds = [.int n] ∧ n ≤ 200 ∧ ∀ m S', S.length ≤ m → S'[m]? = some (.lst (intD (rowR n))) → Sub S S' → Q (.ref m) S'
theorem body_law_by_rings : Body 5 1 w_law_by_rings sp_rows := by
  rintro ds S Q _ ⟨n, rfl, hn, k⟩
  unfold w_law_by_rings
  (simp only [start, List.map_cons, List.map_nil, List.length_cons, List.length_nil, Nat.reduceAdd, Nat.reduceSub, List.replicate_succ, List.replicate_zero, List.cons_append, List.nil_append, Nat.sub_self, Nat.zero_add])
  ((with_reducible conv => whnf); repeat (first | (rw [natD_len]; with_reducible conv => whnf) | (rw [intD_len]; with_reducible conv => whnf) | (refine Exists.intro _ (And.intro (rfl : _ = some _) ?_); with_reducible conv => whnf) | (refine And.intro (okII _ _) ?_; rw [eqD_ii]; with_reducible conv => whnf) | (refine And.intro (by first | assumption | exact Exists.intro _ (by assumption) | exact ⟨rfl, rfl, by decide, by decide⟩ | exact Nat.le_of_ble_eq_true rfl | exact rfl) ?_; with_reducible conv => whnf) | (rw [isLst_at (by assumption)]; with_reducible conv => whnf) | (refine ifT rfl ?_; with_reducible conv => whnf) | (refine ifF rfl ?_; with_reducible conv => whnf) | (refine it_at (by assumption) ?_; with_reducible conv => whnf)))
  have e0 := at_push S (.lst [.int 1])
  have s0 := (Sub.refl S).app [.lst [.int 1]]
  generalize S ++ [.lst [.int 1]] = S1 at *
  generalize hn0 : S.length = n0 at *
  refine ⟨⟨by omega, by omega⟩, ?_⟩
  refine Loop_mk (fun i ρ S' => ∃ m o2 o3 o4, n0 ≤ m ∧ ρ = [some (.int n), some (.ref m), o2, o3, o4] ∧ S'[m]? = some (.lst (intD (rowR i))) ∧ Sub S S') ⟨n0, none, none, none, Nat.le_refl _, rfl, e0, s0⟩ (by intros; trivial) ?_ ?_
  · rintro i d ρ' S' hi ⟨m, o2, o3, o4, hm0, rfl, f1, f2⟩
    obtain ⟨hi1, rfl⟩ := rangeD_get hi
    have e1 := at_push S' (.lst [.int 0])
    have f1 := push_at f1 [.lst [.int 0]]
    have f2 := f2.app [.lst [.int 0]]
    have hSl := f2.len
    rw [show (0 : Int) + i = i by omega]
    ((with_reducible conv => whnf); repeat (first | (rw [natD_len]; with_reducible conv => whnf) | (rw [intD_len]; with_reducible conv => whnf) | (refine Exists.intro _ (And.intro (rfl : _ = some _) ?_); with_reducible conv => whnf) | (refine And.intro (okII _ _) ?_; rw [eqD_ii]; with_reducible conv => whnf) | (refine And.intro (by first | assumption | exact Exists.intro _ (by assumption) | exact ⟨rfl, rfl, by decide, by decide⟩ | exact Nat.le_of_ble_eq_true rfl | exact rfl) ?_; with_reducible conv => whnf) | (rw [isLst_at (by assumption)]; with_reducible conv => whnf) | (refine ifT rfl ?_; with_reducible conv => whnf) | (refine ifF rfl ?_; with_reducible conv => whnf) | (refine it_at (by assumption) ?_; with_reducible conv => whnf)))
    generalize S' ++ [.lst [.int 0]] = S2 at *
    refine ⟨⟨by omega, by omega⟩, by unfold szL; show 1 * _ ≤ _; omega, ?_⟩
    rw [show ((i : Int) + 2).toNat = i + 2 by omega]
    have hz : (List.replicate (i + 2) [D.int 0]).flatten = intD (midR i 0 (rowR i)) := by
      rw [mid_0]
      simp [intD]
    rw [hz]
    have e2 := at_push S2 (.lst (intD (midR i 0 (rowR i))))
    have f1 := push_at f1 [.lst (intD (midR i 0 (rowR i)))]
    have f2 := f2.app [.lst (intD (midR i 0 (rowR i)))]
    have hml := at_lt f1
    have hmn : m ≠ S2.length := by
      intro e
      rw [e, at_push] at f1
      have := congrArg (fun o => match o with | some (O.lst l) => l.length | _ => 0) f1
      simp [intD, midR_len, rowR_len] at this
    have hle := s0.len
    ((with_reducible conv => whnf); repeat (first | (rw [natD_len]; with_reducible conv => whnf) | (rw [intD_len]; with_reducible conv => whnf) | (refine Exists.intro _ (And.intro (rfl : _ = some _) ?_); with_reducible conv => whnf) | (refine And.intro (okII _ _) ?_; rw [eqD_ii]; with_reducible conv => whnf) | (refine And.intro (by first | assumption | exact Exists.intro _ (by assumption) | exact ⟨rfl, rfl, by decide, by decide⟩ | exact Nat.le_of_ble_eq_true rfl | exact rfl) ?_; with_reducible conv => whnf) | (rw [isLst_at (by assumption)]; with_reducible conv => whnf) | (refine ifT rfl ?_; with_reducible conv => whnf) | (refine ifF rfl ?_; with_reducible conv => whnf) | (refine it_at (by assumption) ?_; with_reducible conv => whnf)))
    generalize hS3 : S2 ++ [.lst (intD (midR i 0 (rowR i)))] = S3 at *
    generalize S2.length = n2 at *
    refine ⟨⟨by omega, by omega⟩, ?_⟩
    have hrl := rowR_len i
    refine Loop_mk (fun j ρ S4 => ∃ o4, ρ = [some (.int n), some (.ref m), some (.int i), some (.ref n2), o4] ∧ S4[m]? = some (.lst (intD (rowR i))) ∧ S4[n2]? = some (.lst (intD (midR i j (rowR i)))) ∧ Sub S S4) ⟨o4, rfl, f1, e2, f2⟩ (by intros; trivial) ?_ ?_
    · rintro j d ρ' S4 hj ⟨o4, rfl, g1, g2, g3⟩
      obtain ⟨hj1, rfl⟩ := rangeD_get hj
      have hji : j < i + 1 := by omega
      have l0 := midR_len i j (rowR i)
      rw [show (0 : Int) + j = j by omega]
      ((with_reducible conv => whnf); repeat (first | (rw [natD_len]; with_reducible conv => whnf) | (rw [intD_len]; with_reducible conv => whnf) | (refine Exists.intro _ (And.intro (rfl : _ = some _) ?_); with_reducible conv => whnf) | (refine And.intro (okII _ _) ?_; rw [eqD_ii]; with_reducible conv => whnf) | (refine And.intro (by first | assumption | exact Exists.intro _ (by assumption) | exact ⟨rfl, rfl, by decide, by decide⟩ | exact Nat.le_of_ble_eq_true rfl | exact rfl) ?_; with_reducible conv => whnf) | (rw [isLst_at (by assumption)]; with_reducible conv => whnf) | (refine ifT rfl ?_; with_reducible conv => whnf) | (refine ifF rfl ?_; with_reducible conv => whnf) | (refine it_at (by assumption) ?_; with_reducible conv => whnf)))
      refine ⟨_, atZ_intN (by omega), ?_⟩
      ((with_reducible conv => whnf); repeat (first | (rw [natD_len]; with_reducible conv => whnf) | (rw [intD_len]; with_reducible conv => whnf) | (refine Exists.intro _ (And.intro (rfl : _ = some _) ?_); with_reducible conv => whnf) | (refine And.intro (okII _ _) ?_; rw [eqD_ii]; with_reducible conv => whnf) | (refine And.intro (by first | assumption | exact Exists.intro _ (by assumption) | exact ⟨rfl, rfl, by decide, by decide⟩ | exact Nat.le_of_ble_eq_true rfl | exact rfl) ?_; with_reducible conv => whnf) | (rw [isLst_at (by assumption)]; with_reducible conv => whnf) | (refine ifT rfl ?_; with_reducible conv => whnf) | (refine ifF rfl ?_; with_reducible conv => whnf) | (refine it_at (by assumption) ?_; with_reducible conv => whnf)))
      refine ⟨_, atZ_intN (by omega), ?_⟩
      ((with_reducible conv => whnf); repeat (first | (rw [natD_len]; with_reducible conv => whnf) | (rw [intD_len]; with_reducible conv => whnf) | (refine Exists.intro _ (And.intro (rfl : _ = some _) ?_); with_reducible conv => whnf) | (refine And.intro (okII _ _) ?_; rw [eqD_ii]; with_reducible conv => whnf) | (refine And.intro (by first | assumption | exact Exists.intro _ (by assumption) | exact ⟨rfl, rfl, by decide, by decide⟩ | exact Nat.le_of_ble_eq_true rfl | exact rfl) ?_; with_reducible conv => whnf) | (rw [isLst_at (by assumption)]; with_reducible conv => whnf) | (refine ifT rfl ?_; with_reducible conv => whnf) | (refine ifF rfl ?_; with_reducible conv => whnf) | (refine it_at (by assumption) ?_; with_reducible conv => whnf)))
      refine ⟨smallMul' (by omega), ?_⟩
      ((with_reducible conv => whnf); repeat (first | (rw [natD_len]; with_reducible conv => whnf) | (rw [intD_len]; with_reducible conv => whnf) | (refine Exists.intro _ (And.intro (rfl : _ = some _) ?_); with_reducible conv => whnf) | (refine And.intro (okII _ _) ?_; rw [eqD_ii]; with_reducible conv => whnf) | (refine And.intro (by first | assumption | exact Exists.intro _ (by assumption) | exact ⟨rfl, rfl, by decide, by decide⟩ | exact Nat.le_of_ble_eq_true rfl | exact rfl) ?_; with_reducible conv => whnf) | (rw [isLst_at (by assumption)]; with_reducible conv => whnf) | (refine ifT rfl ?_; with_reducible conv => whnf) | (refine ifF rfl ?_; with_reducible conv => whnf) | (refine it_at (by assumption) ?_; with_reducible conv => whnf)))
      refine ⟨_, ixZ_ok (by omega) (by omega), ?_⟩
      try rw [Int.toNat_natCast]
      rw [intD_set]
      have g4 := at_set g2 (o' := .lst (intD ((midR i j (rowR i)).set j ((midR i j (rowR i)).getD j 0 + (i : Int) * (rowR i).getD j 0))))
      have g5 : (S4.set n2 (.lst (intD ((midR i j (rowR i)).set j ((midR i j (rowR i)).getD j 0 + (i : Int) * (rowR i).getD j 0)))))[m]? = some (.lst (intD (rowR i))) := by rw [at_set_ne hmn, g1]
      have g6 := g3.put hSl (o := .lst (intD ((midR i j (rowR i)).set j ((midR i j (rowR i)).getD j 0 + (i : Int) * (rowR i).getD j 0))))
      ((with_reducible conv => whnf); repeat (first | (rw [natD_len]; with_reducible conv => whnf) | (rw [intD_len]; with_reducible conv => whnf) | (refine Exists.intro _ (And.intro (rfl : _ = some _) ?_); with_reducible conv => whnf) | (refine And.intro (okII _ _) ?_; rw [eqD_ii]; with_reducible conv => whnf) | (refine And.intro (by first | assumption | exact Exists.intro _ (by assumption) | exact ⟨rfl, rfl, by decide, by decide⟩ | exact Nat.le_of_ble_eq_true rfl | exact rfl) ?_; with_reducible conv => whnf) | (rw [isLst_at (by assumption)]; with_reducible conv => whnf) | (refine ifT rfl ?_; with_reducible conv => whnf) | (refine ifF rfl ?_; with_reducible conv => whnf) | (refine it_at (by assumption) ?_; with_reducible conv => whnf)))
      generalize S4.set n2 (.lst (intD ((midR i j (rowR i)).set j ((midR i j (rowR i)).getD j 0 + (i : Int) * (rowR i).getD j 0)))) = S5 at *
      rw [show (j : Int) + 1 = ((j + 1 : Nat) : Int) by omega]
      refine ⟨_, atZ_intN (by rw [List.length_set]; omega), ?_⟩
      ((with_reducible conv => whnf); repeat (first | (rw [natD_len]; with_reducible conv => whnf) | (rw [intD_len]; with_reducible conv => whnf) | (refine Exists.intro _ (And.intro (rfl : _ = some _) ?_); with_reducible conv => whnf) | (refine And.intro (okII _ _) ?_; rw [eqD_ii]; with_reducible conv => whnf) | (refine And.intro (by first | assumption | exact Exists.intro _ (by assumption) | exact ⟨rfl, rfl, by decide, by decide⟩ | exact Nat.le_of_ble_eq_true rfl | exact rfl) ?_; with_reducible conv => whnf) | (rw [isLst_at (by assumption)]; with_reducible conv => whnf) | (refine ifT rfl ?_; with_reducible conv => whnf) | (refine ifF rfl ?_; with_reducible conv => whnf) | (refine it_at (by assumption) ?_; with_reducible conv => whnf)))
      refine ⟨_, atZ_intN (by omega), ?_⟩
      ((with_reducible conv => whnf); repeat (first | (rw [natD_len]; with_reducible conv => whnf) | (rw [intD_len]; with_reducible conv => whnf) | (refine Exists.intro _ (And.intro (rfl : _ = some _) ?_); with_reducible conv => whnf) | (refine And.intro (okII _ _) ?_; rw [eqD_ii]; with_reducible conv => whnf) | (refine And.intro (by first | assumption | exact Exists.intro _ (by assumption) | exact ⟨rfl, rfl, by decide, by decide⟩ | exact Nat.le_of_ble_eq_true rfl | exact rfl) ?_; with_reducible conv => whnf) | (rw [isLst_at (by assumption)]; with_reducible conv => whnf) | (refine ifT rfl ?_; with_reducible conv => whnf) | (refine ifF rfl ?_; with_reducible conv => whnf) | (refine it_at (by assumption) ?_; with_reducible conv => whnf)))
      refine ⟨_, ixZ_ok (by omega) (by rw [List.length_set]; omega), ?_⟩
      refine ⟨_, rfl, by rw [at_set_ne hmn, g5], ?_, g6.put hSl⟩
      rw [at_set g4, show ((j : Int) + 1).toNat = j + 1 by omega, intD_set, mid_step hji hrl]
    · rintro ρ' S4 ⟨o4, rfl, g1, g2, g3⟩
      rw [rangeD_len, show ((i : Int) + 1 - 0).toNat = i + 1 by omega, mid_last] at g2
      ((with_reducible conv => whnf); repeat (first | (rw [natD_len]; with_reducible conv => whnf) | (rw [intD_len]; with_reducible conv => whnf) | (refine Exists.intro _ (And.intro (rfl : _ = some _) ?_); with_reducible conv => whnf) | (refine And.intro (okII _ _) ?_; rw [eqD_ii]; with_reducible conv => whnf) | (refine And.intro (by first | assumption | exact Exists.intro _ (by assumption) | exact ⟨rfl, rfl, by decide, by decide⟩ | exact Nat.le_of_ble_eq_true rfl | exact rfl) ?_; with_reducible conv => whnf) | (rw [isLst_at (by assumption)]; with_reducible conv => whnf) | (refine ifT rfl ?_; with_reducible conv => whnf) | (refine ifF rfl ?_; with_reducible conv => whnf) | (refine it_at (by assumption) ?_; with_reducible conv => whnf)))
      exact ⟨n2, _, _, _, by omega, rfl, g2, g3⟩
  · rintro ρ' S' ⟨m, o2, o3, o4, hm0, rfl, f1, f2⟩
    rw [rangeD_len, show ((n : Int) - 0).toNat = n by omega] at f1
    ((with_reducible conv => whnf); repeat (first | (rw [natD_len]; with_reducible conv => whnf) | (rw [intD_len]; with_reducible conv => whnf) | (refine Exists.intro _ (And.intro (rfl : _ = some _) ?_); with_reducible conv => whnf) | (refine And.intro (okII _ _) ?_; rw [eqD_ii]; with_reducible conv => whnf) | (refine And.intro (by first | assumption | exact Exists.intro _ (by assumption) | exact ⟨rfl, rfl, by decide, by decide⟩ | exact Nat.le_of_ble_eq_true rfl | exact rfl) ?_; with_reducible conv => whnf) | (rw [isLst_at (by assumption)]; with_reducible conv => whnf) | (refine ifT rfl ?_; with_reducible conv => whnf) | (refine ifF rfl ?_; with_reducible conv => whnf) | (refine it_at (by assumption) ?_; with_reducible conv => whnf)))
    exact k _ _ hm0 f1 f2
end K96
set_option linter.all false
set_option maxRecDepth 100000
set_option maxHeartbeats 4000000
namespace K96
open DL
/-- L at m, m - 1, .., l of them -/
def psum (L : List Rat) (m : Nat) : Nat → Rat
  | 0 => 0
  | l + 1 => psum L m l + L.getD (m - l) 0
def FL (k : Nat) : Nat → List Rat
  | 0 => [1]
  | m + 1 => FL k m ++ [psum (FL k m) m (min k (m + 1)) / ((m + 1 : Nat) : Rat)]
theorem FL_len (k : Nat) : ∀ m, (FL k m).length = m + 1
  | 0 => rfl
  | m + 1 => by show (FL k m ++ [_]).length = _; rw [List.length_append, FL_len k m]; rfl
theorem psum_bd {L : List Rat} {m : Nat} (h : ∀ j, 0 ≤ L.getD j 0 ∧ L.getD j 0 ≤ 1) : ∀ l, 0 ≤ psum L m l ∧ psum L m l ≤ (l : Rat)
  | 0 => by show (0 : Rat) ≤ 0 ∧ (0 : Rat) ≤ ((0 : Nat) : Rat); rw [show ((0 : Nat) : Rat) = 0 from rfl]; grind
  | l + 1 => by
    have ih := psum_bd (m := m) h l
    have a := h (m - l)
    have e : ((l + 1 : Nat) : Rat) = (l : Rat) + 1 := by rw [Rat.natCast_add]; rfl
    show 0 ≤ psum L m l + L.getD (m - l) 0 ∧ psum L m l + L.getD (m - l) 0 ≤ _
    rw [e]
    grind
theorem getD_appR {L : List Rat} {x : Rat} (j : Nat) : (L ++ [x]).getD j 0 = if j = L.length then x else L.getD j 0 := by
  rw [List.getD_eq_getElem?_getD, List.getD_eq_getElem?_getD]
  rcases Nat.lt_trichotomy j L.length with h | h | h
  · rw [List.getElem?_append_left h, if_neg (by omega)]
  · subst h
    rw [if_pos rfl, List.getElem?_append_right (Nat.le_refl _), Nat.sub_self]
    rfl
  · rw [List.getElem?_append_right (by omega), if_neg (by omega), List.getElem?_eq_none (by simp; omega), List.getElem?_eq_none (by omega)]
theorem FL_bd (k : Nat) : ∀ m j, 0 ≤ (FL k m).getD j 0 ∧ (FL k m).getD j 0 ≤ 1
  | 0, j => by
    show 0 ≤ ([] ++ [(1 : Rat)]).getD j 0 ∧ ([] ++ [(1 : Rat)]).getD j 0 ≤ 1
    rw [getD_appR]
    split
    · grind
    · show (0 : Rat) ≤ ([] : List Rat).getD j 0 ∧ ([] : List Rat).getD j 0 ≤ 1
      rw [List.getD_eq_getElem?_getD, List.getElem?_nil]
      show (0 : Rat) ≤ 0 ∧ (0 : Rat) ≤ 1
      grind
  | m + 1, j => by
    show 0 ≤ (FL k m ++ [_]).getD j 0 ∧ (FL k m ++ [_]).getD j 0 ≤ 1
    rw [getD_appR]
    split
    · have a := psum_bd (m := m) (FL_bd k m) (min k (m + 1))
      have hk : ((min k (m + 1) : Nat) : Rat) ≤ ((m + 1 : Nat) : Rat) := by exact_mod_cast Nat.min_le_right _ _
      have h1 : (1 : Rat) ≤ ((m + 1 : Nat) : Rat) := by exact_mod_cast Nat.succ_pos m
      generalize ((m + 1 : Nat) : Rat) = d at *
      generalize psum (FL k m) m (min k (m + 1)) = s at *
      have e : s / d * d = s := Rat.div_mul_cancel (by grind)
      constructor
      · false_or_by_contra
        rename_i hc
        have := Rat.mul_lt_mul_of_pos_right (show s / d < 0 by grind) (show 0 < d by grind)
        grind
      · false_or_by_contra
        rename_i hc
        have := Rat.mul_lt_mul_of_pos_right (show 1 < s / d by grind) (show 0 < d by grind)
        grind
    · exact FL_bd k m j
theorem psum_ov {L : List Rat} {m P : Nat} (h : ∀ j, j ≤ m → Ov P (L.getD j 0)) : ∀ l, Ov P (psum L m l)
  | 0 => Ov_int P 0
  | l + 1 => Ov.add (psum_ov h l) (h _ (Nat.sub_le _ _))
theorem fct_dvd {j m : Nat} (h : j ≤ m) : fct j ∣ fct m := by
  induction h with
  | refl => exact Nat.dvd_refl _
  | step _ ih => exact Nat.dvd_trans ih (Nat.dvd_mul_right _ _)
theorem FL_ov (k : Nat) : ∀ m j, j ≤ m → Ov (fct j) ((FL k m).getD j 0)
  | 0, j, h => by
    have : j = 0 := by omega
    subst this
    exact Ov_int 1 1
  | m + 1, j, h => by
    show Ov (fct j) ((FL k m ++ [_]).getD j 0)
    rw [getD_appR, FL_len]
    split
    · rename_i e
      subst e
      exact Ov.over (psum_ov (fun q hq => (FL_ov k m q hq).mono (fct_dvd hq)) _) (by omega)
    · exact FL_ov k m j (by omega)
end K96
set_option linter.all false
set_option maxRecDepth 100000
set_option maxHeartbeats 4000000
namespace K96
open DL
def smS (q : Rat) : Prop := q.den < 2 ^ 900 ∧ q.num.natAbs < 2 ^ 4000
theorem smS.sm {q : Rat} (h : smS q) : DL.sm q := ⟨Nat.lt_of_lt_of_le h.1 (pow_le2 (by decide)), h.2⟩
theorem smS_of {P M : Nat} {q : Rat} (h : Ov P q) (hP : 0 < P) (h1 : -(M : Rat) ≤ q) (h2 : q ≤ (M : Rat)) (hp : P < 2 ^ 900) (hm : M < 2 ^ 3000) : smS q := by
  refine ⟨Nat.lt_of_le_of_lt (Nat.le_of_dvd hP h) hp, (sm_of h hP h1 h2 (Nat.lt_of_lt_of_le hp (pow_le2 (by decide))) ?_).2⟩
  exact Nat.lt_of_lt_of_le (Nat.mul_lt_mul'' hm hp) (by rw [← Nat.pow_add]; exact pow_le2 (by decide))
theorem sm_mn {a b : Rat} (ha : sm a) (hb : sm b) : MulOk a.num b.den := sm_mul (Nat.lt_of_lt_of_le ha.2 (pow_le2 (by decide))) (by rw [Int.natAbs_natCast]; exact Nat.lt_of_lt_of_le hb.1 (pow_le2 (by decide)))
theorem sm_nn {a b : Rat} (ha : sm a) (hb : sm b) : MulOk a.num b.num := sm_mul (Nat.lt_of_lt_of_le ha.2 (pow_le2 (by decide))) (Nat.lt_of_lt_of_le hb.2 (pow_le2 (by decide)))
theorem sm_mm {a b : Rat} (ha : sm a) (hb : sm b) : MulOk a.den b.den := sm_mul (by rw [Int.natAbs_natCast]; exact Nat.lt_of_lt_of_le ha.1 (pow_le2 (by decide))) (by rw [Int.natAbs_natCast]; exact Nat.lt_of_lt_of_le hb.1 (pow_le2 (by decide)))
theorem smS_dd {a b : Rat} (ha : smS a) (hb : smS b) : (a.den : Int) * (b.den : Int) ≠ 0 ∧ ((a.den : Int) * (b.den : Int)).natAbs < 2 ^ 1900 := by
  refine ⟨Int.mul_ne_zero (by have := a.den_nz; omega) (by have := b.den_nz; omega), ?_⟩
  rw [Int.natAbs_mul, Int.natAbs_natCast, Int.natAbs_natCast]
  exact Nat.lt_of_lt_of_le (Nat.mul_lt_mul'' ha.1 hb.1) (by rw [← Nat.pow_add]; exact pow_le2 (by decide))
@[reducible] def sp_s2 (f : Rat → Rat → Rat) : Spc := fun ds S Q => ∃ a b, ds = [qD a, qD b] ∧ smS a ∧ smS b ∧ ∀ S', Sub S S' → Q (qD (f a b)) S'
theorem body_law_plus : Body 2 2 (w_law_plus sp_frac) (sp_s2 (· + ·)) := by
  rintro ds S Q _ ⟨a, b, rfl, ha, hb, k⟩
  unfold w_law_plus
  (simp only [start, List.map_cons, List.map_nil, List.length_cons, List.length_nil, Nat.reduceAdd, Nat.reduceSub, List.replicate_succ, List.replicate_zero, List.cons_append, List.nil_append, Nat.sub_self, Nat.zero_add])
  ((with_reducible conv => whnf); repeat (first | (rw [natD_len]; with_reducible conv => whnf) | (rw [intD_len]; with_reducible conv => whnf) | (refine Exists.intro _ (And.intro (rfl : _ = some _) ?_); with_reducible conv => whnf) | (refine And.intro (okII _ _) ?_; rw [eqD_ii]; with_reducible conv => whnf) | (refine And.intro (by first | assumption | exact Exists.intro _ (by assumption) | exact ⟨rfl, rfl, by decide, by decide⟩ | exact Nat.le_of_ble_eq_true rfl | exact rfl) ?_; with_reducible conv => whnf) | (rw [isLst_at (by assumption)]; with_reducible conv => whnf) | (refine ifT rfl ?_; with_reducible conv => whnf) | (refine ifF rfl ?_; with_reducible conv => whnf) | (refine it_at (by assumption) ?_; with_reducible conv => whnf)))
  refine ⟨sm_mn ha.sm hb.sm, ?_⟩
  ((with_reducible conv => whnf); repeat (first | (rw [natD_len]; with_reducible conv => whnf) | (rw [intD_len]; with_reducible conv => whnf) | (refine Exists.intro _ (And.intro (rfl : _ = some _) ?_); with_reducible conv => whnf) | (refine And.intro (okII _ _) ?_; rw [eqD_ii]; with_reducible conv => whnf) | (refine And.intro (by first | assumption | exact Exists.intro _ (by assumption) | exact ⟨rfl, rfl, by decide, by decide⟩ | exact Nat.le_of_ble_eq_true rfl | exact rfl) ?_; with_reducible conv => whnf) | (rw [isLst_at (by assumption)]; with_reducible conv => whnf) | (refine ifT rfl ?_; with_reducible conv => whnf) | (refine ifF rfl ?_; with_reducible conv => whnf) | (refine it_at (by assumption) ?_; with_reducible conv => whnf)))
  refine ⟨sm_mn hb.sm ha.sm, ?_⟩
  ((with_reducible conv => whnf); repeat (first | (rw [natD_len]; with_reducible conv => whnf) | (rw [intD_len]; with_reducible conv => whnf) | (refine Exists.intro _ (And.intro (rfl : _ = some _) ?_); with_reducible conv => whnf) | (refine And.intro (okII _ _) ?_; rw [eqD_ii]; with_reducible conv => whnf) | (refine And.intro (by first | assumption | exact Exists.intro _ (by assumption) | exact ⟨rfl, rfl, by decide, by decide⟩ | exact Nat.le_of_ble_eq_true rfl | exact rfl) ?_; with_reducible conv => whnf) | (rw [isLst_at (by assumption)]; with_reducible conv => whnf) | (refine ifT rfl ?_; with_reducible conv => whnf) | (refine ifF rfl ?_; with_reducible conv => whnf) | (refine it_at (by assumption) ?_; with_reducible conv => whnf)))
  refine ⟨sm_mm ha.sm hb.sm, ?_⟩
  ((with_reducible conv => whnf); repeat (first | (rw [natD_len]; with_reducible conv => whnf) | (rw [intD_len]; with_reducible conv => whnf) | (refine Exists.intro _ (And.intro (rfl : _ = some _) ?_); with_reducible conv => whnf) | (refine And.intro (okII _ _) ?_; rw [eqD_ii]; with_reducible conv => whnf) | (refine And.intro (by first | assumption | exact Exists.intro _ (by assumption) | exact ⟨rfl, rfl, by decide, by decide⟩ | exact Nat.le_of_ble_eq_true rfl | exact rfl) ?_; with_reducible conv => whnf) | (rw [isLst_at (by assumption)]; with_reducible conv => whnf) | (refine ifT rfl ?_; with_reducible conv => whnf) | (refine ifF rfl ?_; with_reducible conv => whnf) | (refine it_at (by assumption) ?_; with_reducible conv => whnf)))
  obtain ⟨h1, h2⟩ := smS_dd ha hb
  refine ⟨_, _, rfl, h1, h2, fun S' h => ?_⟩
  rw [q_plus]
  exact k S' h
theorem body_law_mul : Body 2 2 (w_law_mul sp_frac) (sp_s2 (· * ·)) := by
  rintro ds S Q _ ⟨a, b, rfl, ha, hb, k⟩
  unfold w_law_mul
  (simp only [start, List.map_cons, List.map_nil, List.length_cons, List.length_nil, Nat.reduceAdd, Nat.reduceSub, List.replicate_succ, List.replicate_zero, List.cons_append, List.nil_append, Nat.sub_self, Nat.zero_add])
  ((with_reducible conv => whnf); repeat (first | (rw [natD_len]; with_reducible conv => whnf) | (rw [intD_len]; with_reducible conv => whnf) | (refine Exists.intro _ (And.intro (rfl : _ = some _) ?_); with_reducible conv => whnf) | (refine And.intro (okII _ _) ?_; rw [eqD_ii]; with_reducible conv => whnf) | (refine And.intro (by first | assumption | exact Exists.intro _ (by assumption) | exact ⟨rfl, rfl, by decide, by decide⟩ | exact Nat.le_of_ble_eq_true rfl | exact rfl) ?_; with_reducible conv => whnf) | (rw [isLst_at (by assumption)]; with_reducible conv => whnf) | (refine ifT rfl ?_; with_reducible conv => whnf) | (refine ifF rfl ?_; with_reducible conv => whnf) | (refine it_at (by assumption) ?_; with_reducible conv => whnf)))
  refine ⟨sm_nn ha.sm hb.sm, ?_⟩
  ((with_reducible conv => whnf); repeat (first | (rw [natD_len]; with_reducible conv => whnf) | (rw [intD_len]; with_reducible conv => whnf) | (refine Exists.intro _ (And.intro (rfl : _ = some _) ?_); with_reducible conv => whnf) | (refine And.intro (okII _ _) ?_; rw [eqD_ii]; with_reducible conv => whnf) | (refine And.intro (by first | assumption | exact Exists.intro _ (by assumption) | exact ⟨rfl, rfl, by decide, by decide⟩ | exact Nat.le_of_ble_eq_true rfl | exact rfl) ?_; with_reducible conv => whnf) | (rw [isLst_at (by assumption)]; with_reducible conv => whnf) | (refine ifT rfl ?_; with_reducible conv => whnf) | (refine ifF rfl ?_; with_reducible conv => whnf) | (refine it_at (by assumption) ?_; with_reducible conv => whnf)))
  refine ⟨sm_mm ha.sm hb.sm, ?_⟩
  ((with_reducible conv => whnf); repeat (first | (rw [natD_len]; with_reducible conv => whnf) | (rw [intD_len]; with_reducible conv => whnf) | (refine Exists.intro _ (And.intro (rfl : _ = some _) ?_); with_reducible conv => whnf) | (refine And.intro (okII _ _) ?_; rw [eqD_ii]; with_reducible conv => whnf) | (refine And.intro (by first | assumption | exact Exists.intro _ (by assumption) | exact ⟨rfl, rfl, by decide, by decide⟩ | exact Nat.le_of_ble_eq_true rfl | exact rfl) ?_; with_reducible conv => whnf) | (rw [isLst_at (by assumption)]; with_reducible conv => whnf) | (refine ifT rfl ?_; with_reducible conv => whnf) | (refine ifF rfl ?_; with_reducible conv => whnf) | (refine it_at (by assumption) ?_; with_reducible conv => whnf)))
  obtain ⟨h1, h2⟩ := smS_dd ha hb
  refine ⟨_, _, rfl, h1, h2, fun S' h => ?_⟩
  rw [q_times]
  exact k S' h
theorem fct_mono {j m : Nat} (h : j ≤ m) : fct j ≤ fct m := Nat.le_of_dvd (fct_pos m) (fct_dvd h)
theorem fct_100 : fct 100 < 2 ^ 900 := by decide +kernel
theorem FL_sm {k m j : Nat} (hj : j ≤ m) (h : j ≤ 100) : smS ((FL k m).getD j 0) := by
  have a := FL_bd k m j
  exact smS_of (M := 1) (FL_ov k m j hj) (fct_pos j) (by show -(1 : Rat) ≤ _; grind) (by show _ ≤ (1 : Rat); grind) (Nat.lt_of_le_of_lt (fct_mono h) fct_100) (Nat.one_lt_pow (by decide) (by decide))
theorem psum_sm {k m l : Nat} (hl : l ≤ 1000) (h : m ≤ 100) : smS (psum (FL k m) m l) := by
  have a := psum_bd (m := m) (FL_bd k m) l
  have b : (0 : Rat) ≤ (l : Rat) := by exact_mod_cast Nat.zero_le _
  refine smS_of (M := l) (psum_ov (fun j hj => (FL_ov k m j hj).mono (fct_dvd hj)) l) (fct_pos m) (by grind) a.2 (Nat.lt_of_le_of_lt (fct_mono h) fct_100) ?_
  exact Nat.lt_of_lt_of_le (show l < 2 ^ 10 by omega) (pow_le2 (by decide))
theorem atZ_map {α : Type} {L : List α} {f : α → D} {j : Nat} {x : α} (h : L[j]? = some x) : atZ (L.map f) (j : Int) = some (f x) := atZ_nat (by rw [List.getElem?_map, h]; rfl)
theorem getD_some {L : List Rat} {j : Nat} (h : j < L.length) : L[j]? = some (L.getD j 0) := by
  rw [List.getD_eq_getElem?_getD, List.getElem?_eq_getElem h]
  rfl
theorem FL_keep {k m j : Nat} (h : j ≤ m) : ∀ n, m ≤ n → (FL k n).getD j 0 = (FL k m).getD j 0 := by
  intro n hn
  induction hn with
  | refl => rfl
  | @step n hmn ih =>
    have hmn : m ≤ n := hmn
    show (FL k n ++ [_]).getD j 0 = _
    rw [getD_appR, FL_len, if_neg (by omega), ih]
theorem qD_inv (m : Nat) : qD (1 / ((m + 1 : Nat) : Rat)) = .tup [.int 1, .int (m + 1 : Nat)] := by
  have e : (1 : Rat) / ((m + 1 : Nat) : Rat) = Rat.divInt 1 ((m + 1 : Nat) : Int) := (divInt_eq _ _).symm
  unfold qD
  rw [e, Rat.num_divInt, Rat.den_divInt, if_neg (by omega), Int.sign_eq_one_of_pos (by omega)]
  have g : Int.gcd ((m + 1 : Nat) : Int) 1 = 1 := by
    show Nat.gcd _ 1 = 1
    exact Nat.gcd_one_right _
  rw [g, Int.natAbs_natCast, Nat.div_one]
  rfl
theorem inv_sm {m : Nat} (h : m ≤ 1000) : smS (1 / ((m + 1 : Nat) : Rat)) := by
  have h1 : (1 : Rat) ≤ ((m + 1 : Nat) : Rat) := by exact_mod_cast Nat.succ_pos m
  have ov : Ov (m + 1) (1 / ((m + 1 : Nat) : Rat)) := by
    have := Ov.over (P := 1) (Ov_int 1 1) (k := m + 1) (by omega)
    rw [Nat.one_mul] at this
    exact this
  have e : 1 / ((m + 1 : Nat) : Rat) * ((m + 1 : Nat) : Rat) = 1 := Rat.div_mul_cancel (by grind)
  have b : 0 ≤ 1 / ((m + 1 : Nat) : Rat) ∧ 1 / ((m + 1 : Nat) : Rat) ≤ 1 := by
    generalize ((m + 1 : Nat) : Rat) = d at *
    constructor
    · false_or_by_contra
      rename_i hc
      have := Rat.mul_lt_mul_of_pos_right (show 1 / d < 0 by grind) (show 0 < d by grind)
      grind
    · false_or_by_contra
      rename_i hc
      have := Rat.mul_lt_mul_of_pos_right (show 1 < 1 / d by grind) (show 0 < d by grind)
      grind
  exact smS_of (M := 1) ov (Nat.succ_pos m) (by show -(1 : Rat) ≤ _; grind) (by show _ ≤ (1 : Rat); grind) (Nat.lt_of_lt_of_le (show m + 1 < 2 ^ 10 by omega) (pow_le2 (by decide))) (Nat.one_lt_pow (by decide) (by decide))
def fQ (k n : Nat) : Rat := (FL k n).getD n 0
@[reducible] def sp_short : Spc := fun ds S Q => ∃ n k : Nat, ds = [.int n, .int k] ∧ n ≤ 100 ∧ k ≤ 1000 ∧ ∀ S', Sub S S' → Q (qD (fQ k n)) S'
theorem body_law_short : Body 6 2 (w_law_short (sp_s2 (· + ·)) (sp_s2 (· * ·))) sp_short := by
  rintro ds S Q _ ⟨n, kk, rfl, hn, hk, k⟩
  unfold w_law_short
  (simp only [start, List.map_cons, List.map_nil, List.length_cons, List.length_nil, Nat.reduceAdd, Nat.reduceSub, List.replicate_succ, List.replicate_zero, List.cons_append, List.nil_append, Nat.sub_self, Nat.zero_add])
  ((with_reducible conv => whnf); repeat (first | (rw [natD_len]; with_reducible conv => whnf) | (rw [intD_len]; with_reducible conv => whnf) | (refine Exists.intro _ (And.intro (rfl : _ = some _) ?_); with_reducible conv => whnf) | (refine And.intro (okII _ _) ?_; rw [eqD_ii]; with_reducible conv => whnf) | (refine And.intro (by first | assumption | exact Exists.intro _ (by assumption) | exact ⟨rfl, rfl, by decide, by decide⟩ | exact Nat.le_of_ble_eq_true rfl | exact rfl) ?_; with_reducible conv => whnf) | (rw [isLst_at (by assumption)]; with_reducible conv => whnf) | (refine ifT rfl ?_; with_reducible conv => whnf) | (refine ifF rfl ?_; with_reducible conv => whnf) | (refine it_at (by assumption) ?_; with_reducible conv => whnf)))
  have e0 := at_push S (.lst [.tup [.int 1, .int 1]])
  have s0 := (Sub.refl S).app [.lst [.tup [.int 1, .int 1]]]
  generalize S ++ [.lst [.tup [.int 1, .int 1]]] = S1 at *
  refine ⟨⟨by decide, by decide⟩, ⟨by omega, by omega⟩, ?_⟩
  refine Loop_mk (fun i ρ S' => ∃ o3 o4 o5, ρ = [some (.int n), some (.int kk), some (.ref S.length), o3, o4, o5] ∧ S'[S.length]? = some (.lst ((FL kk i).map qD)) ∧ Sub S S') ⟨none, none, none, rfl, e0, s0⟩ (by intros; trivial) ?_ ?_
  · rintro i d ρ' S' hi ⟨o3, o4, o5, rfl, f1, f2⟩
    obtain ⟨hi1, rfl⟩ := rangeD_get hi
    ((with_reducible conv => whnf); repeat (first | (rw [natD_len]; with_reducible conv => whnf) | (rw [intD_len]; with_reducible conv => whnf) | (refine Exists.intro _ (And.intro (rfl : _ = some _) ?_); with_reducible conv => whnf) | (refine And.intro (okII _ _) ?_; rw [eqD_ii]; with_reducible conv => whnf) | (refine And.intro (by first | assumption | exact Exists.intro _ (by assumption) | exact ⟨rfl, rfl, by decide, by decide⟩ | exact Nat.le_of_ble_eq_true rfl | exact rfl) ?_; with_reducible conv => whnf) | (rw [isLst_at (by assumption)]; with_reducible conv => whnf) | (refine ifT rfl ?_; with_reducible conv => whnf) | (refine ifF rfl ?_; with_reducible conv => whnf) | (refine it_at (by assumption) ?_; with_reducible conv => whnf)))
    refine ⟨⟨by decide, by decide⟩, ⟨by omega, by omega⟩, ?_⟩
    refine Loop_mk (fun l ρ S' => ∃ o5, ρ = [some (.int n), some (.int kk), some (.ref S.length), some (.int (1 + i)), some (qD (psum (FL kk i) i l)), o5] ∧ S'[S.length]? = some (.lst ((FL kk i).map qD)) ∧ Sub S S') ⟨o5, rfl, f1, f2⟩ (by intros; trivial) ?_ ?_
    · rintro l d ρ' S2 hl ⟨o5, rfl, g1, g2⟩
      obtain ⟨hl1, rfl⟩ := rangeD_get hl
      have hli : l ≤ i := by omega
      ((with_reducible conv => whnf); repeat (first | (rw [natD_len]; with_reducible conv => whnf) | (rw [intD_len]; with_reducible conv => whnf) | (refine Exists.intro _ (And.intro (rfl : _ = some _) ?_); with_reducible conv => whnf) | (refine And.intro (okII _ _) ?_; rw [eqD_ii]; with_reducible conv => whnf) | (refine And.intro (by first | assumption | exact Exists.intro _ (by assumption) | exact ⟨rfl, rfl, by decide, by decide⟩ | exact Nat.le_of_ble_eq_true rfl | exact rfl) ?_; with_reducible conv => whnf) | (rw [isLst_at (by assumption)]; with_reducible conv => whnf) | (refine ifT rfl ?_; with_reducible conv => whnf) | (refine ifF rfl ?_; with_reducible conv => whnf) | (refine it_at (by assumption) ?_; with_reducible conv => whnf)))
      refine ⟨qD ((FL kk i).getD (i - l) 0), ?_, ?_⟩
      · rw [show (1 : Int) + i - (1 + l) = ((i - l : Nat) : Int) by omega]
        exact atZ_map (getD_some (by rw [FL_len]; omega))
      ((with_reducible conv => whnf); repeat (first | (rw [natD_len]; with_reducible conv => whnf) | (rw [intD_len]; with_reducible conv => whnf) | (refine Exists.intro _ (And.intro (rfl : _ = some _) ?_); with_reducible conv => whnf) | (refine And.intro (okII _ _) ?_; rw [eqD_ii]; with_reducible conv => whnf) | (refine And.intro (by first | assumption | exact Exists.intro _ (by assumption) | exact ⟨rfl, rfl, by decide, by decide⟩ | exact Nat.le_of_ble_eq_true rfl | exact rfl) ?_; with_reducible conv => whnf) | (rw [isLst_at (by assumption)]; with_reducible conv => whnf) | (refine ifT rfl ?_; with_reducible conv => whnf) | (refine ifF rfl ?_; with_reducible conv => whnf) | (refine it_at (by assumption) ?_; with_reducible conv => whnf)))
      refine ⟨_, _, rfl, psum_sm (by omega) (by omega), FL_sm (by omega) (by omega), fun S3 h3 => ?_⟩
      exact ⟨_, rfl, h3 _ _ g1, g2.trans h3⟩
    · rintro ρ' S2 ⟨o5, rfl, g1, g2⟩
      rw [rangeD_len, show (min (kk : Int) (1 + i) + 1 - 1).toNat = min kk (i + 1) by omega]
      have hps : smS (psum (FL kk i) i (min kk (i + 1))) := psum_sm (by omega) (by omega)
      ((with_reducible conv => whnf); repeat (first | (rw [natD_len]; with_reducible conv => whnf) | (rw [intD_len]; with_reducible conv => whnf) | (refine Exists.intro _ (And.intro (rfl : _ = some _) ?_); with_reducible conv => whnf) | (refine And.intro (okII _ _) ?_; rw [eqD_ii]; with_reducible conv => whnf) | (refine And.intro (by first | assumption | exact Exists.intro _ (by assumption) | exact ⟨rfl, rfl, by decide, by decide⟩ | exact Nat.le_of_ble_eq_true rfl | exact rfl) ?_; with_reducible conv => whnf) | (rw [isLst_at (by assumption)]; with_reducible conv => whnf) | (refine ifT rfl ?_; with_reducible conv => whnf) | (refine ifF rfl ?_; with_reducible conv => whnf) | (refine it_at (by assumption) ?_; with_reducible conv => whnf)))
      refine ⟨_, 1 / ((i + 1 : Nat) : Rat), by rw [qD_inv, show (1 : Int) + i = ((i + 1 : Nat) : Int) by omega], hps, inv_sm (by omega), fun S3 h3 => ?_⟩
      have g1 := h3 _ _ g1
      ((with_reducible conv => whnf); repeat (first | (rw [natD_len]; with_reducible conv => whnf) | (rw [intD_len]; with_reducible conv => whnf) | (refine Exists.intro _ (And.intro (rfl : _ = some _) ?_); with_reducible conv => whnf) | (refine And.intro (okII _ _) ?_; rw [eqD_ii]; with_reducible conv => whnf) | (refine And.intro (by first | assumption | exact Exists.intro _ (by assumption) | exact ⟨rfl, rfl, by decide, by decide⟩ | exact Nat.le_of_ble_eq_true rfl | exact rfl) ?_; with_reducible conv => whnf) | (rw [isLst_at (by assumption)]; with_reducible conv => whnf) | (refine ifT rfl ?_; with_reducible conv => whnf) | (refine ifF rfl ?_; with_reducible conv => whnf) | (refine it_at (by assumption) ?_; with_reducible conv => whnf)))
      refine ⟨by rw [List.length_map, FL_len]; unfold szL; omega, ?_⟩
      refine ⟨_, _, _, rfl, ?_, (g2.trans h3).put (Nat.le_refl _)⟩
      rw [at_set g1]
      have e : psum (FL kk i) i (min kk (i + 1)) * (1 / ((i + 1 : Nat) : Rat)) = psum (FL kk i) i (min kk (i + 1)) / ((i + 1 : Nat) : Rat) := by grind
      show some (O.lst ((FL kk i).map qD ++ [qD (psum (FL kk i) i (min kk (i + 1)) * (1 / ((i + 1 : Nat) : Rat)))])) = _
      rw [e]
      show _ = some (O.lst ((FL kk i ++ [_]).map qD))
      rw [List.map_append]
      rfl
  · rintro ρ' S' ⟨o3, o4, o5, rfl, f1, f2⟩
    rw [rangeD_len, show ((n : Int) + 1 - 1).toNat = n by omega] at f1
    ((with_reducible conv => whnf); repeat (first | (rw [natD_len]; with_reducible conv => whnf) | (rw [intD_len]; with_reducible conv => whnf) | (refine Exists.intro _ (And.intro (rfl : _ = some _) ?_); with_reducible conv => whnf) | (refine And.intro (okII _ _) ?_; rw [eqD_ii]; with_reducible conv => whnf) | (refine And.intro (by first | assumption | exact Exists.intro _ (by assumption) | exact ⟨rfl, rfl, by decide, by decide⟩ | exact Nat.le_of_ble_eq_true rfl | exact rfl) ?_; with_reducible conv => whnf) | (rw [isLst_at (by assumption)]; with_reducible conv => whnf) | (refine ifT rfl ?_; with_reducible conv => whnf) | (refine ifF rfl ?_; with_reducible conv => whnf) | (refine it_at (by assumption) ?_; with_reducible conv => whnf)))
    exact ⟨_, atZ_map (getD_some (by rw [FL_len]; omega)), k _ f2⟩
end K96
set_option linter.all false
set_option maxRecDepth 100000
set_option maxHeartbeats 4000000
namespace K96
open DL
theorem fct_R (n : Nat) : ((fct (n + 1) : Nat) : Rat) = (fct n : Rat) * ((n + 1 : Nat) : Rat) := by
  show ((fct n * (n + 1) : Nat) : Rat) = _
  rw [Rat.natCast_mul]
/-- the counts told over the orders -/
def Cnt (k m : Nat) (cs : List Int) : Prop := cs.length = m + 1 ∧ ∀ j, j ≤ m → ((cs.getD j 0 : Int) : Rat) = (FL k m).getD j 0 * (fct j : Rat)
theorem Cnt.small {k m : Nat} {cs : List Int} (h : Cnt k m cs) {j : Nat} (hj : j ≤ m) (h1 : j ≤ 100) : (cs.getD j 0).natAbs < 2 ^ 900 := by
  have a := FL_bd k m j
  have e := h.2 j hj
  have f0 : (0 : Rat) ≤ (fct j : Rat) := by exact_mod_cast Nat.zero_le _
  have b1 := Rat.mul_le_mul_of_nonneg_right a.2 f0
  have b0 := Rat.mul_nonneg a.1 f0
  rw [← e] at b1 b0
  have c0 : (0 : Int) ≤ cs.getD j 0 := Rat.intCast_le_intCast.mp b0
  have c1 : cs.getD j 0 ≤ (fct j : Int) := Rat.intCast_le_intCast.mp (show _ ≤ ((fct j : Nat) : Rat) by grind)
  have := Nat.lt_of_le_of_lt (fct_mono h1) fct_100
  omega
theorem Cnt.push {k m : Nat} {cs : List Int} {t : Int} (h : Cnt k m cs) (ht : (t : Rat) = psum (FL k m) m (min k (m + 1)) * (fct m : Rat)) : Cnt k (m + 1) (cs ++ [t]) := by
  refine ⟨by rw [List.length_append, h.1]; rfl, fun j hj => ?_⟩
  have hg : (cs ++ [t]).getD j 0 = if j = m + 1 then t else cs.getD j 0 := by
    rw [List.getD_eq_getElem?_getD, List.getD_eq_getElem?_getD]
    by_cases c : j = m + 1
    · subst c
      rw [if_pos rfl, List.getElem?_append_right (by rw [h.1]; omega), h.1, Nat.sub_self]
      rfl
    · rw [if_neg c, List.getElem?_append_left (by rw [h.1]; omega)]
  rw [hg]
  show _ = (FL k m ++ [_]).getD j 0 * _
  rw [getD_appR, FL_len]
  by_cases c : j = m + 1
  · subst c
    rw [if_pos rfl, if_pos rfl, fct_R, ht]
    have h1 : (1 : Rat) ≤ ((m + 1 : Nat) : Rat) := by exact_mod_cast Nat.succ_pos m
    generalize ((m + 1 : Nat) : Rat) = d at *
    grind
  · rw [if_neg c, if_neg c]
    exact h.2 j (by omega)
theorem exact_div {c : Int} {a b : Nat} (h : b ∣ a) (hb : 0 < b) : ((((c * (a : Int)).fdiv (b : Int) : Int)) : Rat) * (b : Rat) = (c : Rat) * (a : Rat) := by
  obtain ⟨q, rfl⟩ := h
  have e : (c * ((b * q : Nat) : Int)).fdiv (b : Int) = c * (q : Int) := by
    rw [show c * ((b * q : Nat) : Int) = (b : Int) * (c * (q : Int)) by rw [Int.natCast_mul, Int.mul_left_comm]]
    exact Int.mul_fdiv_cancel_left _ (by omega)
  rw [e, Rat.intCast_mul, Rat.natCast_mul]
  show (c : Rat) * (q : Rat) * (b : Rat) = (c : Rat) * ((b : Rat) * (q : Rat))
  grind
theorem body_longest_at_most : Body 6 2 (w_longest_at_most sp_orders sp_ratio) sp_short := by
  rintro ds S Q _ ⟨n, kk, rfl, hn, hk, k⟩
  unfold w_longest_at_most
  (simp only [start, List.map_cons, List.map_nil, List.length_cons, List.length_nil, Nat.reduceAdd, Nat.reduceSub, List.replicate_succ, List.replicate_zero, List.cons_append, List.nil_append, Nat.sub_self, Nat.zero_add])
  ((with_reducible conv => whnf); repeat (first | (rw [natD_len]; with_reducible conv => whnf) | (rw [intD_len]; with_reducible conv => whnf) | (refine Exists.intro _ (And.intro (rfl : _ = some _) ?_); with_reducible conv => whnf) | (refine And.intro (okII _ _) ?_; rw [eqD_ii]; with_reducible conv => whnf) | (refine And.intro (by first | assumption | exact Exists.intro _ (by assumption) | exact ⟨rfl, rfl, by decide, by decide⟩ | exact Nat.le_of_ble_eq_true rfl | exact rfl) ?_; with_reducible conv => whnf) | (rw [isLst_at (by assumption)]; with_reducible conv => whnf) | (refine ifT rfl ?_; with_reducible conv => whnf) | (refine ifF rfl ?_; with_reducible conv => whnf) | (refine it_at (by assumption) ?_; with_reducible conv => whnf)))
  have e0 := at_push S (.lst [.int 1])
  have s0 := (Sub.refl S).app [.lst [.int 1]]
  generalize S ++ [.lst [.int 1]] = S1 at *
  refine ⟨⟨by decide, by decide⟩, ⟨by omega, by omega⟩, ?_⟩
  have c0 : Cnt kk 0 [1] := ⟨rfl, fun j hj => by
    have : j = 0 := by omega
    subst this
    show ((1 : Int) : Rat) = (1 : Rat) * ((1 : Nat) : Rat)
    rw [show ((1 : Nat) : Rat) = 1 from rfl, show ((1 : Int) : Rat) = 1 from rfl]
    grind⟩
  refine Loop_mk (fun i ρ S' => ∃ o3 o4 o5 cs, ρ = [some (.int n), some (.int kk), some (.ref S.length), o3, o4, o5] ∧ S'[S.length]? = some (.lst (intD cs)) ∧ Cnt kk i cs ∧ Sub S S') ⟨none, none, none, [1], rfl, e0, c0, s0⟩ (by intros; trivial) ?_ ?_
  · rintro i d ρ' S' hi ⟨o3, o4, o5, cs, rfl, f1, hc, f2⟩
    obtain ⟨hi1, rfl⟩ := rangeD_get hi
    ((with_reducible conv => whnf); repeat (first | (rw [natD_len]; with_reducible conv => whnf) | (rw [intD_len]; with_reducible conv => whnf) | (refine Exists.intro _ (And.intro (rfl : _ = some _) ?_); with_reducible conv => whnf) | (refine And.intro (okII _ _) ?_; rw [eqD_ii]; with_reducible conv => whnf) | (refine And.intro (by first | assumption | exact Exists.intro _ (by assumption) | exact ⟨rfl, rfl, by decide, by decide⟩ | exact Nat.le_of_ble_eq_true rfl | exact rfl) ?_; with_reducible conv => whnf) | (rw [isLst_at (by assumption)]; with_reducible conv => whnf) | (refine ifT rfl ?_; with_reducible conv => whnf) | (refine ifF rfl ?_; with_reducible conv => whnf) | (refine it_at (by assumption) ?_; with_reducible conv => whnf)))
    refine ⟨⟨by decide, by decide⟩, ⟨by omega, by omega⟩, ?_⟩
    refine Loop_mk (fun l ρ S' => ∃ o5 tot, ρ = [some (.int n), some (.int kk), some (.ref S.length), some (.int (1 + i)), some (.int tot), o5] ∧ S'[S.length]? = some (.lst (intD cs)) ∧ (tot : Rat) = psum (FL kk i) i l * (fct i : Rat) ∧ Sub S S') ⟨o5, 0, rfl, f1, by show ((0 : Int) : Rat) = 0 * _; rw [show ((0 : Int) : Rat) = 0 from rfl]; grind, f2⟩ (by intros; trivial) ?_ ?_
    · rintro l d ρ' S2 hl ⟨o5, tot, rfl, g1, ht, g2⟩
      obtain ⟨hl1, rfl⟩ := rangeD_get hl
      have hli : l ≤ i := by omega
      ((with_reducible conv => whnf); repeat (first | (rw [natD_len]; with_reducible conv => whnf) | (rw [intD_len]; with_reducible conv => whnf) | (refine Exists.intro _ (And.intro (rfl : _ = some _) ?_); with_reducible conv => whnf) | (refine And.intro (okII _ _) ?_; rw [eqD_ii]; with_reducible conv => whnf) | (refine And.intro (by first | assumption | exact Exists.intro _ (by assumption) | exact ⟨rfl, rfl, by decide, by decide⟩ | exact Nat.le_of_ble_eq_true rfl | exact rfl) ?_; with_reducible conv => whnf) | (rw [isLst_at (by assumption)]; with_reducible conv => whnf) | (refine ifT rfl ?_; with_reducible conv => whnf) | (refine ifF rfl ?_; with_reducible conv => whnf) | (refine it_at (by assumption) ?_; with_reducible conv => whnf)))
      have hsm := hc.small (j := i - l) (by omega) (by omega)
      have hfi := Nat.lt_of_le_of_lt (fct_mono (show i ≤ 100 by omega)) fct_100
      refine ⟨.int (cs.getD (i - l) 0), ?_, ?_⟩
      · rw [show (1 : Int) + i - (1 + l) = ((i - l : Nat) : Int) by omega]
        exact atZ_intN (by rw [hc.1]; omega)
      ((with_reducible conv => whnf); repeat (first | (rw [natD_len]; with_reducible conv => whnf) | (rw [intD_len]; with_reducible conv => whnf) | (refine Exists.intro _ (And.intro (rfl : _ = some _) ?_); with_reducible conv => whnf) | (refine And.intro (okII _ _) ?_; rw [eqD_ii]; with_reducible conv => whnf) | (refine And.intro (by first | assumption | exact Exists.intro _ (by assumption) | exact ⟨rfl, rfl, by decide, by decide⟩ | exact Nat.le_of_ble_eq_true rfl | exact rfl) ?_; with_reducible conv => whnf) | (rw [isLst_at (by assumption)]; with_reducible conv => whnf) | (refine ifT rfl ?_; with_reducible conv => whnf) | (refine ifF rfl ?_; with_reducible conv => whnf) | (refine it_at (by assumption) ?_; with_reducible conv => whnf)))
      rw [show (1 : Int) + i - 1 = (i : Int) by omega]
      refine ⟨i, rfl, by omega, fun S3 h3 => ?_⟩
      ((with_reducible conv => whnf); repeat (first | (rw [natD_len]; with_reducible conv => whnf) | (rw [intD_len]; with_reducible conv => whnf) | (refine Exists.intro _ (And.intro (rfl : _ = some _) ?_); with_reducible conv => whnf) | (refine And.intro (okII _ _) ?_; rw [eqD_ii]; with_reducible conv => whnf) | (refine And.intro (by first | assumption | exact Exists.intro _ (by assumption) | exact ⟨rfl, rfl, by decide, by decide⟩ | exact Nat.le_of_ble_eq_true rfl | exact rfl) ?_; with_reducible conv => whnf) | (rw [isLst_at (by assumption)]; with_reducible conv => whnf) | (refine ifT rfl ?_; with_reducible conv => whnf) | (refine ifF rfl ?_; with_reducible conv => whnf) | (refine it_at (by assumption) ?_; with_reducible conv => whnf)))
      refine ⟨sm_mul (Nat.lt_of_lt_of_le hsm (pow_le2 (by decide))) (by rw [Int.natAbs_natCast]; exact Nat.lt_of_lt_of_le hfi (pow_le2 (by decide))), ?_⟩
      ((with_reducible conv => whnf); repeat (first | (rw [natD_len]; with_reducible conv => whnf) | (rw [intD_len]; with_reducible conv => whnf) | (refine Exists.intro _ (And.intro (rfl : _ = some _) ?_); with_reducible conv => whnf) | (refine And.intro (okII _ _) ?_; rw [eqD_ii]; with_reducible conv => whnf) | (refine And.intro (by first | assumption | exact Exists.intro _ (by assumption) | exact ⟨rfl, rfl, by decide, by decide⟩ | exact Nat.le_of_ble_eq_true rfl | exact rfl) ?_; with_reducible conv => whnf) | (rw [isLst_at (by assumption)]; with_reducible conv => whnf) | (refine ifT rfl ?_; with_reducible conv => whnf) | (refine ifF rfl ?_; with_reducible conv => whnf) | (refine it_at (by assumption) ?_; with_reducible conv => whnf)))
      rw [show (1 : Int) + i - (1 + l) = ((i - l : Nat) : Int) by omega]
      refine ⟨i - l, rfl, by omega, fun S4 h4 => ?_⟩
      ((with_reducible conv => whnf); repeat (first | (rw [natD_len]; with_reducible conv => whnf) | (rw [intD_len]; with_reducible conv => whnf) | (refine Exists.intro _ (And.intro (rfl : _ = some _) ?_); with_reducible conv => whnf) | (refine And.intro (okII _ _) ?_; rw [eqD_ii]; with_reducible conv => whnf) | (refine And.intro (by first | assumption | exact Exists.intro _ (by assumption) | exact ⟨rfl, rfl, by decide, by decide⟩ | exact Nat.le_of_ble_eq_true rfl | exact rfl) ?_; with_reducible conv => whnf) | (rw [isLst_at (by assumption)]; with_reducible conv => whnf) | (refine ifT rfl ?_; with_reducible conv => whnf) | (refine ifF rfl ?_; with_reducible conv => whnf) | (refine it_at (by assumption) ?_; with_reducible conv => whnf)))
      have hp := fct_pos (i - l)
      refine ⟨⟨by omega, by rw [Int.natAbs_natCast]; exact Nat.lt_of_le_of_lt (fct_mono (Nat.sub_le i l)) (Nat.lt_of_lt_of_le hfi (pow_le2 (by decide)))⟩, ?_⟩
      refine ⟨_, _, rfl, h4 _ _ (h3 _ _ g1), ?_, (g2.trans h3).trans h4⟩
      have ed := exact_div (c := cs.getD (i - l) 0) (fct_dvd (Nat.sub_le i l)) hp
      have ec := hc.2 (i - l) (by omega)
      rw [Rat.intCast_add, ht]
      show _ = (psum (FL kk i) i l + (FL kk i).getD (i - l) 0) * _
      have f1' : (1 : Rat) ≤ (fct (i - l) : Rat) := by exact_mod_cast hp
      generalize (((cs.getD (i - l) 0 * (fct i : Nat)).fdiv ((fct (i - l) : Nat) : Int) : Int) : Rat) = z at *
      rw [ec] at ed
      generalize (fct (i - l) : Rat) = u at *
      generalize (fct i : Rat) = w at *
      generalize (FL kk i).getD (i - l) 0 = v at *
      have : z = v * w := by
        have h5 : u ≠ 0 := by grind
        grind
      grind
    · rintro ρ' S2 ⟨o5, tot, rfl, g1, ht, g2⟩
      rw [rangeD_len, show (min (kk : Int) (1 + i) + 1 - 1).toNat = min kk (i + 1) by omega] at ht
      ((with_reducible conv => whnf); repeat (first | (rw [natD_len]; with_reducible conv => whnf) | (rw [intD_len]; with_reducible conv => whnf) | (refine Exists.intro _ (And.intro (rfl : _ = some _) ?_); with_reducible conv => whnf) | (refine And.intro (okII _ _) ?_; rw [eqD_ii]; with_reducible conv => whnf) | (refine And.intro (by first | assumption | exact Exists.intro _ (by assumption) | exact ⟨rfl, rfl, by decide, by decide⟩ | exact Nat.le_of_ble_eq_true rfl | exact rfl) ?_; with_reducible conv => whnf) | (rw [isLst_at (by assumption)]; with_reducible conv => whnf) | (refine ifT rfl ?_; with_reducible conv => whnf) | (refine ifF rfl ?_; with_reducible conv => whnf) | (refine it_at (by assumption) ?_; with_reducible conv => whnf)))
      refine ⟨by rw [hc.1]; unfold szL; omega, ?_⟩
      refine ⟨_, _, _, cs ++ [tot], rfl, ?_, hc.push ht, g2.put (Nat.le_refl _)⟩
      rw [at_set g1, intD_app1]
  · rintro ρ' S' ⟨o3, o4, o5, cs, rfl, f1, hc, f2⟩
    rw [rangeD_len, show ((n : Int) + 1 - 1).toNat = n by omega] at hc
    ((with_reducible conv => whnf); repeat (first | (rw [natD_len]; with_reducible conv => whnf) | (rw [intD_len]; with_reducible conv => whnf) | (refine Exists.intro _ (And.intro (rfl : _ = some _) ?_); with_reducible conv => whnf) | (refine And.intro (okII _ _) ?_; rw [eqD_ii]; with_reducible conv => whnf) | (refine And.intro (by first | assumption | exact Exists.intro _ (by assumption) | exact ⟨rfl, rfl, by decide, by decide⟩ | exact Nat.le_of_ble_eq_true rfl | exact rfl) ?_; with_reducible conv => whnf) | (rw [isLst_at (by assumption)]; with_reducible conv => whnf) | (refine ifT rfl ?_; with_reducible conv => whnf) | (refine ifF rfl ?_; with_reducible conv => whnf) | (refine it_at (by assumption) ?_; with_reducible conv => whnf)))
    refine ⟨_, atZ_intN (by rw [hc.1]; omega), ?_⟩
    ((with_reducible conv => whnf); repeat (first | (rw [natD_len]; with_reducible conv => whnf) | (rw [intD_len]; with_reducible conv => whnf) | (refine Exists.intro _ (And.intro (rfl : _ = some _) ?_); with_reducible conv => whnf) | (refine And.intro (okII _ _) ?_; rw [eqD_ii]; with_reducible conv => whnf) | (refine And.intro (by first | assumption | exact Exists.intro _ (by assumption) | exact ⟨rfl, rfl, by decide, by decide⟩ | exact Nat.le_of_ble_eq_true rfl | exact rfl) ?_; with_reducible conv => whnf) | (rw [isLst_at (by assumption)]; with_reducible conv => whnf) | (refine ifT rfl ?_; with_reducible conv => whnf) | (refine ifF rfl ?_; with_reducible conv => whnf) | (refine it_at (by assumption) ?_; with_reducible conv => whnf)))
    refine ⟨n, rfl, by omega, fun S3 h3 => ?_⟩
    ((with_reducible conv => whnf); repeat (first | (rw [natD_len]; with_reducible conv => whnf) | (rw [intD_len]; with_reducible conv => whnf) | (refine Exists.intro _ (And.intro (rfl : _ = some _) ?_); with_reducible conv => whnf) | (refine And.intro (okII _ _) ?_; rw [eqD_ii]; with_reducible conv => whnf) | (refine And.intro (by first | assumption | exact Exists.intro _ (by assumption) | exact ⟨rfl, rfl, by decide, by decide⟩ | exact Nat.le_of_ble_eq_true rfl | exact rfl) ?_; with_reducible conv => whnf) | (rw [isLst_at (by assumption)]; with_reducible conv => whnf) | (refine ifT rfl ?_; with_reducible conv => whnf) | (refine ifF rfl ?_; with_reducible conv => whnf) | (refine it_at (by assumption) ?_; with_reducible conv => whnf)))
    have hp := fct_pos n
    refine ⟨_, _, rfl, by omega, by rw [Int.natAbs_natCast]; exact Nat.lt_of_le_of_lt (fct_mono hn) (Nat.lt_of_lt_of_le fct_100 (pow_le2 (by decide))), fun S4 h4 => ?_⟩
    have e : Rat.divInt (cs.getD n 0) ((fct n : Nat) : Int) = fQ kk n := by
      rw [divInt_eq, hc.2 n (Nat.le_refl _)]
      show (FL kk n).getD n 0 * (fct n : Rat) / (fct n : Rat) = (FL kk n).getD n 0
      have f1' : (1 : Rat) ≤ (fct n : Rat) := by exact_mod_cast hp
      have h5 : (fct n : Rat) ≠ 0 := by grind
      grind
    rw [e]
    exact k _ ((f2.trans h3).trans h4)
end K96
set_option linter.all false
set_option maxRecDepth 100000
set_option maxHeartbeats 4000000
namespace K96
open DL
def sg : Nat → Int
  | 0 => 1
  | n + 1 => -sg n
theorem sg_mod : ∀ n, sg n = if n % 2 = 0 then 1 else -1
  | 0 => rfl
  | n + 1 => by
    show -sg n = _
    rw [sg_mod n]
    split <;> split <;> omega
theorem der_sg (n : Nat) : der (n + 1) = der n * ((n + 1 : Nat) : Int) + sg (n + 1) := by rw [der_next, sg_mod]
def sgs (n : Nat) : Nat → Int
  | 0 => 0
  | j + 1 => sgs n j + (chs (n + 1) j : Nat) * sg (n + 1 - j)
theorem sgs_eq (n : Nat) : ∀ j, j ≤ n → sgs n (j + 1) = (chs n j : Nat) * sg (n + 1 - j)
  | 0, _ => by
    show (0 : Int) + (chs (n + 1) 0 : Nat) * sg (n + 1 - 0) = _
    rw [chs_0, chs_0, Int.zero_add]
  | j + 1, h => by
    have ih := sgs_eq n j (by omega)
    show sgs n (j + 1) + (chs (n + 1) (j + 1) : Nat) * sg (n + 1 - (j + 1)) = _
    rw [ih]
    have e1 : sg (n + 1 - j) = -sg (n + 1 - (j + 1)) := by
      rw [show n + 1 - j = (n + 1 - (j + 1)) + 1 by omega]
      rfl
    have e2 : ((chs (n + 1) (j + 1) : Nat) : Int) = (chs n j : Nat) + (chs n (j + 1) : Nat) := by
      show ((chs n j + chs n (j + 1) : Nat) : Int) = _
      omega
    rw [e1, e2]
    grind
theorem chs_nn : ∀ n, chs n n = 1
  | 0 => rfl
  | n + 1 => by
    show chs n n + chs n (n + 1) = 1
    rw [chs_nn n, chs_big (show n < n + 1 by omega)]
def dsum (m : Nat) : Nat → Int
  | 0 => 0
  | j + 1 => dsum m j + (chs m j : Nat) * der (m - j)
theorem chs_mul {m i : Nat} (h : i ≤ m) : chs (m + 1) i * (m + 1 - i) = (m + 1) * chs m i := by
  have h1 := chs_b (n := m + 1) (k := i) (by omega)
  have h2 := chs_a m i
  rw [← h1, ← h2, Nat.mul_comm]
theorem dsum_step (m : Nat) : ∀ j, j ≤ m + 1 → dsum (m + 1) j = ((m + 1 : Nat) : Int) * dsum m j + sgs m j
  | 0, _ => by show (0 : Int) = _ * 0 + 0; omega
  | j + 1, h => by
    have ih := dsum_step m j (by omega)
    show dsum (m + 1) j + (chs (m + 1) j : Nat) * der (m + 1 - j) = ((m + 1 : Nat) : Int) * (dsum m j + (chs m j : Nat) * der (m - j)) + (sgs m j + (chs (m + 1) j : Nat) * sg (m + 1 - j))
    have e : m + 1 - j = (m - j) + 1 := by omega
    have hm := chs_mul (m := m) (i := j) (by omega)
    rw [e] at hm
    have hm' : ((chs (m + 1) j : Nat) : Int) * ((m - j + 1 : Nat) : Int) = ((m + 1 : Nat) : Int) * ((chs m j : Nat) : Int) := by exact_mod_cast hm
    rw [ih, e, der_sg]
    generalize ((chs (m + 1) j : Nat) : Int) = a at *
    generalize ((m - j + 1 : Nat) : Int) = b at *
    generalize ((chs m j : Nat) : Int) = c at *
    generalize der (m - j) = d at *
    grind
theorem dsum_all : ∀ m, dsum m (m + 1) = (fct m : Nat)
  | 0 => rfl
  | m + 1 => by
    have h1 := dsum_step m (m + 1) (Nat.le_refl _)
    have h2 := sgs_eq m m (Nat.le_refl _)
    have ih := dsum_all m
    show dsum (m + 1) (m + 1) + (chs (m + 1) (m + 1) : Nat) * der (m + 1 - (m + 1)) = ((fct m * (m + 1) : Nat) : Int)
    rw [h1, h2, ih, chs_nn, chs_nn, Nat.sub_self, show m + 1 - m = 1 by omega, Int.natCast_mul]
    show ((m + 1 : Nat) : Int) * (fct m : Nat) + ((1 : Nat) : Int) * (-1) + ((1 : Nat) : Int) * 1 = _
    rw [Int.mul_comm]
    omega
/-- without the first one -/
theorem dsum_list (m : Nat) : ∀ j, ((List.range j).map fun i => ((chs m (1 + i) : Nat) : Int) * der (m - (1 + i))).sum = dsum m (j + 1) - der m
  | 0 => by
    show (0 : Int) = 0 + (chs m 0 : Nat) * der (m - 0) - der m
    rw [chs_0, Nat.sub_zero]
    omega
  | j + 1 => by
    rw [List.range_succ, List.map_append, List.sum_append, dsum_list m j]
    show _ + ((((chs m (1 + j) : Nat) : Int) * der (m - (1 + j))) + 0) = dsum m (j + 1) + (chs m (j + 1) : Nat) * der (m - (j + 1)) - der m
    rw [show 1 + j = j + 1 by omega]
    omega
theorem wrong_eq (m : Nat) : ((fct m : Nat) : Int) - ((List.range m).map fun i => ((chs m (1 + i) : Nat) : Int) * der (m - (1 + i))).sum = der m := by
  rw [dsum_list, dsum_all]
  omega
end K96
set_option linter.all false
set_option maxRecDepth 100000
set_option maxHeartbeats 4000000
namespace K96
open DL
@[reducible] def sp_wrongs : Spc := fun ds S Q => ∃ n : Nat, ds = [.int n] ∧ n ≤ 60 ∧ ∀ m S', S.length ≤ m → S'[m]? = some (.lst (intD ((List.range (n + 1)).map der))) → Sub S S' → Q (.ref m) S'
theorem range_map_getD {f : Nat → Int} {n i : Nat} (h : i < n) : ((List.range n).map f).getD i 0 = f i := by
  rw [List.getD_eq_getElem?_getD, List.getElem?_map, List.getElem?_range h]
  rfl
theorem body_law_wrong : Body 4 1 (w_law_wrong sp_orders sp_ways) sp_wrongs := by
  rintro ds S Q _ ⟨n, rfl, hn, k⟩
  unfold w_law_wrong
  (simp only [start, List.map_cons, List.map_nil, List.length_cons, List.length_nil, Nat.reduceAdd, Nat.reduceSub, List.replicate_succ, List.replicate_zero, List.cons_append, List.nil_append, Nat.sub_self, Nat.zero_add])
  ((with_reducible conv => whnf); repeat (first | (rw [natD_len]; with_reducible conv => whnf) | (rw [intD_len]; with_reducible conv => whnf) | (refine Exists.intro _ (And.intro (rfl : _ = some _) ?_); with_reducible conv => whnf) | (refine And.intro (okII _ _) ?_; rw [eqD_ii]; with_reducible conv => whnf) | (refine And.intro (by first | assumption | exact Exists.intro _ (by assumption) | exact ⟨rfl, rfl, by decide, by decide⟩ | exact Nat.le_of_ble_eq_true rfl | exact rfl) ?_; with_reducible conv => whnf) | (rw [isLst_at (by assumption)]; with_reducible conv => whnf) | (refine ifT rfl ?_; with_reducible conv => whnf) | (refine ifF rfl ?_; with_reducible conv => whnf) | (refine it_at (by assumption) ?_; with_reducible conv => whnf)))
  have e0 := at_push S (.lst [])
  have s0 := (Sub.refl S).app [.lst []]
  generalize S ++ [.lst []] = S1 at *
  refine ⟨⟨by omega, by omega⟩, ?_⟩
  refine Loop_mk (fun i ρ S' => ∃ o2, ρ = [some (.int n), some (.ref S.length), o2, none] ∧ S'[S.length]? = some (.lst (intD ((List.range i).map der))) ∧ Sub S S') ⟨none, rfl, e0, s0⟩ (by intros; trivial) ?_ ?_
  · rintro i d ρ' S' hi ⟨o2, rfl, f1, f2⟩
    obtain ⟨hi1, rfl⟩ := rangeD_get hi
    rw [show (0 : Int) + i = i by omega]
    ((with_reducible conv => whnf); repeat (first | (rw [natD_len]; with_reducible conv => whnf) | (rw [intD_len]; with_reducible conv => whnf) | (refine Exists.intro _ (And.intro (rfl : _ = some _) ?_); with_reducible conv => whnf) | (refine And.intro (okII _ _) ?_; rw [eqD_ii]; with_reducible conv => whnf) | (refine And.intro (by first | assumption | exact Exists.intro _ (by assumption) | exact ⟨rfl, rfl, by decide, by decide⟩ | exact Nat.le_of_ble_eq_true rfl | exact rfl) ?_; with_reducible conv => whnf) | (rw [isLst_at (by assumption)]; with_reducible conv => whnf) | (refine ifT rfl ?_; with_reducible conv => whnf) | (refine ifF rfl ?_; with_reducible conv => whnf) | (refine it_at (by assumption) ?_; with_reducible conv => whnf)))
    refine ⟨i, rfl, by omega, fun S2 h2 => ?_⟩
    have f1 := h2 _ _ f1
    have f2 := f2.trans h2
    ((with_reducible conv => whnf); repeat (first | (rw [natD_len]; with_reducible conv => whnf) | (rw [intD_len]; with_reducible conv => whnf) | (refine Exists.intro _ (And.intro (rfl : _ = some _) ?_); with_reducible conv => whnf) | (refine And.intro (okII _ _) ?_; rw [eqD_ii]; with_reducible conv => whnf) | (refine And.intro (by first | assumption | exact Exists.intro _ (by assumption) | exact ⟨rfl, rfl, by decide, by decide⟩ | exact Nat.le_of_ble_eq_true rfl | exact rfl) ?_; with_reducible conv => whnf) | (rw [isLst_at (by assumption)]; with_reducible conv => whnf) | (refine ifT rfl ?_; with_reducible conv => whnf) | (refine ifF rfl ?_; with_reducible conv => whnf) | (refine it_at (by assumption) ?_; with_reducible conv => whnf)))
    refine ⟨⟨by decide, by decide⟩, ⟨by omega, by omega⟩, ?_⟩
    unfold rangeD
    rw [show ((i : Int) + 1 - 1).toNat = i by omega]
    refine Lc_lm (xs := List.range i) (e := fun t : Nat => D.int (1 + (t : Int))) (fun t => .int (((chs i (1 + t) : Nat) : Int) * der (i - (1 + t)))) (by rw [List.length_range]; unfold szL; omega) (by intros; trivial) (fun t S3 R ht h3 hR => ?_) fun S3 h3 => ?_
    · have hti := List.mem_range.mp ht
      ((with_reducible conv => whnf); repeat (first | (rw [natD_len]; with_reducible conv => whnf) | (rw [intD_len]; with_reducible conv => whnf) | (refine Exists.intro _ (And.intro (rfl : _ = some _) ?_); with_reducible conv => whnf) | (refine And.intro (okII _ _) ?_; rw [eqD_ii]; with_reducible conv => whnf) | (refine And.intro (by first | assumption | exact Exists.intro _ (by assumption) | exact ⟨rfl, rfl, by decide, by decide⟩ | exact Nat.le_of_ble_eq_true rfl | exact rfl) ?_; with_reducible conv => whnf) | (rw [isLst_at (by assumption)]; with_reducible conv => whnf) | (refine ifT rfl ?_; with_reducible conv => whnf) | (refine ifF rfl ?_; with_reducible conv => whnf) | (refine it_at (by assumption) ?_; with_reducible conv => whnf)))
      refine ⟨i, 1 + t, rfl, by omega, by omega, by omega, fun S4 h4 => ?_⟩
      have f1 := h4 _ _ (h3 _ _ f1)
      rw [show (1 : Int) + (t : Int) = ((1 + t : Nat) : Int) by omega, waysZ_yes (by omega)]
      ((with_reducible conv => whnf); repeat (first | (rw [natD_len]; with_reducible conv => whnf) | (rw [intD_len]; with_reducible conv => whnf) | (refine Exists.intro _ (And.intro (rfl : _ = some _) ?_); with_reducible conv => whnf) | (refine And.intro (okII _ _) ?_; rw [eqD_ii]; with_reducible conv => whnf) | (refine And.intro (by first | assumption | exact Exists.intro _ (by assumption) | exact ⟨rfl, rfl, by decide, by decide⟩ | exact Nat.le_of_ble_eq_true rfl | exact rfl) ?_; with_reducible conv => whnf) | (rw [isLst_at (by assumption)]; with_reducible conv => whnf) | (refine ifT rfl ?_; with_reducible conv => whnf) | (refine ifF rfl ?_; with_reducible conv => whnf) | (refine it_at (by assumption) ?_; with_reducible conv => whnf)))
      refine ⟨.int (der (i - (1 + t))), ?_, ?_⟩
      · rw [show (i : Int) - ((1 + t : Nat) : Int) = ((i - (1 + t) : Nat) : Int) by omega]
        have := atZ_intN (ns := (List.range i).map der) (i := i - (1 + t)) (by rw [List.length_map, List.length_range]; omega)
        rw [range_map_getD (by omega)] at this
        exact this
      ((with_reducible conv => whnf); repeat (first | (rw [natD_len]; with_reducible conv => whnf) | (rw [intD_len]; with_reducible conv => whnf) | (refine Exists.intro _ (And.intro (rfl : _ = some _) ?_); with_reducible conv => whnf) | (refine And.intro (okII _ _) ?_; rw [eqD_ii]; with_reducible conv => whnf) | (refine And.intro (by first | assumption | exact Exists.intro _ (by assumption) | exact ⟨rfl, rfl, by decide, by decide⟩ | exact Nat.le_of_ble_eq_true rfl | exact rfl) ?_; with_reducible conv => whnf) | (rw [isLst_at (by assumption)]; with_reducible conv => whnf) | (refine ifT rfl ?_; with_reducible conv => whnf) | (refine ifF rfl ?_; with_reducible conv => whnf) | (refine it_at (by assumption) ?_; with_reducible conv => whnf)))
      refine ⟨smallMul' ?_, hR S4 h4⟩
      rw [Int.natAbs_natCast]
      exact Nat.lt_of_le_of_lt (chs_le i (1 + t)) (Nat.pow_lt_pow_right (by decide) (by omega))
    · have em : (List.range i).map (fun t => D.int (((chs i (1 + t) : Nat) : Int) * der (i - (1 + t)))) = intD ((List.range i).map fun t => ((chs i (1 + t) : Nat) : Int) * der (i - (1 + t))) := by simp [intD]
      rw [em]
      have e3 := at_push S3 (.lst (intD ((List.range i).map fun t => ((chs i (1 + t) : Nat) : Int) * der (i - (1 + t)))))
      have f1 := push_at (h3 _ _ f1) [.lst (intD ((List.range i).map fun t => ((chs i (1 + t) : Nat) : Int) * der (i - (1 + t))))]
      have f2 := (f2.trans h3).app [.lst (intD ((List.range i).map fun t => ((chs i (1 + t) : Nat) : Int) * der (i - (1 + t))))]
      generalize S3 ++ [.lst (intD ((List.range i).map fun t => ((chs i (1 + t) : Nat) : Int) * der (i - (1 + t))))] = S4 at *
      generalize S3.length = n3 at *
      refine ⟨(List.range i).map fun t => ((chs i (1 + t) : Nat) : Int) * der (i - (1 + t)), by show (match S4[n3]? with | some (.lst xs) => some xs | _ => none) = _; rw [e3], ?_⟩
      ((with_reducible conv => whnf); repeat (first | (rw [natD_len]; with_reducible conv => whnf) | (rw [intD_len]; with_reducible conv => whnf) | (refine Exists.intro _ (And.intro (rfl : _ = some _) ?_); with_reducible conv => whnf) | (refine And.intro (okII _ _) ?_; rw [eqD_ii]; with_reducible conv => whnf) | (refine And.intro (by first | assumption | exact Exists.intro _ (by assumption) | exact ⟨rfl, rfl, by decide, by decide⟩ | exact Nat.le_of_ble_eq_true rfl | exact rfl) ?_; with_reducible conv => whnf) | (rw [isLst_at (by assumption)]; with_reducible conv => whnf) | (refine ifT rfl ?_; with_reducible conv => whnf) | (refine ifF rfl ?_; with_reducible conv => whnf) | (refine it_at (by assumption) ?_; with_reducible conv => whnf)))
      rw [wrong_eq]
      refine ⟨by rw [List.length_map, List.length_range]; unfold szL; omega, ?_⟩
      refine ⟨_, rfl, ?_, f2.put (Nat.le_refl _)⟩
      rw [at_set f1, intD_app1, List.range_succ, List.map_append]
      rfl
  · rintro ρ' S' ⟨o2, rfl, f1, f2⟩
    rw [rangeD_len, show ((n : Int) + 1 - 0).toNat = n + 1 by omega] at f1
    ((with_reducible conv => whnf); repeat (first | (rw [natD_len]; with_reducible conv => whnf) | (rw [intD_len]; with_reducible conv => whnf) | (refine Exists.intro _ (And.intro (rfl : _ = some _) ?_); with_reducible conv => whnf) | (refine And.intro (okII _ _) ?_; rw [eqD_ii]; with_reducible conv => whnf) | (refine And.intro (by first | assumption | exact Exists.intro _ (by assumption) | exact ⟨rfl, rfl, by decide, by decide⟩ | exact Nat.le_of_ble_eq_true rfl | exact rfl) ?_; with_reducible conv => whnf) | (rw [isLst_at (by assumption)]; with_reducible conv => whnf) | (refine ifT rfl ?_; with_reducible conv => whnf) | (refine ifF rfl ?_; with_reducible conv => whnf) | (refine it_at (by assumption) ?_; with_reducible conv => whnf)))
    exact k _ _ (Nat.le_refl _) f1 f2
end K96
set_option linter.all false
set_option maxRecDepth 100000
set_option maxHeartbeats 4000000
namespace K96
open DL
/-- k put in at each place -/
def putIn (k : Nat) (o : List Nat) : List (List Nat) := (List.range (k + 1)).map fun i => o.take i ++ [k] ++ o.drop i
def allO : Nat → List (List Nat)
  | 0 => [[]]
  | k + 1 => (allO k).flatMap (putIn k)
@[reducible] def ordD (o : List Nat) : D := .tup (natD o)
theorem allO_len : ∀ k, (allO k).length = fct k
  | 0 => rfl
  | k + 1 => by
    show ((allO k).flatMap (putIn k)).length = fct k * (k + 1)
    rw [← allO_len k]
    generalize allO k = l
    induction l with
    | nil => simp
    | cons x l ih =>
      rw [List.flatMap_cons, List.length_append, ih, List.length_cons, Nat.add_mul, Nat.one_mul]
      unfold putIn
      rw [List.length_map, List.length_range]
      omega
theorem allO_ol : ∀ k, ∀ o ∈ allO k, o.length = k
  | 0, o, h => by rw [List.mem_singleton.mp h]; rfl
  | k + 1, o, h => by
    obtain ⟨p, hp, ho⟩ := List.mem_flatMap.mp (show o ∈ (allO k).flatMap (putIn k) from h)
    obtain ⟨i, hi, rfl⟩ := List.mem_map.mp ho
    have := allO_ol k p hp
    have := List.mem_range.mp hi
    simp
    omega
@[reducible] def sp_allO : Spc := fun ds S Q => ∃ n : Nat, ds = [.int n] ∧ n ≤ 8 ∧ ∀ m S', S'[m]? = some (.lst ((allO n).map ordD)) → Sub S S' → Q (.ref m) S'
theorem natD_app (a b : List Nat) : natD a ++ natD b = natD (a ++ b) := by simp [natD, intD]
theorem natD_take (a : List Nat) (i : Nat) : (natD a).take i = natD (a.take i) := by simp [natD, intD]
theorem natD_drop (a : List Nat) (i : Nat) : (natD a).drop i = natD (a.drop i) := by simp [natD, intD]
theorem fct_8 {n : Nat} (h : n ≤ 8) : fct n ≤ 40320 := Nat.le_trans (fct_mono h) (by decide)
theorem body_law_all_orders : Body 6 1 w_law_all_orders sp_allO := by
  rintro ds S Q _ ⟨n, rfl, hn, k⟩
  unfold w_law_all_orders
  (simp only [start, List.map_cons, List.map_nil, List.length_cons, List.length_nil, Nat.reduceAdd, Nat.reduceSub, List.replicate_succ, List.replicate_zero, List.cons_append, List.nil_append, Nat.sub_self, Nat.zero_add])
  ((with_reducible conv => whnf); repeat (first | (rw [natD_len]; with_reducible conv => whnf) | (rw [intD_len]; with_reducible conv => whnf) | (refine Exists.intro _ (And.intro (rfl : _ = some _) ?_); with_reducible conv => whnf) | (refine And.intro (okII _ _) ?_; rw [eqD_ii]; with_reducible conv => whnf) | (refine And.intro (by first | assumption | exact Exists.intro _ (by assumption) | exact ⟨rfl, rfl, by decide, by decide⟩ | exact Nat.le_of_ble_eq_true rfl | exact rfl) ?_; with_reducible conv => whnf) | (rw [isLst_at (by assumption)]; with_reducible conv => whnf) | (refine ifT rfl ?_; with_reducible conv => whnf) | (refine ifF rfl ?_; with_reducible conv => whnf) | (refine it_at (by assumption) ?_; with_reducible conv => whnf)))
  have e0 := at_push S (.lst [.tup []])
  have s0 := (Sub.refl S).app [.lst [.tup []]]
  generalize S ++ [.lst [.tup []]] = S1 at *
  generalize S.length = n0 at *
  refine ⟨⟨by omega, by omega⟩, ?_⟩
  refine Loop_mk (fun i ρ S' => ∃ m o2 o3 o4, ρ = [some (.int n), some (.ref m), o2, o3, o4, none] ∧ S'[m]? = some (.lst ((allO i).map ordD)) ∧ Sub S S') ⟨n0, none, none, none, rfl, e0, s0⟩ (by intros; trivial) ?_ ?_
  · rintro i d ρ' S' hi ⟨m, o2, o3, o4, rfl, f1, f2⟩
    obtain ⟨hi1, rfl⟩ := rangeD_get hi
    rw [show (0 : Int) + i = i by omega]
    have e1 := at_push S' (.lst [])
    have f1 := push_at f1 [.lst []]
    have f2 := f2.app [.lst []]
    ((with_reducible conv => whnf); repeat (first | (rw [natD_len]; with_reducible conv => whnf) | (rw [intD_len]; with_reducible conv => whnf) | (refine Exists.intro _ (And.intro (rfl : _ = some _) ?_); with_reducible conv => whnf) | (refine And.intro (okII _ _) ?_; rw [eqD_ii]; with_reducible conv => whnf) | (refine And.intro (by first | assumption | exact Exists.intro _ (by assumption) | exact ⟨rfl, rfl, by decide, by decide⟩ | exact Nat.le_of_ble_eq_true rfl | exact rfl) ?_; with_reducible conv => whnf) | (rw [isLst_at (by assumption)]; with_reducible conv => whnf) | (refine ifT rfl ?_; with_reducible conv => whnf) | (refine ifF rfl ?_; with_reducible conv => whnf) | (refine it_at (by assumption) ?_; with_reducible conv => whnf)))
    generalize S' ++ [.lst []] = S2 at *
    generalize S'.length = n2 at *
    have hfi := fct_8 (show i + 1 ≤ 8 by omega)
    have hll : ∀ j, (((allO i).take j).flatMap (putIn i)).length ≤ 40320 := by
      intro j
      have h1 := allO_len (i + 1)
      have h2 : (allO (i + 1)).length = (((allO i).take j).flatMap (putIn i)).length + (((allO i).drop j).flatMap (putIn i)).length := by
        show ((allO i).flatMap (putIn i)).length = _
        rw [← List.length_append, ← List.flatMap_append, List.take_append_drop]
      omega
    refine Loop_mk (fun j ρ S' => ∃ q o4, ρ = [some (.int n), some (.ref m), some (.int i), some (.ref q), o4, none] ∧ S'[m]? = some (.lst ((allO i).map ordD)) ∧ S'[q]? = some (.lst ((((allO i).take j).flatMap (putIn i)).map ordD)) ∧ Sub S S') ⟨n2, o4, rfl, f1, e1, f2⟩ (by rintro j ρ S' ⟨q, o4, rfl, h, _⟩; exact h) ?_ ?_
    · rintro j d ρ' S3 hj ⟨q, o4, rfl, g1, g2, g3⟩
      rw [List.getElem?_map] at hj
      obtain ⟨o, ho, rfl⟩ : ∃ o, (allO i)[j]? = some o ∧ d = ordD o := by
        cases e : (allO i)[j]? with
        | none => rw [e] at hj; cases hj
        | some o => rw [e] at hj; exact ⟨o, rfl, (Option.some.inj hj).symm⟩
      have hol := allO_ol i o (List.mem_of_getElem? ho)
      ((with_reducible conv => whnf); repeat (first | (rw [natD_len]; with_reducible conv => whnf) | (rw [intD_len]; with_reducible conv => whnf) | (refine Exists.intro _ (And.intro (rfl : _ = some _) ?_); with_reducible conv => whnf) | (refine And.intro (okII _ _) ?_; rw [eqD_ii]; with_reducible conv => whnf) | (refine And.intro (by first | assumption | exact Exists.intro _ (by assumption) | exact ⟨rfl, rfl, by decide, by decide⟩ | exact Nat.le_of_ble_eq_true rfl | exact rfl) ?_; with_reducible conv => whnf) | (rw [isLst_at (by assumption)]; with_reducible conv => whnf) | (refine ifT rfl ?_; with_reducible conv => whnf) | (refine ifF rfl ?_; with_reducible conv => whnf) | (refine it_at (by assumption) ?_; with_reducible conv => whnf)))
      refine ⟨⟨by omega, by omega⟩, ?_⟩
      rw [show (i : Int) + 1 = ((i + 1 : Nat) : Int) by omega]
      refine Lc_rm (fun t => ordD (o.take t ++ [i] ++ o.drop t)) (by unfold szL; omega) (by intros; trivial) (fun t S4 R ht h4 hR => ?_) fun S4 h4 => ?_
      · ((with_reducible conv => whnf); repeat (first | (rw [natD_len]; with_reducible conv => whnf) | (rw [intD_len]; with_reducible conv => whnf) | (refine Exists.intro _ (And.intro (rfl : _ = some _) ?_); with_reducible conv => whnf) | (refine And.intro (okII _ _) ?_; rw [eqD_ii]; with_reducible conv => whnf) | (refine And.intro (by first | assumption | exact Exists.intro _ (by assumption) | exact ⟨rfl, rfl, by decide, by decide⟩ | exact Nat.le_of_ble_eq_true rfl | exact rfl) ?_; with_reducible conv => whnf) | (rw [isLst_at (by assumption)]; with_reducible conv => whnf) | (refine ifT rfl ?_; with_reducible conv => whnf) | (refine ifF rfl ?_; with_reducible conv => whnf) | (refine it_at (by assumption) ?_; with_reducible conv => whnf)))
        rw [cut_take _ (by omega), Int.toNat_natCast, natD_take]
        refine ⟨by rw [natD_len, List.length_take, List.length_singleton]; unfold szL; omega, ?_⟩
        ((with_reducible conv => whnf); repeat (first | (rw [natD_len]; with_reducible conv => whnf) | (rw [intD_len]; with_reducible conv => whnf) | (refine Exists.intro _ (And.intro (rfl : _ = some _) ?_); with_reducible conv => whnf) | (refine And.intro (okII _ _) ?_; rw [eqD_ii]; with_reducible conv => whnf) | (refine And.intro (by first | assumption | exact Exists.intro _ (by assumption) | exact ⟨rfl, rfl, by decide, by decide⟩ | exact Nat.le_of_ble_eq_true rfl | exact rfl) ?_; with_reducible conv => whnf) | (rw [isLst_at (by assumption)]; with_reducible conv => whnf) | (refine ifT rfl ?_; with_reducible conv => whnf) | (refine ifF rfl ?_; with_reducible conv => whnf) | (refine it_at (by assumption) ?_; with_reducible conv => whnf)))
        rw [cut_drop _ (by omega), Int.toNat_natCast, natD_drop, show [D.int (i : Int)] = natD [i] from rfl, natD_app]
        refine ⟨by rw [natD_len, natD_len, List.length_append, List.length_take, List.length_drop, List.length_singleton]; unfold szL; omega, ?_⟩
        rw [natD_app]
        exact hR S4 (Sub.refl _)
      · have em : (List.range (i + 1)).map (fun t => ordD (o.take t ++ [i] ++ o.drop t)) = (putIn i o).map ordD := by unfold putIn; rw [List.map_map]; rfl
        rw [em]
        have e5 := at_push S4 (.lst ((putIn i o).map ordD))
        have g1 := push_at (h4 _ _ g1) [.lst ((putIn i o).map ordD)]
        have g2 := push_at (h4 _ _ g2) [.lst ((putIn i o).map ordD)]
        have g3 := (g3.trans h4).app [.lst ((putIn i o).map ordD)]
        generalize S4 ++ [.lst ((putIn i o).map ordD)] = S5 at *
        ((with_reducible conv => whnf); repeat (first | (rw [natD_len]; with_reducible conv => whnf) | (rw [intD_len]; with_reducible conv => whnf) | (refine Exists.intro _ (And.intro (rfl : _ = some _) ?_); with_reducible conv => whnf) | (refine And.intro (okII _ _) ?_; rw [eqD_ii]; with_reducible conv => whnf) | (refine And.intro (by first | assumption | exact Exists.intro _ (by assumption) | exact ⟨rfl, rfl, by decide, by decide⟩ | exact Nat.le_of_ble_eq_true rfl | exact rfl) ?_; with_reducible conv => whnf) | (rw [isLst_at (by assumption)]; with_reducible conv => whnf) | (refine ifT rfl ?_; with_reducible conv => whnf) | (refine ifF rfl ?_; with_reducible conv => whnf) | (refine it_at (by assumption) ?_; with_reducible conv => whnf)))
        have hpl : (putIn i o).length = i + 1 := by unfold putIn; rw [List.length_map, List.length_range]
        have := hll j
        refine ⟨by rw [List.length_map, List.length_map, hpl]; unfold szL; omega, ?_⟩
        refine ⟨_, _, rfl, push_at g1 _, ?_, g3.app _⟩
        rw [at_push, ← List.map_append]
        have : ((allO i).take (j + 1)).flatMap (putIn i) = ((allO i).take j).flatMap (putIn i) ++ putIn i o := by
          rw [List.take_add_one, ho, List.flatMap_append]
          simp
        rw [this]
    · rintro ρ' S3 ⟨q, o4, rfl, g1, g2, g3⟩
      rw [List.length_map, List.take_length] at g2
      ((with_reducible conv => whnf); repeat (first | (rw [natD_len]; with_reducible conv => whnf) | (rw [intD_len]; with_reducible conv => whnf) | (refine Exists.intro _ (And.intro (rfl : _ = some _) ?_); with_reducible conv => whnf) | (refine And.intro (okII _ _) ?_; rw [eqD_ii]; with_reducible conv => whnf) | (refine And.intro (by first | assumption | exact Exists.intro _ (by assumption) | exact ⟨rfl, rfl, by decide, by decide⟩ | exact Nat.le_of_ble_eq_true rfl | exact rfl) ?_; with_reducible conv => whnf) | (rw [isLst_at (by assumption)]; with_reducible conv => whnf) | (refine ifT rfl ?_; with_reducible conv => whnf) | (refine ifF rfl ?_; with_reducible conv => whnf) | (refine it_at (by assumption) ?_; with_reducible conv => whnf)))
      exact ⟨q, _, _, _, rfl, g2, g3⟩
  · rintro ρ' S' ⟨m, o2, o3, o4, rfl, f1, f2⟩
    rw [rangeD_len, show ((n : Int) - 0).toNat = n by omega] at f1
    ((with_reducible conv => whnf); repeat (first | (rw [natD_len]; with_reducible conv => whnf) | (rw [intD_len]; with_reducible conv => whnf) | (refine Exists.intro _ (And.intro (rfl : _ = some _) ?_); with_reducible conv => whnf) | (refine And.intro (okII _ _) ?_; rw [eqD_ii]; with_reducible conv => whnf) | (refine And.intro (by first | assumption | exact Exists.intro _ (by assumption) | exact ⟨rfl, rfl, by decide, by decide⟩ | exact Nat.le_of_ble_eq_true rfl | exact rfl) ?_; with_reducible conv => whnf) | (rw [isLst_at (by assumption)]; with_reducible conv => whnf) | (refine ifT rfl ?_; with_reducible conv => whnf) | (refine ifF rfl ?_; with_reducible conv => whnf) | (refine it_at (by assumption) ?_; with_reducible conv => whnf)))
    exact k _ _ f1 f2
end K96
set_option linter.all false
set_option maxRecDepth 100000
set_option maxHeartbeats 4000000
namespace K96
open DL
/-- o at k -/
def oat (o : List Nat) (k : Nat) : Nat := o.getD k 0
/-- on from c, s turns at most, till l comes again -/
def circF (o : List Nat) (l : Nat) : Nat → List Nat → List Nat
  | 0, c => c
  | s + 1, c => if oat o (c.getD (c.length - 1) 0) = l then c else circF o l s (c ++ [oat o (c.getD (c.length - 1) 0)])
def okO (o : List Nat) : Prop := ∀ x ∈ o, x < o.length
def lawR (o : List Nat) : List (List Nat) := (List.range o.length).filterMap fun l => if (circF o l o.length [l]).all (fun y => decide (l ≤ y)) = true then some (circF o l o.length [l]) else none
theorem oat_lt {o : List Nat} (h : okO o) {k : Nat} (hk : k < o.length) : oat o k < o.length := by
  unfold oat
  rw [List.getD_eq_getElem?_getD, List.getElem?_eq_getElem hk]
  exact h _ (List.getElem_mem _)
theorem atZ_natD {o : List Nat} {k : Nat} (h : k < o.length) : atZ (natD o) (k : Int) = some (.int (oat o k : Nat)) := by
  have := atZ_intN (ns := o.map fun (k : Nat) => (k : Int)) (i := k) (by rw [List.length_map]; exact h)
  rw [this]
  unfold oat
  rw [List.getD_eq_getElem?_getD, List.getD_eq_getElem?_getD, List.getElem?_map, List.getElem?_eq_getElem h]
  rfl
theorem atZ_last {o : List Nat} (h : 0 < o.length) : atZ (natD o) (-1) = some (.int (o.getD (o.length - 1) 0 : Nat)) := by
  have := atZ_natD (o := o) (k := o.length - 1) (by omega)
  unfold oat at this
  rw [← this]
  have a : ixZ (natD o).length (-1) = some (o.length - 1) := by
    rw [natD_len]
    unfold ixZ
    rw [if_neg (by omega), if_pos (by omega)]
    congr 1
    omega
  have b : ixZ (natD o).length ((o.length - 1 : Nat) : Int) = some (o.length - 1) := by
    rw [natD_len, ixZ_ok (by omega) (by omega), Int.toNat_natCast]
  unfold atZ
  rw [a, b]
end K96
set_option linter.all false
set_option maxRecDepth 100000
set_option maxHeartbeats 4000000
namespace K96
open DL
/-- a ring under way: all its letters stand in o, s turns are left to go -/
theorem circ_lt {o : List Nat} (h : okO o) {l : Nat} : ∀ (s : Nat) (c : List Nat), 0 < c.length → (∀ x ∈ c, x < o.length) → 0 < (circF o l s c).length ∧ ∀ x ∈ circF o l s c, x < o.length
  | 0, c, h0, h1 => ⟨h0, h1⟩
  | s + 1, c, h0, h1 => by
    unfold circF
    split
    · exact ⟨h0, h1⟩
    · refine circ_lt h s _ (by simp) fun x hx => ?_
      rcases List.mem_append.mp hx with e | e
      · exact h1 x e
      · rw [List.mem_singleton.mp e]
        refine oat_lt h (h1 _ ?_)
        rw [List.getD_eq_getElem?_getD, List.getElem?_eq_getElem (show c.length - 1 < c.length by omega)]
        exact List.getElem_mem _
theorem circ_len {o : List Nat} {l : Nat} : ∀ (s : Nat) (c : List Nat), (circF o l s c).length ≤ c.length + s
  | 0, c => Nat.le_refl _
  | s + 1, c => by
    unfold circF
    split
    · omega
    · have := circ_len (o := o) (l := l) s (c ++ [oat o (c.getD (c.length - 1) 0)])
      rw [List.length_append, List.length_singleton] at this
      omega
theorem circ_mem {o : List Nat} {l : Nat} : ∀ (s : Nat) (c : List Nat), l ∈ c → l ∈ circF o l s c
  | 0, c, h => h
  | s + 1, c, h => by
    unfold circF
    split
    · exact h
    · exact circ_mem s _ (List.mem_append.mpr (.inl h))
@[reducible] def sp_rings : Spc := fun ds S Q => ∃ o, ds = [.tup (natD o)] ∧ o.length ≤ 100 ∧ okO o ∧ ∀ S', Sub S S' → Q (.tup ((lawR o).map ordD)) S'
def ringAt (o : List Nat) (l : Nat) : Option (List Nat) := if (circF o l o.length [l]).all (fun y => decide (l ≤ y)) = true then some (circF o l o.length [l]) else none
theorem body_law_rings : Body 5 1 w_law_rings sp_rings := by
  rintro ds S Q _ ⟨o, rfl, hl, ho, k⟩
  unfold w_law_rings
  (simp only [start, List.map_cons, List.map_nil, List.length_cons, List.length_nil, Nat.reduceAdd, Nat.reduceSub, List.replicate_succ, List.replicate_zero, List.cons_append, List.nil_append, Nat.sub_self, Nat.zero_add])
  ((with_reducible conv => whnf); repeat (first | (rw [natD_len]; with_reducible conv => whnf) | (rw [intD_len]; with_reducible conv => whnf) | (refine Exists.intro _ (And.intro (rfl : _ = some _) ?_); with_reducible conv => whnf) | (refine And.intro (okII _ _) ?_; rw [eqD_ii]; with_reducible conv => whnf) | (refine And.intro (by first | assumption | exact Exists.intro _ (by assumption) | exact ⟨rfl, rfl, by decide, by decide⟩ | exact Nat.le_of_ble_eq_true rfl | exact rfl) ?_; with_reducible conv => whnf) | (rw [isLst_at (by assumption)]; with_reducible conv => whnf) | (refine ifT rfl ?_; with_reducible conv => whnf) | (refine ifF rfl ?_; with_reducible conv => whnf) | (refine it_at (by assumption) ?_; with_reducible conv => whnf)))
  have e0 := at_push S (.lst [])
  have s0 := (Sub.refl S).app [.lst []]
  generalize S ++ [.lst []] = S1 at *
  refine ⟨⟨by omega, by omega⟩, ?_⟩
  refine Loop_mk (fun i ρ S' => ∃ o2 o3 o4, ρ = [some (.tup (natD o)), some (.ref S.length), o2, o3, o4] ∧ S'[S.length]? = some (.lst (((List.range i).filterMap (ringAt o)).map ordD)) ∧ Sub S S') ⟨none, none, none, rfl, e0, s0⟩ (by intros; trivial) ?_ ?_
  · rintro i d ρ' S' hi ⟨o2, o3, o4, rfl, f1, f2⟩
    obtain ⟨hi1, rfl⟩ := rangeD_get hi
    rw [show (0 : Int) + i = i by omega]
    have hio : i < o.length := by omega
    have e1 := at_push S' (.lst [.int (i : Int)])
    have f1' := at_lt f1
    have f1 := push_at f1 [.lst [.int (i : Int)]]
    have f2 := f2.app [.lst [.int (i : Int)]]
    ((with_reducible conv => whnf); repeat (first | (rw [natD_len]; with_reducible conv => whnf) | (rw [intD_len]; with_reducible conv => whnf) | (refine Exists.intro _ (And.intro (rfl : _ = some _) ?_); with_reducible conv => whnf) | (refine And.intro (okII _ _) ?_; rw [eqD_ii]; with_reducible conv => whnf) | (refine And.intro (by first | assumption | exact Exists.intro _ (by assumption) | exact ⟨rfl, rfl, by decide, by decide⟩ | exact Nat.le_of_ble_eq_true rfl | exact rfl) ?_; with_reducible conv => whnf) | (rw [isLst_at (by assumption)]; with_reducible conv => whnf) | (refine ifT rfl ?_; with_reducible conv => whnf) | (refine ifF rfl ?_; with_reducible conv => whnf) | (refine it_at (by assumption) ?_; with_reducible conv => whnf)))
    generalize hS2 : S' ++ [.lst [.int (i : Int)]] = S2 at *
    refine ⟨⟨by omega, by omega⟩, ?_⟩
    have hne : S.length ≠ S'.length := by omega
    have hle : S.length ≤ S'.length := by omega
    generalize S'.length = nc at *
    have after : ∀ (E : Ends) (c : List Nat) (T : Sto) (o4 : Option D), c = circF o i o.length [i] → T[S.length]? = some (.lst (((List.range i).filterMap (ringAt o)).map ordD)) → T[nc]? = some (.lst (natD c)) → Sub S T → (∀ o2 o3 o4 T', T'[S.length]? = some (.lst (((List.range (i + 1)).filterMap (ringAt o)).map ordD)) → Sub S T' → E.nx [some (.tup (natD o)), some (.ref S.length), o2, o3, o4] T') →
        sIf (wtVal (wOp rEq (wB rMin (wCons (wVar 3) wNil)) (wVar 2))) (sDrop (wM rAppend (wVar 1) (wCons (wB rTuple (wCons (wVar 3) wNil)) wNil))) sNext E [some (.tup (natD o)), some (.ref S.length), some (.int i), some (.ref nc), o4] T := by
      intro E c T o4 ec t1 t2 t3 hE
      have hc0 := circ_lt ho (l := i) o.length [i] (by simp) (by simp [hio])
      have hci := circ_mem (o := o) (l := i) o.length [i] (by simp)
      have hr : (List.range (i + 1)).filterMap (ringAt o) = (List.range i).filterMap (ringAt o) ++ if c.all (fun y => decide (i ≤ y)) = true then [c] else [] := by
        rw [List.range_succ, List.filterMap_append]
        congr 1
        rw [ec]
        simp only [List.filterMap_cons, List.filterMap_nil]
        unfold ringAt
        split <;> simp_all
      rw [← ec] at hc0 hci
      ((with_reducible conv => whnf); repeat (first | (refine And.intro (okII _ _) ?_; rw [eqD_ii]; with_reducible conv => whnf) | (refine And.intro (by first | assumption | exact Exists.intro _ (by assumption) | exact ⟨rfl, rfl, by decide, by decide⟩ | exact Nat.le_of_ble_eq_true rfl | exact rfl) ?_; with_reducible conv => whnf) | (rw [isLst_at (by assumption)]; with_reducible conv => whnf) | (refine ifT rfl ?_; with_reducible conv => whnf) | (refine ifF rfl ?_; with_reducible conv => whnf) | (refine it_at (by assumption) ?_; with_reducible conv => whnf)))
      refine ⟨c.map fun (k : Nat) => (k : Int), by show (match T[nc]? with | some (.lst xs) => some xs | _ => none) = _; rw [t2], by rw [List.length_map]; exact hc0.1, fun m m1 m2 => ?_⟩
      obtain ⟨x, hx, rfl⟩ := List.mem_map.mp m1
      have hmin : ∀ y ∈ c, x ≤ y := fun y hy => by
        have := m2 y (List.mem_map.mpr ⟨y, hy, rfl⟩)
        omega
      ((with_reducible conv => whnf); repeat (first | (refine And.intro (okII _ _) ?_; rw [eqD_ii]; with_reducible conv => whnf) | (refine And.intro (by first | assumption | exact Exists.intro _ (by assumption) | exact ⟨rfl, rfl, by decide, by decide⟩ | exact Nat.le_of_ble_eq_true rfl | exact rfl) ?_; with_reducible conv => whnf) | (rw [isLst_at (by assumption)]; with_reducible conv => whnf) | (refine ifT rfl ?_; with_reducible conv => whnf) | (refine ifF rfl ?_; with_reducible conv => whnf) | (refine it_at (by assumption) ?_; with_reducible conv => whnf)))
      refine ite_d (fun hc => ?_) fun hc => ?_
      · have : x = i := by omega
        subst this
        ((with_reducible conv => whnf); repeat (first | (refine And.intro (okII _ _) ?_; rw [eqD_ii]; with_reducible conv => whnf) | (refine And.intro (by first | assumption | exact Exists.intro _ (by assumption) | exact ⟨rfl, rfl, by decide, by decide⟩ | exact Nat.le_of_ble_eq_true rfl | exact rfl) ?_; with_reducible conv => whnf) | (rw [isLst_at (by assumption)]; with_reducible conv => whnf) | (refine ifT rfl ?_; with_reducible conv => whnf) | (refine ifF rfl ?_; with_reducible conv => whnf) | (refine it_at (by assumption) ?_; with_reducible conv => whnf)))
        rw [if_pos (by rw [List.all_eq_true]; exact fun y hy => decide_eq_true (hmin y hy))] at hr
        refine ⟨?_, hE _ _ _ _ ?_ (t3.put (Nat.le_refl _))⟩
        · rw [List.length_map]
          have := List.length_filterMap_le (ringAt o) (List.range x)
          rw [List.length_range] at this
          unfold szL
          omega
        · rw [at_set t1, hr, List.map_append]
          rfl
      · rw [if_neg (by
          intro h
          rw [List.all_eq_true] at h
          have h1 := of_decide_eq_true (h x hx)
          have h2 := hmin i hci
          omega), List.append_nil] at hr
        exact hE _ _ _ _ (by rw [hr]; exact t1) t3
    refine Loop_mk (fun j ρ S' => ∃ c o4, ρ = [some (.tup (natD o)), some (.ref S.length), some (.int i), some (.ref nc), o4] ∧ S'[S.length]? = some (.lst (((List.range i).filterMap (ringAt o)).map ordD)) ∧ S'[nc]? = some (.lst (natD c)) ∧ 0 < c.length ∧ c.length ≤ j + 1 ∧ (∀ x ∈ c, x < o.length) ∧ circF o i (o.length - j) c = circF o i o.length [i] ∧ Sub S S') ⟨[i], o4, rfl, f1, e1, by simp, by simp, by simp [hio], rfl, f2⟩ (by intros; trivial) ?_ ?_
    · rintro j d ρ' S3 hj ⟨c, o4, rfl, g1, g2, c0, c1, c2, c3, g3⟩
      obtain ⟨hj1, rfl⟩ := rangeD_get hj
      rw [show o.length - j = (o.length - (j + 1)) + 1 by omega] at c3
      generalize hF : circF o i o.length [i] = F at c3
      unfold circF at c3
      have hlast : c.getD (c.length - 1) 0 < o.length := by
        refine c2 _ ?_
        rw [List.getD_eq_getElem?_getD, List.getElem?_eq_getElem (show c.length - 1 < c.length by omega)]
        exact List.getElem_mem _
      ((with_reducible conv => whnf); repeat (first | (refine And.intro (okII _ _) ?_; rw [eqD_ii]; with_reducible conv => whnf) | (refine And.intro (by first | assumption | exact Exists.intro _ (by assumption) | exact ⟨rfl, rfl, by decide, by decide⟩ | exact Nat.le_of_ble_eq_true rfl | exact rfl) ?_; with_reducible conv => whnf) | (rw [isLst_at (by assumption)]; with_reducible conv => whnf) | (refine ifT rfl ?_; with_reducible conv => whnf) | (refine ifF rfl ?_; with_reducible conv => whnf) | (refine it_at (by assumption) ?_; with_reducible conv => whnf)))
      refine ⟨_, atZ_last c0, ?_⟩
      ((with_reducible conv => whnf); repeat (first | (refine And.intro (okII _ _) ?_; rw [eqD_ii]; with_reducible conv => whnf) | (refine And.intro (by first | assumption | exact Exists.intro _ (by assumption) | exact ⟨rfl, rfl, by decide, by decide⟩ | exact Nat.le_of_ble_eq_true rfl | exact rfl) ?_; with_reducible conv => whnf) | (rw [isLst_at (by assumption)]; with_reducible conv => whnf) | (refine ifT rfl ?_; with_reducible conv => whnf) | (refine ifF rfl ?_; with_reducible conv => whnf) | (refine it_at (by assumption) ?_; with_reducible conv => whnf)))
      refine ⟨_, atZ_natD hlast, ?_⟩
      ((with_reducible conv => whnf); repeat (first | (refine And.intro (okII _ _) ?_; rw [eqD_ii]; with_reducible conv => whnf) | (refine And.intro (by first | assumption | exact Exists.intro _ (by assumption) | exact ⟨rfl, rfl, by decide, by decide⟩ | exact Nat.le_of_ble_eq_true rfl | exact rfl) ?_; with_reducible conv => whnf) | (rw [isLst_at (by assumption)]; with_reducible conv => whnf) | (refine ifT rfl ?_; with_reducible conv => whnf) | (refine ifF rfl ?_; with_reducible conv => whnf) | (refine it_at (by assumption) ?_; with_reducible conv => whnf)))
      refine ite_d (fun hc => ?_) fun hc => ?_
      · rw [if_pos (by omega)] at c3
        exact after _ c S3 _ (c3.trans hF.symm) g1 g2 g3 fun o2 o3 o4 T' a b => ⟨o2, o3, o4, rfl, a, b⟩
      · rw [if_neg (by omega)] at c3
        ((with_reducible conv => whnf); repeat (first | (refine And.intro (okII _ _) ?_; rw [eqD_ii]; with_reducible conv => whnf) | (refine And.intro (by first | assumption | exact Exists.intro _ (by assumption) | exact ⟨rfl, rfl, by decide, by decide⟩ | exact Nat.le_of_ble_eq_true rfl | exact rfl) ?_; with_reducible conv => whnf) | (rw [isLst_at (by assumption)]; with_reducible conv => whnf) | (refine ifT rfl ?_; with_reducible conv => whnf) | (refine ifF rfl ?_; with_reducible conv => whnf) | (refine it_at (by assumption) ?_; with_reducible conv => whnf)))
        refine ⟨_, atZ_last c0, ?_⟩
        ((with_reducible conv => whnf); repeat (first | (refine And.intro (okII _ _) ?_; rw [eqD_ii]; with_reducible conv => whnf) | (refine And.intro (by first | assumption | exact Exists.intro _ (by assumption) | exact ⟨rfl, rfl, by decide, by decide⟩ | exact Nat.le_of_ble_eq_true rfl | exact rfl) ?_; with_reducible conv => whnf) | (rw [isLst_at (by assumption)]; with_reducible conv => whnf) | (refine ifT rfl ?_; with_reducible conv => whnf) | (refine ifF rfl ?_; with_reducible conv => whnf) | (refine it_at (by assumption) ?_; with_reducible conv => whnf)))
        refine ⟨_, atZ_natD hlast, ?_⟩
        ((with_reducible conv => whnf); repeat (first | (refine And.intro (okII _ _) ?_; rw [eqD_ii]; with_reducible conv => whnf) | (refine And.intro (by first | assumption | exact Exists.intro _ (by assumption) | exact ⟨rfl, rfl, by decide, by decide⟩ | exact Nat.le_of_ble_eq_true rfl | exact rfl) ?_; with_reducible conv => whnf) | (rw [isLst_at (by assumption)]; with_reducible conv => whnf) | (refine ifT rfl ?_; with_reducible conv => whnf) | (refine ifF rfl ?_; with_reducible conv => whnf) | (refine it_at (by assumption) ?_; with_reducible conv => whnf)))
        refine ⟨by rw [natD_len]; unfold szL; omega, ?_⟩
        refine ⟨c ++ [oat o (c.getD (c.length - 1) 0)], _, rfl, by rw [at_set_ne hne, g1], ?_, by simp, by simp; omega, fun x hx => ?_, (by first | exact c3 | exact c3.trans hF.symm), g3.put hle⟩
        · rw [at_set g2]
          simp [natD, intD]
        · rcases List.mem_append.mp hx with e | e
          · exact c2 x e
          · rw [List.mem_singleton.mp e]
            exact oat_lt ho hlast
    · rintro ρ' S3 ⟨c, o4, rfl, g1, g2, c0, c1, c2, c3, g3⟩
      rw [rangeD_len, show o.length - ((o.length : Int) - 0).toNat = 0 by omega] at c3
      exact after _ c S3 _ c3 g1 g2 g3 fun o2 o3 o4 T' a b => ⟨o2, o3, o4, rfl, a, b⟩
  · rintro ρ' S' ⟨o2, o3, o4, rfl, f1, f2⟩
    rw [rangeD_len, show ((o.length : Int) - 0).toNat = o.length by omega] at f1
    ((with_reducible conv => whnf); repeat (first | (rw [natD_len]; with_reducible conv => whnf) | (rw [intD_len]; with_reducible conv => whnf) | (refine Exists.intro _ (And.intro (rfl : _ = some _) ?_); with_reducible conv => whnf) | (refine And.intro (okII _ _) ?_; rw [eqD_ii]; with_reducible conv => whnf) | (refine And.intro (by first | assumption | exact Exists.intro _ (by assumption) | exact ⟨rfl, rfl, by decide, by decide⟩ | exact Nat.le_of_ble_eq_true rfl | exact rfl) ?_; with_reducible conv => whnf) | (rw [isLst_at (by assumption)]; with_reducible conv => whnf) | (refine ifT rfl ?_; with_reducible conv => whnf) | (refine ifF rfl ?_; with_reducible conv => whnf) | (refine it_at (by assumption) ?_; with_reducible conv => whnf)))
    exact k _ f2
end K96
set_option linter.all false
set_option maxRecDepth 100000
set_option maxHeartbeats 4000000
namespace K96
open DL
theorem dsum_sum (m : Nat) : ∀ j, ((List.range j).map fun i => ((chs m i : Nat) : Int) * der (m - i)).sum = dsum m j
  | 0 => rfl
  | j + 1 => by
    rw [List.range_succ, List.map_append, List.sum_append, dsum_sum m j]
    show _ + ((((chs m j : Nat) : Int) * der (m - j)) + 0) = dsum m j + (chs m j : Nat) * der (m - j)
    omega
theorem each_sum (n : Nat) : ((List.range (n + 1)).map fun i => ((chs n i : Nat) : Int) * der (n - i)).sum = (fct n : Nat) := by rw [dsum_sum, dsum_all]
theorem justZ_yes {n k : Nat} (h : k ≤ n) : justZ n k = ((chs n k : Nat) : Int) * der (n - k) := by
  unfold justZ
  rw [if_pos (by omega), waysZ_yes h, show ((n : Int) - k).toNat = n - k by omega]
theorem justZ_no {n k : Int} (h : ¬ (0 ≤ k ∧ k ≤ n)) : justZ n k = 0 := if_neg h
end K96
set_option linter.all false
set_option maxRecDepth 100000
set_option maxHeartbeats 4000000
namespace K96
open DL
/-- on from l, j times -/
def itO (o : List Nat) (l : Nat) : Nat → Nat
  | 0 => l
  | j + 1 => oat o (itO o l j)
def inj (o : List Nat) : Prop := ∀ a b, a < o.length → b < o.length → oat o a = oat o b → a = b
theorem itO_lt {o : List Nat} (h : okO o) {l : Nat} (hl : l < o.length) : ∀ j, itO o l j < o.length
  | 0 => hl
  | j + 1 => oat_lt h (itO_lt h hl j)
theorem itO_add (o : List Nat) (l a : Nat) : ∀ b, itO o (itO o l a) b = itO o l (a + b)
  | 0 => rfl
  | b + 1 => by show oat o _ = oat o (itO o l (a + b)); rw [itO_add o l a b]
theorem itO_cancel {o : List Nat} (h : okO o) (hi : inj o) {l : Nat} (hl : l < o.length) {d : Nat} : ∀ a, itO o l (a + d) = itO o l a → itO o l d = l
  | 0, e => by rwa [Nat.zero_add] at e
  | a + 1, e => by
    rw [Nat.add_right_comm] at e
    exact itO_cancel h hi hl a (hi _ _ (itO_lt h hl _) (itO_lt h hl _) e)
theorem per_ex {o : List Nat} (h : okO o) (hi : inj o) {l : Nat} (hl : l < o.length) : ∃ p, 1 ≤ p ∧ p ≤ o.length ∧ itO o l p = l := by
  false_or_by_contra
  rename_i hc
  have hno : ∀ p, 1 ≤ p → p ≤ o.length → itO o l p ≠ l := fun p h1 h2 h3 => hc ⟨p, h1, h2, h3⟩
  have hn : ((List.range (o.length + 1)).map (itO o l)).Nodup := by
    unfold List.Nodup
    rw [List.pairwise_map]
    refine (List.pairwise_lt_range (n := o.length + 1)).imp_of_mem fun {a b} ha hb hab e => ?_
    have hb := List.mem_range.mp hb
    refine hno (b - a) (by omega) (by omega) (itO_cancel h hi hl a ?_)
    rw [show a + (b - a) = b by omega, e]
  have := hn.length_le_of_subset (l₂ := List.range o.length) fun x hx => by
    obtain ⟨j, _, rfl⟩ := List.mem_map.mp hx
    exact List.mem_range.mpr (itO_lt h hl j)
  rw [List.length_map, List.length_range, List.length_range] at this
  omega
theorem least_of {P : Nat → Prop} : ∀ n, P n → ∃ m, m ≤ n ∧ P m ∧ ∀ k, k < m → ¬ P k := by
  intro n
  induction n using Nat.strongRecOn with
  | ind n ih =>
    intro h
    by_cases c : ∃ k, k < n ∧ P k
    · obtain ⟨k, hk, hp⟩ := c
      obtain ⟨m, h1, h2, h3⟩ := ih k hk hp
      exact ⟨m, by omega, h2, h3⟩
    · exact ⟨n, Nat.le_refl _, h, fun k hk hp => c ⟨k, hk, hp⟩⟩
/-- p: the ring's length -/
structure Per (o : List Nat) (l p : Nat) : Prop where
  pos : 1 ≤ p
  le : p ≤ o.length
  back : itO o l p = l
  least : ∀ j, 1 ≤ j → j < p → itO o l j ≠ l
theorem per {o : List Nat} (h : okO o) (hi : inj o) {l : Nat} (hl : l < o.length) : ∃ p, Per o l p := by
  obtain ⟨q, h1, h2, h3⟩ := per_ex h hi hl
  obtain ⟨p, a, b, c⟩ := least_of (P := fun p => 1 ≤ p ∧ itO o l p = l) q ⟨h1, h3⟩
  exact ⟨p, b.1, by omega, b.2, fun j hj hjp e => c j hjp ⟨hj, e⟩⟩
theorem last_it (o : List Nat) (l t : Nat) : ((List.range (t + 1)).map (itO o l)).getD (((List.range (t + 1)).map (itO o l)).length - 1) 0 = itO o l t := by
  rw [List.length_map, List.length_range, List.getD_eq_getElem?_getD, List.getElem?_map, Nat.add_sub_cancel, List.getElem?_range (by omega)]
  rfl
theorem map_it_succ (o : List Nat) (l t : Nat) : (List.range (t + 1)).map (itO o l) ++ [oat o (itO o l t)] = (List.range (t + 1 + 1)).map (itO o l) := by
  rw [List.range_succ (n := t + 1), List.map_append]
  rfl
theorem circ_per {o : List Nat} {l p : Nat} (P : Per o l p) : ∀ s t, t + 1 ≤ p → p ≤ t + 1 + s → circF o l s ((List.range (t + 1)).map (itO o l)) = (List.range p).map (itO o l)
  | 0, t, h1, h2 => by
    have : p = t + 1 := by omega
    rw [this]
    rfl
  | s + 1, t, h1, h2 => by
    unfold circF
    rw [last_it]
    by_cases c : oat o (itO o l t) = l
    · rw [if_pos c]
      have : ¬ t + 1 < p := fun hlt => P.least (t + 1) (by omega) hlt c
      have : p = t + 1 := by omega
      rw [this]
    · rw [if_neg c, map_it_succ]
      have : t + 1 ≠ p := fun e => c (by have := P.back; rw [← e] at this; exact this)
      exact circ_per P s (t + 1) (by omega) (by omega)
theorem circ_eq {o : List Nat} {l p : Nat} (P : Per o l p) : circF o l o.length [l] = (List.range p).map (itO o l) := circ_per P o.length 0 P.pos (by have := P.le; omega)
theorem it_per {o : List Nat} {l p : Nat} (P : Per o l p) : ∀ j, itO o l (j + p) = itO o l j
  | 0 => by rw [Nat.zero_add]; exact P.back
  | j + 1 => by rw [Nat.add_right_comm]; show oat o _ = oat o _; rw [it_per P j]
theorem mem_it {o : List Nat} {l p : Nat} (P : Per o l p) : ∀ j, itO o l j ∈ (List.range p).map (itO o l) := by
  intro j
  induction j using Nat.strongRecOn with
  | ind j ih =>
    by_cases c : j < p
    · exact List.mem_map.mpr ⟨j, List.mem_range.mpr c, rfl⟩
    · have := ih (j - p) (by have := P.pos; omega)
      rw [← it_per P, show j - p + p = j by omega] at this
      exact this
/-- in one ring -/
def ring (o : List Nat) (l : Nat) : List Nat := circF o l o.length [l]
theorem mem_ring {o : List Nat} (h : okO o) (hi : inj o) {l : Nat} (hl : l < o.length) {x : Nat} : x ∈ ring o l ↔ ∃ j, x = itO o l j := by
  obtain ⟨p, P⟩ := per h hi hl
  unfold ring
  rw [circ_eq P]
  constructor
  · intro hx
    obtain ⟨j, _, rfl⟩ := List.mem_map.mp hx
    exact ⟨j, rfl⟩
  · rintro ⟨j, rfl⟩
    exact mem_it P j
theorem ring_lt {o : List Nat} (h : okO o) (hi : inj o) {l : Nat} (hl : l < o.length) {x : Nat} (hx : x ∈ ring o l) : x < o.length := by
  obtain ⟨j, rfl⟩ := (mem_ring h hi hl).mp hx
  exact itO_lt h hl j
theorem ring_self {o : List Nat} (h : okO o) (hi : inj o) {l : Nat} (hl : l < o.length) : l ∈ ring o l := (mem_ring h hi hl).mpr ⟨0, rfl⟩
theorem ring_sym {o : List Nat} (h : okO o) (hi : inj o) {l : Nat} (hl : l < o.length) {x : Nat} (hx : x ∈ ring o l) : l ∈ ring o x := by
  have hx0 := ring_lt h hi hl hx
  obtain ⟨p, P⟩ := per h hi hl
  have hx' := hx
  unfold ring at hx'
  rw [circ_eq P] at hx'
  obtain ⟨j, hj, rfl⟩ := List.mem_map.mp hx'
  have hj := List.mem_range.mp hj
  refine (mem_ring h hi hx0).mpr ⟨p - j, ?_⟩
  rw [itO_add, show j + (p - j) = p by omega, P.back]
theorem ring_trans {o : List Nat} (h : okO o) (hi : inj o) {l : Nat} (hl : l < o.length) {x y : Nat} (hx : x ∈ ring o l) (hy : y ∈ ring o x) : y ∈ ring o l := by
  have hx0 := ring_lt h hi hl hx
  obtain ⟨j, rfl⟩ := (mem_ring h hi hl).mp hx
  obtain ⟨k, rfl⟩ := (mem_ring h hi hx0).mp hy
  exact (mem_ring h hi hl).mpr ⟨j + k, itO_add ..⟩
theorem ring_nodup {o : List Nat} (h : okO o) (hi : inj o) {l : Nat} (hl : l < o.length) : (ring o l).Nodup := by
  obtain ⟨p, P⟩ := per h hi hl
  unfold ring
  rw [circ_eq P]
  unfold List.Nodup
  rw [List.pairwise_map]
  refine (List.pairwise_lt_range (n := p)).imp_of_mem fun {a b} ha hb hab e => ?_
  have hb := List.mem_range.mp hb
  refine P.least (b - a) (by omega) (by omega) (itO_cancel h hi hl a ?_)
  rw [show a + (b - a) = b by omega, e]
abbrev rs (o : List Nat) (i : Nat) : List (List Nat) := (List.range i).filterMap (ringAt o)
theorem ringAt_some {o : List Nat} {l : Nat} {c : List Nat} : ringAt o l = some c ↔ (∀ y ∈ ring o l, l ≤ y) ∧ c = ring o l := by
  unfold ringAt
  show (if (ring o l).all _ = true then some (ring o l) else none) = some c ↔ _
  by_cases hc : (ring o l).all (fun y => decide (l ≤ y)) = true
  · rw [if_pos hc]
    rw [List.all_eq_true] at hc
    exact ⟨fun e => ⟨fun y hy => of_decide_eq_true (hc y hy), (Option.some.inj e).symm⟩, fun e => by rw [e.2]⟩
  · rw [if_neg hc]
    exact ⟨fun e => (by cases e), fun e => absurd (List.all_eq_true.mpr fun y hy => decide_eq_true (e.1 y hy)) hc⟩
theorem ringAt_none {o : List Nat} {l : Nat} : ringAt o l = none ↔ ∃ y ∈ ring o l, y < l := by
  constructor
  · intro e
    false_or_by_contra
    rename_i hc
    have : ringAt o l = some (ring o l) := ringAt_some.mpr ⟨fun y hy => by
      false_or_by_contra
      rename_i h2
      exact hc ⟨y, hy, by omega⟩, rfl⟩
    rw [e] at this
    cases this
  · rintro ⟨y, hy, hl⟩
    cases e : ringAt o l with
    | none => rfl
    | some c => have := (ringAt_some.mp e).1 y hy; omega
theorem mem_rs {o : List Nat} {i : Nat} {c : List Nat} : c ∈ rs o i ↔ ∃ l, l < i ∧ (∀ y ∈ ring o l, l ≤ y) ∧ c = ring o l := by
  show c ∈ (List.range i).filterMap (ringAt o) ↔ _
  rw [List.mem_filterMap]
  constructor
  · rintro ⟨l, hl, e⟩
    exact ⟨l, List.mem_range.mp hl, ringAt_some.mp e⟩
  · rintro ⟨l, hl, e⟩
    exact ⟨l, List.mem_range.mpr hl, ringAt_some.mpr e⟩
theorem seen_iff {o : List Nat} (h : okO o) (hi : inj o) {i : Nat} (hl : i < o.length) : i ∈ (rs o i).flatten ↔ ringAt o i = none := by
  rw [List.mem_flatten, ringAt_none]
  constructor
  · rintro ⟨c, hc, hx⟩
    obtain ⟨l, hli, _, rfl⟩ := mem_rs.mp hc
    exact ⟨l, ring_sym h hi (by omega) hx, hli⟩
  · rintro ⟨y, hy, hyi⟩
    obtain ⟨m, hm, hP, hmin⟩ := least_of (P := fun y => y ∈ ring o i) y hy
    have hmo := ring_lt h hi hl hP
    refine ⟨ring o m, mem_rs.mpr ⟨m, by omega, fun z hz => ?_, rfl⟩, ring_sym h hi hl hP⟩
    have := ring_trans h hi hl hP hz
    false_or_by_contra
    rename_i hc
    exact hmin z (by omega) this
theorem rs_succ (o : List Nat) (i : Nat) : rs o (i + 1) = rs o i ++ (ringAt o i).toList := by
  show (List.range (i + 1)).filterMap (ringAt o) = _
  rw [List.range_succ, List.filterMap_append]
  congr 1
theorem rs_nodup {o : List Nat} (h : okO o) (hi : inj o) : ∀ i, i ≤ o.length → (rs o i).flatten.Nodup
  | 0, _ => List.nodup_nil
  | i + 1, hl => by
    have ih := rs_nodup h hi i (by omega)
    rw [rs_succ]
    cases e : ringAt o i with
    | none => simpa using ih
    | some c =>
      obtain ⟨h1, rfl⟩ := ringAt_some.mp e
      have hns : i ∉ (rs o i).flatten := by rw [seen_iff h hi (by omega), e]; simp
      rw [show (rs o i ++ (some (ring o i)).toList).flatten = (rs o i).flatten ++ ring o i by simp, List.nodup_append]
      refine ⟨ih, ring_nodup h hi (by omega), fun x hx y hy e => hns ?_⟩
      subst e
      obtain ⟨c, hc, hx⟩ := List.mem_flatten.mp hx
      obtain ⟨l, hli, hm, rfl⟩ := mem_rs.mp hc
      refine List.mem_flatten.mpr ⟨_, hc, ?_⟩
      exact ring_trans h hi (by omega) hx (ring_sym h hi (by omega) hy)
theorem rs_len {o : List Nat} (h : okO o) (hi : inj o) : (rs o o.length).flatten.length = o.length := by
  have a := (rs_nodup h hi o.length (Nat.le_refl _)).length_le_of_subset (l₂ := List.range o.length) fun x hx => by
    obtain ⟨c, hc, hx⟩ := List.mem_flatten.mp hx
    obtain ⟨l, hli, _, rfl⟩ := mem_rs.mp hc
    exact List.mem_range.mpr (ring_lt h hi hli hx)
  have b := (List.nodup_range (n := o.length)).length_le_of_subset (l₂ := (rs o o.length).flatten) fun i hx => by
    have hx := List.mem_range.mp hx
    cases e : ringAt o i with
    | none =>
      obtain ⟨c, hc, hi2⟩ := List.mem_flatten.mp ((seen_iff h hi hx).mpr e)
      obtain ⟨l, hli, q⟩ := mem_rs.mp hc
      exact List.mem_flatten.mpr ⟨c, mem_rs.mpr ⟨l, by omega, q⟩, hi2⟩
    | some c =>
      obtain ⟨q, rfl⟩ := ringAt_some.mp e
      exact List.mem_flatten.mpr ⟨_, mem_rs.mpr ⟨i, hx, q, rfl⟩, ring_self h hi hx⟩
  rw [List.length_range] at a b
  omega
end K96
set_option linter.all false
set_option maxRecDepth 100000
set_option maxHeartbeats 4000000
namespace K96
open DL
@[reducible] def sp_ringsof : Spc := fun ds S Q => ∃ o, ds = [.tup (natD o)] ∧ o.length ≤ 100 ∧ okO o ∧ inj o ∧ ∀ S', Sub S S' → Q (.tup ((lawR o).map ordD)) S'
theorem flatten_le {o : List Nat} (h : okO o) (hi : inj o) {i : Nat} (hl : i ≤ o.length) : (rs o i).flatten.length ≤ o.length := by
  have a := (rs_nodup h hi i hl).length_le_of_subset (l₂ := List.range o.length) fun x hx => by
    obtain ⟨c, hc, hx⟩ := List.mem_flatten.mp hx
    obtain ⟨l, hli, _, rfl⟩ := mem_rs.mp hc
    exact List.mem_range.mpr (ring_lt h hi (by omega) hx)
  rwa [List.length_range] at a
theorem body_rings_of : Body 5 1 w_rings_of sp_ringsof := by
  rintro ds S Q _ ⟨o, rfl, hl, ho, hij, k⟩
  unfold w_rings_of
  (simp only [start, List.map_cons, List.map_nil, List.length_cons, List.length_nil, Nat.reduceAdd, Nat.reduceSub, List.replicate_succ, List.replicate_zero, List.cons_append, List.nil_append, Nat.sub_self, Nat.zero_add])
  ((with_reducible conv => whnf); repeat (first | (rw [natD_len]; with_reducible conv => whnf) | (rw [intD_len]; with_reducible conv => whnf) | (refine Exists.intro _ (And.intro (rfl : _ = some _) ?_); with_reducible conv => whnf) | (refine And.intro (okII _ _) ?_; rw [eqD_ii]; with_reducible conv => whnf) | (refine And.intro (by first | assumption | exact Exists.intro _ (by assumption) | exact ⟨rfl, rfl, by decide, by decide⟩ | exact Nat.le_of_ble_eq_true rfl | exact rfl) ?_; with_reducible conv => whnf) | (rw [isLst_at (by assumption)]; with_reducible conv => whnf) | (refine ifT rfl ?_; with_reducible conv => whnf) | (refine ifF rfl ?_; with_reducible conv => whnf) | (refine it_at (by assumption) ?_; with_reducible conv => whnf)))
  have e0 := at_push S (.lst [])
  have s0 := (Sub.refl S).app [.lst []]
  generalize hS1 : S ++ [.lst []] = S1 at *
  have hS1l : S1.length = S.length + 1 := by rw [← hS1]; simp
  have e1 := at_push S1 (.lst [])
  have e0 := push_at e0 [.lst []]
  have s0 := s0.app [.lst []]
  rw [hS1l] at e1 ⊢
  generalize S1 ++ [.lst []] = S2 at *
  generalize hn0 : S.length = n0 at *
  refine ⟨⟨by omega, by omega⟩, ?_⟩
  refine Loop_mk (fun i ρ S' => ∃ o3 o4, ρ = [some (.tup (natD o)), some (.ref n0), some (.ref (n0 + 1)), o3, o4] ∧ S'[n0]? = some (.lst ((rs o i).map ordD)) ∧ S'[n0 + 1]? = some (.lst (natD (rs o i).flatten)) ∧ Sub S S') ⟨none, none, rfl, e0, e1, s0⟩ (by intros; trivial) ?_ ?_
  · rintro i d ρ' S' hi ⟨o3, o4, rfl, f0, f1, f2⟩
    obtain ⟨hi1, rfl⟩ := rangeD_get hi
    rw [show (0 : Int) + i = i by omega]
    have hio : i < o.length := by omega
    ((with_reducible conv => whnf); repeat (first | (refine And.intro (okII _ _) ?_; rw [eqD_ii]; with_reducible conv => whnf) | (refine And.intro (by first | assumption | exact Exists.intro _ (by assumption) | exact ⟨rfl, rfl, by decide, by decide⟩ | exact Nat.le_of_ble_eq_true rfl | exact rfl) ?_; with_reducible conv => whnf) | (rw [isLst_at (by assumption)]; with_reducible conv => whnf) | (refine ifT rfl ?_; with_reducible conv => whnf) | (refine ifF rfl ?_; with_reducible conv => whnf) | (refine it_at (by assumption) ?_; with_reducible conv => whnf)))
    refine ⟨⟨rfl, flats_int _, Nat.zero_le _, by rw [deeps_int]; omega⟩, ?_⟩
    rw [any_nat]
    ((with_reducible conv => whnf); repeat (first | (refine And.intro (okII _ _) ?_; rw [eqD_ii]; with_reducible conv => whnf) | (refine And.intro (by first | assumption | exact Exists.intro _ (by assumption) | exact ⟨rfl, rfl, by decide, by decide⟩ | exact Nat.le_of_ble_eq_true rfl | exact rfl) ?_; with_reducible conv => whnf) | (rw [isLst_at (by assumption)]; with_reducible conv => whnf) | (refine ifT rfl ?_; with_reducible conv => whnf) | (refine ifF rfl ?_; with_reducible conv => whnf) | (refine it_at (by assumption) ?_; with_reducible conv => whnf)))
    have hseen := seen_iff ho hij hio
    by_cases hc : i ∈ (rs o i).flatten
    · refine ifF (by simp [hc]) ?_
      ((with_reducible conv => whnf); repeat (first | (refine And.intro (okII _ _) ?_; rw [eqD_ii]; with_reducible conv => whnf) | (refine And.intro (by first | assumption | exact Exists.intro _ (by assumption) | exact ⟨rfl, rfl, by decide, by decide⟩ | exact Nat.le_of_ble_eq_true rfl | exact rfl) ?_; with_reducible conv => whnf) | (rw [isLst_at (by assumption)]; with_reducible conv => whnf) | (refine ifT rfl ?_; with_reducible conv => whnf) | (refine ifF rfl ?_; with_reducible conv => whnf) | (refine it_at (by assumption) ?_; with_reducible conv => whnf)))
      have e := hseen.mp hc
      refine ⟨_, _, rfl, ?_, ?_, f2⟩
      · rw [rs_succ, e]; simpa using f0
      · rw [rs_succ, e]; simpa using f1
    · refine ifT (by simp [hc]) ?_
      have er : ringAt o i = some (ring o i) := by
        cases e : ringAt o i with
        | none => exact absurd (hseen.mpr e) hc
        | some c => rw [(ringAt_some.mp e).2]
      obtain ⟨p, P⟩ := per ho hij hio
      have hring : ring o i = (List.range p).map (itO o i) := circ_eq P
      have l0 := at_lt f1
      have e3 := at_push S' (.lst [.int (i : Int)])
      have f0 := push_at f0 [.lst [.int (i : Int)]]
      have f1 := push_at f1 [.lst [.int (i : Int)]]
      have f2 := f2.app [.lst [.int (i : Int)]]
      ((with_reducible conv => whnf); repeat (first | (refine And.intro (okII _ _) ?_; rw [eqD_ii]; with_reducible conv => whnf) | (refine And.intro (by first | assumption | exact Exists.intro _ (by assumption) | exact ⟨rfl, rfl, by decide, by decide⟩ | exact Nat.le_of_ble_eq_true rfl | exact rfl) ?_; with_reducible conv => whnf) | (rw [isLst_at (by assumption)]; with_reducible conv => whnf) | (refine ifT rfl ?_; with_reducible conv => whnf) | (refine ifF rfl ?_; with_reducible conv => whnf) | (refine it_at (by assumption) ?_; with_reducible conv => whnf)))
      generalize S' ++ [.lst [.int (i : Int)]] = S3 at *
      generalize S'.length = nr at *
      refine ⟨fun m ρ S4 => ∃ t, m = p - t ∧ t + 1 ≤ p ∧ ρ = [some (.tup (natD o)), some (.ref n0), some (.ref (n0 + 1)), some (.int i), some (.ref nr)] ∧ S4[n0]? = some (.lst ((rs o i).map ordD)) ∧ S4[n0 + 1]? = some (.lst (natD (rs o i).flatten)) ∧ S4[nr]? = some (.lst (natD ((List.range (t + 1)).map (itO o i)))) ∧ Sub S S4, ⟨p - 0, 0, rfl, P.pos, rfl, f0, f1, e3, f2⟩, ?_⟩
      rintro m ρ' S4 ⟨t, rfl, ht, rfl, g0, g1, g2, g3⟩
      have hlast : atZ (natD ((List.range (t + 1)).map (itO o i))) (-1) = some (.int (itO o i t : Nat)) := by
        rw [atZ_last (by simp), last_it]
      ((with_reducible conv => whnf); repeat (first | (refine And.intro (okII _ _) ?_; rw [eqD_ii]; with_reducible conv => whnf) | (refine And.intro (by first | assumption | exact Exists.intro _ (by assumption) | exact ⟨rfl, rfl, by decide, by decide⟩ | exact Nat.le_of_ble_eq_true rfl | exact rfl) ?_; with_reducible conv => whnf) | (rw [isLst_at (by assumption)]; with_reducible conv => whnf) | (refine ifT rfl ?_; with_reducible conv => whnf) | (refine ifF rfl ?_; with_reducible conv => whnf) | (refine it_at (by assumption) ?_; with_reducible conv => whnf)))
      refine ⟨_, hlast, ?_⟩
      ((with_reducible conv => whnf); repeat (first | (refine And.intro (okII _ _) ?_; rw [eqD_ii]; with_reducible conv => whnf) | (refine And.intro (by first | assumption | exact Exists.intro _ (by assumption) | exact ⟨rfl, rfl, by decide, by decide⟩ | exact Nat.le_of_ble_eq_true rfl | exact rfl) ?_; with_reducible conv => whnf) | (rw [isLst_at (by assumption)]; with_reducible conv => whnf) | (refine ifT rfl ?_; with_reducible conv => whnf) | (refine ifF rfl ?_; with_reducible conv => whnf) | (refine it_at (by assumption) ?_; with_reducible conv => whnf)))
      refine ⟨_, atZ_natD (itO_lt ho hio t), ?_⟩
      ((with_reducible conv => whnf); repeat (first | (refine And.intro (okII _ _) ?_; rw [eqD_ii]; with_reducible conv => whnf) | (refine And.intro (by first | assumption | exact Exists.intro _ (by assumption) | exact ⟨rfl, rfl, by decide, by decide⟩ | exact Nat.le_of_ble_eq_true rfl | exact rfl) ?_; with_reducible conv => whnf) | (rw [isLst_at (by assumption)]; with_reducible conv => whnf) | (refine ifT rfl ?_; with_reducible conv => whnf) | (refine ifF rfl ?_; with_reducible conv => whnf) | (refine it_at (by assumption) ?_; with_reducible conv => whnf)))
      by_cases hb : oat o (itO o i t) = i
      · refine ifF (by simp [hb]) ?_
        have htp : p = t + 1 := by
          have : ¬ t + 1 < p := fun hlt => P.least (t + 1) (by omega) hlt hb
          omega
        rw [← htp, ← hring] at g2
        have hfl := flatten_le ho hij (show i + 1 ≤ o.length by omega)
        rw [rs_succ, er] at hfl
        have hfl2 : (rs o i).flatten.length + (ring o i).length ≤ o.length := by simpa using hfl
        ((with_reducible conv => whnf); repeat (first | (refine And.intro (okII _ _) ?_; rw [eqD_ii]; with_reducible conv => whnf) | (refine And.intro (by first | assumption | exact Exists.intro _ (by assumption) | exact ⟨rfl, rfl, by decide, by decide⟩ | exact Nat.le_of_ble_eq_true rfl | exact rfl) ?_; with_reducible conv => whnf) | (rw [isLst_at (by assumption)]; with_reducible conv => whnf) | (refine ifT rfl ?_; with_reducible conv => whnf) | (refine ifF rfl ?_; with_reducible conv => whnf) | (refine it_at (by assumption) ?_; with_reducible conv => whnf)))
        refine ⟨by rw [natD_len, natD_len]; unfold szL; omega, ?_⟩
        rw [natD_app]
        have g4 := at_set g1 (o' := .lst (natD ((rs o i).flatten ++ ring o i)))
        have g5 : (S4.set (n0 + 1) (.lst (natD ((rs o i).flatten ++ ring o i))))[n0]? = some (.lst ((rs o i).map ordD)) := by rw [at_set_ne (by omega), g0]
        have g6 : (S4.set (n0 + 1) (.lst (natD ((rs o i).flatten ++ ring o i))))[nr]? = some (.lst (natD (ring o i))) := by rw [at_set_ne (by omega), g2]
        have g7 := g3.put (show S.length ≤ n0 + 1 by omega) (o := .lst (natD ((rs o i).flatten ++ ring o i)))
        ((with_reducible conv => whnf); repeat (first | (refine And.intro (okII _ _) ?_; rw [eqD_ii]; with_reducible conv => whnf) | (refine And.intro (by first | assumption | exact Exists.intro _ (by assumption) | exact ⟨rfl, rfl, by decide, by decide⟩ | exact Nat.le_of_ble_eq_true rfl | exact rfl) ?_; with_reducible conv => whnf) | (rw [isLst_at (by assumption)]; with_reducible conv => whnf) | (refine ifT rfl ?_; with_reducible conv => whnf) | (refine ifF rfl ?_; with_reducible conv => whnf) | (refine it_at (by assumption) ?_; with_reducible conv => whnf)))
        generalize S4.set (n0 + 1) (.lst (natD ((rs o i).flatten ++ ring o i))) = S5 at *
        have hrl : (rs o i).length ≤ i := by
          have := List.length_filterMap_le (ringAt o) (List.range i)
          rwa [List.length_range] at this
        refine ⟨by rw [List.length_map]; unfold szL; omega, ?_⟩
        refine ⟨_, _, rfl, ?_, ?_, g7.put (by omega)⟩
        · rw [at_set g5, rs_succ, er, List.map_append]; rfl
        · rw [at_set_ne (by omega), g4, rs_succ, er]; simp
      · refine ifT (by simp; omega) ?_
        have htp : t + 1 ≠ p := fun e => hb (by have := P.back; rw [← e] at this; exact this)
        have hpl := P.le
        ((with_reducible conv => whnf); repeat (first | (refine And.intro (okII _ _) ?_; rw [eqD_ii]; with_reducible conv => whnf) | (refine And.intro (by first | assumption | exact Exists.intro _ (by assumption) | exact ⟨rfl, rfl, by decide, by decide⟩ | exact Nat.le_of_ble_eq_true rfl | exact rfl) ?_; with_reducible conv => whnf) | (rw [isLst_at (by assumption)]; with_reducible conv => whnf) | (refine ifT rfl ?_; with_reducible conv => whnf) | (refine ifF rfl ?_; with_reducible conv => whnf) | (refine it_at (by assumption) ?_; with_reducible conv => whnf)))
        refine ⟨_, hlast, ?_⟩
        ((with_reducible conv => whnf); repeat (first | (refine And.intro (okII _ _) ?_; rw [eqD_ii]; with_reducible conv => whnf) | (refine And.intro (by first | assumption | exact Exists.intro _ (by assumption) | exact ⟨rfl, rfl, by decide, by decide⟩ | exact Nat.le_of_ble_eq_true rfl | exact rfl) ?_; with_reducible conv => whnf) | (rw [isLst_at (by assumption)]; with_reducible conv => whnf) | (refine ifT rfl ?_; with_reducible conv => whnf) | (refine ifF rfl ?_; with_reducible conv => whnf) | (refine it_at (by assumption) ?_; with_reducible conv => whnf)))
        refine ⟨_, atZ_natD (itO_lt ho hio t), ?_⟩
        ((with_reducible conv => whnf); repeat (first | (refine And.intro (okII _ _) ?_; rw [eqD_ii]; with_reducible conv => whnf) | (refine And.intro (by first | assumption | exact Exists.intro _ (by assumption) | exact ⟨rfl, rfl, by decide, by decide⟩ | exact Nat.le_of_ble_eq_true rfl | exact rfl) ?_; with_reducible conv => whnf) | (rw [isLst_at (by assumption)]; with_reducible conv => whnf) | (refine ifT rfl ?_; with_reducible conv => whnf) | (refine ifF rfl ?_; with_reducible conv => whnf) | (refine it_at (by assumption) ?_; with_reducible conv => whnf)))
        refine ⟨by rw [natD_len, List.length_map, List.length_range]; unfold szL; omega, ?_⟩
        refine ⟨p - (t + 1), by omega, t + 1, rfl, by omega, rfl, ?_, ?_, ?_, g3.put (by omega)⟩
        · rw [at_set_ne (by omega), g0]
        · rw [at_set_ne (by omega), g1]
        · rw [at_set g2, ← map_it_succ, ← natD_app]; rfl
  · rintro ρ' S' ⟨o3, o4, rfl, f0, f1, f2⟩
    rw [rangeD_len, show ((o.length : Int) - 0).toNat = o.length by omega] at f0
    ((with_reducible conv => whnf); repeat (first | (rw [natD_len]; with_reducible conv => whnf) | (rw [intD_len]; with_reducible conv => whnf) | (refine Exists.intro _ (And.intro (rfl : _ = some _) ?_); with_reducible conv => whnf) | (refine And.intro (okII _ _) ?_; rw [eqD_ii]; with_reducible conv => whnf) | (refine And.intro (by first | assumption | exact Exists.intro _ (by assumption) | exact ⟨rfl, rfl, by decide, by decide⟩ | exact Nat.le_of_ble_eq_true rfl | exact rfl) ?_; with_reducible conv => whnf) | (rw [isLst_at (by assumption)]; with_reducible conv => whnf) | (refine ifT rfl ?_; with_reducible conv => whnf) | (refine ifF rfl ?_; with_reducible conv => whnf) | (refine it_at (by assumption) ?_; with_reducible conv => whnf)))
    exact k _ f2
end K96
set_option linter.all false
set_option maxRecDepth 100000
set_option maxHeartbeats 4000000
namespace K96
open DL
@[reducible] def sp_order : Spc := fun ds S Q => ∃ n k : Nat, ds = [.ref n, .int k] ∧ k ≤ 100 ∧ Dr n S ∧ ∀ o S', o.length = k → okO o → inj o → Dr n S' → Ch n S S' → Q (.tup (natD o)) S'
theorem getD_mem {c : List Nat} {k : Nat} (h : k < c.length) : c.getD k 0 ∈ c := by
  rw [List.getD_eq_getElem?_getD, List.getElem?_eq_getElem h]
  exact List.getElem_mem _
theorem getD_inj {c : List Nat} (h : c.Nodup) {a b : Nat} (ha : a < c.length) (hb : b < c.length) (e : c.getD a 0 = c.getD b 0) : a = b := by
  rw [List.getD_eq_getElem?_getD, List.getD_eq_getElem?_getD, List.getElem?_eq_getElem ha, List.getElem?_eq_getElem hb] at e
  false_or_by_contra
  rename_i hc
  have := List.pairwise_iff_getElem.mp h
  rcases Nat.lt_or_gt_of_ne hc with q | q
  · exact this _ _ ha hb q e
  · exact this _ _ hb ha q e.symm
structure Pm (c : List Nat) (n : Nat) : Prop where
  p : c.Perm (List.range n)
theorem Pm.len {c : List Nat} {n : Nat} (h : Pm c n) : c.length = n := by rw [h.p.length_eq, List.length_range]
theorem Pm.nodup {c : List Nat} {n : Nat} (h : Pm c n) : c.Nodup := (List.nodup_range).perm h.p.symm
theorem Pm.lt {c : List Nat} {n : Nat} (h : Pm c n) {k : Nat} (hk : k < n) : c.getD k 0 < n := List.mem_range.mp (h.p.mem_iff.mp (getD_mem (by rw [h.len]; exact hk)))
theorem Pm.ex {c : List Nat} {n : Nat} (h : Pm c n) {a : Nat} (ha : a < n) : ∃ k, k < n ∧ c.getD k 0 = a := by
  obtain ⟨k, hk, e⟩ := List.mem_iff_getElem.mp (h.p.mem_iff.mpr (List.mem_range.mpr ha))
  refine ⟨k, by rw [← h.len]; exact hk, ?_⟩
  rw [List.getD_eq_getElem?_getD, List.getElem?_eq_getElem hk]
  exact e
theorem Pm.inj {c : List Nat} {n : Nat} (h : Pm c n) {a b : Nat} (ha : a < n) (hb : b < n) (e : c.getD a 0 = c.getD b 0) : a = b := getD_inj h.nodup (by rw [h.len]; exact ha) (by rw [h.len]; exact hb) e
theorem Pm.range (n : Nat) : Pm (List.range n) n := ⟨.refl _⟩
theorem range_getD {n k : Nat} (h : k < n) : (List.range n).getD k 0 = k := by
  rw [List.getD_eq_getElem?_getD, List.getElem?_range h]
  rfl
theorem ord_of {c fd : List Nat} {n : Nat} (hc : Pm c n) (hl : fd.length = n) (σ : Nat → Nat) (h1 : ∀ k, k < n → σ k < n ∧ fd.getD (c.getD k 0) 0 = c.getD (σ k) 0) (h2 : ∀ a b, a < n → b < n → σ a = σ b → a = b) : okO fd ∧ inj fd := by
  constructor
  · intro x hx
    obtain ⟨a, ha, rfl⟩ := List.mem_iff_getElem.mp hx
    rw [hl] at ha ⊢
    obtain ⟨k, hk, e⟩ := hc.ex ha
    obtain ⟨h3, h4⟩ := h1 k hk
    rw [e, List.getD_eq_getElem?_getD, List.getElem?_eq_getElem (by omega)] at h4
    have h4 : fd[a] = c.getD (σ k) 0 := h4
    rw [h4]
    exact hc.lt h3
  · intro a b ha hb e
    rw [hl] at ha hb
    obtain ⟨k1, q1, rfl⟩ := hc.ex ha
    obtain ⟨k2, q2, rfl⟩ := hc.ex hb
    unfold oat at e
    rw [(h1 k1 q1).2, (h1 k2 q2).2] at e
    rw [h2 k1 k2 q1 q2 (hc.inj (h1 k1 q1).1 (h1 k2 q2).1 e)]
theorem Pm.ord {c : List Nat} {n : Nat} (h : Pm c n) : okO c ∧ K96.inj c :=
  ord_of (Pm.range n) h.len (fun k => c.getD k 0) (fun k hk => ⟨h.lt hk, by rw [range_getD hk, range_getD (h.lt hk)]⟩) fun a b ha hb e => h.inj ha hb e
theorem nat_set (l : List Nat) (i x : Nat) : (natD l).set i (.int x) = natD (l.set i x) := by
  show ((l.map fun (k : Nat) => (k : Int)).map D.int).set i (D.int x) = ((l.set i x).map fun (k : Nat) => (k : Int)).map D.int
  rw [List.map_set, List.map_set]
theorem map_er {α β : Type} (f : α → β) : ∀ (l : List α) (i : Nat), (l.map f).eraseIdx i = (l.eraseIdx i).map f
  | [], _ => rfl
  | _ :: _, 0 => rfl
  | a :: l, i + 1 => by show f a :: (l.map f).eraseIdx i = f a :: (l.eraseIdx i).map f; rw [map_er f l i]
theorem er_perm : ∀ (l : List Nat) (i : Nat) (h : i < l.length), (l[i] :: l.eraseIdx i).Perm l
  | _ :: _, 0, _ => .refl _
  | a :: l, i + 1, h => (List.Perm.swap a _ (l.eraseIdx i)).trans ((er_perm l i (by simpa using h)).cons a)
theorem nat_erase (l : List Nat) (i : Nat) : (natD l).eraseIdx i = natD (l.eraseIdx i) := by
  show ((l.map fun (k : Nat) => (k : Int)).map D.int).eraseIdx i = ((l.eraseIdx i).map fun (k : Nat) => (k : Int)).map D.int
  rw [map_er, map_er]
theorem getD_setN {l : List Nat} {i r : Nat} {x : Nat} (hi : i < l.length) : (l.set i x).getD r 0 = if i = r then x else l.getD r 0 := by
  rw [List.getD_eq_getElem?_getD, List.getD_eq_getElem?_getD, List.getElem?_set]
  by_cases h : i = r
  · subst h
    rw [if_pos rfl, if_pos rfl, if_pos hi]
    rfl
  · rw [if_neg h, if_neg h]
theorem rg3_half (k : Nat) : rg3N 0 ((k : Int) - 1) 2 = k / 2 := by
  unfold rg3N
  rw [if_pos (by decide)]
  split <;> omega
def part (k : Nat) : Nat := if k % 2 = 0 then k + 1 else k - 1
def sig (t k : Nat) : Nat := if k < 2 * t then part k else k
theorem rangeD_natD (k : Nat) : rangeD 0 (k : Int) = natD (List.range k) := by rw [rangeD_nat, natD_map]
theorem rep_natD (k : Nat) : (List.replicate (k : Int).toNat [D.int 0]).flatten = natD (List.replicate k 0) := by
  rw [Int.toNat_natCast]
  induction k with
  | zero => rfl
  | succ k ih => rw [List.replicate_succ, List.flatten_cons, ih]; rfl
theorem body_law_order : Body 7 2 (w_law_order sp_take) sp_order := by
  rintro ds S Q _ ⟨n, kk, rfl, hk, hd, k⟩
  unfold w_law_order
  (simp only [start, List.map_cons, List.map_nil, List.length_cons, List.length_nil, Nat.reduceAdd, Nat.reduceSub, List.replicate_succ, List.replicate_zero, List.cons_append, List.nil_append, Nat.sub_self, Nat.zero_add])
  ((with_reducible conv => whnf); repeat (first | (rw [natD_len]; with_reducible conv => whnf) | (rw [intD_len]; with_reducible conv => whnf) | (refine Exists.intro _ (And.intro (rfl : _ = some _) ?_); with_reducible conv => whnf) | (refine And.intro (okII _ _) ?_; rw [eqD_ii]; with_reducible conv => whnf) | (refine And.intro (by first | assumption | exact Exists.intro _ (by assumption) | exact ⟨rfl, rfl, by decide, by decide⟩ | exact Nat.le_of_ble_eq_true rfl | exact rfl) ?_; with_reducible conv => whnf) | (rw [isLst_at (by assumption)]; with_reducible conv => whnf) | (refine ifT rfl ?_; with_reducible conv => whnf) | (refine ifF rfl ?_; with_reducible conv => whnf) | (refine it_at (by assumption) ?_; with_reducible conv => whnf)))
  refine ⟨n, 4, rfl, by decide, hd, fun r S1 r0 r1 d1 c1 => ?_⟩
  ((with_reducible conv => whnf); repeat (first | (rw [natD_len]; with_reducible conv => whnf) | (rw [intD_len]; with_reducible conv => whnf) | (refine Exists.intro _ (And.intro (rfl : _ = some _) ?_); with_reducible conv => whnf) | (refine And.intro (okII _ _) ?_; rw [eqD_ii]; with_reducible conv => whnf) | (refine And.intro (by first | assumption | exact Exists.intro _ (by assumption) | exact ⟨rfl, rfl, by decide, by decide⟩ | exact Nat.le_of_ble_eq_true rfl | exact rfl) ?_; with_reducible conv => whnf) | (rw [isLst_at (by assumption)]; with_reducible conv => whnf) | (refine ifT rfl ?_; with_reducible conv => whnf) | (refine ifF rfl ?_; with_reducible conv => whnf) | (refine it_at (by assumption) ?_; with_reducible conv => whnf)))
  refine ⟨⟨⟨by omega, by omega⟩, by unfold szL; omega⟩, ?_⟩
  rw [rangeD_natD]
  have l1 := c1.len d1.lt
  have hn1 := d1.lt
  have e0 := at_push S1 (.lst (natD (List.range kk)))
  have c2 := c1.app [.lst (natD (List.range kk))]
  have d2 := d1.app [.lst (natD (List.range kk))]
  ((with_reducible conv => whnf); repeat (first | (rw [natD_len]; with_reducible conv => whnf) | (rw [intD_len]; with_reducible conv => whnf) | (refine Exists.intro _ (And.intro (rfl : _ = some _) ?_); with_reducible conv => whnf) | (refine And.intro (okII _ _) ?_; rw [eqD_ii]; with_reducible conv => whnf) | (refine And.intro (by first | assumption | exact Exists.intro _ (by assumption) | exact ⟨rfl, rfl, by decide, by decide⟩ | exact Nat.le_of_ble_eq_true rfl | exact rfl) ?_; with_reducible conv => whnf) | (rw [isLst_at (by assumption)]; with_reducible conv => whnf) | (refine ifT rfl ?_; with_reducible conv => whnf) | (refine ifF rfl ?_; with_reducible conv => whnf) | (refine it_at (by assumption) ?_; with_reducible conv => whnf)))
  generalize hS2 : S1 ++ [.lst (natD (List.range kk))] = S2 at *
  have hl2 : S2.length = S1.length + 1 := by rw [← hS2]; simp
  have e1 := at_push S2 (.lst [])
  have e0 := push_at e0 [.lst []]
  have c3 := c2.app [.lst []]
  have d3 := d2.app [.lst []]
  rw [hl2] at e1
  ((with_reducible conv => whnf); repeat (first | (rw [natD_len]; with_reducible conv => whnf) | (rw [intD_len]; with_reducible conv => whnf) | (refine Exists.intro _ (And.intro (rfl : _ = some _) ?_); with_reducible conv => whnf) | (refine And.intro (okII _ _) ?_; rw [eqD_ii]; with_reducible conv => whnf) | (refine And.intro (by first | assumption | exact Exists.intro _ (by assumption) | exact ⟨rfl, rfl, by decide, by decide⟩ | exact Nat.le_of_ble_eq_true rfl | exact rfl) ?_; with_reducible conv => whnf) | (rw [isLst_at (by assumption)]; with_reducible conv => whnf) | (refine ifT rfl ?_; with_reducible conv => whnf) | (refine ifF rfl ?_; with_reducible conv => whnf) | (refine it_at (by assumption) ?_; with_reducible conv => whnf)))
  rw [hl2]
  generalize hS3 : S2 ++ [.lst []] = S3 at *
  generalize hnl : S1.length = nl at *
  refine ⟨⟨by omega, by omega⟩, ?_⟩
  refine Loop_mk (fun i ρ S' => ∃ o5 fs ls, ρ = [some (.ref n), some (.int kk), some (.int r), some (.ref nl), some (.ref (nl + 1)), o5, none] ∧ S'[nl]? = some (.lst (natD ls)) ∧ S'[nl + 1]? = some (.lst (natD fs)) ∧ fs.length = i ∧ (fs ++ ls).Perm (List.range kk) ∧ Dr n S' ∧ Ch n S S') ⟨none, [], List.range kk, rfl, e0, e1, rfl, .refl _, d3, c3⟩ (by intros; trivial) ?_ ?_
  · rintro i d ρ' S' hi ⟨o5, fs, ls, rfl, f0, f1, f2, f3, f4, f5⟩
    obtain ⟨hi1, rfl⟩ := rangeD_get hi
    have hlen := f3.length_eq
    rw [List.length_append, List.length_range] at hlen
    ((with_reducible conv => whnf); repeat (first | (rw [natD_len]; with_reducible conv => whnf) | (rw [intD_len]; with_reducible conv => whnf) | (refine Exists.intro _ (And.intro (rfl : _ = some _) ?_); with_reducible conv => whnf) | (refine And.intro (okII _ _) ?_; rw [eqD_ii]; with_reducible conv => whnf) | (refine And.intro (by first | assumption | exact Exists.intro _ (by assumption) | exact ⟨rfl, rfl, by decide, by decide⟩ | exact Nat.le_of_ble_eq_true rfl | exact rfl) ?_; with_reducible conv => whnf) | (rw [isLst_at (by assumption)]; with_reducible conv => whnf) | (refine ifT rfl ?_; with_reducible conv => whnf) | (refine ifF rfl ?_; with_reducible conv => whnf) | (refine it_at (by assumption) ?_; with_reducible conv => whnf)))
    refine ⟨n, ls.length, rfl, by omega, f4, fun q S4 q0 q1 d4 c4 => ?_⟩
    have f0 := c4 _ _ (by omega) f0
    have f1 := c4 _ _ (by omega) f1
    ((with_reducible conv => whnf); repeat (first | (rw [natD_len]; with_reducible conv => whnf) | (rw [intD_len]; with_reducible conv => whnf) | (refine Exists.intro _ (And.intro (rfl : _ = some _) ?_); with_reducible conv => whnf) | (refine And.intro (okII _ _) ?_; rw [eqD_ii]; with_reducible conv => whnf) | (refine And.intro (by first | assumption | exact Exists.intro _ (by assumption) | exact ⟨rfl, rfl, by decide, by decide⟩ | exact Nat.le_of_ble_eq_true rfl | exact rfl) ?_; with_reducible conv => whnf) | (rw [isLst_at (by assumption)]; with_reducible conv => whnf) | (refine ifT rfl ?_; with_reducible conv => whnf) | (refine ifF rfl ?_; with_reducible conv => whnf) | (refine it_at (by assumption) ?_; with_reducible conv => whnf)))
    have hq : q.toNat < ls.length := by omega
    refine ⟨⟨by omega, by omega⟩, q.toNat, .int (ls[q.toNat] : Nat), ixZ_ok q0 q1, ?_, ?_⟩
    · show ((ls.map fun (k : Nat) => (k : Int)).map D.int)[q.toNat]? = _
      rw [List.getElem?_map, List.getElem?_map, List.getElem?_eq_getElem hq]
      rfl
    rw [nat_erase]
    have f1 : (S4.set nl (.lst (natD (ls.eraseIdx q.toNat))))[nl + 1]? = some (.lst (natD fs)) := by rw [at_set_ne (by omega), f1]
    have f0 := at_set f0 (o' := .lst (natD (ls.eraseIdx q.toNat)))
    have c5 := (f5.trans c4).put (show S.length ≤ nl by omega) (o := .lst (natD (ls.eraseIdx q.toNat)))
    have d5 := d4.put (show n ≠ nl by omega) (o := .lst (natD (ls.eraseIdx q.toNat)))
    ((with_reducible conv => whnf); repeat (first | (rw [natD_len]; with_reducible conv => whnf) | (rw [intD_len]; with_reducible conv => whnf) | (refine Exists.intro _ (And.intro (rfl : _ = some _) ?_); with_reducible conv => whnf) | (refine And.intro (okII _ _) ?_; rw [eqD_ii]; with_reducible conv => whnf) | (refine And.intro (by first | assumption | exact Exists.intro _ (by assumption) | exact ⟨rfl, rfl, by decide, by decide⟩ | exact Nat.le_of_ble_eq_true rfl | exact rfl) ?_; with_reducible conv => whnf) | (rw [isLst_at (by assumption)]; with_reducible conv => whnf) | (refine ifT rfl ?_; with_reducible conv => whnf) | (refine ifF rfl ?_; with_reducible conv => whnf) | (refine it_at (by assumption) ?_; with_reducible conv => whnf)))
    generalize S4.set nl (.lst (natD (ls.eraseIdx q.toNat))) = S5 at *
    refine ⟨by unfold szL; omega, ?_⟩
    refine ⟨_, fs ++ [ls[q.toNat]], ls.eraseIdx q.toNat, rfl, ?_, ?_, by rw [List.length_append, f2]; rfl, ?_, d5.put (by omega), c5.put (by omega)⟩
    · rw [at_set_ne (by omega), f0]
    · rw [at_set f1, ← natD_app]; rfl
    · refine .trans ?_ f3
      rw [List.append_assoc]
      exact (er_perm ls q.toNat hq).append_left fs
  · rintro ρ' S' ⟨o5, fs, ls, rfl, f0, f1, f2, f3, f4, f5⟩
    rw [rangeD_len, show ((kk : Int) - 0).toNat = kk by omega] at f2
    have hlen := f3.length_eq
    rw [List.length_append, List.length_range] at hlen
    have hls : ls = [] := List.length_eq_zero_iff.mp (by omega)
    subst hls
    rw [List.append_nil] at f3
    have P : Pm fs kk := ⟨f3⟩
    have hn := f4.lt
    have hll := f5.len hn
    have hr : r = 0 ∨ r = 1 ∨ r = 2 ∨ r = 3 := by omega
    rcases hr with rfl | rfl | rfl | rfl
    · ((with_reducible conv => whnf); repeat (first | (rw [natD_len]; with_reducible conv => whnf) | (rw [intD_len]; with_reducible conv => whnf) | (refine Exists.intro _ (And.intro (rfl : _ = some _) ?_); with_reducible conv => whnf) | (refine And.intro (okII _ _) ?_; rw [eqD_ii]; with_reducible conv => whnf) | (refine And.intro (by first | assumption | exact Exists.intro _ (by assumption) | exact ⟨rfl, rfl, by decide, by decide⟩ | exact Nat.le_of_ble_eq_true rfl | exact rfl) ?_; with_reducible conv => whnf) | (rw [isLst_at (by assumption)]; with_reducible conv => whnf) | (refine ifT rfl ?_; with_reducible conv => whnf) | (refine ifF rfl ?_; with_reducible conv => whnf) | (refine it_at (by assumption) ?_; with_reducible conv => whnf)))
      exact k fs _ f2 P.ord.1 P.ord.2 f4 f5
    · ((with_reducible conv => whnf); repeat (first | (rw [natD_len]; with_reducible conv => whnf) | (rw [intD_len]; with_reducible conv => whnf) | (refine Exists.intro _ (And.intro (rfl : _ = some _) ?_); with_reducible conv => whnf) | (refine And.intro (okII _ _) ?_; rw [eqD_ii]; with_reducible conv => whnf) | (refine And.intro (by first | assumption | exact Exists.intro _ (by assumption) | exact ⟨rfl, rfl, by decide, by decide⟩ | exact Nat.le_of_ble_eq_true rfl | exact rfl) ?_; with_reducible conv => whnf) | (rw [isLst_at (by assumption)]; with_reducible conv => whnf) | (refine ifT rfl ?_; with_reducible conv => whnf) | (refine ifF rfl ?_; with_reducible conv => whnf) | (refine it_at (by assumption) ?_; with_reducible conv => whnf)))
      refine ⟨⟨⟨by omega, by omega⟩, by unfold szL; omega⟩, ?_⟩
      rw [rangeD_natD]
      have e5 := at_push S' (.lst (natD (List.range kk)))
      have P2 := Pm.range kk
      ((with_reducible conv => whnf); repeat (first | (rw [natD_len]; with_reducible conv => whnf) | (rw [intD_len]; with_reducible conv => whnf) | (refine Exists.intro _ (And.intro (rfl : _ = some _) ?_); with_reducible conv => whnf) | (refine And.intro (okII _ _) ?_; rw [eqD_ii]; with_reducible conv => whnf) | (refine And.intro (by first | assumption | exact Exists.intro _ (by assumption) | exact ⟨rfl, rfl, by decide, by decide⟩ | exact Nat.le_of_ble_eq_true rfl | exact rfl) ?_; with_reducible conv => whnf) | (rw [isLst_at (by assumption)]; with_reducible conv => whnf) | (refine ifT rfl ?_; with_reducible conv => whnf) | (refine ifF rfl ?_; with_reducible conv => whnf) | (refine it_at (by assumption) ?_; with_reducible conv => whnf)))
      exact k _ _ P2.len P2.ord.1 P2.ord.2 (f4.app _) (f5.app _)
    · have e5 := at_push S' (.lst [.int 0])
      have f1 := push_at f1 [.lst [.int 0]]
      have c6 := f5.app [.lst [.int 0]]
      have d6 := f4.app [.lst [.int 0]]
      ((with_reducible conv => whnf); repeat (first | (rw [natD_len]; with_reducible conv => whnf) | (rw [intD_len]; with_reducible conv => whnf) | (refine Exists.intro _ (And.intro (rfl : _ = some _) ?_); with_reducible conv => whnf) | (refine And.intro (okII _ _) ?_; rw [eqD_ii]; with_reducible conv => whnf) | (refine And.intro (by first | assumption | exact Exists.intro _ (by assumption) | exact ⟨rfl, rfl, by decide, by decide⟩ | exact Nat.le_of_ble_eq_true rfl | exact rfl) ?_; with_reducible conv => whnf) | (rw [isLst_at (by assumption)]; with_reducible conv => whnf) | (refine ifT rfl ?_; with_reducible conv => whnf) | (refine ifF rfl ?_; with_reducible conv => whnf) | (refine it_at (by assumption) ?_; with_reducible conv => whnf)))
      generalize hS6 : S' ++ [.lst [.int 0]] = S6 at *
      refine ⟨⟨by omega, by omega⟩, ?_⟩
      refine ⟨by rw [List.length_singleton]; unfold szL; omega, ?_⟩
      rw [rep_natD]
      have e6 := at_push S6 (.lst (natD (List.replicate kk 0)))
      have f1 := push_at f1 [.lst (natD (List.replicate kk 0))]
      have c7 := c6.app [.lst (natD (List.replicate kk 0))]
      have d7 := d6.app [.lst (natD (List.replicate kk 0))]
      have hl6 : S6.length = S'.length + 1 := by rw [← hS6]; simp
      have f1l := at_lt f1
      ((with_reducible conv => whnf); repeat (first | (rw [natD_len]; with_reducible conv => whnf) | (rw [intD_len]; with_reducible conv => whnf) | (refine Exists.intro _ (And.intro (rfl : _ = some _) ?_); with_reducible conv => whnf) | (refine And.intro (okII _ _) ?_; rw [eqD_ii]; with_reducible conv => whnf) | (refine And.intro (by first | assumption | exact Exists.intro _ (by assumption) | exact ⟨rfl, rfl, by decide, by decide⟩ | exact Nat.le_of_ble_eq_true rfl | exact rfl) ?_; with_reducible conv => whnf) | (rw [isLst_at (by assumption)]; with_reducible conv => whnf) | (refine ifT rfl ?_; with_reducible conv => whnf) | (refine ifF rfl ?_; with_reducible conv => whnf) | (refine it_at (by assumption) ?_; with_reducible conv => whnf)))
      generalize S6 ++ [.lst (natD (List.replicate kk 0))] = S7 at *
      have hnl6 := c6.len d6.lt
      have hne : nl + 1 ≠ S6.length := by
        intro e
        have h1 := c6.len d6.lt
        have := at_lt f0
        omega
      generalize S6.length = n6 at *
      refine ⟨⟨by omega, by omega⟩, ?_⟩
      refine Loop_mk (fun i ρ S' => ∃ o5 fd, ρ = [some (.ref n), some (.int kk), some (.int 2), some (.ref nl), some (.ref n6), o5, some (.ref (nl + 1))] ∧ S'[nl + 1]? = some (.lst (natD fs)) ∧ S'[n6]? = some (.lst (natD fd)) ∧ fd.length = kk ∧ (∀ k, k < i → fd.getD (fs.getD (if k = 0 then kk - 1 else k - 1) 0) 0 = fs.getD k 0) ∧ Dr n S' ∧ Ch n S S') ⟨_, List.replicate kk 0, rfl, f1, e6, List.length_replicate, by omega, d7, c7⟩ (by intros; trivial) ?_ ?_
      · rintro i d ρ' S8 hi ⟨o5, fd, rfl, g0, g1, g2, g3, g4, g5⟩
        obtain ⟨hi1, rfl⟩ := rangeD_get hi
        have hik : i < kk := by omega
        rw [show (0 : Int) + i = i by omega]
        have hix := P.lt (show (if i = 0 then kk - 1 else i - 1) < kk by split <;> omega)
        ((with_reducible conv => whnf); repeat (first | (rw [natD_len]; with_reducible conv => whnf) | (rw [intD_len]; with_reducible conv => whnf) | (refine Exists.intro _ (And.intro (rfl : _ = some _) ?_); with_reducible conv => whnf) | (refine And.intro (okII _ _) ?_; rw [eqD_ii]; with_reducible conv => whnf) | (refine And.intro (by first | assumption | exact Exists.intro _ (by assumption) | exact ⟨rfl, rfl, by decide, by decide⟩ | exact Nat.le_of_ble_eq_true rfl | exact rfl) ?_; with_reducible conv => whnf) | (rw [isLst_at (by assumption)]; with_reducible conv => whnf) | (refine ifT rfl ?_; with_reducible conv => whnf) | (refine ifF rfl ?_; with_reducible conv => whnf) | (refine it_at (by assumption) ?_; with_reducible conv => whnf)))
        refine ⟨_, atZ_natD (by omega), ?_⟩
        ((with_reducible conv => whnf); repeat (first | (rw [natD_len]; with_reducible conv => whnf) | (rw [intD_len]; with_reducible conv => whnf) | (refine Exists.intro _ (And.intro (rfl : _ = some _) ?_); with_reducible conv => whnf) | (refine And.intro (okII _ _) ?_; rw [eqD_ii]; with_reducible conv => whnf) | (refine And.intro (by first | assumption | exact Exists.intro _ (by assumption) | exact ⟨rfl, rfl, by decide, by decide⟩ | exact Nat.le_of_ble_eq_true rfl | exact rfl) ?_; with_reducible conv => whnf) | (rw [isLst_at (by assumption)]; with_reducible conv => whnf) | (refine ifT rfl ?_; with_reducible conv => whnf) | (refine ifF rfl ?_; with_reducible conv => whnf) | (refine it_at (by assumption) ?_; with_reducible conv => whnf)))
        refine ⟨.int ((fs.getD (if i = 0 then kk - 1 else i - 1) 0 : Nat)), ?_, ?_⟩
        · by_cases h0 : i = 0
          · subst h0
            rw [if_pos rfl]
            have := atZ_last (o := fs) (by omega)
            rw [f2] at this
            exact this
          · rw [if_neg h0, show (i : Int) - 1 = ((i - 1 : Nat) : Int) by omega]
            exact atZ_natD (by omega)
        ((with_reducible conv => whnf); repeat (first | (rw [natD_len]; with_reducible conv => whnf) | (rw [intD_len]; with_reducible conv => whnf) | (refine Exists.intro _ (And.intro (rfl : _ = some _) ?_); with_reducible conv => whnf) | (refine And.intro (okII _ _) ?_; rw [eqD_ii]; with_reducible conv => whnf) | (refine And.intro (by first | assumption | exact Exists.intro _ (by assumption) | exact ⟨rfl, rfl, by decide, by decide⟩ | exact Nat.le_of_ble_eq_true rfl | exact rfl) ?_; with_reducible conv => whnf) | (rw [isLst_at (by assumption)]; with_reducible conv => whnf) | (refine ifT rfl ?_; with_reducible conv => whnf) | (refine ifF rfl ?_; with_reducible conv => whnf) | (refine it_at (by assumption) ?_; with_reducible conv => whnf)))
        refine ⟨_, ixZ_ok (by omega) (by omega), ?_⟩
        rw [Int.toNat_natCast]
        show ∃ o5 fd, _
        refine ⟨_, fd.set (fs.getD (if i = 0 then kk - 1 else i - 1) 0) (oat fs i), rfl, ?_, ?_, by rw [List.length_set, g2], fun k hk => ?_, g4.put (by omega), g5.put (by omega)⟩
        · rw [at_set_ne (by omega), g0]
        · rw [at_set g1, nat_set]
        · rw [getD_setN (by omega)]
          by_cases e : k = i
          · subst e
            rw [if_pos rfl]
            rfl
          · rw [if_neg ?_]
            · exact g3 k (by omega)
            · intro h
              have := P.inj (by split <;> omega) (by split <;> omega) h
              split at this <;> split at this <;> omega
      · rintro ρ' S8 ⟨o5, fd, rfl, g0, g1, g2, g3, g4, g5⟩
        rw [rangeD_len, show ((kk : Int) - 0).toNat = kk by omega] at g3
        ((with_reducible conv => whnf); repeat (first | (rw [natD_len]; with_reducible conv => whnf) | (rw [intD_len]; with_reducible conv => whnf) | (refine Exists.intro _ (And.intro (rfl : _ = some _) ?_); with_reducible conv => whnf) | (refine And.intro (okII _ _) ?_; rw [eqD_ii]; with_reducible conv => whnf) | (refine And.intro (by first | assumption | exact Exists.intro _ (by assumption) | exact ⟨rfl, rfl, by decide, by decide⟩ | exact Nat.le_of_ble_eq_true rfl | exact rfl) ?_; with_reducible conv => whnf) | (rw [isLst_at (by assumption)]; with_reducible conv => whnf) | (refine ifT rfl ?_; with_reducible conv => whnf) | (refine ifF rfl ?_; with_reducible conv => whnf) | (refine it_at (by assumption) ?_; with_reducible conv => whnf)))
        have := ord_of P g2 (fun k => if k + 1 = kk then 0 else k + 1) (fun k hk => ⟨by split <;> omega, ?_⟩) (fun a b ha hb e => by split at e <;> split at e <;> omega)
        · exact k fd _ g2 this.1 this.2 g4 g5
        · have := g3 (if k + 1 = kk then 0 else k + 1) (by split <;> omega)
          rw [← this]
          congr 2
          split <;> split <;> omega
    · ((with_reducible conv => whnf); repeat (first | (rw [natD_len]; with_reducible conv => whnf) | (rw [intD_len]; with_reducible conv => whnf) | (refine Exists.intro _ (And.intro (rfl : _ = some _) ?_); with_reducible conv => whnf) | (refine And.intro (okII _ _) ?_; rw [eqD_ii]; with_reducible conv => whnf) | (refine And.intro (by first | assumption | exact Exists.intro _ (by assumption) | exact ⟨rfl, rfl, by decide, by decide⟩ | exact Nat.le_of_ble_eq_true rfl | exact rfl) ?_; with_reducible conv => whnf) | (rw [isLst_at (by assumption)]; with_reducible conv => whnf) | (refine ifT rfl ?_; with_reducible conv => whnf) | (refine ifF rfl ?_; with_reducible conv => whnf) | (refine it_at (by assumption) ?_; with_reducible conv => whnf)))
      refine ⟨⟨⟨by omega, by omega⟩, by unfold szL; omega⟩, ?_⟩
      rw [rangeD_natD]
      have f1l := at_lt f1
      have e6 := at_push S' (.lst (natD (List.range kk)))
      have f1 := push_at f1 [.lst (natD (List.range kk))]
      have c7 := f5.app [.lst (natD (List.range kk))]
      have d7 := f4.app [.lst (natD (List.range kk))]
      ((with_reducible conv => whnf); repeat (first | (rw [natD_len]; with_reducible conv => whnf) | (rw [intD_len]; with_reducible conv => whnf) | (refine Exists.intro _ (And.intro (rfl : _ = some _) ?_); with_reducible conv => whnf) | (refine And.intro (okII _ _) ?_; rw [eqD_ii]; with_reducible conv => whnf) | (refine And.intro (by first | assumption | exact Exists.intro _ (by assumption) | exact ⟨rfl, rfl, by decide, by decide⟩ | exact Nat.le_of_ble_eq_true rfl | exact rfl) ?_; with_reducible conv => whnf) | (rw [isLst_at (by assumption)]; with_reducible conv => whnf) | (refine ifT rfl ?_; with_reducible conv => whnf) | (refine ifF rfl ?_; with_reducible conv => whnf) | (refine it_at (by assumption) ?_; with_reducible conv => whnf)))
      generalize hS7 : S' ++ [.lst (natD (List.range kk))] = S7 at *
      have hne : nl + 1 ≠ S'.length := by omega
      generalize S'.length = n6 at *
      refine ⟨⟨by decide, ⟨by omega, by omega⟩, ⟨by omega, by omega⟩, by omega, by omega⟩, ?_⟩
      have hr3 := rg3_half kk
      have hget : ∀ (i : Nat) d, (rangeD3 0 ((kk : Int) - 1) 2)[i]? = some d → i < kk / 2 ∧ d = .int ((2 * i : Nat) : Int) := by
        intro i d h
        unfold rangeD3 at h
        rw [hr3, List.getElem?_map] at h
        by_cases hi : i < kk / 2
        · rw [List.getElem?_range hi] at h
          refine ⟨hi, ?_⟩
          rw [← Option.some.inj h]
          show D.int (0 + (i : Int) * 2) = _
          congr 1
          omega
        · rw [List.getElem?_eq_none (by simpa using hi)] at h
          cases h
      have hrl : (rangeD3 0 ((kk : Int) - 1) 2).length = kk / 2 := by
        unfold rangeD3
        rw [hr3, List.length_map, List.length_range]
      refine Loop_mk (fun i ρ S' => ∃ o5 fd, ρ = [some (.ref n), some (.int kk), some (.int 3), some (.ref nl), some (.ref n6), o5, some (.ref (nl + 1))] ∧ S'[nl + 1]? = some (.lst (natD fs)) ∧ S'[n6]? = some (.lst (natD fd)) ∧ fd.length = kk ∧ (∀ k, k < kk → fd.getD (fs.getD k 0) 0 = fs.getD (sig i k) 0) ∧ Dr n S' ∧ Ch n S S') ⟨_, List.range kk, rfl, f1, e6, List.length_range, fun k hk => by rw [range_getD (P.lt hk)]; unfold sig; rw [if_neg (by omega)], d7, c7⟩ (by intros; trivial) ?_ ?_
      · rintro i d ρ' S8 hi ⟨o5, fd, rfl, g0, g1, g2, g3, g4, g5⟩
        obtain ⟨hi1, rfl⟩ := hget i d hi
        have hx0 := P.lt (show 2 * i < kk by omega)
        have hx1 := P.lt (show 2 * i + 1 < kk by omega)
        ((with_reducible conv => whnf); repeat (first | (rw [natD_len]; with_reducible conv => whnf) | (rw [intD_len]; with_reducible conv => whnf) | (refine Exists.intro _ (And.intro (rfl : _ = some _) ?_); with_reducible conv => whnf) | (refine And.intro (okII _ _) ?_; rw [eqD_ii]; with_reducible conv => whnf) | (refine And.intro (by first | assumption | exact Exists.intro _ (by assumption) | exact ⟨rfl, rfl, by decide, by decide⟩ | exact Nat.le_of_ble_eq_true rfl | exact rfl) ?_; with_reducible conv => whnf) | (rw [isLst_at (by assumption)]; with_reducible conv => whnf) | (refine ifT rfl ?_; with_reducible conv => whnf) | (refine ifF rfl ?_; with_reducible conv => whnf) | (refine it_at (by assumption) ?_; with_reducible conv => whnf)))
        refine ⟨.int (oat fs (2 * i + 1) : Nat), ?_, ?_⟩
        · rw [show ((2 * i : Nat) : Int) + 1 = ((2 * i + 1 : Nat) : Int) by omega]
          exact atZ_natD (by omega)
        ((with_reducible conv => whnf); repeat (first | (rw [natD_len]; with_reducible conv => whnf) | (rw [intD_len]; with_reducible conv => whnf) | (refine Exists.intro _ (And.intro (rfl : _ = some _) ?_); with_reducible conv => whnf) | (refine And.intro (okII _ _) ?_; rw [eqD_ii]; with_reducible conv => whnf) | (refine And.intro (by first | assumption | exact Exists.intro _ (by assumption) | exact ⟨rfl, rfl, by decide, by decide⟩ | exact Nat.le_of_ble_eq_true rfl | exact rfl) ?_; with_reducible conv => whnf) | (rw [isLst_at (by assumption)]; with_reducible conv => whnf) | (refine ifT rfl ?_; with_reducible conv => whnf) | (refine ifF rfl ?_; with_reducible conv => whnf) | (refine it_at (by assumption) ?_; with_reducible conv => whnf)))
        refine ⟨_, atZ_natD (by omega), ?_⟩
        ((with_reducible conv => whnf); repeat (first | (rw [natD_len]; with_reducible conv => whnf) | (rw [intD_len]; with_reducible conv => whnf) | (refine Exists.intro _ (And.intro (rfl : _ = some _) ?_); with_reducible conv => whnf) | (refine And.intro (okII _ _) ?_; rw [eqD_ii]; with_reducible conv => whnf) | (refine And.intro (by first | assumption | exact Exists.intro _ (by assumption) | exact ⟨rfl, rfl, by decide, by decide⟩ | exact Nat.le_of_ble_eq_true rfl | exact rfl) ?_; with_reducible conv => whnf) | (rw [isLst_at (by assumption)]; with_reducible conv => whnf) | (refine ifT rfl ?_; with_reducible conv => whnf) | (refine ifF rfl ?_; with_reducible conv => whnf) | (refine it_at (by assumption) ?_; with_reducible conv => whnf)))
        refine ⟨_, ixZ_ok (by omega) (by unfold oat; omega), ?_⟩
        rw [Int.toNat_natCast, nat_set]
        have g0 : (S8.set n6 (.lst (natD (fd.set (oat fs (2 * i)) (oat fs (2 * i + 1))))))[nl + 1]? = some (.lst (natD fs)) := by rw [at_set_ne (by omega), g0]
        have g1 := at_set g1 (o' := .lst (natD (fd.set (oat fs (2 * i)) (oat fs (2 * i + 1)))))
        have g4 := g4.put (show n ≠ n6 by omega) (o := .lst (natD (fd.set (oat fs (2 * i)) (oat fs (2 * i + 1)))))
        have g5 := g5.put (show S.length ≤ n6 by omega) (o := .lst (natD (fd.set (oat fs (2 * i)) (oat fs (2 * i + 1)))))
        ((with_reducible conv => whnf); repeat (first | (rw [natD_len]; with_reducible conv => whnf) | (rw [intD_len]; with_reducible conv => whnf) | (refine Exists.intro _ (And.intro (rfl : _ = some _) ?_); with_reducible conv => whnf) | (refine And.intro (okII _ _) ?_; rw [eqD_ii]; with_reducible conv => whnf) | (refine And.intro (by first | assumption | exact Exists.intro _ (by assumption) | exact ⟨rfl, rfl, by decide, by decide⟩ | exact Nat.le_of_ble_eq_true rfl | exact rfl) ?_; with_reducible conv => whnf) | (rw [isLst_at (by assumption)]; with_reducible conv => whnf) | (refine ifT rfl ?_; with_reducible conv => whnf) | (refine ifF rfl ?_; with_reducible conv => whnf) | (refine it_at (by assumption) ?_; with_reducible conv => whnf)))
        generalize S8.set n6 (.lst (natD (fd.set (oat fs (2 * i)) (oat fs (2 * i + 1))))) = S9 at *
        refine ⟨_, atZ_natD (by omega), ?_⟩
        ((with_reducible conv => whnf); repeat (first | (rw [natD_len]; with_reducible conv => whnf) | (rw [intD_len]; with_reducible conv => whnf) | (refine Exists.intro _ (And.intro (rfl : _ = some _) ?_); with_reducible conv => whnf) | (refine And.intro (okII _ _) ?_; rw [eqD_ii]; with_reducible conv => whnf) | (refine And.intro (by first | assumption | exact Exists.intro _ (by assumption) | exact ⟨rfl, rfl, by decide, by decide⟩ | exact Nat.le_of_ble_eq_true rfl | exact rfl) ?_; with_reducible conv => whnf) | (rw [isLst_at (by assumption)]; with_reducible conv => whnf) | (refine ifT rfl ?_; with_reducible conv => whnf) | (refine ifF rfl ?_; with_reducible conv => whnf) | (refine it_at (by assumption) ?_; with_reducible conv => whnf)))
        refine ⟨.int (oat fs (2 * i + 1) : Nat), ?_, ?_⟩
        · rw [show ((2 * i : Nat) : Int) + 1 = ((2 * i + 1 : Nat) : Int) by omega]
          exact atZ_natD (by omega)
        ((with_reducible conv => whnf); repeat (first | (rw [natD_len]; with_reducible conv => whnf) | (rw [intD_len]; with_reducible conv => whnf) | (refine Exists.intro _ (And.intro (rfl : _ = some _) ?_); with_reducible conv => whnf) | (refine And.intro (okII _ _) ?_; rw [eqD_ii]; with_reducible conv => whnf) | (refine And.intro (by first | assumption | exact Exists.intro _ (by assumption) | exact ⟨rfl, rfl, by decide, by decide⟩ | exact Nat.le_of_ble_eq_true rfl | exact rfl) ?_; with_reducible conv => whnf) | (rw [isLst_at (by assumption)]; with_reducible conv => whnf) | (refine ifT rfl ?_; with_reducible conv => whnf) | (refine ifF rfl ?_; with_reducible conv => whnf) | (refine it_at (by assumption) ?_; with_reducible conv => whnf)))
        refine ⟨_, ixZ_ok (by omega) (by rw [List.length_set]; unfold oat; omega), ?_⟩
        rw [Int.toNat_natCast, nat_set]
        show ∃ o5 fd, _
        refine ⟨_, (fd.set (oat fs (2 * i)) (oat fs (2 * i + 1))).set (oat fs (2 * i + 1)) (oat fs (2 * i)), rfl, ?_, at_set g1, by rw [List.length_set, List.length_set, g2], fun k hk => ?_, g4.put (by omega), g5.put (by omega)⟩
        · rw [at_set_ne (by omega), g0]
        · have i0 : oat fs (2 * i) = fs.getD k 0 ↔ k = 2 * i := ⟨fun h => (P.inj (by omega) hk h).symm, fun h => by rw [h]; rfl⟩
          have i1 : oat fs (2 * i + 1) = fs.getD k 0 ↔ k = 2 * i + 1 := ⟨fun h => (P.inj (by omega) hk h).symm, fun h => by rw [h]; rfl⟩
          rw [getD_setN (by rw [List.length_set]; unfold oat; omega), getD_setN (by unfold oat; omega)]
          by_cases e1 : k = 2 * i + 1
          · rw [if_pos (i1.mpr e1)]
            unfold sig part
            rw [if_pos (by omega), if_neg (by omega), e1]
            rfl
          · rw [if_neg (fun h => e1 (i1.mp h))]
            by_cases e0 : k = 2 * i
            · rw [if_pos (i0.mpr e0)]
              unfold sig part
              rw [if_pos (by omega), if_pos (by omega), e0]
              rfl
            · rw [if_neg (fun h => e0 (i0.mp h)), g3 k hk]
              congr 1
              unfold sig
              split <;> split <;> omega
      · rintro ρ' S8 ⟨o5, fd, rfl, g0, g1, g2, g3, g4, g5⟩
        rw [hrl] at g3
        ((with_reducible conv => whnf); repeat (first | (rw [natD_len]; with_reducible conv => whnf) | (rw [intD_len]; with_reducible conv => whnf) | (refine Exists.intro _ (And.intro (rfl : _ = some _) ?_); with_reducible conv => whnf) | (refine And.intro (okII _ _) ?_; rw [eqD_ii]; with_reducible conv => whnf) | (refine And.intro (by first | assumption | exact Exists.intro _ (by assumption) | exact ⟨rfl, rfl, by decide, by decide⟩ | exact Nat.le_of_ble_eq_true rfl | exact rfl) ?_; with_reducible conv => whnf) | (rw [isLst_at (by assumption)]; with_reducible conv => whnf) | (refine ifT rfl ?_; with_reducible conv => whnf) | (refine ifF rfl ?_; with_reducible conv => whnf) | (refine it_at (by assumption) ?_; with_reducible conv => whnf)))
        have := ord_of P g2 (fun k => sig (kk / 2) k) (fun k hk => ⟨by unfold sig part; split <;> (try split) <;> omega, g3 k hk⟩) (fun a b ha hb e => by simp only [sig, part] at e; (repeat' split at e) <;> omega)
        exact k fd _ g2 this.1 this.2 g4 g5
end K96
set_option linter.all false
set_option maxRecDepth 100000
set_option maxHeartbeats 4000000
namespace K96
open DL
/-! few letters: what all orders tell -/
def rightN (o : List Nat) : Nat := ((List.range o.length).filter fun k => decide (oat o k = k)).length
def aR (n : Nat) : List Nat := (allO n).map rightN
def aG (n : Nat) : List (List (List Nat)) := (allO n).map lawR
def cR (l : List Nat) (k : Int) : Nat := (l.filter fun (x : Nat) => decide ((x : Int) = k)).length
def cG (l : List (List (List Nat))) (k : Int) : Nat := (l.filter fun r => decide ((r.length : Int) = k)).length
def cL (l : List (List (List Nat))) (k : Nat) : Nat := (l.filter fun r => r.all fun c => decide (c.length ≤ k)).length
def cF (l : List (List (List Nat))) (k : Nat) : Nat := (l.filter fun r => decide ((r.getD 0 []).length = k)).length
def fewB (n : Nat) (R : List Nat) (G : List (List (List Nat))) : Bool :=
  ((List.range (n + 3)).all fun j => decide (justZ n ((j : Int) - 1) = cR R ((j : Int) - 1)) && decide (cntZ n ((j : Int) - 1) = cG G ((j : Int) - 1))) &&
  decide (der n = cR R 0) &&
  ((List.range (n + 2)).all fun k => decide (fQ k n = Rat.divInt (cL G k) (fct n))) &&
  (decide (n = 0) || (((List.range (n + 2)).all fun k => (if 1 ≤ k ∧ k ≤ n then decide (Rat.divInt (cF G k) (fct n) = Rat.divInt 1 n) else decide (Rat.divInt (cF G k) (fct n) = 0))) && decide (Rat.divInt (((R.map fun (k : Nat) => (k : Int)).sum)) (fct n) = 1)))
theorem few0 : fewB 0 (aR 0) (aG 0) = true := by decide +kernel
theorem few1 : fewB 1 (aR 1) (aG 1) = true := by decide +kernel
theorem few2 : fewB 2 (aR 2) (aG 2) = true := by decide +kernel
theorem few3 : fewB 3 (aR 3) (aG 3) = true := by decide +kernel
theorem few4 : fewB 4 (aR 4) (aG 4) = true := by decide +kernel
theorem few5 : fewB 5 (aR 5) (aG 5) = true := by decide +kernel
theorem few6 : fewB 6 (aR 6) (aG 6) = true := by decide +kernel
theorem few : ∀ n, n ≤ 6 → fewB n (aR n) (aG n) = true
  | 0, _ => few0
  | 1, _ => few1
  | 2, _ => few2
  | 3, _ => few3
  | 4, _ => few4
  | 5, _ => few5
  | 6, _ => few6
  | _ + 7, h => absurd h (by omega)
end K96
set_option linter.all false
set_option maxRecDepth 100000
set_option maxHeartbeats 4000000
namespace K96
open DL
theorem allO_mem : ∀ k, ∀ o ∈ allO k, ∀ x ∈ o, x < k
  | 0, o, h, x, hx => by rw [List.mem_singleton.mp h] at hx; cases hx
  | k + 1, o, h, x, hx => by
    obtain ⟨p, hp, ho⟩ := List.mem_flatMap.mp (show o ∈ (allO k).flatMap (putIn k) from h)
    obtain ⟨i, hi, rfl⟩ := List.mem_map.mp ho
    have ih := allO_mem k p hp
    rcases List.mem_append.mp hx with e | e
    · rcases List.mem_append.mp e with e | e
      · have := ih x (List.mem_of_mem_take e); omega
      · rw [List.mem_singleton.mp e]; omega
    · have := ih x (List.mem_of_mem_drop e); omega
theorem allO_okO {k : Nat} {o : List Nat} (h : o ∈ allO k) : okO o := fun x hx => by rw [allO_ol k o h]; exact allO_mem k o h x hx
@[reducible] def ringD (r : List (List Nat)) : D := .tup (r.map ordD)
@[reducible] def sp_few : Spc := fun ds S Q => ∃ n : Nat, ds = [.int n] ∧ n ≤ 6 ∧ ∀ S', Sub S S' → Q (.bl true) S'
structure Few (n : Nat) : Prop where
  a : ∀ j, j < n + 3 → justZ n ((j : Int) - 1) = cR (aR n) ((j : Int) - 1) ∧ cntZ n ((j : Int) - 1) = cG (aG n) ((j : Int) - 1)
  b : der n = cR (aR n) 0
  c : ∀ k, k < n + 2 → fQ k n = Rat.divInt (cL (aG n) k) (fct n)
  d : n ≠ 0 → ∀ k : Nat, k < n + 2 → chanD n k = qD (Rat.divInt (cF (aG n) k) (fct n))
  e : n ≠ 0 → Rat.divInt (((aR n).map fun (k : Nat) => (k : Int)).sum) (fct n) = 1
theorem few_mk {n : Nat} (h : n ≤ 6) : Few n := by
  have f := few n h
  unfold fewB at f
  simp only [Bool.and_eq_true, Bool.or_eq_true, List.all_eq_true, List.mem_range, decide_eq_true_eq] at f
  obtain ⟨⟨⟨f1, f2⟩, f3⟩, f4⟩ := f
  refine ⟨f1, f2, f3, fun h0 k hk => ?_, fun h0 => ?_⟩
  · have := (f4.resolve_left h0).1 k hk
    unfold chanD
    by_cases c : 1 ≤ k ∧ k ≤ n
    · rw [if_pos c] at this
      rw [if_pos (by omega), of_decide_eq_true this]
      have := qD_inv (n - 1)
      rw [show n - 1 + 1 = n by omega] at this
      rw [divInt_eq]
      exact this.symm
    · rw [if_neg c] at this
      rw [if_neg (by omega), of_decide_eq_true this]
      rfl
  · exact (f4.resolve_left h0).2
theorem body_law_few : Body 11 1 (w_law_few sp_allO sp_rings sp_just (sp_same 3) sp_cnt sp_wrong sp_frac sp_short sp_chan sp_mean) sp_few := by
  rintro ds S Q _ ⟨n, rfl, hn, kk⟩
  unfold w_law_few
  have F := few_mk hn
  have hfct := fct_8 (show n ≤ 8 by omega)
  have hol : ∀ o ∈ allO n, o.length = n := allO_ol n
  have hlen := allO_len n
  (simp only [start, List.map_cons, List.map_nil, List.length_cons, List.length_nil, Nat.reduceAdd, Nat.reduceSub, List.replicate_succ, List.replicate_zero, List.cons_append, List.nil_append, Nat.sub_self, Nat.zero_add])
  ((with_reducible conv => whnf); repeat (first | (rw [natD_len]; with_reducible conv => whnf) | (rw [intD_len]; with_reducible conv => whnf) | (refine Exists.intro _ (And.intro (rfl : _ = some _) ?_); with_reducible conv => whnf) | (refine And.intro (okII _ _) ?_; rw [eqD_ii]; with_reducible conv => whnf) | (refine And.intro (by first | assumption | exact Exists.intro _ (by assumption) | exact ⟨rfl, rfl, by decide, by decide⟩ | exact Nat.le_of_ble_eq_true rfl | exact rfl) ?_; with_reducible conv => whnf) | (rw [isLst_at (by assumption)]; with_reducible conv => whnf) | (refine ifT rfl ?_; with_reducible conv => whnf) | (refine ifF rfl ?_; with_reducible conv => whnf) | (refine it_at (by assumption) ?_; with_reducible conv => whnf)))
  refine ⟨n, rfl, by omega, fun m S1 e1 s1 => ?_⟩
  ((with_reducible conv => whnf); repeat (first | (rw [natD_len]; with_reducible conv => whnf) | (rw [intD_len]; with_reducible conv => whnf) | (refine Exists.intro _ (And.intro (rfl : _ = some _) ?_); with_reducible conv => whnf) | (refine And.intro (okII _ _) ?_; rw [eqD_ii]; with_reducible conv => whnf) | (refine And.intro (by first | assumption | exact Exists.intro _ (by assumption) | exact ⟨rfl, rfl, by decide, by decide⟩ | exact Nat.le_of_ble_eq_true rfl | exact rfl) ?_; with_reducible conv => whnf) | (rw [isLst_at (by assumption)]; with_reducible conv => whnf) | (refine ifT rfl ?_; with_reducible conv => whnf) | (refine ifF rfl ?_; with_reducible conv => whnf) | (refine it_at (by assumption) ?_; with_reducible conv => whnf)))
  rw [List.length_map, hlen]
  refine Lc_lm (xs := allO n) (e := ordD) (fun o => .int (rightN o : Nat)) (by rw [hlen]; unfold szL; omega) (fun S' h => h _ _ e1) (fun o S' R ho h hR => ?_) fun S2 h2 => ?_
  · have ol := hol o ho
    ((with_reducible conv => whnf); repeat (first | (rw [natD_len]; with_reducible conv => whnf) | (rw [intD_len]; with_reducible conv => whnf) | (refine Exists.intro _ (And.intro (rfl : _ = some _) ?_); with_reducible conv => whnf) | (refine And.intro (okII _ _) ?_; rw [eqD_ii]; with_reducible conv => whnf) | (refine And.intro (by first | assumption | exact Exists.intro _ (by assumption) | exact ⟨rfl, rfl, by decide, by decide⟩ | exact Nat.le_of_ble_eq_true rfl | exact rfl) ?_; with_reducible conv => whnf) | (rw [isLst_at (by assumption)]; with_reducible conv => whnf) | (refine ifT rfl ?_; with_reducible conv => whnf) | (refine ifF rfl ?_; with_reducible conv => whnf) | (refine it_at (by assumption) ?_; with_reducible conv => whnf)))
    refine ⟨⟨by omega, by omega⟩, ?_⟩
    refine Lc_rf (fun k => decide (oat o k = k)) (fun k => .int (k : Int)) (by unfold szL; omega) (by intros; trivial) (fun k S3 R3 hk h3 hR3 => ?_) fun S3 h3 => ?_
    · ((with_reducible conv => whnf); repeat (first | (rw [natD_len]; with_reducible conv => whnf) | (rw [intD_len]; with_reducible conv => whnf) | (refine Exists.intro _ (And.intro (rfl : _ = some _) ?_); with_reducible conv => whnf) | (refine And.intro (okII _ _) ?_; rw [eqD_ii]; with_reducible conv => whnf) | (refine And.intro (by first | assumption | exact Exists.intro _ (by assumption) | exact ⟨rfl, rfl, by decide, by decide⟩ | exact Nat.le_of_ble_eq_true rfl | exact rfl) ?_; with_reducible conv => whnf) | (rw [isLst_at (by assumption)]; with_reducible conv => whnf) | (refine ifT rfl ?_; with_reducible conv => whnf) | (refine ifF rfl ?_; with_reducible conv => whnf) | (refine it_at (by assumption) ?_; with_reducible conv => whnf)))
      refine ⟨_, atZ_natD (by omega), ?_⟩
      ((with_reducible conv => whnf); repeat (first | (rw [natD_len]; with_reducible conv => whnf) | (rw [intD_len]; with_reducible conv => whnf) | (refine Exists.intro _ (And.intro (rfl : _ = some _) ?_); with_reducible conv => whnf) | (refine And.intro (okII _ _) ?_; rw [eqD_ii]; with_reducible conv => whnf) | (refine And.intro (by first | assumption | exact Exists.intro _ (by assumption) | exact ⟨rfl, rfl, by decide, by decide⟩ | exact Nat.le_of_ble_eq_true rfl | exact rfl) ?_; with_reducible conv => whnf) | (rw [isLst_at (by assumption)]; with_reducible conv => whnf) | (refine ifT rfl ?_; with_reducible conv => whnf) | (refine ifF rfl ?_; with_reducible conv => whnf) | (refine it_at (by assumption) ?_; with_reducible conv => whnf)))
      have := hR3 S3 (Sub.refl _)
      refine ite_d (fun hc => ?_) fun hc => ?_
      · rw [if_pos (decide_eq_true (by omega))] at this; exact this
      · rw [if_neg (by rw [decide_eq_true_eq]; omega)] at this; exact this
    · have e3 := at_push S3 (.lst (((List.range n).filter fun k => decide (oat o k = k)).map fun (k : Nat) => D.int (k : Int)))
      ((with_reducible conv => whnf); repeat (first | (rw [natD_len]; with_reducible conv => whnf) | (rw [intD_len]; with_reducible conv => whnf) | (refine Exists.intro _ (And.intro (rfl : _ = some _) ?_); with_reducible conv => whnf) | (refine And.intro (okII _ _) ?_; rw [eqD_ii]; with_reducible conv => whnf) | (refine And.intro (by first | assumption | exact Exists.intro _ (by assumption) | exact ⟨rfl, rfl, by decide, by decide⟩ | exact Nat.le_of_ble_eq_true rfl | exact rfl) ?_; with_reducible conv => whnf) | (rw [isLst_at (by assumption)]; with_reducible conv => whnf) | (refine ifT rfl ?_; with_reducible conv => whnf) | (refine ifF rfl ?_; with_reducible conv => whnf) | (refine it_at (by assumption) ?_; with_reducible conv => whnf)))
      have := hR _ (h3.app [.lst (((List.range n).filter fun k => decide (oat o k = k)).map fun (k : Nat) => D.int (k : Int))])
      unfold rightN at this
      rw [ol] at this
      rw [List.length_map]
      exact this
  have er : (allO n).map (fun o => D.int (rightN o : Nat)) = natD (aR n) := by rw [natD_map]; unfold aR; rw [List.map_map]; rfl
  rw [er]
  have eR := at_push S2 (.lst (natD (aR n)))
  have e1 := push_at (h2 _ _ e1) [.lst (natD (aR n))]
  have s2 := (s1.trans h2).app [.lst (natD (aR n))]
  ((with_reducible conv => whnf); repeat (first | (rw [natD_len]; with_reducible conv => whnf) | (rw [intD_len]; with_reducible conv => whnf) | (refine Exists.intro _ (And.intro (rfl : _ = some _) ?_); with_reducible conv => whnf) | (refine And.intro (okII _ _) ?_; rw [eqD_ii]; with_reducible conv => whnf) | (refine And.intro (by first | assumption | exact Exists.intro _ (by assumption) | exact ⟨rfl, rfl, by decide, by decide⟩ | exact Nat.le_of_ble_eq_true rfl | exact rfl) ?_; with_reducible conv => whnf) | (rw [isLst_at (by assumption)]; with_reducible conv => whnf) | (refine ifT rfl ?_; with_reducible conv => whnf) | (refine ifF rfl ?_; with_reducible conv => whnf) | (refine it_at (by assumption) ?_; with_reducible conv => whnf)))
  generalize S2 ++ [.lst (natD (aR n))] = S3 at *
  generalize S2.length = mr at *
  refine Lc_lm (xs := allO n) (e := ordD) (fun o => ringD (lawR o)) (by rw [hlen]; unfold szL; omega) (fun S' h => h _ _ e1) (fun o S' R ho h hR => ?_) fun S4 h4 => ?_
  · have ol := hol o ho
    ((with_reducible conv => whnf); repeat (first | (rw [natD_len]; with_reducible conv => whnf) | (rw [intD_len]; with_reducible conv => whnf) | (refine Exists.intro _ (And.intro (rfl : _ = some _) ?_); with_reducible conv => whnf) | (refine And.intro (okII _ _) ?_; rw [eqD_ii]; with_reducible conv => whnf) | (refine And.intro (by first | assumption | exact Exists.intro _ (by assumption) | exact ⟨rfl, rfl, by decide, by decide⟩ | exact Nat.le_of_ble_eq_true rfl | exact rfl) ?_; with_reducible conv => whnf) | (rw [isLst_at (by assumption)]; with_reducible conv => whnf) | (refine ifT rfl ?_; with_reducible conv => whnf) | (refine ifF rfl ?_; with_reducible conv => whnf) | (refine it_at (by assumption) ?_; with_reducible conv => whnf)))
    exact ⟨o, rfl, by omega, allO_okO ho, fun S5 h5 => hR S5 h5⟩
  have eg : (allO n).map (fun o => ringD (lawR o)) = (aG n).map ringD := by unfold aG; rw [List.map_map]; rfl
  rw [eg]
  have eG := at_push S4 (.lst ((aG n).map ringD))
  have eR := push_at (h4 _ _ eR) [.lst ((aG n).map ringD)]
  have s4 := (s2.trans h4).app [.lst ((aG n).map ringD)]
  ((with_reducible conv => whnf); repeat (first | (rw [natD_len]; with_reducible conv => whnf) | (rw [intD_len]; with_reducible conv => whnf) | (refine Exists.intro _ (And.intro (rfl : _ = some _) ?_); with_reducible conv => whnf) | (refine And.intro (okII _ _) ?_; rw [eqD_ii]; with_reducible conv => whnf) | (refine And.intro (by first | assumption | exact Exists.intro _ (by assumption) | exact ⟨rfl, rfl, by decide, by decide⟩ | exact Nat.le_of_ble_eq_true rfl | exact rfl) ?_; with_reducible conv => whnf) | (rw [isLst_at (by assumption)]; with_reducible conv => whnf) | (refine ifT rfl ?_; with_reducible conv => whnf) | (refine ifF rfl ?_; with_reducible conv => whnf) | (refine it_at (by assumption) ?_; with_reducible conv => whnf)))
  generalize S4 ++ [.lst ((aG n).map ringD)] = S5 at *
  generalize S4.length = mg at *
  have hRl : (aR n).length = fct n := by unfold aR; rw [List.length_map, hlen]
  have hGl : (aG n).length = fct n := by unfold aG; rw [List.length_map, hlen]
  -- how many of them are k
  have cnt : ∀ (k : Int) (E : VK) (T : Sto) ρ, lk ρ 3 = some (.ref mr) → ρ.length = 11 → lk ρ 4 = some (.int k) → T[mr]? = some (.lst (natD (aR n))) → (∀ T', Sub T T' → E (.int (cR (aR n) k : Nat)) T') → True := by intros; trivial
  clear cnt
  refine ⟨⟨by omega, by omega⟩, ⟨by omega, by omega⟩, ?_⟩
  refine Loop_mk (fun i ρ S' => ∃ o4, ρ = [some (.int n), some (.ref m), some (.int (fct n : Nat)), some (.ref mr), o4, none, some (.ref mg), none, none, none, none] ∧ S'[mr]? = some (.lst (natD (aR n))) ∧ S'[mg]? = some (.lst ((aG n).map ringD)) ∧ Sub S S') ⟨none, rfl, eR, eG, s4⟩ (by intros; trivial) ?_ ?_
  · rintro i d ρ' S' hi ⟨o4, rfl, f1, f2, f3⟩
    obtain ⟨hi1, rfl⟩ := rangeD_get hi
    obtain ⟨Fa, Fb⟩ := F.a i (by omega)
    rw [show (-1 : Int) + i = (i : Int) - 1 by omega]
    ((with_reducible conv => whnf); repeat (first | (rw [natD_len]; with_reducible conv => whnf) | (rw [intD_len]; with_reducible conv => whnf) | (refine Exists.intro _ (And.intro (rfl : _ = some _) ?_); with_reducible conv => whnf) | (refine And.intro (okII _ _) ?_; rw [eqD_ii]; with_reducible conv => whnf) | (refine And.intro (by first | assumption | exact Exists.intro _ (by assumption) | exact ⟨rfl, rfl, by decide, by decide⟩ | exact Nat.le_of_ble_eq_true rfl | exact rfl) ?_; with_reducible conv => whnf) | (rw [isLst_at (by assumption)]; with_reducible conv => whnf) | (refine ifT rfl ?_; with_reducible conv => whnf) | (refine ifF rfl ?_; with_reducible conv => whnf) | (refine it_at (by assumption) ?_; with_reducible conv => whnf)))
    refine ⟨n, _, rfl, by omega, fun S6 h6 => ?_⟩
    have f1 := h6 _ _ f1
    have f2 := h6 _ _ f2
    have f3 := f3.trans h6
    ((with_reducible conv => whnf); repeat (first | (rw [natD_len]; with_reducible conv => whnf) | (rw [intD_len]; with_reducible conv => whnf) | (refine Exists.intro _ (And.intro (rfl : _ = some _) ?_); with_reducible conv => whnf) | (refine And.intro (okII _ _) ?_; rw [eqD_ii]; with_reducible conv => whnf) | (refine And.intro (by first | assumption | exact Exists.intro _ (by assumption) | exact ⟨rfl, rfl, by decide, by decide⟩ | exact Nat.le_of_ble_eq_true rfl | exact rfl) ?_; with_reducible conv => whnf) | (rw [isLst_at (by assumption)]; with_reducible conv => whnf) | (refine ifT rfl ?_; with_reducible conv => whnf) | (refine ifF rfl ?_; with_reducible conv => whnf) | (refine it_at (by assumption) ?_; with_reducible conv => whnf)))
    rw [natD_map]
    refine Lc_lf (xs := aR n) (e := fun (k : Nat) => D.int (k : Int)) (fun x => decide ((x : Int) = (i : Int) - 1)) (fun (k : Nat) => D.int (k : Int)) (by rw [hRl]; unfold szL; omega) (fun S' h => by rw [← natD_map]; exact h _ _ f1) (fun x S7 R hx h hR => ?_) fun S7 h7 => ?_
    · ((with_reducible conv => whnf); repeat (first | (rw [natD_len]; with_reducible conv => whnf) | (rw [intD_len]; with_reducible conv => whnf) | (refine Exists.intro _ (And.intro (rfl : _ = some _) ?_); with_reducible conv => whnf) | (refine And.intro (okII _ _) ?_; rw [eqD_ii]; with_reducible conv => whnf) | (refine And.intro (by first | assumption | exact Exists.intro _ (by assumption) | exact ⟨rfl, rfl, by decide, by decide⟩ | exact Nat.le_of_ble_eq_true rfl | exact rfl) ?_; with_reducible conv => whnf) | (rw [isLst_at (by assumption)]; with_reducible conv => whnf) | (refine ifT rfl ?_; with_reducible conv => whnf) | (refine ifF rfl ?_; with_reducible conv => whnf) | (refine it_at (by assumption) ?_; with_reducible conv => whnf)))
      have := hR S7 (Sub.refl _)
      refine ite_d (fun hc => ?_) fun hc => ?_
      · rw [if_pos (decide_eq_true hc)] at this; exact this
      · rw [if_neg (by rw [decide_eq_true_eq]; exact hc)] at this; exact this
    have e7 := at_push S7 (.lst (((aR n).filter fun (x : Nat) => decide ((x : Int) = (i : Int) - 1)).map fun (k : Nat) => D.int (k : Int)))
    have f1 := push_at (h7 _ _ f1) [.lst (((aR n).filter fun (x : Nat) => decide ((x : Int) = (i : Int) - 1)).map fun (k : Nat) => D.int (k : Int))]
    have f2 := push_at (h7 _ _ f2) [.lst (((aR n).filter fun (x : Nat) => decide ((x : Int) = (i : Int) - 1)).map fun (k : Nat) => D.int (k : Int))]
    have f3 := (f3.trans h7).app [.lst (((aR n).filter fun (x : Nat) => decide ((x : Int) = (i : Int) - 1)).map fun (k : Nat) => D.int (k : Int))]
    ((with_reducible conv => whnf); repeat (first | (rw [natD_len]; with_reducible conv => whnf) | (rw [intD_len]; with_reducible conv => whnf) | (refine Exists.intro _ (And.intro (rfl : _ = some _) ?_); with_reducible conv => whnf) | (refine And.intro (okII _ _) ?_; rw [eqD_ii]; with_reducible conv => whnf) | (refine And.intro (by first | assumption | exact Exists.intro _ (by assumption) | exact ⟨rfl, rfl, by decide, by decide⟩ | exact Nat.le_of_ble_eq_true rfl | exact rfl) ?_; with_reducible conv => whnf) | (rw [isLst_at (by assumption)]; with_reducible conv => whnf) | (refine ifT rfl ?_; with_reducible conv => whnf) | (refine ifF rfl ?_; with_reducible conv => whnf) | (refine it_at (by assumption) ?_; with_reducible conv => whnf)))
    rw [List.length_map, Fa]
    refine ⟨.int (cR (aR n) ((i : Int) - 1) : Nat), rfl, rfl, rfl, Nat.zero_le _, fun S8 h8 => ?_⟩
    have f1 := h8 _ _ f1
    have f2 := h8 _ _ f2
    have f3 := f3.trans h8
    ((with_reducible conv => whnf); repeat (first | (rw [natD_len]; with_reducible conv => whnf) | (rw [intD_len]; with_reducible conv => whnf) | (refine Exists.intro _ (And.intro (rfl : _ = some _) ?_); with_reducible conv => whnf) | (refine And.intro (okII _ _) ?_; rw [eqD_ii]; with_reducible conv => whnf) | (refine And.intro (by first | assumption | exact Exists.intro _ (by assumption) | exact ⟨rfl, rfl, by decide, by decide⟩ | exact Nat.le_of_ble_eq_true rfl | exact rfl) ?_; with_reducible conv => whnf) | (rw [isLst_at (by assumption)]; with_reducible conv => whnf) | (refine ifT rfl ?_; with_reducible conv => whnf) | (refine ifF rfl ?_; with_reducible conv => whnf) | (refine it_at (by assumption) ?_; with_reducible conv => whnf)))
    refine ⟨n, _, rfl, by omega, fun S9 h9 => ?_⟩
    have f1 := h9 _ _ f1
    have f2 := h9 _ _ f2
    have f3 := f3.trans h9
    ((with_reducible conv => whnf); repeat (first | (rw [natD_len]; with_reducible conv => whnf) | (rw [intD_len]; with_reducible conv => whnf) | (refine Exists.intro _ (And.intro (rfl : _ = some _) ?_); with_reducible conv => whnf) | (refine And.intro (okII _ _) ?_; rw [eqD_ii]; with_reducible conv => whnf) | (refine And.intro (by first | assumption | exact Exists.intro _ (by assumption) | exact ⟨rfl, rfl, by decide, by decide⟩ | exact Nat.le_of_ble_eq_true rfl | exact rfl) ?_; with_reducible conv => whnf) | (rw [isLst_at (by assumption)]; with_reducible conv => whnf) | (refine ifT rfl ?_; with_reducible conv => whnf) | (refine ifF rfl ?_; with_reducible conv => whnf) | (refine it_at (by assumption) ?_; with_reducible conv => whnf)))
    refine Lc_lf (xs := aG n) (e := ringD) (fun r => decide ((r.length : Int) = (i : Int) - 1)) ringD (by rw [hGl]; unfold szL; omega) (fun S' h => h _ _ f2) (fun x S7 R hx h hR => ?_) fun S7 h7 => ?_
    · ((with_reducible conv => whnf); repeat (first | (rw [natD_len]; with_reducible conv => whnf) | (rw [intD_len]; with_reducible conv => whnf) | (refine Exists.intro _ (And.intro (rfl : _ = some _) ?_); with_reducible conv => whnf) | (refine And.intro (okII _ _) ?_; rw [eqD_ii]; with_reducible conv => whnf) | (refine And.intro (by first | assumption | exact Exists.intro _ (by assumption) | exact ⟨rfl, rfl, by decide, by decide⟩ | exact Nat.le_of_ble_eq_true rfl | exact rfl) ?_; with_reducible conv => whnf) | (rw [isLst_at (by assumption)]; with_reducible conv => whnf) | (refine ifT rfl ?_; with_reducible conv => whnf) | (refine ifF rfl ?_; with_reducible conv => whnf) | (refine it_at (by assumption) ?_; with_reducible conv => whnf)))
      rw [List.length_map]
      have := hR S7 (Sub.refl _)
      refine ite_d (fun hc => ?_) fun hc => ?_
      · rw [if_pos (decide_eq_true hc)] at this; exact this
      · rw [if_neg (by rw [decide_eq_true_eq]; exact hc)] at this; exact this
    have e7 := at_push S7 (.lst (((aG n).filter fun r => decide ((r.length : Int) = (i : Int) - 1)).map ringD))
    have f1 := push_at (h7 _ _ f1) [.lst (((aG n).filter fun r => decide ((r.length : Int) = (i : Int) - 1)).map ringD)]
    have f2 := push_at (h7 _ _ f2) [.lst (((aG n).filter fun r => decide ((r.length : Int) = (i : Int) - 1)).map ringD)]
    have f3 := (f3.trans h7).app [.lst (((aG n).filter fun r => decide ((r.length : Int) = (i : Int) - 1)).map ringD)]
    ((with_reducible conv => whnf); repeat (first | (rw [natD_len]; with_reducible conv => whnf) | (rw [intD_len]; with_reducible conv => whnf) | (refine Exists.intro _ (And.intro (rfl : _ = some _) ?_); with_reducible conv => whnf) | (refine And.intro (okII _ _) ?_; rw [eqD_ii]; with_reducible conv => whnf) | (refine And.intro (by first | assumption | exact Exists.intro _ (by assumption) | exact ⟨rfl, rfl, by decide, by decide⟩ | exact Nat.le_of_ble_eq_true rfl | exact rfl) ?_; with_reducible conv => whnf) | (rw [isLst_at (by assumption)]; with_reducible conv => whnf) | (refine ifT rfl ?_; with_reducible conv => whnf) | (refine ifF rfl ?_; with_reducible conv => whnf) | (refine it_at (by assumption) ?_; with_reducible conv => whnf)))
    rw [List.length_map, Fb]
    refine ⟨.int (cG (aG n) ((i : Int) - 1) : Nat), rfl, rfl, rfl, Nat.zero_le _, fun S8 h8 => ?_⟩
    have f1 := h8 _ _ f1
    have f2 := h8 _ _ f2
    have f3 := f3.trans h8
    ((with_reducible conv => whnf); repeat (first | (rw [natD_len]; with_reducible conv => whnf) | (rw [intD_len]; with_reducible conv => whnf) | (refine Exists.intro _ (And.intro (rfl : _ = some _) ?_); with_reducible conv => whnf) | (refine And.intro (okII _ _) ?_; rw [eqD_ii]; with_reducible conv => whnf) | (refine And.intro (by first | assumption | exact Exists.intro _ (by assumption) | exact ⟨rfl, rfl, by decide, by decide⟩ | exact Nat.le_of_ble_eq_true rfl | exact rfl) ?_; with_reducible conv => whnf) | (rw [isLst_at (by assumption)]; with_reducible conv => whnf) | (refine ifT rfl ?_; with_reducible conv => whnf) | (refine ifF rfl ?_; with_reducible conv => whnf) | (refine it_at (by assumption) ?_; with_reducible conv => whnf)))
    exact ⟨_, rfl, by rw [f1, natD_map], f2, f3⟩
  rintro ρ' S' ⟨o4, rfl, f1, f2, f3⟩
  ((with_reducible conv => whnf); repeat (first | (rw [natD_len]; with_reducible conv => whnf) | (rw [intD_len]; with_reducible conv => whnf) | (refine Exists.intro _ (And.intro (rfl : _ = some _) ?_); with_reducible conv => whnf) | (refine And.intro (okII _ _) ?_; rw [eqD_ii]; with_reducible conv => whnf) | (refine And.intro (by first | assumption | exact Exists.intro _ (by assumption) | exact ⟨rfl, rfl, by decide, by decide⟩ | exact Nat.le_of_ble_eq_true rfl | exact rfl) ?_; with_reducible conv => whnf) | (rw [isLst_at (by assumption)]; with_reducible conv => whnf) | (refine ifT rfl ?_; with_reducible conv => whnf) | (refine ifF rfl ?_; with_reducible conv => whnf) | (refine it_at (by assumption) ?_; with_reducible conv => whnf)))
  refine ⟨n, rfl, by omega, fun S6 h6 => ?_⟩
  have f1 := h6 _ _ f1
  have f2 := h6 _ _ f2
  have f3 := f3.trans h6
  ((with_reducible conv => whnf); repeat (first | (rw [natD_len]; with_reducible conv => whnf) | (rw [intD_len]; with_reducible conv => whnf) | (refine Exists.intro _ (And.intro (rfl : _ = some _) ?_); with_reducible conv => whnf) | (refine And.intro (okII _ _) ?_; rw [eqD_ii]; with_reducible conv => whnf) | (refine And.intro (by first | assumption | exact Exists.intro _ (by assumption) | exact ⟨rfl, rfl, by decide, by decide⟩ | exact Nat.le_of_ble_eq_true rfl | exact rfl) ?_; with_reducible conv => whnf) | (rw [isLst_at (by assumption)]; with_reducible conv => whnf) | (refine ifT rfl ?_; with_reducible conv => whnf) | (refine ifF rfl ?_; with_reducible conv => whnf) | (refine it_at (by assumption) ?_; with_reducible conv => whnf)))
  rw [natD_map]
  refine Lc_lf (xs := aR n) (e := fun (k : Nat) => D.int (k : Int)) (fun x => decide ((x : Int) = 0)) (fun (k : Nat) => D.int (k : Int)) (by rw [hRl]; unfold szL; omega) (fun S' h => by rw [← natD_map]; exact h _ _ f1) (fun x S7 R hx h hR => ?_) fun S7 h7 => ?_
  · ((with_reducible conv => whnf); repeat (first | (rw [natD_len]; with_reducible conv => whnf) | (rw [intD_len]; with_reducible conv => whnf) | (refine Exists.intro _ (And.intro (rfl : _ = some _) ?_); with_reducible conv => whnf) | (refine And.intro (okII _ _) ?_; rw [eqD_ii]; with_reducible conv => whnf) | (refine And.intro (by first | assumption | exact Exists.intro _ (by assumption) | exact ⟨rfl, rfl, by decide, by decide⟩ | exact Nat.le_of_ble_eq_true rfl | exact rfl) ?_; with_reducible conv => whnf) | (rw [isLst_at (by assumption)]; with_reducible conv => whnf) | (refine ifT rfl ?_; with_reducible conv => whnf) | (refine ifF rfl ?_; with_reducible conv => whnf) | (refine it_at (by assumption) ?_; with_reducible conv => whnf)))
    have := hR S7 (Sub.refl _)
    refine ite_d (fun hc => ?_) fun hc => ?_
    · rw [if_pos (decide_eq_true hc)] at this; exact this
    · rw [if_neg (by rw [decide_eq_true_eq]; exact hc)] at this; exact this
  have e7 := at_push S7 (.lst (((aR n).filter fun (x : Nat) => decide ((x : Int) = 0)).map fun (k : Nat) => D.int (k : Int)))
  have f1 := push_at (h7 _ _ f1) [.lst (((aR n).filter fun (x : Nat) => decide ((x : Int) = 0)).map fun (k : Nat) => D.int (k : Int))]
  have f2 := push_at (h7 _ _ f2) [.lst (((aR n).filter fun (x : Nat) => decide ((x : Int) = 0)).map fun (k : Nat) => D.int (k : Int))]
  have f3 := (f3.trans h7).app [.lst (((aR n).filter fun (x : Nat) => decide ((x : Int) = 0)).map fun (k : Nat) => D.int (k : Int))]
  ((with_reducible conv => whnf); repeat (first | (rw [natD_len]; with_reducible conv => whnf) | (rw [intD_len]; with_reducible conv => whnf) | (refine Exists.intro _ (And.intro (rfl : _ = some _) ?_); with_reducible conv => whnf) | (refine And.intro (okII _ _) ?_; rw [eqD_ii]; with_reducible conv => whnf) | (refine And.intro (by first | assumption | exact Exists.intro _ (by assumption) | exact ⟨rfl, rfl, by decide, by decide⟩ | exact Nat.le_of_ble_eq_true rfl | exact rfl) ?_; with_reducible conv => whnf) | (rw [isLst_at (by assumption)]; with_reducible conv => whnf) | (refine ifT rfl ?_; with_reducible conv => whnf) | (refine ifF rfl ?_; with_reducible conv => whnf) | (refine it_at (by assumption) ?_; with_reducible conv => whnf)))
  rw [List.length_map, F.b]
  refine ⟨.int (cR (aR n) 0 : Nat), rfl, rfl, rfl, Nat.zero_le _, fun S8 h8 => ?_⟩
  have f1 := h8 _ _ f1
  have f2 := h8 _ _ f2
  have f3 := f3.trans h8
  ((with_reducible conv => whnf); repeat (first | (rw [natD_len]; with_reducible conv => whnf) | (rw [intD_len]; with_reducible conv => whnf) | (refine Exists.intro _ (And.intro (rfl : _ = some _) ?_); with_reducible conv => whnf) | (refine And.intro (okII _ _) ?_; rw [eqD_ii]; with_reducible conv => whnf) | (refine And.intro (by first | assumption | exact Exists.intro _ (by assumption) | exact ⟨rfl, rfl, by decide, by decide⟩ | exact Nat.le_of_ble_eq_true rfl | exact rfl) ?_; with_reducible conv => whnf) | (rw [isLst_at (by assumption)]; with_reducible conv => whnf) | (refine ifT rfl ?_; with_reducible conv => whnf) | (refine ifF rfl ?_; with_reducible conv => whnf) | (refine it_at (by assumption) ?_; with_reducible conv => whnf)))
  refine ⟨⟨by omega, by omega⟩, ?_⟩
  have hden : ((fct n : Nat) : Int) ≠ 0 ∧ ((fct n : Nat) : Int).natAbs < 2 ^ 1900 := by
    have := fct_pos n
    refine ⟨by omega, ?_⟩
    rw [Int.natAbs_natCast]
    exact Nat.lt_of_le_of_lt hfct (Nat.lt_of_lt_of_le (show 40320 < 2 ^ 16 by decide) (pow_le2 (by decide)))
  have qok : ∀ q : Rat, flat (qD q) = true ∧ slim (qD q) = true ∧ deep (qD q) ≤ 3 := fun q => ⟨rfl, rfl, by show max 0 (max 0 0) + 1 ≤ 3; decide⟩
  refine Loop_mk (fun i ρ S' => ∃ o4 o8 o10, ρ = [some (.int n), some (.ref m), some (.int (fct n : Nat)), some (.ref mr), o4, none, some (.ref mg), none, o8, none, o10] ∧ S'[mr]? = some (.lst (natD (aR n))) ∧ S'[mg]? = some (.lst ((aG n).map ringD)) ∧ Sub S S') ⟨_, _, _, rfl, f1, f2, f3⟩ (by intros; trivial) ?_ ?_
  · rintro i d ρ' S' hi ⟨o4, o8, o10, rfl, f1, f2, f3⟩
    obtain ⟨hi1, rfl⟩ := rangeD_get hi
    have hi2 : i < n + 2 := by omega
    rw [show (0 : Int) + i = i by omega]
    ((with_reducible conv => whnf); repeat (first | (rw [natD_len]; with_reducible conv => whnf) | (rw [intD_len]; with_reducible conv => whnf) | (refine Exists.intro _ (And.intro (rfl : _ = some _) ?_); with_reducible conv => whnf) | (refine And.intro (okII _ _) ?_; rw [eqD_ii]; with_reducible conv => whnf) | (refine And.intro (by first | assumption | exact Exists.intro _ (by assumption) | exact ⟨rfl, rfl, by decide, by decide⟩ | exact Nat.le_of_ble_eq_true rfl | exact rfl) ?_; with_reducible conv => whnf) | (rw [isLst_at (by assumption)]; with_reducible conv => whnf) | (refine ifT rfl ?_; with_reducible conv => whnf) | (refine ifF rfl ?_; with_reducible conv => whnf) | (refine it_at (by assumption) ?_; with_reducible conv => whnf)))
    refine Lc_lf (xs := aG n) (e := ringD) (fun r => r.all fun c => decide (c.length ≤ i)) ringD (by rw [hGl]; unfold szL; omega) (fun S' h => h _ _ f2) (fun r S7 R hr h hR => ?_) fun S7 h7 => ?_
    · have e8 := at_push S7 (.lst [.int 0])
      have s8 := Sub.push S7 [.lst [.int 0]]
      ((with_reducible conv => whnf); repeat (first | (rw [natD_len]; with_reducible conv => whnf) | (rw [intD_len]; with_reducible conv => whnf) | (refine Exists.intro _ (And.intro (rfl : _ = some _) ?_); with_reducible conv => whnf) | (refine And.intro (okII _ _) ?_; rw [eqD_ii]; with_reducible conv => whnf) | (refine And.intro (by first | assumption | exact Exists.intro _ (by assumption) | exact ⟨rfl, rfl, by decide, by decide⟩ | exact Nat.le_of_ble_eq_true rfl | exact rfl) ?_; with_reducible conv => whnf) | (rw [isLst_at (by assumption)]; with_reducible conv => whnf) | (refine ifT rfl ?_; with_reducible conv => whnf) | (refine ifF rfl ?_; with_reducible conv => whnf) | (refine it_at (by assumption) ?_; with_reducible conv => whnf)))
      generalize S7 ++ [.lst [.int 0]] = S8 at *
      have hrl : r.length ≤ n := by
        obtain ⟨o, ho, rfl⟩ := List.mem_map.mp hr
        have := List.length_filterMap_le (ringAt o) (List.range o.length)
        rw [List.length_range] at this
        rw [← hol o ho]
        exact this
      refine Lc_lm (xs := r) (e := ordD) (fun c => .int (c.length : Nat)) (by unfold szL; omega) (by intros; trivial) (fun c S9 R9 hc h9 hR9 => ?_) fun S9 h9 => ?_
      · ((with_reducible conv => whnf); repeat (first | (rw [natD_len]; with_reducible conv => whnf) | (rw [intD_len]; with_reducible conv => whnf) | (refine Exists.intro _ (And.intro (rfl : _ = some _) ?_); with_reducible conv => whnf) | (refine And.intro (okII _ _) ?_; rw [eqD_ii]; with_reducible conv => whnf) | (refine And.intro (by first | assumption | exact Exists.intro _ (by assumption) | exact ⟨rfl, rfl, by decide, by decide⟩ | exact Nat.le_of_ble_eq_true rfl | exact rfl) ?_; with_reducible conv => whnf) | (rw [isLst_at (by assumption)]; with_reducible conv => whnf) | (refine ifT rfl ?_; with_reducible conv => whnf) | (refine ifF rfl ?_; with_reducible conv => whnf) | (refine it_at (by assumption) ?_; with_reducible conv => whnf)))
        exact hR9 S9 (Sub.refl _)
      have e9 := at_push S9 (.lst (r.map fun c => D.int (c.length : Nat)))
      have e8 := push_at (h9 _ _ e8) [.lst (r.map fun c => D.int (c.length : Nat))]
      have s9 := (s8.trans h9).app [.lst (r.map fun c => D.int (c.length : Nat))]
      ((with_reducible conv => whnf); repeat (first | (rw [natD_len]; with_reducible conv => whnf) | (rw [intD_len]; with_reducible conv => whnf) | (refine Exists.intro _ (And.intro (rfl : _ = some _) ?_); with_reducible conv => whnf) | (refine And.intro (okII _ _) ?_; rw [eqD_ii]; with_reducible conv => whnf) | (refine And.intro (by first | assumption | exact Exists.intro _ (by assumption) | exact ⟨rfl, rfl, by decide, by decide⟩ | exact Nat.le_of_ble_eq_true rfl | exact rfl) ?_; with_reducible conv => whnf) | (rw [isLst_at (by assumption)]; with_reducible conv => whnf) | (refine ifT rfl ?_; with_reducible conv => whnf) | (refine ifF rfl ?_; with_reducible conv => whnf) | (refine it_at (by assumption) ?_; with_reducible conv => whnf)))
      generalize S9 ++ [.lst (r.map fun c => D.int (c.length : Nat))] = S10 at *
      generalize S9.length = n9 at *
      refine ⟨by rw [List.length_map, List.length_singleton]; unfold szL; omega, ?_⟩
      have e10 := at_push S10 (.lst ([D.int 0] ++ r.map fun c => D.int (c.length : Nat)))
      have s10 := s9.app [.lst ([D.int 0] ++ r.map fun c => D.int (c.length : Nat))]
      have hR := hR _ s10
      ((with_reducible conv => whnf); repeat (first | (rw [natD_len]; with_reducible conv => whnf) | (rw [intD_len]; with_reducible conv => whnf) | (refine Exists.intro _ (And.intro (rfl : _ = some _) ?_); with_reducible conv => whnf) | (refine And.intro (okII _ _) ?_; rw [eqD_ii]; with_reducible conv => whnf) | (refine And.intro (by first | assumption | exact Exists.intro _ (by assumption) | exact ⟨rfl, rfl, by decide, by decide⟩ | exact Nat.le_of_ble_eq_true rfl | exact rfl) ?_; with_reducible conv => whnf) | (rw [isLst_at (by assumption)]; with_reducible conv => whnf) | (refine ifT rfl ?_; with_reducible conv => whnf) | (refine ifF rfl ?_; with_reducible conv => whnf) | (refine it_at (by assumption) ?_; with_reducible conv => whnf)))
      generalize S10 ++ [.lst ([D.int 0] ++ r.map fun c => D.int (c.length : Nat))] = S11 at *
      refine ⟨0 :: r.map fun c => ((c.length : Nat) : Int), ?_, by simp, fun mx m1 m2 => ?_⟩
      · show (match S11[S10.length]? with | some (.lst xs) => some xs | _ => none) = _
        rw [e10]
        simp [intD]
      ((with_reducible conv => whnf); repeat (first | (rw [natD_len]; with_reducible conv => whnf) | (rw [intD_len]; with_reducible conv => whnf) | (refine Exists.intro _ (And.intro (rfl : _ = some _) ?_); with_reducible conv => whnf) | (refine And.intro (okII _ _) ?_; rw [eqD_ii]; with_reducible conv => whnf) | (refine And.intro (by first | assumption | exact Exists.intro _ (by assumption) | exact ⟨rfl, rfl, by decide, by decide⟩ | exact Nat.le_of_ble_eq_true rfl | exact rfl) ?_; with_reducible conv => whnf) | (rw [isLst_at (by assumption)]; with_reducible conv => whnf) | (refine ifT rfl ?_; with_reducible conv => whnf) | (refine ifF rfl ?_; with_reducible conv => whnf) | (refine it_at (by assumption) ?_; with_reducible conv => whnf)))
      have hall : (mx ≤ (i : Int)) ↔ (r.all fun c => decide (c.length ≤ i)) = true := by
        rw [List.all_eq_true]
        constructor
        · intro h c hc
          have := m2 _ (List.mem_cons_of_mem _ (List.mem_map.mpr ⟨c, hc, rfl⟩))
          exact decide_eq_true (by omega)
        · intro h
          rcases List.mem_cons.mp m1 with e | e
          · omega
          · obtain ⟨c, hc, rfl⟩ := List.mem_map.mp e
            have := of_decide_eq_true (h c hc)
            omega
      refine ite_d (fun hc => ?_) fun hc => ?_
      · rw [if_pos (hall.mp hc)] at hR; exact hR
      · rw [if_neg (fun h => hc (hall.mpr h))] at hR; exact hR
    have e7 := at_push S7 (.lst (((aG n).filter fun r => r.all fun c => decide (c.length ≤ i)).map ringD))
    have f1 := push_at (h7 _ _ f1) [.lst (((aG n).filter fun r => r.all fun c => decide (c.length ≤ i)).map ringD)]
    have f2 := push_at (h7 _ _ f2) [.lst (((aG n).filter fun r => r.all fun c => decide (c.length ≤ i)).map ringD)]
    have f3 := (f3.trans h7).app [.lst (((aG n).filter fun r => r.all fun c => decide (c.length ≤ i)).map ringD)]
    ((with_reducible conv => whnf); repeat (first | (rw [natD_len]; with_reducible conv => whnf) | (rw [intD_len]; with_reducible conv => whnf) | (refine Exists.intro _ (And.intro (rfl : _ = some _) ?_); with_reducible conv => whnf) | (refine And.intro (okII _ _) ?_; rw [eqD_ii]; with_reducible conv => whnf) | (refine And.intro (by first | assumption | exact Exists.intro _ (by assumption) | exact ⟨rfl, rfl, by decide, by decide⟩ | exact Nat.le_of_ble_eq_true rfl | exact rfl) ?_; with_reducible conv => whnf) | (rw [isLst_at (by assumption)]; with_reducible conv => whnf) | (refine ifT rfl ?_; with_reducible conv => whnf) | (refine ifF rfl ?_; with_reducible conv => whnf) | (refine it_at (by assumption) ?_; with_reducible conv => whnf)))
    rw [List.length_map]
    generalize S7 ++ [.lst (((aG n).filter fun r => r.all fun c => decide (c.length ≤ i)).map ringD)] = S8 at *
    refine ⟨n, i, rfl, by omega, by omega, fun S9 h9 => ?_⟩
    ((with_reducible conv => whnf); repeat (first | (rw [natD_len]; with_reducible conv => whnf) | (rw [intD_len]; with_reducible conv => whnf) | (refine Exists.intro _ (And.intro (rfl : _ = some _) ?_); with_reducible conv => whnf) | (refine And.intro (okII _ _) ?_; rw [eqD_ii]; with_reducible conv => whnf) | (refine And.intro (by first | assumption | exact Exists.intro _ (by assumption) | exact ⟨rfl, rfl, by decide, by decide⟩ | exact Nat.le_of_ble_eq_true rfl | exact rfl) ?_; with_reducible conv => whnf) | (rw [isLst_at (by assumption)]; with_reducible conv => whnf) | (refine ifT rfl ?_; with_reducible conv => whnf) | (refine ifF rfl ?_; with_reducible conv => whnf) | (refine it_at (by assumption) ?_; with_reducible conv => whnf)))
    refine ⟨_, _, rfl, hden.1, hden.2, fun S10 h10 => ?_⟩
    have f1 := h10 _ _ (h9 _ _ f1)
    have f2 := h10 _ _ (h9 _ _ f2)
    have f3 := (f3.trans h9).trans h10
    ((with_reducible conv => whnf); repeat (first | (rw [natD_len]; with_reducible conv => whnf) | (rw [intD_len]; with_reducible conv => whnf) | (refine Exists.intro _ (And.intro (rfl : _ = some _) ?_); with_reducible conv => whnf) | (refine And.intro (okII _ _) ?_; rw [eqD_ii]; with_reducible conv => whnf) | (refine And.intro (by first | assumption | exact Exists.intro _ (by assumption) | exact ⟨rfl, rfl, by decide, by decide⟩ | exact Nat.le_of_ble_eq_true rfl | exact rfl) ?_; with_reducible conv => whnf) | (rw [isLst_at (by assumption)]; with_reducible conv => whnf) | (refine ifT rfl ?_; with_reducible conv => whnf) | (refine ifF rfl ?_; with_reducible conv => whnf) | (refine it_at (by assumption) ?_; with_reducible conv => whnf)))
    rw [F.c i hi2]
    obtain ⟨z1, z2, z3⟩ := qok (Rat.divInt (cL (aG n) i) (fct n))
    refine ⟨qD (Rat.divInt (cL (aG n) i) (fct n)), rfl, z1, z2, z3, fun S11 h11 => ?_⟩
    have f1 := h11 _ _ f1
    have f2 := h11 _ _ f2
    have f3 := f3.trans h11
    ((with_reducible conv => whnf); repeat (first | (rw [natD_len]; with_reducible conv => whnf) | (rw [intD_len]; with_reducible conv => whnf) | (refine Exists.intro _ (And.intro (rfl : _ = some _) ?_); with_reducible conv => whnf) | (refine And.intro (okII _ _) ?_; rw [eqD_ii]; with_reducible conv => whnf) | (refine And.intro (by first | assumption | exact Exists.intro _ (by assumption) | exact ⟨rfl, rfl, by decide, by decide⟩ | exact Nat.le_of_ble_eq_true rfl | exact rfl) ?_; with_reducible conv => whnf) | (rw [isLst_at (by assumption)]; with_reducible conv => whnf) | (refine ifT rfl ?_; with_reducible conv => whnf) | (refine ifF rfl ?_; with_reducible conv => whnf) | (refine it_at (by assumption) ?_; with_reducible conv => whnf)))
    refine ite_d (fun hc => ?_) fun hc => ?_
    · have h0 : n ≠ 0 := by omega
      ((with_reducible conv => whnf); repeat (first | (rw [natD_len]; with_reducible conv => whnf) | (rw [intD_len]; with_reducible conv => whnf) | (refine Exists.intro _ (And.intro (rfl : _ = some _) ?_); with_reducible conv => whnf) | (refine And.intro (okII _ _) ?_; rw [eqD_ii]; with_reducible conv => whnf) | (refine And.intro (by first | assumption | exact Exists.intro _ (by assumption) | exact ⟨rfl, rfl, by decide, by decide⟩ | exact Nat.le_of_ble_eq_true rfl | exact rfl) ?_; with_reducible conv => whnf) | (rw [isLst_at (by assumption)]; with_reducible conv => whnf) | (refine ifT rfl ?_; with_reducible conv => whnf) | (refine ifF rfl ?_; with_reducible conv => whnf) | (refine it_at (by assumption) ?_; with_reducible conv => whnf)))
      refine Lc_lf (xs := aG n) (e := ringD) (fun r => decide ((r.getD 0 []).length = i)) ringD (by rw [hGl]; unfold szL; omega) (fun S' h => h _ _ f2) (fun r S7 R hr h hR => ?_) fun S7 h7 => ?_
      · have hr0 : 0 < r.length := by
          obtain ⟨o, ho, rfl⟩ := List.mem_map.mp hr
          have ol := hol o ho
          have : circF o 0 o.length [0] ∈ lawR o := by
            refine List.mem_filterMap.mpr ⟨0, List.mem_range.mpr (by omega), if_pos ?_⟩
            rw [List.all_eq_true]
            exact fun y _ => decide_eq_true (Nat.zero_le _)
          exact List.length_pos_of_mem this
        ((with_reducible conv => whnf); repeat (first | (rw [natD_len]; with_reducible conv => whnf) | (rw [intD_len]; with_reducible conv => whnf) | (refine Exists.intro _ (And.intro (rfl : _ = some _) ?_); with_reducible conv => whnf) | (refine And.intro (okII _ _) ?_; rw [eqD_ii]; with_reducible conv => whnf) | (refine And.intro (by first | assumption | exact Exists.intro _ (by assumption) | exact ⟨rfl, rfl, by decide, by decide⟩ | exact Nat.le_of_ble_eq_true rfl | exact rfl) ?_; with_reducible conv => whnf) | (rw [isLst_at (by assumption)]; with_reducible conv => whnf) | (refine ifT rfl ?_; with_reducible conv => whnf) | (refine ifF rfl ?_; with_reducible conv => whnf) | (refine it_at (by assumption) ?_; with_reducible conv => whnf)))
        refine ⟨ordD (r.getD 0 []), ?_, ?_⟩
        · have := atZ_map (L := r) (f := ordD) (j := 0) (x := r.getD 0 []) (by rw [List.getD_eq_getElem?_getD, List.getElem?_eq_getElem hr0]; rfl)
          exact this
        ((with_reducible conv => whnf); repeat (first | (rw [natD_len]; with_reducible conv => whnf) | (rw [intD_len]; with_reducible conv => whnf) | (refine Exists.intro _ (And.intro (rfl : _ = some _) ?_); with_reducible conv => whnf) | (refine And.intro (okII _ _) ?_; rw [eqD_ii]; with_reducible conv => whnf) | (refine And.intro (by first | assumption | exact Exists.intro _ (by assumption) | exact ⟨rfl, rfl, by decide, by decide⟩ | exact Nat.le_of_ble_eq_true rfl | exact rfl) ?_; with_reducible conv => whnf) | (rw [isLst_at (by assumption)]; with_reducible conv => whnf) | (refine ifT rfl ?_; with_reducible conv => whnf) | (refine ifF rfl ?_; with_reducible conv => whnf) | (refine it_at (by assumption) ?_; with_reducible conv => whnf)))
        have := hR S7 (Sub.refl _)
        refine ite_d (fun hc => ?_) fun hc => ?_
        · rw [if_pos (decide_eq_true (by omega))] at this; exact this
        · rw [if_neg (by rw [decide_eq_true_eq]; omega)] at this; exact this
      have e7 := at_push S7 (.lst (((aG n).filter fun r => decide ((r.getD 0 []).length = i)).map ringD))
      have f1 := push_at (h7 _ _ f1) [.lst (((aG n).filter fun r => decide ((r.getD 0 []).length = i)).map ringD)]
      have f2 := push_at (h7 _ _ f2) [.lst (((aG n).filter fun r => decide ((r.getD 0 []).length = i)).map ringD)]
      have f3 := (f3.trans h7).app [.lst (((aG n).filter fun r => decide ((r.getD 0 []).length = i)).map ringD)]
      ((with_reducible conv => whnf); repeat (first | (rw [natD_len]; with_reducible conv => whnf) | (rw [intD_len]; with_reducible conv => whnf) | (refine Exists.intro _ (And.intro (rfl : _ = some _) ?_); with_reducible conv => whnf) | (refine And.intro (okII _ _) ?_; rw [eqD_ii]; with_reducible conv => whnf) | (refine And.intro (by first | assumption | exact Exists.intro _ (by assumption) | exact ⟨rfl, rfl, by decide, by decide⟩ | exact Nat.le_of_ble_eq_true rfl | exact rfl) ?_; with_reducible conv => whnf) | (rw [isLst_at (by assumption)]; with_reducible conv => whnf) | (refine ifT rfl ?_; with_reducible conv => whnf) | (refine ifF rfl ?_; with_reducible conv => whnf) | (refine it_at (by assumption) ?_; with_reducible conv => whnf)))
      rw [List.length_map]
      generalize S7 ++ [.lst (((aG n).filter fun r => decide ((r.getD 0 []).length = i)).map ringD)] = S8 at *
      refine ⟨n, i, rfl, fun S9 h9 => ?_⟩
      ((with_reducible conv => whnf); repeat (first | (rw [natD_len]; with_reducible conv => whnf) | (rw [intD_len]; with_reducible conv => whnf) | (refine Exists.intro _ (And.intro (rfl : _ = some _) ?_); with_reducible conv => whnf) | (refine And.intro (okII _ _) ?_; rw [eqD_ii]; with_reducible conv => whnf) | (refine And.intro (by first | assumption | exact Exists.intro _ (by assumption) | exact ⟨rfl, rfl, by decide, by decide⟩ | exact Nat.le_of_ble_eq_true rfl | exact rfl) ?_; with_reducible conv => whnf) | (rw [isLst_at (by assumption)]; with_reducible conv => whnf) | (refine ifT rfl ?_; with_reducible conv => whnf) | (refine ifF rfl ?_; with_reducible conv => whnf) | (refine it_at (by assumption) ?_; with_reducible conv => whnf)))
      refine ⟨_, _, rfl, hden.1, hden.2, fun S10 h10 => ?_⟩
      have f1 := h10 _ _ (h9 _ _ f1)
      have f2 := h10 _ _ (h9 _ _ f2)
      have f3 := (f3.trans h9).trans h10
      ((with_reducible conv => whnf); repeat (first | (rw [natD_len]; with_reducible conv => whnf) | (rw [intD_len]; with_reducible conv => whnf) | (refine Exists.intro _ (And.intro (rfl : _ = some _) ?_); with_reducible conv => whnf) | (refine And.intro (okII _ _) ?_; rw [eqD_ii]; with_reducible conv => whnf) | (refine And.intro (by first | assumption | exact Exists.intro _ (by assumption) | exact ⟨rfl, rfl, by decide, by decide⟩ | exact Nat.le_of_ble_eq_true rfl | exact rfl) ?_; with_reducible conv => whnf) | (rw [isLst_at (by assumption)]; with_reducible conv => whnf) | (refine ifT rfl ?_; with_reducible conv => whnf) | (refine ifF rfl ?_; with_reducible conv => whnf) | (refine it_at (by assumption) ?_; with_reducible conv => whnf)))
      rw [F.d h0 i hi2]
      obtain ⟨z1, z2, z3⟩ := qok (Rat.divInt (cF (aG n) i) (fct n))
      refine ⟨qD (Rat.divInt (cF (aG n) i) (fct n)), rfl, z1, z2, z3, fun S11 h11 => ?_⟩
      ((with_reducible conv => whnf); repeat (first | (rw [natD_len]; with_reducible conv => whnf) | (rw [intD_len]; with_reducible conv => whnf) | (refine Exists.intro _ (And.intro (rfl : _ = some _) ?_); with_reducible conv => whnf) | (refine And.intro (okII _ _) ?_; rw [eqD_ii]; with_reducible conv => whnf) | (refine And.intro (by first | assumption | exact Exists.intro _ (by assumption) | exact ⟨rfl, rfl, by decide, by decide⟩ | exact Nat.le_of_ble_eq_true rfl | exact rfl) ?_; with_reducible conv => whnf) | (rw [isLst_at (by assumption)]; with_reducible conv => whnf) | (refine ifT rfl ?_; with_reducible conv => whnf) | (refine ifF rfl ?_; with_reducible conv => whnf) | (refine it_at (by assumption) ?_; with_reducible conv => whnf)))
      exact ⟨_, _, _, rfl, h11 _ _ f1, h11 _ _ f2, f3.trans h11⟩
    · exact ⟨_, _, _, rfl, f1, f2, f3⟩
  rintro ρ' S' ⟨o4, o8, o10, rfl, f1, f2, f3⟩
  ((with_reducible conv => whnf); repeat (first | (rw [natD_len]; with_reducible conv => whnf) | (rw [intD_len]; with_reducible conv => whnf) | (refine Exists.intro _ (And.intro (rfl : _ = some _) ?_); with_reducible conv => whnf) | (refine And.intro (okII _ _) ?_; rw [eqD_ii]; with_reducible conv => whnf) | (refine And.intro (by first | assumption | exact Exists.intro _ (by assumption) | exact ⟨rfl, rfl, by decide, by decide⟩ | exact Nat.le_of_ble_eq_true rfl | exact rfl) ?_; with_reducible conv => whnf) | (rw [isLst_at (by assumption)]; with_reducible conv => whnf) | (refine ifT rfl ?_; with_reducible conv => whnf) | (refine ifF rfl ?_; with_reducible conv => whnf) | (refine it_at (by assumption) ?_; with_reducible conv => whnf)))
  refine ite_d (fun hc => ?_) fun hc => ?_
  · exact kk _ f3
  · have h0 : n ≠ 0 := by omega
    ((with_reducible conv => whnf); repeat (first | (rw [natD_len]; with_reducible conv => whnf) | (rw [intD_len]; with_reducible conv => whnf) | (refine Exists.intro _ (And.intro (rfl : _ = some _) ?_); with_reducible conv => whnf) | (refine And.intro (okII _ _) ?_; rw [eqD_ii]; with_reducible conv => whnf) | (refine And.intro (by first | assumption | exact Exists.intro _ (by assumption) | exact ⟨rfl, rfl, by decide, by decide⟩ | exact Nat.le_of_ble_eq_true rfl | exact rfl) ?_; with_reducible conv => whnf) | (rw [isLst_at (by assumption)]; with_reducible conv => whnf) | (refine ifT rfl ?_; with_reducible conv => whnf) | (refine ifF rfl ?_; with_reducible conv => whnf) | (refine it_at (by assumption) ?_; with_reducible conv => whnf)))
    refine ⟨n, rfl, by omega, by omega, fun S9 h9 => ?_⟩
    have f1 := h9 _ _ f1
    ((with_reducible conv => whnf); repeat (first | (rw [natD_len]; with_reducible conv => whnf) | (rw [intD_len]; with_reducible conv => whnf) | (refine Exists.intro _ (And.intro (rfl : _ = some _) ?_); with_reducible conv => whnf) | (refine And.intro (okII _ _) ?_; rw [eqD_ii]; with_reducible conv => whnf) | (refine And.intro (by first | assumption | exact Exists.intro _ (by assumption) | exact ⟨rfl, rfl, by decide, by decide⟩ | exact Nat.le_of_ble_eq_true rfl | exact rfl) ?_; with_reducible conv => whnf) | (rw [isLst_at (by assumption)]; with_reducible conv => whnf) | (refine ifT rfl ?_; with_reducible conv => whnf) | (refine ifF rfl ?_; with_reducible conv => whnf) | (refine it_at (by assumption) ?_; with_reducible conv => whnf)))
    refine ⟨(aR n).map fun (k : Nat) => (k : Int), by show (match S9[mr]? with | some (.lst xs) => some xs | _ => none) = _; rw [f1], ?_⟩
    ((with_reducible conv => whnf); repeat (first | (rw [natD_len]; with_reducible conv => whnf) | (rw [intD_len]; with_reducible conv => whnf) | (refine Exists.intro _ (And.intro (rfl : _ = some _) ?_); with_reducible conv => whnf) | (refine And.intro (okII _ _) ?_; rw [eqD_ii]; with_reducible conv => whnf) | (refine And.intro (by first | assumption | exact Exists.intro _ (by assumption) | exact ⟨rfl, rfl, by decide, by decide⟩ | exact Nat.le_of_ble_eq_true rfl | exact rfl) ?_; with_reducible conv => whnf) | (rw [isLst_at (by assumption)]; with_reducible conv => whnf) | (refine ifT rfl ?_; with_reducible conv => whnf) | (refine ifF rfl ?_; with_reducible conv => whnf) | (refine it_at (by assumption) ?_; with_reducible conv => whnf)))
    refine ⟨_, _, rfl, hden.1, hden.2, fun S10 h10 => ?_⟩
    ((with_reducible conv => whnf); repeat (first | (rw [natD_len]; with_reducible conv => whnf) | (rw [intD_len]; with_reducible conv => whnf) | (refine Exists.intro _ (And.intro (rfl : _ = some _) ?_); with_reducible conv => whnf) | (refine And.intro (okII _ _) ?_; rw [eqD_ii]; with_reducible conv => whnf) | (refine And.intro (by first | assumption | exact Exists.intro _ (by assumption) | exact ⟨rfl, rfl, by decide, by decide⟩ | exact Nat.le_of_ble_eq_true rfl | exact rfl) ?_; with_reducible conv => whnf) | (rw [isLst_at (by assumption)]; with_reducible conv => whnf) | (refine ifT rfl ?_; with_reducible conv => whnf) | (refine ifF rfl ?_; with_reducible conv => whnf) | (refine it_at (by assumption) ?_; with_reducible conv => whnf)))
    rw [F.e h0]
    obtain ⟨z1, z2, z3⟩ := qok 1
    refine ⟨qD 1, rfl, z1, z2, z3, fun S11 h11 => ?_⟩
    exact kk _ (((f3.trans h9).trans h10).trans h11)
end K96
set_option linter.all false
set_option maxRecDepth 100000
set_option maxHeartbeats 4000000


namespace K96
open DL
@[reducible] def sp_law : Spc := fun ds S Q => ∃ ns, ds = [.rol (intD ns)] ∧ ns.length ≤ 63 ∧ ∀ S', Q (.bl true) S'
/-- a list that is walked, its items known -/
theorem rings_same (o : List Nat) (hl : o.length ≤ 100) : flat (.tup ((lawR o).map ordD)) = true ∧ slim (.tup ((lawR o).map ordD)) = true ∧ deep (.tup ((lawR o).map ordD)) ≤ 3 := by
  have hr : (lawR o).length ≤ 100 := by
    have := List.length_filterMap_le (ringAt o) (List.range o.length)
    rw [List.length_range] at this
    exact Nat.le_trans this hl
  have hc : ∀ c ∈ lawR o, c.length ≤ 101 := by
    intro c h
    obtain ⟨l, _, e⟩ := List.mem_filterMap.mp (show c ∈ (List.range o.length).filterMap (ringAt o) from h)
    obtain ⟨_, rfl⟩ := ringAt_some.mp e
    have := circ_len (o := o) (l := l) o.length [l]
    rw [List.length_singleton] at this
    show (circF o l o.length [l]).length ≤ 101
    omega
  refine ⟨flats_map fun c _ => flats_int _, ?_, ?_⟩
  · show (decide (((lawR o).map ordD).length ≤ szL) && slims ((lawR o).map ordD)) = true
    rw [List.length_map, decide_eq_true (by unfold szL; omega), slims_map fun c h => ?_]
    · rfl
    · show (decide ((natD c).length ≤ szL) && slims (natD c)) = true
      have := hc c h
      rw [natD_len, decide_eq_true (by unfold szL; omega), slims_int]
      rfl
  · show deeps ((lawR o).map ordD) + 1 ≤ 3
    have := deeps_map (f := ordD) (N := 1) (l := lawR o) fun c _ => by
      show deeps (natD c) + 1 ≤ 1
      rw [deeps_int]
      omega
    omega
theorem pick2 {a b : D} {r : Int} (h0 : 0 ≤ r) (h1 : r < 2) : atZ [a, b] r = some (if r = 0 then a else b) := by
  have : r = 0 ∨ r = 1 := by omega
  rcases this with rfl | rfl <;> rfl
theorem pickI {c : Prop} [Decidable c] (a b : Int) : ∃ x, (if c then D.int a else D.int b) = .int x ∧ (x = a ∨ x = b) := by
  by_cases h : c
  · exact ⟨a, if_pos h, .inl rfl⟩
  · exact ⟨b, if_neg h, .inr rfl⟩
theorem rings_sum {o : List Nat} (h : okO o) (hi : inj o) : ((lawR o).map fun c => ((c.length : Nat) : Int)).sum = (o.length : Int) := by
  have := rs_len h hi
  rw [List.length_flatten] at this
  have e : ∀ l : List (List Nat), ((l.map List.length).sum : Int) = (l.map fun c => ((c.length : Nat) : Int)).sum := by
    intro l
    induction l with
    | nil => rfl
    | cons a l ih => simp [ih]
  have e2 := e (lawR o)
  rw [← e2]
  have : ((lawR o).map List.length).sum = o.length := this
  omega
theorem wrong_get {N k : Nat} (h : k ≤ N) : atZ (intD ((List.range (N + 1)).map der)) (k : Int) = some (.int (der k)) := by
  have := atZ_intN (ns := (List.range (N + 1)).map der) (i := k) (by rw [List.length_map, List.length_range]; omega)
  rwa [range_map_getD (by omega)] at this
theorem intL {S : Sto} {m : Nat} {ns : List Int} (h : S[m]? = some (.lst (intD ns))) : itemsAt (.ref m) S = some (intD ns) := by
  show (match S[m]? with | some (.lst xs) => some xs | _ => none) = _
  rw [h]
theorem same_tup (ns : List Int) (h : ns.length ≤ 1000) : flat (.tup (intD ns)) = true ∧ slim (.tup (intD ns)) = true ∧ deep (.tup (intD ns)) ≤ 3 := by
  refine ⟨flats_int ns, ?_, ?_⟩
  · show (decide ((intD ns).length ≤ szL) && slims (intD ns)) = true
    rw [intD_len, decide_eq_true (by unfold szL; omega), slims_int]
    rfl
  · show deeps (intD ns) + 1 ≤ 3
    rw [deeps_int]
    omega
theorem law_D {Q : VK} {n G : Nat} {o : List Nat} {x0 x4 x5 x6 o7 o8 x9 x11 x12 x13 x14 o15 : Option D} {S : Sto} (hG0 : 41 ≤ G) (hG1 : G ≤ 400) (ho100 : o.length ≤ 100) (ho : okO o) (hi : inj o) (kk : ∀ S', Q (.bl true) S') (d0 : Dr n S) : w_law_t18 sp_draws sp_take sp_few sp_order sp_ringsof sp_rings (sp_same 3) sp_wrongs sp_wrong sp_ways sp_just sp_orders sp_rows sp_cnt sp_short sp_short sp_chan sp_mean { nx := fun _ S' => Q .non S', rt := Q, bk := fun _ _ => False, ct := fun _ _ => False } [x0, some (.ref n), some (.tup (natD o)), some (.tup ((lawR o).map ordD)), x4, x5, x6, o7, o8, x9, some (.int G), x11, x12, x13, x14, o15] S := by
  (with_reducible conv => whnf)
  ((with_reducible conv => whnf); repeat (first | (rw [natD_len]; with_reducible conv => whnf) | (rw [intD_len]; with_reducible conv => whnf) | (refine Exists.intro _ (And.intro (rfl : _ = some _) ?_); with_reducible conv => whnf) | (refine And.intro (okII _ _) ?_; rw [eqD_ii]; with_reducible conv => whnf) | (refine And.intro (by first | assumption | exact Exists.intro _ (by assumption) | exact ⟨rfl, rfl, by decide, by decide⟩ | exact Nat.le_of_ble_eq_true rfl | exact rfl) ?_; with_reducible conv => whnf) | (rw [isLst_at (by assumption)]; with_reducible conv => whnf) | (refine ifT rfl ?_; with_reducible conv => whnf) | (refine ifF rfl ?_; with_reducible conv => whnf) | (refine it_at (by assumption) ?_; with_reducible conv => whnf)))
  have hp := at_push S (.lst [.int 20, .int 61])
  have hne : S.length ≠ n := by have := d0.lt; omega
  have d38 := d0.app [.lst [.int 20, .int 61]]
  generalize S ++ [.lst [.int 20, .int 61]] = S38 at *
  refine ⟨n, 8, rfl, by decide, d38, fun r S39 r0 r1 d39 c39 => ?_⟩
  have hp := c39 _ _ hne hp
  ((with_reducible conv => whnf); repeat (first | (rw [natD_len]; with_reducible conv => whnf) | (rw [intD_len]; with_reducible conv => whnf) | (refine Exists.intro _ (And.intro (rfl : _ = some _) ?_); with_reducible conv => whnf) | (refine And.intro (okII _ _) ?_; rw [eqD_ii]; with_reducible conv => whnf) | (refine And.intro (by first | assumption | exact Exists.intro _ (by assumption) | exact ⟨rfl, rfl, by decide, by decide⟩ | exact Nat.le_of_ble_eq_true rfl | exact rfl) ?_; with_reducible conv => whnf) | (rw [isLst_at (by assumption)]; with_reducible conv => whnf) | (refine ifT rfl ?_; with_reducible conv => whnf) | (refine ifF rfl ?_; with_reducible conv => whnf) | (refine it_at (by assumption) ?_; with_reducible conv => whnf)))
  refine ⟨_, pick2 (by split <;> decide) (by split <;> decide), ?_⟩
  obtain ⟨x, hx, hx01⟩ := pickI (c := (if decide (r = 0) = true then (1 : Int) else 0) = 0) 20 61
  have hx0 : 0 < x := by omega
  have hx1 : x ≤ 61 := by omega
  rw [hx]
  ((with_reducible conv => whnf); repeat (first | (rw [natD_len]; with_reducible conv => whnf) | (rw [intD_len]; with_reducible conv => whnf) | (refine Exists.intro _ (And.intro (rfl : _ = some _) ?_); with_reducible conv => whnf) | (refine And.intro (okII _ _) ?_; rw [eqD_ii]; with_reducible conv => whnf) | (refine And.intro (by first | assumption | exact Exists.intro _ (by assumption) | exact ⟨rfl, rfl, by decide, by decide⟩ | exact Nat.le_of_ble_eq_true rfl | exact rfl) ?_; with_reducible conv => whnf) | (rw [isLst_at (by assumption)]; with_reducible conv => whnf) | (refine ifT rfl ?_; with_reducible conv => whnf) | (refine ifF rfl ?_; with_reducible conv => whnf) | (refine it_at (by assumption) ?_; with_reducible conv => whnf)))
  refine ⟨n, x, rfl, hx0, d39, fun z S40 z0 z1 d40 c40 => ?_⟩
  obtain ⟨H, rfl⟩ : ∃ m : Nat, z = m := ⟨z.toNat, by omega⟩
  clear hp c39 c40 hne hx d0 d38 d39
  ((with_reducible conv => whnf); repeat (first | (rw [natD_len]; with_reducible conv => whnf) | (rw [intD_len]; with_reducible conv => whnf) | (refine Exists.intro _ (And.intro (rfl : _ = some _) ?_); with_reducible conv => whnf) | (refine And.intro (okII _ _) ?_; rw [eqD_ii]; with_reducible conv => whnf) | (refine And.intro (by first | assumption | exact Exists.intro _ (by assumption) | exact ⟨rfl, rfl, by decide, by decide⟩ | exact Nat.le_of_ble_eq_true rfl | exact rfl) ?_; with_reducible conv => whnf) | (rw [isLst_at (by assumption)]; with_reducible conv => whnf) | (refine ifT rfl ?_; with_reducible conv => whnf) | (refine ifF rfl ?_; with_reducible conv => whnf) | (refine it_at (by assumption) ?_; with_reducible conv => whnf)))
  refine ⟨n, _, rfl, by omega, d40, fun t S41 t0 t1 d41 c41 => ?_⟩
  obtain ⟨t, rfl⟩ : ∃ m : Nat, t = m := ⟨t.toNat, by omega⟩
  clear c41
  ((with_reducible conv => whnf); repeat (first | (rw [natD_len]; with_reducible conv => whnf) | (rw [intD_len]; with_reducible conv => whnf) | (refine Exists.intro _ (And.intro (rfl : _ = some _) ?_); with_reducible conv => whnf) | (refine And.intro (okII _ _) ?_; rw [eqD_ii]; with_reducible conv => whnf) | (refine And.intro (by first | assumption | exact Exists.intro _ (by assumption) | exact ⟨rfl, rfl, by decide, by decide⟩ | exact Nat.le_of_ble_eq_true rfl | exact rfl) ?_; with_reducible conv => whnf) | (rw [isLst_at (by assumption)]; with_reducible conv => whnf) | (refine ifT rfl ?_; with_reducible conv => whnf) | (refine ifF rfl ?_; with_reducible conv => whnf) | (refine it_at (by assumption) ?_; with_reducible conv => whnf)))
  have hL : [D.int t, .int H, .int ((H : Int) + 1), .int 1] = natD [t, H, H + 1, 1] := by
    rw [natD_map]
    rfl
  rw [hL]
  have hLm : ∀ k ∈ [t, H, H + 1, 1], k ≤ 1000 := by
    simp only [List.mem_cons, List.not_mem_nil, or_false]
    omega
  clear hL
  generalize [t, H, H + 1, 1] = L3 at *
  have ep := at_push S41 (.lst (natD L3))
  have d42 := d41.app [.lst (natD L3)]
  ((with_reducible conv => whnf); repeat (first | (rw [natD_len]; with_reducible conv => whnf) | (rw [intD_len]; with_reducible conv => whnf) | (refine Exists.intro _ (And.intro (rfl : _ = some _) ?_); with_reducible conv => whnf) | (refine And.intro (okII _ _) ?_; rw [eqD_ii]; with_reducible conv => whnf) | (refine And.intro (by first | assumption | exact Exists.intro _ (by assumption) | exact ⟨rfl, rfl, by decide, by decide⟩ | exact Nat.le_of_ble_eq_true rfl | exact rfl) ?_; with_reducible conv => whnf) | (rw [isLst_at (by assumption)]; with_reducible conv => whnf) | (refine ifT rfl ?_; with_reducible conv => whnf) | (refine ifF rfl ?_; with_reducible conv => whnf) | (refine it_at (by assumption) ?_; with_reducible conv => whnf)))
  generalize S41 ++ [.lst (natD L3)] = S42 at *
  generalize S41.length = pl3 at *
  refine Loop_mk (fun i ρ S' => ∃ o15, ρ = [x0, some (.ref n), some (.tup (natD o)), some (.tup ((lawR o).map ordD)), x4, x5, x6, o7, o8, x9, some (.int G), x11, x12, x13, some (.int H), o15] ∧ S'[pl3]? = some (.lst (natD L3)) ∧ Dr n S') ⟨_, rfl, ep, d42⟩ (by rintro i ρ S' ⟨_, rfl, h, _⟩; exact h) ?_ ?_
  · rintro i d ρ' S' hi ⟨o15, rfl, f1, f3⟩
    obtain ⟨k, hk, rfl⟩ := natD_get hi
    have hk1 := hLm k (List.mem_of_getElem? hk)
    ((with_reducible conv => whnf); repeat (first | (rw [natD_len]; with_reducible conv => whnf) | (rw [intD_len]; with_reducible conv => whnf) | (refine Exists.intro _ (And.intro (rfl : _ = some _) ?_); with_reducible conv => whnf) | (refine And.intro (okII _ _) ?_; rw [eqD_ii]; with_reducible conv => whnf) | (refine And.intro (by first | assumption | exact Exists.intro _ (by assumption) | exact ⟨rfl, rfl, by decide, by decide⟩ | exact Nat.le_of_ble_eq_true rfl | exact rfl) ?_; with_reducible conv => whnf) | (rw [isLst_at (by assumption)]; with_reducible conv => whnf) | (refine ifT rfl ?_; with_reducible conv => whnf) | (refine ifF rfl ?_; with_reducible conv => whnf) | (refine it_at (by assumption) ?_; with_reducible conv => whnf)))
    refine ⟨H, k, rfl, by omega, by omega, fun S43 s43 => ?_⟩
    ((with_reducible conv => whnf); repeat (first | (rw [natD_len]; with_reducible conv => whnf) | (rw [intD_len]; with_reducible conv => whnf) | (refine Exists.intro _ (And.intro (rfl : _ = some _) ?_); with_reducible conv => whnf) | (refine And.intro (okII _ _) ?_; rw [eqD_ii]; with_reducible conv => whnf) | (refine And.intro (by first | assumption | exact Exists.intro _ (by assumption) | exact ⟨rfl, rfl, by decide, by decide⟩ | exact Nat.le_of_ble_eq_true rfl | exact rfl) ?_; with_reducible conv => whnf) | (rw [isLst_at (by assumption)]; with_reducible conv => whnf) | (refine ifT rfl ?_; with_reducible conv => whnf) | (refine ifF rfl ?_; with_reducible conv => whnf) | (refine it_at (by assumption) ?_; with_reducible conv => whnf)))
    refine ⟨H, k, rfl, by omega, by omega, fun S44 s44 => ?_⟩
    ((with_reducible conv => whnf); repeat (first | (rw [natD_len]; with_reducible conv => whnf) | (rw [intD_len]; with_reducible conv => whnf) | (refine Exists.intro _ (And.intro (rfl : _ = some _) ?_); with_reducible conv => whnf) | (refine And.intro (okII _ _) ?_; rw [eqD_ii]; with_reducible conv => whnf) | (refine And.intro (by first | assumption | exact Exists.intro _ (by assumption) | exact ⟨rfl, rfl, by decide, by decide⟩ | exact Nat.le_of_ble_eq_true rfl | exact rfl) ?_; with_reducible conv => whnf) | (rw [isLst_at (by assumption)]; with_reducible conv => whnf) | (refine ifT rfl ?_; with_reducible conv => whnf) | (refine ifF rfl ?_; with_reducible conv => whnf) | (refine it_at (by assumption) ?_; with_reducible conv => whnf)))
    refine ⟨qD (fQ k H), rfl, rfl, rfl, by show max 0 (max 0 0) + 1 ≤ 3; decide, fun S45 s45 => ?_⟩
    have ss := (s43.trans s44).trans s45
    ((with_reducible conv => whnf); repeat (first | (rw [natD_len]; with_reducible conv => whnf) | (rw [intD_len]; with_reducible conv => whnf) | (refine Exists.intro _ (And.intro (rfl : _ = some _) ?_); with_reducible conv => whnf) | (refine And.intro (okII _ _) ?_; rw [eqD_ii]; with_reducible conv => whnf) | (refine And.intro (by first | assumption | exact Exists.intro _ (by assumption) | exact ⟨rfl, rfl, by decide, by decide⟩ | exact Nat.le_of_ble_eq_true rfl | exact rfl) ?_; with_reducible conv => whnf) | (rw [isLst_at (by assumption)]; with_reducible conv => whnf) | (refine ifT rfl ?_; with_reducible conv => whnf) | (refine ifF rfl ?_; with_reducible conv => whnf) | (refine it_at (by assumption) ?_; with_reducible conv => whnf)))
    exact ⟨_, rfl, ss _ _ f1, f3.sub ss⟩
  rintro ρ' S43 ⟨o15, rfl, -, d43⟩
  clear ep d40 d41 d42 hLm
  ((with_reducible conv => whnf); repeat (first | (rw [natD_len]; with_reducible conv => whnf) | (rw [intD_len]; with_reducible conv => whnf) | (refine Exists.intro _ (And.intro (rfl : _ = some _) ?_); with_reducible conv => whnf) | (refine And.intro (okII _ _) ?_; rw [eqD_ii]; with_reducible conv => whnf) | (refine And.intro (by first | assumption | exact Exists.intro _ (by assumption) | exact ⟨rfl, rfl, by decide, by decide⟩ | exact Nat.le_of_ble_eq_true rfl | exact rfl) ?_; with_reducible conv => whnf) | (rw [isLst_at (by assumption)]; with_reducible conv => whnf) | (refine ifT rfl ?_; with_reducible conv => whnf) | (refine ifF rfl ?_; with_reducible conv => whnf) | (refine it_at (by assumption) ?_; with_reducible conv => whnf)))
  refine ⟨n, _, rfl, by omega, d43, fun t S44 t0 t1 d44 c44 => ?_⟩
  ((with_reducible conv => whnf); repeat (first | (rw [natD_len]; with_reducible conv => whnf) | (rw [intD_len]; with_reducible conv => whnf) | (refine Exists.intro _ (And.intro (rfl : _ = some _) ?_); with_reducible conv => whnf) | (refine And.intro (okII _ _) ?_; rw [eqD_ii]; with_reducible conv => whnf) | (refine And.intro (by first | assumption | exact Exists.intro _ (by assumption) | exact ⟨rfl, rfl, by decide, by decide⟩ | exact Nat.le_of_ble_eq_true rfl | exact rfl) ?_; with_reducible conv => whnf) | (rw [isLst_at (by assumption)]; with_reducible conv => whnf) | (refine ifT rfl ?_; with_reducible conv => whnf) | (refine ifF rfl ?_; with_reducible conv => whnf) | (refine it_at (by assumption) ?_; with_reducible conv => whnf)))
  have hL : [D.int 1, .int G, .int ((G : Int) + 1), .int 0, .int t] = intD [1, (G : Int), (G : Int) + 1, 0, t] := rfl
  rw [hL]
  clear hL
  generalize [1, (G : Int), (G : Int) + 1, 0, t] = L4 at *
  have ep := at_push S44 (.lst (intD L4))
  have d45 := d44.app [.lst (intD L4)]
  ((with_reducible conv => whnf); repeat (first | (rw [natD_len]; with_reducible conv => whnf) | (rw [intD_len]; with_reducible conv => whnf) | (refine Exists.intro _ (And.intro (rfl : _ = some _) ?_); with_reducible conv => whnf) | (refine And.intro (okII _ _) ?_; rw [eqD_ii]; with_reducible conv => whnf) | (refine And.intro (by first | assumption | exact Exists.intro _ (by assumption) | exact ⟨rfl, rfl, by decide, by decide⟩ | exact Nat.le_of_ble_eq_true rfl | exact rfl) ?_; with_reducible conv => whnf) | (rw [isLst_at (by assumption)]; with_reducible conv => whnf) | (refine ifT rfl ?_; with_reducible conv => whnf) | (refine ifF rfl ?_; with_reducible conv => whnf) | (refine it_at (by assumption) ?_; with_reducible conv => whnf)))
  generalize S44 ++ [.lst (intD L4)] = S45 at *
  generalize S44.length = pl4 at *
  refine Loop_mk (fun i ρ S' => ∃ o7 o8, ρ = [x0, some (.ref n), some (.tup (natD o)), some (.tup ((lawR o).map ordD)), x4, x5, x6, o7, o8, x9, some (.int G), x11, x12, x13, some (.int H), o15] ∧ S'[pl4]? = some (.lst (intD L4)) ∧ Dr n S') ⟨_, _, rfl, ep, d45⟩ (by rintro i ρ S' ⟨_, _, rfl, h, _⟩; exact h) ?_ ?_
  · rintro i d ρ' S' hi ⟨o7, o8, rfl, f1, f3⟩
    obtain ⟨k, hk, rfl⟩ := intD_get hi
    ((with_reducible conv => whnf); repeat (first | (rw [natD_len]; with_reducible conv => whnf) | (rw [intD_len]; with_reducible conv => whnf) | (refine Exists.intro _ (And.intro (rfl : _ = some _) ?_); with_reducible conv => whnf) | (refine And.intro (okII _ _) ?_; rw [eqD_ii]; with_reducible conv => whnf) | (refine And.intro (by first | assumption | exact Exists.intro _ (by assumption) | exact ⟨rfl, rfl, by decide, by decide⟩ | exact Nat.le_of_ble_eq_true rfl | exact rfl) ?_; with_reducible conv => whnf) | (rw [isLst_at (by assumption)]; with_reducible conv => whnf) | (refine ifT rfl ?_; with_reducible conv => whnf) | (refine ifF rfl ?_; with_reducible conv => whnf) | (refine it_at (by assumption) ?_; with_reducible conv => whnf)))
    have hp := at_push S' (.lst [.tup [.int 0, .int 1], .tup [.int 1, .int G]])
    have f1 := push_at f1 [.lst [.tup [.int 0, .int 1], .tup [.int 1, .int G]]]
    have f3 := f3.app [.lst [.tup [.int 0, .int 1], .tup [.int 1, .int G]]]
    generalize S' ++ [.lst [.tup [.int 0, .int 1], .tup [.int 1, .int G]]] = S46 at *
    have ch : flat (chanD G k) = true ∧ slim (chanD G k) = true ∧ deep (chanD G k) ≤ 3 := by
      unfold chanD
      split <;> exact ⟨rfl, rfl, by show max 0 (max 0 0) + 1 ≤ 3; decide⟩
    have due : ∀ b : Bool, b = decide (1 ≤ k ∧ k ≤ (G : Int)) → atZ [D.tup [.int 0, .int 1], .tup [.int 1, .int G]] (if b = true then 1 else 0) = some (chanD G k) := by
      rintro b rfl
      rw [pick2 (by split <;> decide) (by split <;> decide)]
      unfold chanD
      by_cases h : 1 ≤ k ∧ k ≤ (G : Int)
      · simp [h]
      · simp [h]
    refine ite_d (fun hc => ?_) fun hc => ?_
    · ((with_reducible conv => whnf); repeat (first | (rw [natD_len]; with_reducible conv => whnf) | (rw [intD_len]; with_reducible conv => whnf) | (refine Exists.intro _ (And.intro (rfl : _ = some _) ?_); with_reducible conv => whnf) | (refine And.intro (okII _ _) ?_; rw [eqD_ii]; with_reducible conv => whnf) | (refine And.intro (by first | assumption | exact Exists.intro _ (by assumption) | exact ⟨rfl, rfl, by decide, by decide⟩ | exact Nat.le_of_ble_eq_true rfl | exact rfl) ?_; with_reducible conv => whnf) | (rw [isLst_at (by assumption)]; with_reducible conv => whnf) | (refine ifT rfl ?_; with_reducible conv => whnf) | (refine ifF rfl ?_; with_reducible conv => whnf) | (refine it_at (by assumption) ?_; with_reducible conv => whnf)))
      refine ⟨chanD G k, due (decide (k ≤ (G : Int))) (by rw [decide_eq_decide]; omega), ?_⟩
      ((with_reducible conv => whnf); repeat (first | (rw [natD_len]; with_reducible conv => whnf) | (rw [intD_len]; with_reducible conv => whnf) | (refine Exists.intro _ (And.intro (rfl : _ = some _) ?_); with_reducible conv => whnf) | (refine And.intro (okII _ _) ?_; rw [eqD_ii]; with_reducible conv => whnf) | (refine And.intro (by first | assumption | exact Exists.intro _ (by assumption) | exact ⟨rfl, rfl, by decide, by decide⟩ | exact Nat.le_of_ble_eq_true rfl | exact rfl) ?_; with_reducible conv => whnf) | (rw [isLst_at (by assumption)]; with_reducible conv => whnf) | (refine ifT rfl ?_; with_reducible conv => whnf) | (refine ifF rfl ?_; with_reducible conv => whnf) | (refine it_at (by assumption) ?_; with_reducible conv => whnf)))
      refine ⟨G, k, rfl, fun S47 s47 => ?_⟩
      ((with_reducible conv => whnf); repeat (first | (rw [natD_len]; with_reducible conv => whnf) | (rw [intD_len]; with_reducible conv => whnf) | (refine Exists.intro _ (And.intro (rfl : _ = some _) ?_); with_reducible conv => whnf) | (refine And.intro (okII _ _) ?_; rw [eqD_ii]; with_reducible conv => whnf) | (refine And.intro (by first | assumption | exact Exists.intro _ (by assumption) | exact ⟨rfl, rfl, by decide, by decide⟩ | exact Nat.le_of_ble_eq_true rfl | exact rfl) ?_; with_reducible conv => whnf) | (rw [isLst_at (by assumption)]; with_reducible conv => whnf) | (refine ifT rfl ?_; with_reducible conv => whnf) | (refine ifF rfl ?_; with_reducible conv => whnf) | (refine it_at (by assumption) ?_; with_reducible conv => whnf)))
      obtain ⟨w1, w2, w3⟩ := ch
      refine ⟨chanD G k, rfl, w1, w2, w3, fun S48 s48 => ?_⟩
      have ss := s47.trans s48
      ((with_reducible conv => whnf); repeat (first | (rw [natD_len]; with_reducible conv => whnf) | (rw [intD_len]; with_reducible conv => whnf) | (refine Exists.intro _ (And.intro (rfl : _ = some _) ?_); with_reducible conv => whnf) | (refine And.intro (okII _ _) ?_; rw [eqD_ii]; with_reducible conv => whnf) | (refine And.intro (by first | assumption | exact Exists.intro _ (by assumption) | exact ⟨rfl, rfl, by decide, by decide⟩ | exact Nat.le_of_ble_eq_true rfl | exact rfl) ?_; with_reducible conv => whnf) | (rw [isLst_at (by assumption)]; with_reducible conv => whnf) | (refine ifT rfl ?_; with_reducible conv => whnf) | (refine ifF rfl ?_; with_reducible conv => whnf) | (refine it_at (by assumption) ?_; with_reducible conv => whnf)))
      exact ⟨_, _, rfl, ss _ _ f1, f3.sub ss⟩
    · ((with_reducible conv => whnf); repeat (first | (rw [natD_len]; with_reducible conv => whnf) | (rw [intD_len]; with_reducible conv => whnf) | (refine Exists.intro _ (And.intro (rfl : _ = some _) ?_); with_reducible conv => whnf) | (refine And.intro (okII _ _) ?_; rw [eqD_ii]; with_reducible conv => whnf) | (refine And.intro (by first | assumption | exact Exists.intro _ (by assumption) | exact ⟨rfl, rfl, by decide, by decide⟩ | exact Nat.le_of_ble_eq_true rfl | exact rfl) ?_; with_reducible conv => whnf) | (rw [isLst_at (by assumption)]; with_reducible conv => whnf) | (refine ifT rfl ?_; with_reducible conv => whnf) | (refine ifF rfl ?_; with_reducible conv => whnf) | (refine it_at (by assumption) ?_; with_reducible conv => whnf)))
      have ec : chanD G k = .tup [.int 0, .int 1] := if_neg (by omega)
      refine ⟨G, k, rfl, fun S47 s47 => ?_⟩
      rw [ec]
      ((with_reducible conv => whnf); repeat (first | (rw [natD_len]; with_reducible conv => whnf) | (rw [intD_len]; with_reducible conv => whnf) | (refine Exists.intro _ (And.intro (rfl : _ = some _) ?_); with_reducible conv => whnf) | (refine And.intro (okII _ _) ?_; rw [eqD_ii]; with_reducible conv => whnf) | (refine And.intro (by first | assumption | exact Exists.intro _ (by assumption) | exact ⟨rfl, rfl, by decide, by decide⟩ | exact Nat.le_of_ble_eq_true rfl | exact rfl) ?_; with_reducible conv => whnf) | (rw [isLst_at (by assumption)]; with_reducible conv => whnf) | (refine ifT rfl ?_; with_reducible conv => whnf) | (refine ifF rfl ?_; with_reducible conv => whnf) | (refine it_at (by assumption) ?_; with_reducible conv => whnf)))
      refine ⟨.tup [.int 0, .int 1], rfl, rfl, rfl, by show max 0 (max 0 0) + 1 ≤ 3; decide, fun S48 s48 => ?_⟩
      have ss := s47.trans s48
      ((with_reducible conv => whnf); repeat (first | (rw [natD_len]; with_reducible conv => whnf) | (rw [intD_len]; with_reducible conv => whnf) | (refine Exists.intro _ (And.intro (rfl : _ = some _) ?_); with_reducible conv => whnf) | (refine And.intro (okII _ _) ?_; rw [eqD_ii]; with_reducible conv => whnf) | (refine And.intro (by first | assumption | exact Exists.intro _ (by assumption) | exact ⟨rfl, rfl, by decide, by decide⟩ | exact Nat.le_of_ble_eq_true rfl | exact rfl) ?_; with_reducible conv => whnf) | (rw [isLst_at (by assumption)]; with_reducible conv => whnf) | (refine ifT rfl ?_; with_reducible conv => whnf) | (refine ifF rfl ?_; with_reducible conv => whnf) | (refine it_at (by assumption) ?_; with_reducible conv => whnf)))
      exact ⟨_, _, rfl, ss _ _ f1, f3.sub ss⟩
  rintro ρ' S46 ⟨o7, o8, rfl, -, d46⟩
  ((with_reducible conv => whnf); repeat (first | (rw [natD_len]; with_reducible conv => whnf) | (rw [intD_len]; with_reducible conv => whnf) | (refine Exists.intro _ (And.intro (rfl : _ = some _) ?_); with_reducible conv => whnf) | (refine And.intro (okII _ _) ?_; rw [eqD_ii]; with_reducible conv => whnf) | (refine And.intro (by first | assumption | exact Exists.intro _ (by assumption) | exact ⟨rfl, rfl, by decide, by decide⟩ | exact Nat.le_of_ble_eq_true rfl | exact rfl) ?_; with_reducible conv => whnf) | (rw [isLst_at (by assumption)]; with_reducible conv => whnf) | (refine ifT rfl ?_; with_reducible conv => whnf) | (refine ifF rfl ?_; with_reducible conv => whnf) | (refine it_at (by assumption) ?_; with_reducible conv => whnf)))
  refine ⟨G, rfl, by omega, by omega, fun S47 s47 => ?_⟩
  ((with_reducible conv => whnf); repeat (first | (rw [natD_len]; with_reducible conv => whnf) | (rw [intD_len]; with_reducible conv => whnf) | (refine Exists.intro _ (And.intro (rfl : _ = some _) ?_); with_reducible conv => whnf) | (refine And.intro (okII _ _) ?_; rw [eqD_ii]; with_reducible conv => whnf) | (refine And.intro (by first | assumption | exact Exists.intro _ (by assumption) | exact ⟨rfl, rfl, by decide, by decide⟩ | exact Nat.le_of_ble_eq_true rfl | exact rfl) ?_; with_reducible conv => whnf) | (rw [isLst_at (by assumption)]; with_reducible conv => whnf) | (refine ifT rfl ?_; with_reducible conv => whnf) | (refine ifF rfl ?_; with_reducible conv => whnf) | (refine it_at (by assumption) ?_; with_reducible conv => whnf)))
  refine ⟨.tup [.int 1, .int 1], rfl, rfl, rfl, by show max 0 (max 0 0) + 1 ≤ 3; decide, fun S48 s48 => ?_⟩
  ((with_reducible conv => whnf); repeat (first | (rw [natD_len]; with_reducible conv => whnf) | (rw [intD_len]; with_reducible conv => whnf) | (refine Exists.intro _ (And.intro (rfl : _ = some _) ?_); with_reducible conv => whnf) | (refine And.intro (okII _ _) ?_; rw [eqD_ii]; with_reducible conv => whnf) | (refine And.intro (by first | assumption | exact Exists.intro _ (by assumption) | exact ⟨rfl, rfl, by decide, by decide⟩ | exact Nat.le_of_ble_eq_true rfl | exact rfl) ?_; with_reducible conv => whnf) | (rw [isLst_at (by assumption)]; with_reducible conv => whnf) | (refine ifT rfl ?_; with_reducible conv => whnf) | (refine ifF rfl ?_; with_reducible conv => whnf) | (refine it_at (by assumption) ?_; with_reducible conv => whnf)))
  refine ⟨4, rfl, by omega, fun S49 s49 => ?_⟩
  ((with_reducible conv => whnf); repeat (first | (rw [natD_len]; with_reducible conv => whnf) | (rw [intD_len]; with_reducible conv => whnf) | (refine Exists.intro _ (And.intro (rfl : _ = some _) ?_); with_reducible conv => whnf) | (refine And.intro (okII _ _) ?_; rw [eqD_ii]; with_reducible conv => whnf) | (refine And.intro (by first | assumption | exact Exists.intro _ (by assumption) | exact ⟨rfl, rfl, by decide, by decide⟩ | exact Nat.le_of_ble_eq_true rfl | exact rfl) ?_; with_reducible conv => whnf) | (rw [isLst_at (by assumption)]; with_reducible conv => whnf) | (refine ifT rfl ?_; with_reducible conv => whnf) | (refine ifF rfl ?_; with_reducible conv => whnf) | (refine it_at (by assumption) ?_; with_reducible conv => whnf)))
  refine ⟨.int 9, rfl, rfl, rfl, Nat.zero_le _, fun S50 s50 => ?_⟩
  ((with_reducible conv => whnf); repeat (first | (rw [natD_len]; with_reducible conv => whnf) | (rw [intD_len]; with_reducible conv => whnf) | (refine Exists.intro _ (And.intro (rfl : _ = some _) ?_); with_reducible conv => whnf) | (refine And.intro (okII _ _) ?_; rw [eqD_ii]; with_reducible conv => whnf) | (refine And.intro (by first | assumption | exact Exists.intro _ (by assumption) | exact ⟨rfl, rfl, by decide, by decide⟩ | exact Nat.le_of_ble_eq_true rfl | exact rfl) ?_; with_reducible conv => whnf) | (rw [isLst_at (by assumption)]; with_reducible conv => whnf) | (refine ifT rfl ?_; with_reducible conv => whnf) | (refine ifF rfl ?_; with_reducible conv => whnf) | (refine it_at (by assumption) ?_; with_reducible conv => whnf)))
  refine ⟨4, 2, rfl, by omega, fun S51 s51 => ?_⟩
  rw [show cntZ 4 2 = 11 by decide +kernel]
  ((with_reducible conv => whnf); repeat (first | (rw [natD_len]; with_reducible conv => whnf) | (rw [intD_len]; with_reducible conv => whnf) | (refine Exists.intro _ (And.intro (rfl : _ = some _) ?_); with_reducible conv => whnf) | (refine And.intro (okII _ _) ?_; rw [eqD_ii]; with_reducible conv => whnf) | (refine And.intro (by first | assumption | exact Exists.intro _ (by assumption) | exact ⟨rfl, rfl, by decide, by decide⟩ | exact Nat.le_of_ble_eq_true rfl | exact rfl) ?_; with_reducible conv => whnf) | (rw [isLst_at (by assumption)]; with_reducible conv => whnf) | (refine ifT rfl ?_; with_reducible conv => whnf) | (refine ifF rfl ?_; with_reducible conv => whnf) | (refine it_at (by assumption) ?_; with_reducible conv => whnf)))
  refine ⟨.int 11, rfl, rfl, rfl, Nat.zero_le _, fun S52 s52 => ?_⟩
  ((with_reducible conv => whnf); repeat (first | (rw [natD_len]; with_reducible conv => whnf) | (rw [intD_len]; with_reducible conv => whnf) | (refine Exists.intro _ (And.intro (rfl : _ = some _) ?_); with_reducible conv => whnf) | (refine And.intro (okII _ _) ?_; rw [eqD_ii]; with_reducible conv => whnf) | (refine And.intro (by first | assumption | exact Exists.intro _ (by assumption) | exact ⟨rfl, rfl, by decide, by decide⟩ | exact Nat.le_of_ble_eq_true rfl | exact rfl) ?_; with_reducible conv => whnf) | (rw [isLst_at (by assumption)]; with_reducible conv => whnf) | (refine ifT rfl ?_; with_reducible conv => whnf) | (refine ifF rfl ?_; with_reducible conv => whnf) | (refine it_at (by assumption) ?_; with_reducible conv => whnf)))
  refine ⟨[1, 0, 2], rfl, by decide, by unfold okO; decide, ?_, fun S53 s53 => ?_⟩
  · have : ∀ a, a < 3 → ∀ b, b < 3 → oat [1, 0, 2] a = oat [1, 0, 2] b → a = b := by decide
    exact fun a b ha hb e => this a ha b hb e
  rw [show lawR [1, 0, 2] = [[0, 1], [2]] by decide]
  ((with_reducible conv => whnf); repeat (first | (rw [natD_len]; with_reducible conv => whnf) | (rw [intD_len]; with_reducible conv => whnf) | (refine Exists.intro _ (And.intro (rfl : _ = some _) ?_); with_reducible conv => whnf) | (refine And.intro (okII _ _) ?_; rw [eqD_ii]; with_reducible conv => whnf) | (refine And.intro (by first | assumption | exact Exists.intro _ (by assumption) | exact ⟨rfl, rfl, by decide, by decide⟩ | exact Nat.le_of_ble_eq_true rfl | exact rfl) ?_; with_reducible conv => whnf) | (rw [isLst_at (by assumption)]; with_reducible conv => whnf) | (refine ifT rfl ?_; with_reducible conv => whnf) | (refine ifF rfl ?_; with_reducible conv => whnf) | (refine it_at (by assumption) ?_; with_reducible conv => whnf)))
  refine ⟨.tup [.tup [.int 0, .int 1], .tup [.int 2]], rfl, rfl, rfl, by show max (max 0 (max 0 0) + 1) (max (max 0 0 + 1) 0) + 1 ≤ 3; decide, fun S54 s54 => ?_⟩
  ((with_reducible conv => whnf); repeat (first | (rw [natD_len]; with_reducible conv => whnf) | (rw [intD_len]; with_reducible conv => whnf) | (refine Exists.intro _ (And.intro (rfl : _ = some _) ?_); with_reducible conv => whnf) | (refine And.intro (okII _ _) ?_; rw [eqD_ii]; with_reducible conv => whnf) | (refine And.intro (by first | assumption | exact Exists.intro _ (by assumption) | exact ⟨rfl, rfl, by decide, by decide⟩ | exact Nat.le_of_ble_eq_true rfl | exact rfl) ?_; with_reducible conv => whnf) | (rw [isLst_at (by assumption)]; with_reducible conv => whnf) | (refine ifT rfl ?_; with_reducible conv => whnf) | (refine ifF rfl ?_; with_reducible conv => whnf) | (refine it_at (by assumption) ?_; with_reducible conv => whnf)))
  refine ⟨3, 2, rfl, by omega, by omega, fun S55 s55 => ?_⟩
  have e23 : qD (fQ 2 3) = .tup [.int 2, .int 3] := by
    have : (fQ 2 3).num = 2 ∧ (fQ 2 3).den = 3 := by decide +kernel
    unfold qD
    rw [this.1, this.2]
    rfl
  rw [e23]
  ((with_reducible conv => whnf); repeat (first | (rw [natD_len]; with_reducible conv => whnf) | (rw [intD_len]; with_reducible conv => whnf) | (refine Exists.intro _ (And.intro (rfl : _ = some _) ?_); with_reducible conv => whnf) | (refine And.intro (okII _ _) ?_; rw [eqD_ii]; with_reducible conv => whnf) | (refine And.intro (by first | assumption | exact Exists.intro _ (by assumption) | exact ⟨rfl, rfl, by decide, by decide⟩ | exact Nat.le_of_ble_eq_true rfl | exact rfl) ?_; with_reducible conv => whnf) | (rw [isLst_at (by assumption)]; with_reducible conv => whnf) | (refine ifT rfl ?_; with_reducible conv => whnf) | (refine ifF rfl ?_; with_reducible conv => whnf) | (refine it_at (by assumption) ?_; with_reducible conv => whnf)))
  refine ⟨.tup [.int 2, .int 3], rfl, rfl, rfl, by show max 0 (max 0 0) + 1 ≤ 3; decide, fun S56 s56 => ?_⟩
  ((with_reducible conv => whnf); repeat (first | (rw [natD_len]; with_reducible conv => whnf) | (rw [intD_len]; with_reducible conv => whnf) | (refine Exists.intro _ (And.intro (rfl : _ = some _) ?_); with_reducible conv => whnf) | (refine And.intro (okII _ _) ?_; rw [eqD_ii]; with_reducible conv => whnf) | (refine And.intro (by first | assumption | exact Exists.intro _ (by assumption) | exact ⟨rfl, rfl, by decide, by decide⟩ | exact Nat.le_of_ble_eq_true rfl | exact rfl) ?_; with_reducible conv => whnf) | (rw [isLst_at (by assumption)]; with_reducible conv => whnf) | (refine ifT rfl ?_; with_reducible conv => whnf) | (refine ifF rfl ?_; with_reducible conv => whnf) | (refine it_at (by assumption) ?_; with_reducible conv => whnf)))
  refine ⟨o, rfl, ho100, ho, hi, fun S57 s57 => ?_⟩
  ((with_reducible conv => whnf); repeat (first | (rw [natD_len]; with_reducible conv => whnf) | (rw [intD_len]; with_reducible conv => whnf) | (refine Exists.intro _ (And.intro (rfl : _ = some _) ?_); with_reducible conv => whnf) | (refine And.intro (okII _ _) ?_; rw [eqD_ii]; with_reducible conv => whnf) | (refine And.intro (by first | assumption | exact Exists.intro _ (by assumption) | exact ⟨rfl, rfl, by decide, by decide⟩ | exact Nat.le_of_ble_eq_true rfl | exact rfl) ?_; with_reducible conv => whnf) | (rw [isLst_at (by assumption)]; with_reducible conv => whnf) | (refine ifT rfl ?_; with_reducible conv => whnf) | (refine ifF rfl ?_; with_reducible conv => whnf) | (refine it_at (by assumption) ?_; with_reducible conv => whnf)))
  obtain ⟨w1, w2, w3⟩ := rings_same o ho100
  exact ⟨_, rfl, w1, w2, w3, fun S58 s58 => kk _⟩
theorem law_C {Q : VK} {n G : Nat} {o : List Nat} {x0 x4 x5 x6 o7 o8 x9 x11 x12 x13 x14 o15 : Option D} {S : Sto} (hG0 : 41 ≤ G) (hG1 : G ≤ 400) (ho100 : o.length ≤ 100) (ho : okO o) (hi : inj o) (kk : ∀ S', Q (.bl true) S') (d0 : Dr n S) : w_law_t15 sp_draws sp_take sp_few sp_order sp_ringsof sp_rings (sp_same 3) sp_wrongs sp_wrong sp_ways sp_just sp_orders sp_rows sp_cnt sp_short sp_short sp_chan sp_mean { nx := fun _ S' => Q .non S', rt := Q, bk := fun _ _ => False, ct := fun _ _ => False } [x0, some (.ref n), some (.tup (natD o)), some (.tup ((lawR o).map ordD)), x4, x5, x6, o7, o8, x9, some (.int G), x11, x12, x13, x14, o15] S := by
  (with_reducible conv => whnf)
  ((with_reducible conv => whnf); repeat (first | (rw [natD_len]; with_reducible conv => whnf) | (rw [intD_len]; with_reducible conv => whnf) | (refine Exists.intro _ (And.intro (rfl : _ = some _) ?_); with_reducible conv => whnf) | (refine And.intro (okII _ _) ?_; rw [eqD_ii]; with_reducible conv => whnf) | (refine And.intro (by first | assumption | exact Exists.intro _ (by assumption) | exact ⟨rfl, rfl, by decide, by decide⟩ | exact Nat.le_of_ble_eq_true rfl | exact rfl) ?_; with_reducible conv => whnf) | (rw [isLst_at (by assumption)]; with_reducible conv => whnf) | (refine ifT rfl ?_; with_reducible conv => whnf) | (refine ifF rfl ?_; with_reducible conv => whnf) | (refine it_at (by assumption) ?_; with_reducible conv => whnf)))
  have hp := at_push S (.lst [.int 20, .int 101])
  have hne : S.length ≠ n := by have := d0.lt; omega
  have d30 := d0.app [.lst [.int 20, .int 101]]
  generalize S ++ [.lst [.int 20, .int 101]] = S30 at *
  refine ⟨n, 6, rfl, by decide, d30, fun r S31 r0 r1 d31 c31 => ?_⟩
  have hp := c31 _ _ hne hp
  ((with_reducible conv => whnf); repeat (first | (rw [natD_len]; with_reducible conv => whnf) | (rw [intD_len]; with_reducible conv => whnf) | (refine Exists.intro _ (And.intro (rfl : _ = some _) ?_); with_reducible conv => whnf) | (refine And.intro (okII _ _) ?_; rw [eqD_ii]; with_reducible conv => whnf) | (refine And.intro (by first | assumption | exact Exists.intro _ (by assumption) | exact ⟨rfl, rfl, by decide, by decide⟩ | exact Nat.le_of_ble_eq_true rfl | exact rfl) ?_; with_reducible conv => whnf) | (rw [isLst_at (by assumption)]; with_reducible conv => whnf) | (refine ifT rfl ?_; with_reducible conv => whnf) | (refine ifF rfl ?_; with_reducible conv => whnf) | (refine it_at (by assumption) ?_; with_reducible conv => whnf)))
  refine ⟨_, pick2 (by split <;> decide) (by split <;> decide), ?_⟩
  obtain ⟨x, hx, hx01⟩ := pickI (c := (if decide (r = 0) = true then (1 : Int) else 0) = 0) 20 101
  have hx0 : 0 < x := by omega
  have hx1 : x ≤ 101 := by omega
  rw [hx]
  ((with_reducible conv => whnf); repeat (first | (rw [natD_len]; with_reducible conv => whnf) | (rw [intD_len]; with_reducible conv => whnf) | (refine Exists.intro _ (And.intro (rfl : _ = some _) ?_); with_reducible conv => whnf) | (refine And.intro (okII _ _) ?_; rw [eqD_ii]; with_reducible conv => whnf) | (refine And.intro (by first | assumption | exact Exists.intro _ (by assumption) | exact ⟨rfl, rfl, by decide, by decide⟩ | exact Nat.le_of_ble_eq_true rfl | exact rfl) ?_; with_reducible conv => whnf) | (rw [isLst_at (by assumption)]; with_reducible conv => whnf) | (refine ifT rfl ?_; with_reducible conv => whnf) | (refine ifF rfl ?_; with_reducible conv => whnf) | (refine it_at (by assumption) ?_; with_reducible conv => whnf)))
  refine ⟨n, x, rfl, hx0, d31, fun z S32 z0 z1 d32 c32 => ?_⟩
  obtain ⟨M, rfl⟩ : ∃ m : Nat, z = m := ⟨z.toNat, by omega⟩
  clear hp c31 c32 hne hx d0 d30 d31
  ((with_reducible conv => whnf); repeat (first | (rw [natD_len]; with_reducible conv => whnf) | (rw [intD_len]; with_reducible conv => whnf) | (refine Exists.intro _ (And.intro (rfl : _ = some _) ?_); with_reducible conv => whnf) | (refine And.intro (okII _ _) ?_; rw [eqD_ii]; with_reducible conv => whnf) | (refine And.intro (by first | assumption | exact Exists.intro _ (by assumption) | exact ⟨rfl, rfl, by decide, by decide⟩ | exact Nat.le_of_ble_eq_true rfl | exact rfl) ?_; with_reducible conv => whnf) | (rw [isLst_at (by assumption)]; with_reducible conv => whnf) | (refine ifT rfl ?_; with_reducible conv => whnf) | (refine ifF rfl ?_; with_reducible conv => whnf) | (refine it_at (by assumption) ?_; with_reducible conv => whnf)))
  have hn32 := d32.lt
  refine ⟨M, rfl, by omega, fun mr S33 hmr er s33 => ?_⟩
  have d33 := d32.sub s33
  have hnr : mr ≠ n := by omega
  ((with_reducible conv => whnf); repeat (first | (rw [natD_len]; with_reducible conv => whnf) | (rw [intD_len]; with_reducible conv => whnf) | (refine Exists.intro _ (And.intro (rfl : _ = some _) ?_); with_reducible conv => whnf) | (refine And.intro (okII _ _) ?_; rw [eqD_ii]; with_reducible conv => whnf) | (refine And.intro (by first | assumption | exact Exists.intro _ (by assumption) | exact ⟨rfl, rfl, by decide, by decide⟩ | exact Nat.le_of_ble_eq_true rfl | exact rfl) ?_; with_reducible conv => whnf) | (rw [isLst_at (by assumption)]; with_reducible conv => whnf) | (refine ifT rfl ?_; with_reducible conv => whnf) | (refine ifF rfl ?_; with_reducible conv => whnf) | (refine it_at (by assumption) ?_; with_reducible conv => whnf)))
  refine ⟨n, _, rfl, by omega, d33, fun t S34 t0 t1 d34 c34 => ?_⟩
  have er := c34 _ _ hnr er
  ((with_reducible conv => whnf); repeat (first | (rw [natD_len]; with_reducible conv => whnf) | (rw [intD_len]; with_reducible conv => whnf) | (refine Exists.intro _ (And.intro (rfl : _ = some _) ?_); with_reducible conv => whnf) | (refine And.intro (okII _ _) ?_; rw [eqD_ii]; with_reducible conv => whnf) | (refine And.intro (by first | assumption | exact Exists.intro _ (by assumption) | exact ⟨rfl, rfl, by decide, by decide⟩ | exact Nat.le_of_ble_eq_true rfl | exact rfl) ?_; with_reducible conv => whnf) | (rw [isLst_at (by assumption)]; with_reducible conv => whnf) | (refine ifT rfl ?_; with_reducible conv => whnf) | (refine ifF rfl ?_; with_reducible conv => whnf) | (refine it_at (by assumption) ?_; with_reducible conv => whnf)))
  refine ⟨n, 6, rfl, by omega, d34, fun u S35 u0 u1 d35 c35 => ?_⟩
  have er := c35 _ _ hnr er
  ((with_reducible conv => whnf); repeat (first | (rw [natD_len]; with_reducible conv => whnf) | (rw [intD_len]; with_reducible conv => whnf) | (refine Exists.intro _ (And.intro (rfl : _ = some _) ?_); with_reducible conv => whnf) | (refine And.intro (okII _ _) ?_; rw [eqD_ii]; with_reducible conv => whnf) | (refine And.intro (by first | assumption | exact Exists.intro _ (by assumption) | exact ⟨rfl, rfl, by decide, by decide⟩ | exact Nat.le_of_ble_eq_true rfl | exact rfl) ?_; with_reducible conv => whnf) | (rw [isLst_at (by assumption)]; with_reducible conv => whnf) | (refine ifT rfl ?_; with_reducible conv => whnf) | (refine ifF rfl ?_; with_reducible conv => whnf) | (refine it_at (by assumption) ?_; with_reducible conv => whnf)))
  have hL : [D.int 0, .int 1, .int M, .int ((M : Int) + 1), .int (-1), .int t, .int (1 + u)] = intD [0, 1, (M : Int), (M : Int) + 1, -1, t, 1 + u] := rfl
  rw [hL]
  generalize [0, 1, (M : Int), (M : Int) + 1, -1, t, 1 + u] = L2 at *
  have ep := at_push S35 (.lst (intD L2))
  have er := push_at er [.lst (intD L2)]
  have d36 := d35.app [.lst (intD L2)]
  ((with_reducible conv => whnf); repeat (first | (rw [natD_len]; with_reducible conv => whnf) | (rw [intD_len]; with_reducible conv => whnf) | (refine Exists.intro _ (And.intro (rfl : _ = some _) ?_); with_reducible conv => whnf) | (refine And.intro (okII _ _) ?_; rw [eqD_ii]; with_reducible conv => whnf) | (refine And.intro (by first | assumption | exact Exists.intro _ (by assumption) | exact ⟨rfl, rfl, by decide, by decide⟩ | exact Nat.le_of_ble_eq_true rfl | exact rfl) ?_; with_reducible conv => whnf) | (rw [isLst_at (by assumption)]; with_reducible conv => whnf) | (refine ifT rfl ?_; with_reducible conv => whnf) | (refine ifF rfl ?_; with_reducible conv => whnf) | (refine it_at (by assumption) ?_; with_reducible conv => whnf)))
  clear hL
  generalize S35 ++ [.lst (intD L2)] = S36 at *
  generalize S35.length = pl2 at *
  refine Loop_mk (fun i ρ S' => ∃ o7 o8, ρ = [x0, some (.ref n), some (.tup (natD o)), some (.tup ((lawR o).map ordD)), x4, x5, x6, o7, o8, x9, some (.int G), x11, some (.int M), some (.ref mr), x14, o15] ∧ S'[pl2]? = some (.lst (intD L2)) ∧ S'[mr]? = some (.lst (intD (rowR M))) ∧ Dr n S') ⟨_, _, rfl, ep, er, d36⟩ (by rintro i ρ S' ⟨_, _, rfl, h, _⟩; exact h) ?_ ?_
  · rintro i d ρ' S' hi ⟨o7, o8, rfl, f1, f2, f3⟩
    obtain ⟨k, hk, rfl⟩ := intD_get hi
    ((with_reducible conv => whnf); repeat (first | (rw [natD_len]; with_reducible conv => whnf) | (rw [intD_len]; with_reducible conv => whnf) | (refine Exists.intro _ (And.intro (rfl : _ = some _) ?_); with_reducible conv => whnf) | (refine And.intro (okII _ _) ?_; rw [eqD_ii]; with_reducible conv => whnf) | (refine And.intro (by first | assumption | exact Exists.intro _ (by assumption) | exact ⟨rfl, rfl, by decide, by decide⟩ | exact Nat.le_of_ble_eq_true rfl | exact rfl) ?_; with_reducible conv => whnf) | (rw [isLst_at (by assumption)]; with_reducible conv => whnf) | (refine ifT rfl ?_; with_reducible conv => whnf) | (refine ifF rfl ?_; with_reducible conv => whnf) | (refine it_at (by assumption) ?_; with_reducible conv => whnf)))
    refine ite_d (fun hc => ?_) fun hc => ?_
    · ((with_reducible conv => whnf); repeat (first | (rw [natD_len]; with_reducible conv => whnf) | (rw [intD_len]; with_reducible conv => whnf) | (refine Exists.intro _ (And.intro (rfl : _ = some _) ?_); with_reducible conv => whnf) | (refine And.intro (okII _ _) ?_; rw [eqD_ii]; with_reducible conv => whnf) | (refine And.intro (by first | assumption | exact Exists.intro _ (by assumption) | exact ⟨rfl, rfl, by decide, by decide⟩ | exact Nat.le_of_ble_eq_true rfl | exact rfl) ?_; with_reducible conv => whnf) | (rw [isLst_at (by assumption)]; with_reducible conv => whnf) | (refine ifT rfl ?_; with_reducible conv => whnf) | (refine ifF rfl ?_; with_reducible conv => whnf) | (refine it_at (by assumption) ?_; with_reducible conv => whnf)))
      refine ite_d (fun hc2 => ?_) fun hc2 => ?_
      · ((with_reducible conv => whnf); repeat (first | (rw [natD_len]; with_reducible conv => whnf) | (rw [intD_len]; with_reducible conv => whnf) | (refine Exists.intro _ (And.intro (rfl : _ = some _) ?_); with_reducible conv => whnf) | (refine And.intro (okII _ _) ?_; rw [eqD_ii]; with_reducible conv => whnf) | (refine And.intro (by first | assumption | exact Exists.intro _ (by assumption) | exact ⟨rfl, rfl, by decide, by decide⟩ | exact Nat.le_of_ble_eq_true rfl | exact rfl) ?_; with_reducible conv => whnf) | (rw [isLst_at (by assumption)]; with_reducible conv => whnf) | (refine ifT rfl ?_; with_reducible conv => whnf) | (refine ifF rfl ?_; with_reducible conv => whnf) | (refine it_at (by assumption) ?_; with_reducible conv => whnf)))
        refine ⟨_, atZ_intD hc (by rw [rowR_len]; omega), ?_⟩
        ((with_reducible conv => whnf); repeat (first | (rw [natD_len]; with_reducible conv => whnf) | (rw [intD_len]; with_reducible conv => whnf) | (refine Exists.intro _ (And.intro (rfl : _ = some _) ?_); with_reducible conv => whnf) | (refine And.intro (okII _ _) ?_; rw [eqD_ii]; with_reducible conv => whnf) | (refine And.intro (by first | assumption | exact Exists.intro _ (by assumption) | exact ⟨rfl, rfl, by decide, by decide⟩ | exact Nat.le_of_ble_eq_true rfl | exact rfl) ?_; with_reducible conv => whnf) | (rw [isLst_at (by assumption)]; with_reducible conv => whnf) | (refine ifT rfl ?_; with_reducible conv => whnf) | (refine ifF rfl ?_; with_reducible conv => whnf) | (refine it_at (by assumption) ?_; with_reducible conv => whnf)))
        refine ⟨M, k, rfl, by omega, fun S37 s37 => ?_⟩
        have ec : cntZ M k = (rowR M).getD k.toNat 0 := if_pos ⟨hc, hc2⟩
        rw [ec]
        ((with_reducible conv => whnf); repeat (first | (rw [natD_len]; with_reducible conv => whnf) | (rw [intD_len]; with_reducible conv => whnf) | (refine Exists.intro _ (And.intro (rfl : _ = some _) ?_); with_reducible conv => whnf) | (refine And.intro (okII _ _) ?_; rw [eqD_ii]; with_reducible conv => whnf) | (refine And.intro (by first | assumption | exact Exists.intro _ (by assumption) | exact ⟨rfl, rfl, by decide, by decide⟩ | exact Nat.le_of_ble_eq_true rfl | exact rfl) ?_; with_reducible conv => whnf) | (rw [isLst_at (by assumption)]; with_reducible conv => whnf) | (refine ifT rfl ?_; with_reducible conv => whnf) | (refine ifF rfl ?_; with_reducible conv => whnf) | (refine it_at (by assumption) ?_; with_reducible conv => whnf)))
        refine ⟨_, rfl, rfl, rfl, Nat.zero_le _, fun S38 s38 => ?_⟩
        have ss := s37.trans s38
        ((with_reducible conv => whnf); repeat (first | (rw [natD_len]; with_reducible conv => whnf) | (rw [intD_len]; with_reducible conv => whnf) | (refine Exists.intro _ (And.intro (rfl : _ = some _) ?_); with_reducible conv => whnf) | (refine And.intro (okII _ _) ?_; rw [eqD_ii]; with_reducible conv => whnf) | (refine And.intro (by first | assumption | exact Exists.intro _ (by assumption) | exact ⟨rfl, rfl, by decide, by decide⟩ | exact Nat.le_of_ble_eq_true rfl | exact rfl) ?_; with_reducible conv => whnf) | (rw [isLst_at (by assumption)]; with_reducible conv => whnf) | (refine ifT rfl ?_; with_reducible conv => whnf) | (refine ifF rfl ?_; with_reducible conv => whnf) | (refine it_at (by assumption) ?_; with_reducible conv => whnf)))
        exact ⟨_, _, rfl, ss _ _ f1, ss _ _ f2, f3.sub ss⟩
      · ((with_reducible conv => whnf); repeat (first | (rw [natD_len]; with_reducible conv => whnf) | (rw [intD_len]; with_reducible conv => whnf) | (refine Exists.intro _ (And.intro (rfl : _ = some _) ?_); with_reducible conv => whnf) | (refine And.intro (okII _ _) ?_; rw [eqD_ii]; with_reducible conv => whnf) | (refine And.intro (by first | assumption | exact Exists.intro _ (by assumption) | exact ⟨rfl, rfl, by decide, by decide⟩ | exact Nat.le_of_ble_eq_true rfl | exact rfl) ?_; with_reducible conv => whnf) | (rw [isLst_at (by assumption)]; with_reducible conv => whnf) | (refine ifT rfl ?_; with_reducible conv => whnf) | (refine ifF rfl ?_; with_reducible conv => whnf) | (refine it_at (by assumption) ?_; with_reducible conv => whnf)))
        refine ⟨M, k, rfl, by omega, fun S37 s37 => ?_⟩
        have ec : cntZ M k = 0 := if_neg (by omega)
        rw [ec]
        ((with_reducible conv => whnf); repeat (first | (rw [natD_len]; with_reducible conv => whnf) | (rw [intD_len]; with_reducible conv => whnf) | (refine Exists.intro _ (And.intro (rfl : _ = some _) ?_); with_reducible conv => whnf) | (refine And.intro (okII _ _) ?_; rw [eqD_ii]; with_reducible conv => whnf) | (refine And.intro (by first | assumption | exact Exists.intro _ (by assumption) | exact ⟨rfl, rfl, by decide, by decide⟩ | exact Nat.le_of_ble_eq_true rfl | exact rfl) ?_; with_reducible conv => whnf) | (rw [isLst_at (by assumption)]; with_reducible conv => whnf) | (refine ifT rfl ?_; with_reducible conv => whnf) | (refine ifF rfl ?_; with_reducible conv => whnf) | (refine it_at (by assumption) ?_; with_reducible conv => whnf)))
        refine ⟨_, rfl, rfl, rfl, Nat.zero_le _, fun S38 s38 => ?_⟩
        have ss := s37.trans s38
        ((with_reducible conv => whnf); repeat (first | (rw [natD_len]; with_reducible conv => whnf) | (rw [intD_len]; with_reducible conv => whnf) | (refine Exists.intro _ (And.intro (rfl : _ = some _) ?_); with_reducible conv => whnf) | (refine And.intro (okII _ _) ?_; rw [eqD_ii]; with_reducible conv => whnf) | (refine And.intro (by first | assumption | exact Exists.intro _ (by assumption) | exact ⟨rfl, rfl, by decide, by decide⟩ | exact Nat.le_of_ble_eq_true rfl | exact rfl) ?_; with_reducible conv => whnf) | (rw [isLst_at (by assumption)]; with_reducible conv => whnf) | (refine ifT rfl ?_; with_reducible conv => whnf) | (refine ifF rfl ?_; with_reducible conv => whnf) | (refine it_at (by assumption) ?_; with_reducible conv => whnf)))
        exact ⟨_, _, rfl, ss _ _ f1, ss _ _ f2, f3.sub ss⟩
    · ((with_reducible conv => whnf); repeat (first | (rw [natD_len]; with_reducible conv => whnf) | (rw [intD_len]; with_reducible conv => whnf) | (refine Exists.intro _ (And.intro (rfl : _ = some _) ?_); with_reducible conv => whnf) | (refine And.intro (okII _ _) ?_; rw [eqD_ii]; with_reducible conv => whnf) | (refine And.intro (by first | assumption | exact Exists.intro _ (by assumption) | exact ⟨rfl, rfl, by decide, by decide⟩ | exact Nat.le_of_ble_eq_true rfl | exact rfl) ?_; with_reducible conv => whnf) | (rw [isLst_at (by assumption)]; with_reducible conv => whnf) | (refine ifT rfl ?_; with_reducible conv => whnf) | (refine ifF rfl ?_; with_reducible conv => whnf) | (refine it_at (by assumption) ?_; with_reducible conv => whnf)))
      refine ⟨M, k, rfl, by omega, fun S37 s37 => ?_⟩
      have ec : cntZ M k = 0 := if_neg (by omega)
      rw [ec]
      ((with_reducible conv => whnf); repeat (first | (rw [natD_len]; with_reducible conv => whnf) | (rw [intD_len]; with_reducible conv => whnf) | (refine Exists.intro _ (And.intro (rfl : _ = some _) ?_); with_reducible conv => whnf) | (refine And.intro (okII _ _) ?_; rw [eqD_ii]; with_reducible conv => whnf) | (refine And.intro (by first | assumption | exact Exists.intro _ (by assumption) | exact ⟨rfl, rfl, by decide, by decide⟩ | exact Nat.le_of_ble_eq_true rfl | exact rfl) ?_; with_reducible conv => whnf) | (rw [isLst_at (by assumption)]; with_reducible conv => whnf) | (refine ifT rfl ?_; with_reducible conv => whnf) | (refine ifF rfl ?_; with_reducible conv => whnf) | (refine it_at (by assumption) ?_; with_reducible conv => whnf)))
      refine ⟨_, rfl, rfl, rfl, Nat.zero_le _, fun S38 s38 => ?_⟩
      have ss := s37.trans s38
      ((with_reducible conv => whnf); repeat (first | (rw [natD_len]; with_reducible conv => whnf) | (rw [intD_len]; with_reducible conv => whnf) | (refine Exists.intro _ (And.intro (rfl : _ = some _) ?_); with_reducible conv => whnf) | (refine And.intro (okII _ _) ?_; rw [eqD_ii]; with_reducible conv => whnf) | (refine And.intro (by first | assumption | exact Exists.intro _ (by assumption) | exact ⟨rfl, rfl, by decide, by decide⟩ | exact Nat.le_of_ble_eq_true rfl | exact rfl) ?_; with_reducible conv => whnf) | (rw [isLst_at (by assumption)]; with_reducible conv => whnf) | (refine ifT rfl ?_; with_reducible conv => whnf) | (refine ifF rfl ?_; with_reducible conv => whnf) | (refine it_at (by assumption) ?_; with_reducible conv => whnf)))
      exact ⟨_, _, rfl, ss _ _ f1, ss _ _ f2, f3.sub ss⟩
  rintro ρ' S37 ⟨o7, o8, rfl, -, er, d37⟩
  exact law_D hG0 hG1 ho100 ho hi kk d37
theorem law_B {Q : VK} {n : Nat} {o : List Nat} {x0 x4 x5 x6 o7 o8 x9 x10 x11 x12 x13 x14 o15 : Option D} {S : Sto} (ho100 : o.length ≤ 100) (ho : okO o) (hi : inj o) (kk : ∀ S', Q (.bl true) S') (d0 : Dr n S) : w_law_t11 sp_draws sp_take sp_few sp_order sp_ringsof sp_rings (sp_same 3) sp_wrongs sp_wrong sp_ways sp_just sp_orders sp_rows sp_cnt sp_short sp_short sp_chan sp_mean { nx := fun _ S' => Q .non S', rt := Q, bk := fun _ _ => False, ct := fun _ _ => False } [x0, some (.ref n), some (.tup (natD o)), some (.tup ((lawR o).map ordD)), x4, x5, x6, o7, o8, x9, x10, x11, x12, x13, x14, o15] S := by
  (with_reducible conv => whnf)
  ((with_reducible conv => whnf); repeat (first | (rw [natD_len]; with_reducible conv => whnf) | (rw [intD_len]; with_reducible conv => whnf) | (refine Exists.intro _ (And.intro (rfl : _ = some _) ?_); with_reducible conv => whnf) | (refine And.intro (okII _ _) ?_; rw [eqD_ii]; with_reducible conv => whnf) | (refine And.intro (by first | assumption | exact Exists.intro _ (by assumption) | exact ⟨rfl, rfl, by decide, by decide⟩ | exact Nat.le_of_ble_eq_true rfl | exact rfl) ?_; with_reducible conv => whnf) | (rw [isLst_at (by assumption)]; with_reducible conv => whnf) | (refine ifT rfl ?_; with_reducible conv => whnf) | (refine ifF rfl ?_; with_reducible conv => whnf) | (refine it_at (by assumption) ?_; with_reducible conv => whnf)))
  refine ⟨n, 360, rfl, by decide, d0, fun g S26 g0 g1 d26 c26 => ?_⟩
  ((with_reducible conv => whnf); repeat (first | (rw [natD_len]; with_reducible conv => whnf) | (rw [intD_len]; with_reducible conv => whnf) | (refine Exists.intro _ (And.intro (rfl : _ = some _) ?_); with_reducible conv => whnf) | (refine And.intro (okII _ _) ?_; rw [eqD_ii]; with_reducible conv => whnf) | (refine And.intro (by first | assumption | exact Exists.intro _ (by assumption) | exact ⟨rfl, rfl, by decide, by decide⟩ | exact Nat.le_of_ble_eq_true rfl | exact rfl) ?_; with_reducible conv => whnf) | (rw [isLst_at (by assumption)]; with_reducible conv => whnf) | (refine ifT rfl ?_; with_reducible conv => whnf) | (refine ifF rfl ?_; with_reducible conv => whnf) | (refine it_at (by assumption) ?_; with_reducible conv => whnf)))
  obtain ⟨G, hG, hG0, hG1⟩ : ∃ G : Nat, (41 : Int) + g = G ∧ 41 ≤ G ∧ G ≤ 400 := ⟨(41 + g).toNat, by omega, by omega, by omega⟩
  rw [hG]
  refine ⟨⟨by decide, by decide⟩, ⟨by omega, by omega⟩, ?_⟩
  refine Loop_mk (fun i ρ S' => ∃ o7 o8, ρ = [x0, some (.ref n), some (.tup (natD o)), some (.tup ((lawR o).map ordD)), x4, x5, x6, o7, o8, x9, some (.int G), some (.int (der i)), x12, x13, x14, o15] ∧ Dr n S') ⟨_, _, rfl, d26⟩ (by intros; trivial) ?_ ?_
  · rintro i d ρ' S' hi ⟨o7, o8, rfl, f3⟩
    obtain ⟨hi1, rfl⟩ := rangeD_get hi
    ((with_reducible conv => whnf); repeat (first | (rw [natD_len]; with_reducible conv => whnf) | (rw [intD_len]; with_reducible conv => whnf) | (refine Exists.intro _ (And.intro (rfl : _ = some _) ?_); with_reducible conv => whnf) | (refine And.intro (okII _ _) ?_; rw [eqD_ii]; with_reducible conv => whnf) | (refine And.intro (by first | assumption | exact Exists.intro _ (by assumption) | exact ⟨rfl, rfl, by decide, by decide⟩ | exact Nat.le_of_ble_eq_true rfl | exact rfl) ?_; with_reducible conv => whnf) | (rw [isLst_at (by assumption)]; with_reducible conv => whnf) | (refine ifT rfl ?_; with_reducible conv => whnf) | (refine ifF rfl ?_; with_reducible conv => whnf) | (refine it_at (by assumption) ?_; with_reducible conv => whnf)))
    refine ⟨smallMul (by omega), ?_⟩
    ((with_reducible conv => whnf); repeat (first | (rw [natD_len]; with_reducible conv => whnf) | (rw [intD_len]; with_reducible conv => whnf) | (refine Exists.intro _ (And.intro (rfl : _ = some _) ?_); with_reducible conv => whnf) | (refine And.intro (okII _ _) ?_; rw [eqD_ii]; with_reducible conv => whnf) | (refine And.intro (by first | assumption | exact Exists.intro _ (by assumption) | exact ⟨rfl, rfl, by decide, by decide⟩ | exact Nat.le_of_ble_eq_true rfl | exact rfl) ?_; with_reducible conv => whnf) | (rw [isLst_at (by assumption)]; with_reducible conv => whnf) | (refine ifT rfl ?_; with_reducible conv => whnf) | (refine ifF rfl ?_; with_reducible conv => whnf) | (refine it_at (by assumption) ?_; with_reducible conv => whnf)))
    have e1 := at_push S' (.lst [.int 1, .int (-1)])
    have f3 := f3.app [.lst [.int 1, .int (-1)]]
    generalize S' ++ [.lst [.int 1, .int (-1)]] = S27 at *
    ((with_reducible conv => whnf); repeat (first | (rw [natD_len]; with_reducible conv => whnf) | (rw [intD_len]; with_reducible conv => whnf) | (refine Exists.intro _ (And.intro (rfl : _ = some _) ?_); with_reducible conv => whnf) | (refine And.intro (okII _ _) ?_; rw [eqD_ii]; with_reducible conv => whnf) | (refine And.intro (by first | assumption | exact Exists.intro _ (by assumption) | exact ⟨rfl, rfl, by decide, by decide⟩ | exact Nat.le_of_ble_eq_true rfl | exact rfl) ?_; with_reducible conv => whnf) | (rw [isLst_at (by assumption)]; with_reducible conv => whnf) | (refine ifT rfl ?_; with_reducible conv => whnf) | (refine ifF rfl ?_; with_reducible conv => whnf) | (refine it_at (by assumption) ?_; with_reducible conv => whnf)))
    refine ⟨by decide, ?_⟩
    obtain ⟨m0, m1⟩ := fmod_lt (a := 1 + (i : Int)) (b := 2) (by decide)
    ((with_reducible conv => whnf); repeat (first | (rw [natD_len]; with_reducible conv => whnf) | (rw [intD_len]; with_reducible conv => whnf) | (refine Exists.intro _ (And.intro (rfl : _ = some _) ?_); with_reducible conv => whnf) | (refine And.intro (okII _ _) ?_; rw [eqD_ii]; with_reducible conv => whnf) | (refine And.intro (by first | assumption | exact Exists.intro _ (by assumption) | exact ⟨rfl, rfl, by decide, by decide⟩ | exact Nat.le_of_ble_eq_true rfl | exact rfl) ?_; with_reducible conv => whnf) | (rw [isLst_at (by assumption)]; with_reducible conv => whnf) | (refine ifT rfl ?_; with_reducible conv => whnf) | (refine ifF rfl ?_; with_reducible conv => whnf) | (refine it_at (by assumption) ?_; with_reducible conv => whnf)))
    refine ⟨_, pick2 m0 m1, ?_⟩
    have hm : (1 + (i : Int)).fmod 2 = (((i + 1) % 2 : Nat) : Int) := by
      rw [Int.fmod_eq_emod_of_nonneg _ (by decide)]
      omega
    have hd := der_next i
    rcases Nat.mod_two_eq_zero_or_one (i + 1) with h | h
    · rw [hm, h, if_pos (by rfl)]
      rw [h, if_pos rfl] at hd
      have hv : der i * (1 + (i : Int)) + 1 = der (i + 1) := by rw [hd, show ((i + 1 : Nat) : Int) = 1 + (i : Int) by omega]
      ((with_reducible conv => whnf); repeat (first | (rw [natD_len]; with_reducible conv => whnf) | (rw [intD_len]; with_reducible conv => whnf) | (refine Exists.intro _ (And.intro (rfl : _ = some _) ?_); with_reducible conv => whnf) | (refine And.intro (okII _ _) ?_; rw [eqD_ii]; with_reducible conv => whnf) | (refine And.intro (by first | assumption | exact Exists.intro _ (by assumption) | exact ⟨rfl, rfl, by decide, by decide⟩ | exact Nat.le_of_ble_eq_true rfl | exact rfl) ?_; with_reducible conv => whnf) | (rw [isLst_at (by assumption)]; with_reducible conv => whnf) | (refine ifT rfl ?_; with_reducible conv => whnf) | (refine ifF rfl ?_; with_reducible conv => whnf) | (refine it_at (by assumption) ?_; with_reducible conv => whnf)))
      rw [hv]
      exact ⟨_, _, rfl, f3⟩
    · rw [hm, h, if_neg (by decide)]
      rw [h, if_neg (by decide)] at hd
      have hv : der i * (1 + (i : Int)) + -1 = der (i + 1) := by rw [hd, show ((i + 1 : Nat) : Int) = 1 + (i : Int) by omega]
      ((with_reducible conv => whnf); repeat (first | (rw [natD_len]; with_reducible conv => whnf) | (rw [intD_len]; with_reducible conv => whnf) | (refine Exists.intro _ (And.intro (rfl : _ = some _) ?_); with_reducible conv => whnf) | (refine And.intro (okII _ _) ?_; rw [eqD_ii]; with_reducible conv => whnf) | (refine And.intro (by first | assumption | exact Exists.intro _ (by assumption) | exact ⟨rfl, rfl, by decide, by decide⟩ | exact Nat.le_of_ble_eq_true rfl | exact rfl) ?_; with_reducible conv => whnf) | (rw [isLst_at (by assumption)]; with_reducible conv => whnf) | (refine ifT rfl ?_; with_reducible conv => whnf) | (refine ifF rfl ?_; with_reducible conv => whnf) | (refine it_at (by assumption) ?_; with_reducible conv => whnf)))
      rw [hv]
      exact ⟨_, _, rfl, f3⟩
  rintro ρ' S27 ⟨o7, o8, rfl, d27⟩
  rw [rangeD_len, show ((G : Int) + 1 - 1).toNat = G by omega]
  ((with_reducible conv => whnf); repeat (first | (rw [natD_len]; with_reducible conv => whnf) | (rw [intD_len]; with_reducible conv => whnf) | (refine Exists.intro _ (And.intro (rfl : _ = some _) ?_); with_reducible conv => whnf) | (refine And.intro (okII _ _) ?_; rw [eqD_ii]; with_reducible conv => whnf) | (refine And.intro (by first | assumption | exact Exists.intro _ (by assumption) | exact ⟨rfl, rfl, by decide, by decide⟩ | exact Nat.le_of_ble_eq_true rfl | exact rfl) ?_; with_reducible conv => whnf) | (rw [isLst_at (by assumption)]; with_reducible conv => whnf) | (refine ifT rfl ?_; with_reducible conv => whnf) | (refine ifF rfl ?_; with_reducible conv => whnf) | (refine it_at (by assumption) ?_; with_reducible conv => whnf)))
  refine ⟨G, rfl, by omega, fun S28 s28 => ?_⟩
  ((with_reducible conv => whnf); repeat (first | (rw [natD_len]; with_reducible conv => whnf) | (rw [intD_len]; with_reducible conv => whnf) | (refine Exists.intro _ (And.intro (rfl : _ = some _) ?_); with_reducible conv => whnf) | (refine And.intro (okII _ _) ?_; rw [eqD_ii]; with_reducible conv => whnf) | (refine And.intro (by first | assumption | exact Exists.intro _ (by assumption) | exact ⟨rfl, rfl, by decide, by decide⟩ | exact Nat.le_of_ble_eq_true rfl | exact rfl) ?_; with_reducible conv => whnf) | (rw [isLst_at (by assumption)]; with_reducible conv => whnf) | (refine ifT rfl ?_; with_reducible conv => whnf) | (refine ifF rfl ?_; with_reducible conv => whnf) | (refine it_at (by assumption) ?_; with_reducible conv => whnf)))
  refine ⟨_, rfl, rfl, rfl, Nat.zero_le _, fun S29 s29 => ?_⟩
  have d29 := d27.sub (s28.trans s29)
  exact law_C hG0 hG1 ho100 ho hi kk d29
theorem body_law : Body 16 1 (w_law sp_draws sp_take sp_few sp_order sp_ringsof sp_rings (sp_same 3) sp_wrongs sp_wrong sp_ways sp_just sp_orders sp_rows sp_cnt sp_short sp_short sp_chan sp_mean) sp_law := by
  rintro ds S Q _ ⟨ns, rfl, hl, kk⟩
  unfold w_law
  (simp only [start, List.map_cons, List.map_nil, List.length_cons, List.length_nil, Nat.reduceAdd, Nat.reduceSub, List.replicate_succ, List.replicate_zero, List.cons_append, List.nil_append, Nat.sub_self, Nat.zero_add])
  ((with_reducible conv => whnf); repeat (first | (rw [natD_len]; with_reducible conv => whnf) | (rw [intD_len]; with_reducible conv => whnf) | (refine Exists.intro _ (And.intro (rfl : _ = some _) ?_); with_reducible conv => whnf) | (refine And.intro (okII _ _) ?_; rw [eqD_ii]; with_reducible conv => whnf) | (refine And.intro (by first | assumption | exact Exists.intro _ (by assumption) | exact ⟨rfl, rfl, by decide, by decide⟩ | exact Nat.le_of_ble_eq_true rfl | exact rfl) ?_; with_reducible conv => whnf) | (rw [isLst_at (by assumption)]; with_reducible conv => whnf) | (refine ifT rfl ?_; with_reducible conv => whnf) | (refine ifF rfl ?_; with_reducible conv => whnf) | (refine it_at (by assumption) ?_; with_reducible conv => whnf)))
  refine ⟨ns, 160, rfl, hl, by decide, by decide, fun n S1 d1 s1 l1 => ?_⟩
  ((with_reducible conv => whnf); repeat (first | (rw [natD_len]; with_reducible conv => whnf) | (rw [intD_len]; with_reducible conv => whnf) | (refine Exists.intro _ (And.intro (rfl : _ = some _) ?_); with_reducible conv => whnf) | (refine And.intro (okII _ _) ?_; rw [eqD_ii]; with_reducible conv => whnf) | (refine And.intro (by first | assumption | exact Exists.intro _ (by assumption) | exact ⟨rfl, rfl, by decide, by decide⟩ | exact Nat.le_of_ble_eq_true rfl | exact rfl) ?_; with_reducible conv => whnf) | (rw [isLst_at (by assumption)]; with_reducible conv => whnf) | (refine ifT rfl ?_; with_reducible conv => whnf) | (refine ifF rfl ?_; with_reducible conv => whnf) | (refine it_at (by assumption) ?_; with_reducible conv => whnf)))
  refine ⟨n, 4, rfl, by decide, d1, fun r S2 r0 r1 d2 c2 => ?_⟩
  ((with_reducible conv => whnf); repeat (first | (rw [natD_len]; with_reducible conv => whnf) | (rw [intD_len]; with_reducible conv => whnf) | (refine Exists.intro _ (And.intro (rfl : _ = some _) ?_); with_reducible conv => whnf) | (refine And.intro (okII _ _) ?_; rw [eqD_ii]; with_reducible conv => whnf) | (refine And.intro (by first | assumption | exact Exists.intro _ (by assumption) | exact ⟨rfl, rfl, by decide, by decide⟩ | exact Nat.le_of_ble_eq_true rfl | exact rfl) ?_; with_reducible conv => whnf) | (rw [isLst_at (by assumption)]; with_reducible conv => whnf) | (refine ifT rfl ?_; with_reducible conv => whnf) | (refine ifF rfl ?_; with_reducible conv => whnf) | (refine it_at (by assumption) ?_; with_reducible conv => whnf)))
  refine ⟨n, _, rfl, by split <;> omega, d2, fun q S3 q0 q1 d3 c3 => ?_⟩
  obtain ⟨q, rfl⟩ : ∃ m : Nat, q = m := ⟨q.toNat, by omega⟩
  have q1 : q ≤ 6 := by split at q1 <;> omega
  ((with_reducible conv => whnf); repeat (first | (rw [natD_len]; with_reducible conv => whnf) | (rw [intD_len]; with_reducible conv => whnf) | (refine Exists.intro _ (And.intro (rfl : _ = some _) ?_); with_reducible conv => whnf) | (refine And.intro (okII _ _) ?_; rw [eqD_ii]; with_reducible conv => whnf) | (refine And.intro (by first | assumption | exact Exists.intro _ (by assumption) | exact ⟨rfl, rfl, by decide, by decide⟩ | exact Nat.le_of_ble_eq_true rfl | exact rfl) ?_; with_reducible conv => whnf) | (rw [isLst_at (by assumption)]; with_reducible conv => whnf) | (refine ifT rfl ?_; with_reducible conv => whnf) | (refine ifF rfl ?_; with_reducible conv => whnf) | (refine it_at (by assumption) ?_; with_reducible conv => whnf)))
  refine ⟨q, rfl, q1, fun S4 s4 => ?_⟩
  have d4 := d3.sub s4
  ((with_reducible conv => whnf); repeat (first | (rw [natD_len]; with_reducible conv => whnf) | (rw [intD_len]; with_reducible conv => whnf) | (refine Exists.intro _ (And.intro (rfl : _ = some _) ?_); with_reducible conv => whnf) | (refine And.intro (okII _ _) ?_; rw [eqD_ii]; with_reducible conv => whnf) | (refine And.intro (by first | assumption | exact Exists.intro _ (by assumption) | exact ⟨rfl, rfl, by decide, by decide⟩ | exact Nat.le_of_ble_eq_true rfl | exact rfl) ?_; with_reducible conv => whnf) | (rw [isLst_at (by assumption)]; with_reducible conv => whnf) | (refine ifT rfl ?_; with_reducible conv => whnf) | (refine ifF rfl ?_; with_reducible conv => whnf) | (refine it_at (by assumption) ?_; with_reducible conv => whnf)))
  have hp := at_push S4 (.lst [.int 9, .int 61])
  have d5 := d4.app [.lst [.int 9, .int 61]]
  have hne : S4.length ≠ n := by have := d4.lt; omega
  generalize S4 ++ [.lst [.int 9, .int 61]] = S5 at *
  refine ⟨n, 2, rfl, by decide, d5, fun r S6 r0 r1 d6 c6 => ?_⟩
  have hp := c6 _ _ hne hp
  ((with_reducible conv => whnf); repeat (first | (rw [natD_len]; with_reducible conv => whnf) | (rw [intD_len]; with_reducible conv => whnf) | (refine Exists.intro _ (And.intro (rfl : _ = some _) ?_); with_reducible conv => whnf) | (refine And.intro (okII _ _) ?_; rw [eqD_ii]; with_reducible conv => whnf) | (refine And.intro (by first | assumption | exact Exists.intro _ (by assumption) | exact ⟨rfl, rfl, by decide, by decide⟩ | exact Nat.le_of_ble_eq_true rfl | exact rfl) ?_; with_reducible conv => whnf) | (rw [isLst_at (by assumption)]; with_reducible conv => whnf) | (refine ifT rfl ?_; with_reducible conv => whnf) | (refine ifF rfl ?_; with_reducible conv => whnf) | (refine it_at (by assumption) ?_; with_reducible conv => whnf)))
  refine ⟨_, pick2 r0 r1, ?_⟩
  obtain ⟨x, hx, hx0, hx1⟩ : ∃ x : Int, (if r = 0 then D.int 9 else D.int 61) = .int x ∧ 0 < x ∧ x ≤ 61 := by
    split
    · exact ⟨9, rfl, by decide, by decide⟩
    · exact ⟨61, rfl, by decide, by decide⟩
  rw [hx]
  ((with_reducible conv => whnf); repeat (first | (rw [natD_len]; with_reducible conv => whnf) | (rw [intD_len]; with_reducible conv => whnf) | (refine Exists.intro _ (And.intro (rfl : _ = some _) ?_); with_reducible conv => whnf) | (refine And.intro (okII _ _) ?_; rw [eqD_ii]; with_reducible conv => whnf) | (refine And.intro (by first | assumption | exact Exists.intro _ (by assumption) | exact ⟨rfl, rfl, by decide, by decide⟩ | exact Nat.le_of_ble_eq_true rfl | exact rfl) ?_; with_reducible conv => whnf) | (rw [isLst_at (by assumption)]; with_reducible conv => whnf) | (refine ifT rfl ?_; with_reducible conv => whnf) | (refine ifF rfl ?_; with_reducible conv => whnf) | (refine it_at (by assumption) ?_; with_reducible conv => whnf)))
  refine ⟨n, x, rfl, hx0, d6, fun z S7 z0 z1 d7 c7 => ?_⟩
  obtain ⟨z, rfl⟩ : ∃ m : Nat, z = m := ⟨z.toNat, by omega⟩
  ((with_reducible conv => whnf); repeat (first | (rw [natD_len]; with_reducible conv => whnf) | (rw [intD_len]; with_reducible conv => whnf) | (refine Exists.intro _ (And.intro (rfl : _ = some _) ?_); with_reducible conv => whnf) | (refine And.intro (okII _ _) ?_; rw [eqD_ii]; with_reducible conv => whnf) | (refine And.intro (by first | assumption | exact Exists.intro _ (by assumption) | exact ⟨rfl, rfl, by decide, by decide⟩ | exact Nat.le_of_ble_eq_true rfl | exact rfl) ?_; with_reducible conv => whnf) | (rw [isLst_at (by assumption)]; with_reducible conv => whnf) | (refine ifT rfl ?_; with_reducible conv => whnf) | (refine ifF rfl ?_; with_reducible conv => whnf) | (refine it_at (by assumption) ?_; with_reducible conv => whnf)))
  refine ⟨n, z, rfl, by omega, d7, fun o S8 hol ho hi d8 c8 => ?_⟩
  clear hp c6 c7 c8 hx hne d2 c2 d3 c3 s4 d4 s1 d1
  have ho100 : o.length ≤ 100 := by omega
  ((with_reducible conv => whnf); repeat (first | (rw [natD_len]; with_reducible conv => whnf) | (rw [intD_len]; with_reducible conv => whnf) | (refine Exists.intro _ (And.intro (rfl : _ = some _) ?_); with_reducible conv => whnf) | (refine And.intro (okII _ _) ?_; rw [eqD_ii]; with_reducible conv => whnf) | (refine And.intro (by first | assumption | exact Exists.intro _ (by assumption) | exact ⟨rfl, rfl, by decide, by decide⟩ | exact Nat.le_of_ble_eq_true rfl | exact rfl) ?_; with_reducible conv => whnf) | (rw [isLst_at (by assumption)]; with_reducible conv => whnf) | (refine ifT rfl ?_; with_reducible conv => whnf) | (refine ifF rfl ?_; with_reducible conv => whnf) | (refine it_at (by assumption) ?_; with_reducible conv => whnf)))
  refine ⟨o, rfl, ho100, ho, hi, fun S9 s9 => ?_⟩
  ((with_reducible conv => whnf); repeat (first | (rw [natD_len]; with_reducible conv => whnf) | (rw [intD_len]; with_reducible conv => whnf) | (refine Exists.intro _ (And.intro (rfl : _ = some _) ?_); with_reducible conv => whnf) | (refine And.intro (okII _ _) ?_; rw [eqD_ii]; with_reducible conv => whnf) | (refine And.intro (by first | assumption | exact Exists.intro _ (by assumption) | exact ⟨rfl, rfl, by decide, by decide⟩ | exact Nat.le_of_ble_eq_true rfl | exact rfl) ?_; with_reducible conv => whnf) | (rw [isLst_at (by assumption)]; with_reducible conv => whnf) | (refine ifT rfl ?_; with_reducible conv => whnf) | (refine ifF rfl ?_; with_reducible conv => whnf) | (refine it_at (by assumption) ?_; with_reducible conv => whnf)))
  refine ⟨o, rfl, ho100, ho, fun S10 s10 => ?_⟩
  ((with_reducible conv => whnf); repeat (first | (rw [natD_len]; with_reducible conv => whnf) | (rw [intD_len]; with_reducible conv => whnf) | (refine Exists.intro _ (And.intro (rfl : _ = some _) ?_); with_reducible conv => whnf) | (refine And.intro (okII _ _) ?_; rw [eqD_ii]; with_reducible conv => whnf) | (refine And.intro (by first | assumption | exact Exists.intro _ (by assumption) | exact ⟨rfl, rfl, by decide, by decide⟩ | exact Nat.le_of_ble_eq_true rfl | exact rfl) ?_; with_reducible conv => whnf) | (rw [isLst_at (by assumption)]; with_reducible conv => whnf) | (refine ifT rfl ?_; with_reducible conv => whnf) | (refine ifF rfl ?_; with_reducible conv => whnf) | (refine it_at (by assumption) ?_; with_reducible conv => whnf)))
  obtain ⟨w1, w2, w3⟩ := rings_same o ho100
  refine ⟨_, rfl, w1, w2, w3, fun S11 s11 => ?_⟩
  have d11 := d8.sub ((s9.trans s10).trans s11)
  ((with_reducible conv => whnf); repeat (first | (rw [natD_len]; with_reducible conv => whnf) | (rw [intD_len]; with_reducible conv => whnf) | (refine Exists.intro _ (And.intro (rfl : _ = some _) ?_); with_reducible conv => whnf) | (refine And.intro (okII _ _) ?_; rw [eqD_ii]; with_reducible conv => whnf) | (refine And.intro (by first | assumption | exact Exists.intro _ (by assumption) | exact ⟨rfl, rfl, by decide, by decide⟩ | exact Nat.le_of_ble_eq_true rfl | exact rfl) ?_; with_reducible conv => whnf) | (rw [isLst_at (by assumption)]; with_reducible conv => whnf) | (refine ifT rfl ?_; with_reducible conv => whnf) | (refine ifF rfl ?_; with_reducible conv => whnf) | (refine it_at (by assumption) ?_; with_reducible conv => whnf)))
  have hlr : (lawR o).length ≤ 100 := by
    have := List.length_filterMap_le (ringAt o) (List.range o.length)
    rw [List.length_range] at this
    exact Nat.le_trans this ho100
  refine Lc_lm (xs := lawR o) (e := ordD) (fun c => .int (c.length : Nat)) (by unfold szL; omega) (by intros; trivial) (fun c S' R hc h hR => ?_) fun S12 s12 => ?_
  · ((with_reducible conv => whnf); repeat (first | (rw [natD_len]; with_reducible conv => whnf) | (rw [intD_len]; with_reducible conv => whnf) | (refine Exists.intro _ (And.intro (rfl : _ = some _) ?_); with_reducible conv => whnf) | (refine And.intro (okII _ _) ?_; rw [eqD_ii]; with_reducible conv => whnf) | (refine And.intro (by first | assumption | exact Exists.intro _ (by assumption) | exact ⟨rfl, rfl, by decide, by decide⟩ | exact Nat.le_of_ble_eq_true rfl | exact rfl) ?_; with_reducible conv => whnf) | (rw [isLst_at (by assumption)]; with_reducible conv => whnf) | (refine ifT rfl ?_; with_reducible conv => whnf) | (refine ifF rfl ?_; with_reducible conv => whnf) | (refine it_at (by assumption) ?_; with_reducible conv => whnf)))
    exact hR S' (Sub.refl _)
  have em : (lawR o).map (fun c => D.int (c.length : Nat)) = intD ((lawR o).map fun c => ((c.length : Nat) : Int)) := by simp [intD]
  rw [em]
  have e12 := at_push S12 (.lst (intD ((lawR o).map fun c => ((c.length : Nat) : Int))))
  have d12 := (d11.sub s12).app [.lst (intD ((lawR o).map fun c => ((c.length : Nat) : Int)))]
  ((with_reducible conv => whnf); repeat (first | (rw [natD_len]; with_reducible conv => whnf) | (rw [intD_len]; with_reducible conv => whnf) | (refine Exists.intro _ (And.intro (rfl : _ = some _) ?_); with_reducible conv => whnf) | (refine And.intro (okII _ _) ?_; rw [eqD_ii]; with_reducible conv => whnf) | (refine And.intro (by first | assumption | exact Exists.intro _ (by assumption) | exact ⟨rfl, rfl, by decide, by decide⟩ | exact Nat.le_of_ble_eq_true rfl | exact rfl) ?_; with_reducible conv => whnf) | (rw [isLst_at (by assumption)]; with_reducible conv => whnf) | (refine ifT rfl ?_; with_reducible conv => whnf) | (refine ifF rfl ?_; with_reducible conv => whnf) | (refine it_at (by assumption) ?_; with_reducible conv => whnf)))
  refine ⟨_, intL e12, ?_⟩
  (with_reducible conv => whnf)
  rw [rings_sum ho hi]
  generalize S12 ++ [.lst (intD ((lawR o).map fun c => ((c.length : Nat) : Int)))] = S13 at *
  ((with_reducible conv => whnf); repeat (first | (rw [natD_len]; with_reducible conv => whnf) | (rw [intD_len]; with_reducible conv => whnf) | (refine Exists.intro _ (And.intro (rfl : _ = some _) ?_); with_reducible conv => whnf) | (refine And.intro (okII _ _) ?_; rw [eqD_ii]; with_reducible conv => whnf) | (refine And.intro (by first | assumption | exact Exists.intro _ (by assumption) | exact ⟨rfl, rfl, by decide, by decide⟩ | exact Nat.le_of_ble_eq_true rfl | exact rfl) ?_; with_reducible conv => whnf) | (rw [isLst_at (by assumption)]; with_reducible conv => whnf) | (refine ifT rfl ?_; with_reducible conv => whnf) | (refine ifF rfl ?_; with_reducible conv => whnf) | (refine it_at (by assumption) ?_; with_reducible conv => whnf)))
  refine ifF (by simp) ?_
  ((with_reducible conv => whnf); repeat (first | (rw [natD_len]; with_reducible conv => whnf) | (rw [intD_len]; with_reducible conv => whnf) | (refine Exists.intro _ (And.intro (rfl : _ = some _) ?_); with_reducible conv => whnf) | (refine And.intro (okII _ _) ?_; rw [eqD_ii]; with_reducible conv => whnf) | (refine And.intro (by first | assumption | exact Exists.intro _ (by assumption) | exact ⟨rfl, rfl, by decide, by decide⟩ | exact Nat.le_of_ble_eq_true rfl | exact rfl) ?_; with_reducible conv => whnf) | (rw [isLst_at (by assumption)]; with_reducible conv => whnf) | (refine ifT rfl ?_; with_reducible conv => whnf) | (refine ifF rfl ?_; with_reducible conv => whnf) | (refine it_at (by assumption) ?_; with_reducible conv => whnf)))
  refine ⟨n, 41, rfl, by decide, d12, fun N S14 N0 N1 d14 c14 => ?_⟩
  obtain ⟨N, rfl⟩ : ∃ m : Nat, N = m := ⟨N.toNat, by omega⟩
  clear e12 c14
  ((with_reducible conv => whnf); repeat (first | (rw [natD_len]; with_reducible conv => whnf) | (rw [intD_len]; with_reducible conv => whnf) | (refine Exists.intro _ (And.intro (rfl : _ = some _) ?_); with_reducible conv => whnf) | (refine And.intro (okII _ _) ?_; rw [eqD_ii]; with_reducible conv => whnf) | (refine And.intro (by first | assumption | exact Exists.intro _ (by assumption) | exact ⟨rfl, rfl, by decide, by decide⟩ | exact Nat.le_of_ble_eq_true rfl | exact rfl) ?_; with_reducible conv => whnf) | (rw [isLst_at (by assumption)]; with_reducible conv => whnf) | (refine ifT rfl ?_; with_reducible conv => whnf) | (refine ifF rfl ?_; with_reducible conv => whnf) | (refine it_at (by assumption) ?_; with_reducible conv => whnf)))
  have hn14 := d14.lt
  refine ⟨N, rfl, by omega, fun mw S15 hmw ew s15 => ?_⟩
  have d15 := d14.sub s15
  have hnw : mw ≠ n := by omega
  ((with_reducible conv => whnf); repeat (first | (rw [natD_len]; with_reducible conv => whnf) | (rw [intD_len]; with_reducible conv => whnf) | (refine Exists.intro _ (And.intro (rfl : _ = some _) ?_); with_reducible conv => whnf) | (refine And.intro (okII _ _) ?_; rw [eqD_ii]; with_reducible conv => whnf) | (refine And.intro (by first | assumption | exact Exists.intro _ (by assumption) | exact ⟨rfl, rfl, by decide, by decide⟩ | exact Nat.le_of_ble_eq_true rfl | exact rfl) ?_; with_reducible conv => whnf) | (rw [isLst_at (by assumption)]; with_reducible conv => whnf) | (refine ifT rfl ?_; with_reducible conv => whnf) | (refine ifF rfl ?_; with_reducible conv => whnf) | (refine it_at (by assumption) ?_; with_reducible conv => whnf)))
  refine ⟨N, rfl, by omega, fun S16 s16 => ?_⟩
  have ew := s16 _ _ ew
  have d16 := d15.sub s16
  ((with_reducible conv => whnf); repeat (first | (rw [natD_len]; with_reducible conv => whnf) | (rw [intD_len]; with_reducible conv => whnf) | (refine Exists.intro _ (And.intro (rfl : _ = some _) ?_); with_reducible conv => whnf) | (refine And.intro (okII _ _) ?_; rw [eqD_ii]; with_reducible conv => whnf) | (refine And.intro (by first | assumption | exact Exists.intro _ (by assumption) | exact ⟨rfl, rfl, by decide, by decide⟩ | exact Nat.le_of_ble_eq_true rfl | exact rfl) ?_; with_reducible conv => whnf) | (rw [isLst_at (by assumption)]; with_reducible conv => whnf) | (refine ifT rfl ?_; with_reducible conv => whnf) | (refine ifF rfl ?_; with_reducible conv => whnf) | (refine it_at (by assumption) ?_; with_reducible conv => whnf)))
  refine ⟨_, wrong_get (Nat.le_refl N), ?_⟩
  ((with_reducible conv => whnf); repeat (first | (rw [natD_len]; with_reducible conv => whnf) | (rw [intD_len]; with_reducible conv => whnf) | (refine Exists.intro _ (And.intro (rfl : _ = some _) ?_); with_reducible conv => whnf) | (refine And.intro (okII _ _) ?_; rw [eqD_ii]; with_reducible conv => whnf) | (refine And.intro (by first | assumption | exact Exists.intro _ (by assumption) | exact ⟨rfl, rfl, by decide, by decide⟩ | exact Nat.le_of_ble_eq_true rfl | exact rfl) ?_; with_reducible conv => whnf) | (rw [isLst_at (by assumption)]; with_reducible conv => whnf) | (refine ifT rfl ?_; with_reducible conv => whnf) | (refine ifF rfl ?_; with_reducible conv => whnf) | (refine it_at (by assumption) ?_; with_reducible conv => whnf)))
  refine ⟨_, rfl, rfl, rfl, Nat.zero_le _, fun S17 s17 => ?_⟩
  have ew := s17 _ _ ew
  have d17 := d16.sub s17
  clear d15 d16 s15 s16 s17
  ((with_reducible conv => whnf); repeat (first | (rw [natD_len]; with_reducible conv => whnf) | (rw [intD_len]; with_reducible conv => whnf) | (refine Exists.intro _ (And.intro (rfl : _ = some _) ?_); with_reducible conv => whnf) | (refine And.intro (okII _ _) ?_; rw [eqD_ii]; with_reducible conv => whnf) | (refine And.intro (by first | assumption | exact Exists.intro _ (by assumption) | exact ⟨rfl, rfl, by decide, by decide⟩ | exact Nat.le_of_ble_eq_true rfl | exact rfl) ?_; with_reducible conv => whnf) | (rw [isLst_at (by assumption)]; with_reducible conv => whnf) | (refine ifT rfl ?_; with_reducible conv => whnf) | (refine ifF rfl ?_; with_reducible conv => whnf) | (refine it_at (by assumption) ?_; with_reducible conv => whnf)))
  refine ⟨n, _, rfl, by omega, d17, fun t S18 t0 t1 d18 c18 => ?_⟩
  have ew := c18 _ _ hnw ew
  ((with_reducible conv => whnf); repeat (first | (rw [natD_len]; with_reducible conv => whnf) | (rw [intD_len]; with_reducible conv => whnf) | (refine Exists.intro _ (And.intro (rfl : _ = some _) ?_); with_reducible conv => whnf) | (refine And.intro (okII _ _) ?_; rw [eqD_ii]; with_reducible conv => whnf) | (refine And.intro (by first | assumption | exact Exists.intro _ (by assumption) | exact ⟨rfl, rfl, by decide, by decide⟩ | exact Nat.le_of_ble_eq_true rfl | exact rfl) ?_; with_reducible conv => whnf) | (rw [isLst_at (by assumption)]; with_reducible conv => whnf) | (refine ifT rfl ?_; with_reducible conv => whnf) | (refine ifF rfl ?_; with_reducible conv => whnf) | (refine it_at (by assumption) ?_; with_reducible conv => whnf)))
  have hL : [D.int 0, .int 1, .int N, .int ((N : Int) + 1), .int (-1), .int t] = intD [0, 1, (N : Int), (N : Int) + 1, -1, t] := rfl
  rw [hL]
  have hLm : ∀ k ∈ [0, 1, (N : Int), (N : Int) + 1, -1, t], -1 ≤ k ∧ k ≤ (N : Int) + 1 := by
    simp only [List.mem_cons, List.not_mem_nil, or_false]
    omega
  generalize [0, 1, (N : Int), (N : Int) + 1, -1, t] = L at *
  have ep := at_push S18 (.lst (intD L))
  have ew := push_at ew [.lst (intD L)]
  have d19 := d18.app [.lst (intD L)]
  ((with_reducible conv => whnf); repeat (first | (rw [natD_len]; with_reducible conv => whnf) | (rw [intD_len]; with_reducible conv => whnf) | (refine Exists.intro _ (And.intro (rfl : _ = some _) ?_); with_reducible conv => whnf) | (refine And.intro (okII _ _) ?_; rw [eqD_ii]; with_reducible conv => whnf) | (refine And.intro (by first | assumption | exact Exists.intro _ (by assumption) | exact ⟨rfl, rfl, by decide, by decide⟩ | exact Nat.le_of_ble_eq_true rfl | exact rfl) ?_; with_reducible conv => whnf) | (rw [isLst_at (by assumption)]; with_reducible conv => whnf) | (refine ifT rfl ?_; with_reducible conv => whnf) | (refine ifF rfl ?_; with_reducible conv => whnf) | (refine it_at (by assumption) ?_; with_reducible conv => whnf)))
  clear hL
  generalize S18 ++ [.lst (intD L)] = S19 at *
  generalize S18.length = pl at *
  refine Loop_mk (fun i ρ S' => ∃ o7 o8, ρ = [some (.rol (intD ns)), some (.ref n), some (.tup (natD o)), some (.tup ((lawR o).map ordD)), none, some (.int N), some (.ref mw), o7, o8, none, none, none, none, none, none, none] ∧ S'[pl]? = some (.lst (intD L)) ∧ S'[mw]? = some (.lst (intD ((List.range (N + 1)).map der))) ∧ Dr n S') ⟨_, _, rfl, ep, ew, d19⟩ (by rintro i ρ S' ⟨_, _, rfl, h, _⟩; exact h) ?_ ?_
  · rintro i d ρ' S' hi ⟨o7, o8, rfl, f1, f2, f3⟩
    obtain ⟨k, hk, rfl⟩ := intD_get hi
    obtain ⟨k0, k1⟩ := hLm k (List.mem_of_getElem? hk)
    have fin : ∀ (o8 : Option D) T, T[pl]? = some (.lst (intD L)) → T[mw]? = some (.lst (intD ((List.range (N + 1)).map der))) → Dr n T → ∃ o7_1 o8_1,
        [some (D.rol (intD ns)), some (D.ref n), some (D.tup (natD o)), some (D.tup ((lawR o).map ordD)), none, some (D.int N), some (D.ref mw), some (D.int k), o8, none, none, none, none, none, none, none] =
          [some (D.rol (intD ns)), some (D.ref n), some (D.tup (natD o)), some (D.tup ((lawR o).map ordD)), none, some (D.int N), some (D.ref mw), o7_1, o8_1, none, none, none, none, none, none, none] ∧ T[pl]? = some (.lst (intD L)) ∧ T[mw]? = some (.lst (intD ((List.range (N + 1)).map der))) ∧ Dr n T := fun o8 T a b c => ⟨_, _, rfl, a, b, c⟩
    ((with_reducible conv => whnf); repeat (first | (rw [natD_len]; with_reducible conv => whnf) | (rw [intD_len]; with_reducible conv => whnf) | (refine Exists.intro _ (And.intro (rfl : _ = some _) ?_); with_reducible conv => whnf) | (refine And.intro (okII _ _) ?_; rw [eqD_ii]; with_reducible conv => whnf) | (refine And.intro (by first | assumption | exact Exists.intro _ (by assumption) | exact ⟨rfl, rfl, by decide, by decide⟩ | exact Nat.le_of_ble_eq_true rfl | exact rfl) ?_; with_reducible conv => whnf) | (rw [isLst_at (by assumption)]; with_reducible conv => whnf) | (refine ifT rfl ?_; with_reducible conv => whnf) | (refine ifF rfl ?_; with_reducible conv => whnf) | (refine it_at (by assumption) ?_; with_reducible conv => whnf)))
    refine ite_d (fun hc => ?_) fun hc => ?_
    · ((with_reducible conv => whnf); repeat (first | (rw [natD_len]; with_reducible conv => whnf) | (rw [intD_len]; with_reducible conv => whnf) | (refine Exists.intro _ (And.intro (rfl : _ = some _) ?_); with_reducible conv => whnf) | (refine And.intro (okII _ _) ?_; rw [eqD_ii]; with_reducible conv => whnf) | (refine And.intro (by first | assumption | exact Exists.intro _ (by assumption) | exact ⟨rfl, rfl, by decide, by decide⟩ | exact Nat.le_of_ble_eq_true rfl | exact rfl) ?_; with_reducible conv => whnf) | (rw [isLst_at (by assumption)]; with_reducible conv => whnf) | (refine ifT rfl ?_; with_reducible conv => whnf) | (refine ifF rfl ?_; with_reducible conv => whnf) | (refine it_at (by assumption) ?_; with_reducible conv => whnf)))
      refine ite_d (fun hc2 => ?_) fun hc2 => ?_
      · obtain ⟨k, rfl⟩ : ∃ m : Nat, k = m := ⟨k.toNat, by omega⟩
        have hkN : k ≤ N := by omega
        ((with_reducible conv => whnf); repeat (first | (rw [natD_len]; with_reducible conv => whnf) | (rw [intD_len]; with_reducible conv => whnf) | (refine Exists.intro _ (And.intro (rfl : _ = some _) ?_); with_reducible conv => whnf) | (refine And.intro (okII _ _) ?_; rw [eqD_ii]; with_reducible conv => whnf) | (refine And.intro (by first | assumption | exact Exists.intro _ (by assumption) | exact ⟨rfl, rfl, by decide, by decide⟩ | exact Nat.le_of_ble_eq_true rfl | exact rfl) ?_; with_reducible conv => whnf) | (rw [isLst_at (by assumption)]; with_reducible conv => whnf) | (refine ifT rfl ?_; with_reducible conv => whnf) | (refine ifF rfl ?_; with_reducible conv => whnf) | (refine it_at (by assumption) ?_; with_reducible conv => whnf)))
        refine ⟨N, k, rfl, by omega, by omega, by omega, fun S20 s20 => ?_⟩
        have f1 := s20 _ _ f1
        have f2 := s20 _ _ f2
        have f3 := f3.sub s20
        rw [waysZ_yes hkN]
        ((with_reducible conv => whnf); repeat (first | (rw [natD_len]; with_reducible conv => whnf) | (rw [intD_len]; with_reducible conv => whnf) | (refine Exists.intro _ (And.intro (rfl : _ = some _) ?_); with_reducible conv => whnf) | (refine And.intro (okII _ _) ?_; rw [eqD_ii]; with_reducible conv => whnf) | (refine And.intro (by first | assumption | exact Exists.intro _ (by assumption) | exact ⟨rfl, rfl, by decide, by decide⟩ | exact Nat.le_of_ble_eq_true rfl | exact rfl) ?_; with_reducible conv => whnf) | (rw [isLst_at (by assumption)]; with_reducible conv => whnf) | (refine ifT rfl ?_; with_reducible conv => whnf) | (refine ifF rfl ?_; with_reducible conv => whnf) | (refine it_at (by assumption) ?_; with_reducible conv => whnf)))
        refine ⟨.int (der (N - k)), ?_, ?_⟩
        · rw [show (N : Int) - k = ((N - k : Nat) : Int) by omega]
          exact wrong_get (by omega)
        ((with_reducible conv => whnf); repeat (first | (rw [natD_len]; with_reducible conv => whnf) | (rw [intD_len]; with_reducible conv => whnf) | (refine Exists.intro _ (And.intro (rfl : _ = some _) ?_); with_reducible conv => whnf) | (refine And.intro (okII _ _) ?_; rw [eqD_ii]; with_reducible conv => whnf) | (refine And.intro (by first | assumption | exact Exists.intro _ (by assumption) | exact ⟨rfl, rfl, by decide, by decide⟩ | exact Nat.le_of_ble_eq_true rfl | exact rfl) ?_; with_reducible conv => whnf) | (rw [isLst_at (by assumption)]; with_reducible conv => whnf) | (refine ifT rfl ?_; with_reducible conv => whnf) | (refine ifF rfl ?_; with_reducible conv => whnf) | (refine it_at (by assumption) ?_; with_reducible conv => whnf)))
        refine ⟨smallMul' ?_, ?_⟩
        · rw [Int.natAbs_natCast]
          exact Nat.lt_of_le_of_lt (chs_le N k) (Nat.pow_lt_pow_right (by decide) (by omega))
        ((with_reducible conv => whnf); repeat (first | (rw [natD_len]; with_reducible conv => whnf) | (rw [intD_len]; with_reducible conv => whnf) | (refine Exists.intro _ (And.intro (rfl : _ = some _) ?_); with_reducible conv => whnf) | (refine And.intro (okII _ _) ?_; rw [eqD_ii]; with_reducible conv => whnf) | (refine And.intro (by first | assumption | exact Exists.intro _ (by assumption) | exact ⟨rfl, rfl, by decide, by decide⟩ | exact Nat.le_of_ble_eq_true rfl | exact rfl) ?_; with_reducible conv => whnf) | (rw [isLst_at (by assumption)]; with_reducible conv => whnf) | (refine ifT rfl ?_; with_reducible conv => whnf) | (refine ifF rfl ?_; with_reducible conv => whnf) | (refine it_at (by assumption) ?_; with_reducible conv => whnf)))
        refine ⟨N, k, rfl, by omega, fun S21 s21 => ?_⟩
        have f1 := s21 _ _ f1
        have f2 := s21 _ _ f2
        have f3 := f3.sub s21
        rw [justZ_yes hkN]
        ((with_reducible conv => whnf); repeat (first | (rw [natD_len]; with_reducible conv => whnf) | (rw [intD_len]; with_reducible conv => whnf) | (refine Exists.intro _ (And.intro (rfl : _ = some _) ?_); with_reducible conv => whnf) | (refine And.intro (okII _ _) ?_; rw [eqD_ii]; with_reducible conv => whnf) | (refine And.intro (by first | assumption | exact Exists.intro _ (by assumption) | exact ⟨rfl, rfl, by decide, by decide⟩ | exact Nat.le_of_ble_eq_true rfl | exact rfl) ?_; with_reducible conv => whnf) | (rw [isLst_at (by assumption)]; with_reducible conv => whnf) | (refine ifT rfl ?_; with_reducible conv => whnf) | (refine ifF rfl ?_; with_reducible conv => whnf) | (refine it_at (by assumption) ?_; with_reducible conv => whnf)))
        refine ⟨_, rfl, rfl, rfl, Nat.zero_le _, fun S22 s22 => ?_⟩
        ((with_reducible conv => whnf); repeat (first | (rw [natD_len]; with_reducible conv => whnf) | (rw [intD_len]; with_reducible conv => whnf) | (refine Exists.intro _ (And.intro (rfl : _ = some _) ?_); with_reducible conv => whnf) | (refine And.intro (okII _ _) ?_; rw [eqD_ii]; with_reducible conv => whnf) | (refine And.intro (by first | assumption | exact Exists.intro _ (by assumption) | exact ⟨rfl, rfl, by decide, by decide⟩ | exact Nat.le_of_ble_eq_true rfl | exact rfl) ?_; with_reducible conv => whnf) | (rw [isLst_at (by assumption)]; with_reducible conv => whnf) | (refine ifT rfl ?_; with_reducible conv => whnf) | (refine ifF rfl ?_; with_reducible conv => whnf) | (refine it_at (by assumption) ?_; with_reducible conv => whnf)))
        exact fin _ S22 (s22 _ _ f1) (s22 _ _ f2) (f3.sub s22)
      · ((with_reducible conv => whnf); repeat (first | (rw [natD_len]; with_reducible conv => whnf) | (rw [intD_len]; with_reducible conv => whnf) | (refine Exists.intro _ (And.intro (rfl : _ = some _) ?_); with_reducible conv => whnf) | (refine And.intro (okII _ _) ?_; rw [eqD_ii]; with_reducible conv => whnf) | (refine And.intro (by first | assumption | exact Exists.intro _ (by assumption) | exact ⟨rfl, rfl, by decide, by decide⟩ | exact Nat.le_of_ble_eq_true rfl | exact rfl) ?_; with_reducible conv => whnf) | (rw [isLst_at (by assumption)]; with_reducible conv => whnf) | (refine ifT rfl ?_; with_reducible conv => whnf) | (refine ifF rfl ?_; with_reducible conv => whnf) | (refine it_at (by assumption) ?_; with_reducible conv => whnf)))
        refine ⟨N, k, rfl, by omega, fun S21 s21 => ?_⟩
        rw [justZ_no (by omega)]
        ((with_reducible conv => whnf); repeat (first | (rw [natD_len]; with_reducible conv => whnf) | (rw [intD_len]; with_reducible conv => whnf) | (refine Exists.intro _ (And.intro (rfl : _ = some _) ?_); with_reducible conv => whnf) | (refine And.intro (okII _ _) ?_; rw [eqD_ii]; with_reducible conv => whnf) | (refine And.intro (by first | assumption | exact Exists.intro _ (by assumption) | exact ⟨rfl, rfl, by decide, by decide⟩ | exact Nat.le_of_ble_eq_true rfl | exact rfl) ?_; with_reducible conv => whnf) | (rw [isLst_at (by assumption)]; with_reducible conv => whnf) | (refine ifT rfl ?_; with_reducible conv => whnf) | (refine ifF rfl ?_; with_reducible conv => whnf) | (refine it_at (by assumption) ?_; with_reducible conv => whnf)))
        refine ⟨_, rfl, rfl, rfl, Nat.zero_le _, fun S22 s22 => ?_⟩
        have ss := s21.trans s22
        ((with_reducible conv => whnf); repeat (first | (rw [natD_len]; with_reducible conv => whnf) | (rw [intD_len]; with_reducible conv => whnf) | (refine Exists.intro _ (And.intro (rfl : _ = some _) ?_); with_reducible conv => whnf) | (refine And.intro (okII _ _) ?_; rw [eqD_ii]; with_reducible conv => whnf) | (refine And.intro (by first | assumption | exact Exists.intro _ (by assumption) | exact ⟨rfl, rfl, by decide, by decide⟩ | exact Nat.le_of_ble_eq_true rfl | exact rfl) ?_; with_reducible conv => whnf) | (rw [isLst_at (by assumption)]; with_reducible conv => whnf) | (refine ifT rfl ?_; with_reducible conv => whnf) | (refine ifF rfl ?_; with_reducible conv => whnf) | (refine it_at (by assumption) ?_; with_reducible conv => whnf)))
        exact fin _ S22 (ss _ _ f1) (ss _ _ f2) (f3.sub ss)
    · ((with_reducible conv => whnf); repeat (first | (rw [natD_len]; with_reducible conv => whnf) | (rw [intD_len]; with_reducible conv => whnf) | (refine Exists.intro _ (And.intro (rfl : _ = some _) ?_); with_reducible conv => whnf) | (refine And.intro (okII _ _) ?_; rw [eqD_ii]; with_reducible conv => whnf) | (refine And.intro (by first | assumption | exact Exists.intro _ (by assumption) | exact ⟨rfl, rfl, by decide, by decide⟩ | exact Nat.le_of_ble_eq_true rfl | exact rfl) ?_; with_reducible conv => whnf) | (rw [isLst_at (by assumption)]; with_reducible conv => whnf) | (refine ifT rfl ?_; with_reducible conv => whnf) | (refine ifF rfl ?_; with_reducible conv => whnf) | (refine it_at (by assumption) ?_; with_reducible conv => whnf)))
      refine ⟨N, k, rfl, by omega, fun S21 s21 => ?_⟩
      rw [justZ_no (by omega)]
      ((with_reducible conv => whnf); repeat (first | (rw [natD_len]; with_reducible conv => whnf) | (rw [intD_len]; with_reducible conv => whnf) | (refine Exists.intro _ (And.intro (rfl : _ = some _) ?_); with_reducible conv => whnf) | (refine And.intro (okII _ _) ?_; rw [eqD_ii]; with_reducible conv => whnf) | (refine And.intro (by first | assumption | exact Exists.intro _ (by assumption) | exact ⟨rfl, rfl, by decide, by decide⟩ | exact Nat.le_of_ble_eq_true rfl | exact rfl) ?_; with_reducible conv => whnf) | (rw [isLst_at (by assumption)]; with_reducible conv => whnf) | (refine ifT rfl ?_; with_reducible conv => whnf) | (refine ifF rfl ?_; with_reducible conv => whnf) | (refine it_at (by assumption) ?_; with_reducible conv => whnf)))
      refine ⟨_, rfl, rfl, rfl, Nat.zero_le _, fun S22 s22 => ?_⟩
      have ss := s21.trans s22
      ((with_reducible conv => whnf); repeat (first | (rw [natD_len]; with_reducible conv => whnf) | (rw [intD_len]; with_reducible conv => whnf) | (refine Exists.intro _ (And.intro (rfl : _ = some _) ?_); with_reducible conv => whnf) | (refine And.intro (okII _ _) ?_; rw [eqD_ii]; with_reducible conv => whnf) | (refine And.intro (by first | assumption | exact Exists.intro _ (by assumption) | exact ⟨rfl, rfl, by decide, by decide⟩ | exact Nat.le_of_ble_eq_true rfl | exact rfl) ?_; with_reducible conv => whnf) | (rw [isLst_at (by assumption)]; with_reducible conv => whnf) | (refine ifT rfl ?_; with_reducible conv => whnf) | (refine ifF rfl ?_; with_reducible conv => whnf) | (refine it_at (by assumption) ?_; with_reducible conv => whnf)))
      exact fin _ S22 (ss _ _ f1) (ss _ _ f2) (f3.sub ss)
  rintro ρ' S20 ⟨o7, o8, rfl, -, ew, d20⟩
  clear ep
  ((with_reducible conv => whnf); repeat (first | (rw [natD_len]; with_reducible conv => whnf) | (rw [intD_len]; with_reducible conv => whnf) | (refine Exists.intro _ (And.intro (rfl : _ = some _) ?_); with_reducible conv => whnf) | (refine And.intro (okII _ _) ?_; rw [eqD_ii]; with_reducible conv => whnf) | (refine And.intro (by first | assumption | exact Exists.intro _ (by assumption) | exact ⟨rfl, rfl, by decide, by decide⟩ | exact Nat.le_of_ble_eq_true rfl | exact rfl) ?_; with_reducible conv => whnf) | (rw [isLst_at (by assumption)]; with_reducible conv => whnf) | (refine ifT rfl ?_; with_reducible conv => whnf) | (refine ifF rfl ?_; with_reducible conv => whnf) | (refine it_at (by assumption) ?_; with_reducible conv => whnf)))
  refine ⟨⟨by omega, by omega⟩, ?_⟩
  rw [show (N : Int) + 1 = ((N + 1 : Nat) : Int) by omega]
  refine Lc_rm (fun k => .int (((chs N k : Nat) : Int) * der (N - k))) (by unfold szL; omega) (by intros; trivial) (fun k S' R hk h hR => ?_) fun S21 s21 => ?_
  · ((with_reducible conv => whnf); repeat (first | (rw [natD_len]; with_reducible conv => whnf) | (rw [intD_len]; with_reducible conv => whnf) | (refine Exists.intro _ (And.intro (rfl : _ = some _) ?_); with_reducible conv => whnf) | (refine And.intro (okII _ _) ?_; rw [eqD_ii]; with_reducible conv => whnf) | (refine And.intro (by first | assumption | exact Exists.intro _ (by assumption) | exact ⟨rfl, rfl, by decide, by decide⟩ | exact Nat.le_of_ble_eq_true rfl | exact rfl) ?_; with_reducible conv => whnf) | (rw [isLst_at (by assumption)]; with_reducible conv => whnf) | (refine ifT rfl ?_; with_reducible conv => whnf) | (refine ifF rfl ?_; with_reducible conv => whnf) | (refine it_at (by assumption) ?_; with_reducible conv => whnf)))
    refine ⟨N, k, rfl, by omega, by omega, by omega, fun S22 s22 => ?_⟩
    have ew := s22 _ _ (h _ _ ew)
    rw [waysZ_yes (by omega)]
    ((with_reducible conv => whnf); repeat (first | (rw [natD_len]; with_reducible conv => whnf) | (rw [intD_len]; with_reducible conv => whnf) | (refine Exists.intro _ (And.intro (rfl : _ = some _) ?_); with_reducible conv => whnf) | (refine And.intro (okII _ _) ?_; rw [eqD_ii]; with_reducible conv => whnf) | (refine And.intro (by first | assumption | exact Exists.intro _ (by assumption) | exact ⟨rfl, rfl, by decide, by decide⟩ | exact Nat.le_of_ble_eq_true rfl | exact rfl) ?_; with_reducible conv => whnf) | (rw [isLst_at (by assumption)]; with_reducible conv => whnf) | (refine ifT rfl ?_; with_reducible conv => whnf) | (refine ifF rfl ?_; with_reducible conv => whnf) | (refine it_at (by assumption) ?_; with_reducible conv => whnf)))
    refine ⟨.int (der (N - k)), ?_, ?_⟩
    · rw [show (N : Int) - k = ((N - k : Nat) : Int) by omega]
      exact wrong_get (by omega)
    ((with_reducible conv => whnf); repeat (first | (rw [natD_len]; with_reducible conv => whnf) | (rw [intD_len]; with_reducible conv => whnf) | (refine Exists.intro _ (And.intro (rfl : _ = some _) ?_); with_reducible conv => whnf) | (refine And.intro (okII _ _) ?_; rw [eqD_ii]; with_reducible conv => whnf) | (refine And.intro (by first | assumption | exact Exists.intro _ (by assumption) | exact ⟨rfl, rfl, by decide, by decide⟩ | exact Nat.le_of_ble_eq_true rfl | exact rfl) ?_; with_reducible conv => whnf) | (rw [isLst_at (by assumption)]; with_reducible conv => whnf) | (refine ifT rfl ?_; with_reducible conv => whnf) | (refine ifF rfl ?_; with_reducible conv => whnf) | (refine it_at (by assumption) ?_; with_reducible conv => whnf)))
    refine ⟨smallMul' ?_, hR S22 s22⟩
    rw [Int.natAbs_natCast]
    exact Nat.lt_of_le_of_lt (chs_le N k) (Nat.pow_lt_pow_right (by decide) (by omega))
  have em : (List.range (N + 1)).map (fun k => D.int (((chs N k : Nat) : Int) * der (N - k))) = intD ((List.range (N + 1)).map fun k => ((chs N k : Nat) : Int) * der (N - k)) := by simp [intD]
  rw [em]
  have hEs := each_sum N
  have hEl : ((List.range (N + 1)).map fun k => ((chs N k : Nat) : Int) * der (N - k)).length = N + 1 := by rw [List.length_map, List.length_range]
  generalize hE : ((List.range (N + 1)).map fun k => ((chs N k : Nat) : Int) * der (N - k)) = E at *
  have e21 := at_push S21 (.lst (intD E))
  have ew := push_at (s21 _ _ ew) [.lst (intD E)]
  have d21 := (d20.sub s21).app [.lst (intD E)]
  ((with_reducible conv => whnf); repeat (first | (rw [natD_len]; with_reducible conv => whnf) | (rw [intD_len]; with_reducible conv => whnf) | (refine Exists.intro _ (And.intro (rfl : _ = some _) ?_); with_reducible conv => whnf) | (refine And.intro (okII _ _) ?_; rw [eqD_ii]; with_reducible conv => whnf) | (refine And.intro (by first | assumption | exact Exists.intro _ (by assumption) | exact ⟨rfl, rfl, by decide, by decide⟩ | exact Nat.le_of_ble_eq_true rfl | exact rfl) ?_; with_reducible conv => whnf) | (rw [isLst_at (by assumption)]; with_reducible conv => whnf) | (refine ifT rfl ?_; with_reducible conv => whnf) | (refine ifF rfl ?_; with_reducible conv => whnf) | (refine it_at (by assumption) ?_; with_reducible conv => whnf)))
  generalize S21 ++ [.lst (intD E)] = S22 at *
  refine ⟨N, rfl, by omega, fun S23 s23 => ?_⟩
  ((with_reducible conv => whnf); repeat (first | (rw [natD_len]; with_reducible conv => whnf) | (rw [intD_len]; with_reducible conv => whnf) | (refine Exists.intro _ (And.intro (rfl : _ = some _) ?_); with_reducible conv => whnf) | (refine And.intro (okII _ _) ?_; rw [eqD_ii]; with_reducible conv => whnf) | (refine And.intro (by first | assumption | exact Exists.intro _ (by assumption) | exact ⟨rfl, rfl, by decide, by decide⟩ | exact Nat.le_of_ble_eq_true rfl | exact rfl) ?_; with_reducible conv => whnf) | (rw [isLst_at (by assumption)]; with_reducible conv => whnf) | (refine ifT rfl ?_; with_reducible conv => whnf) | (refine ifF rfl ?_; with_reducible conv => whnf) | (refine it_at (by assumption) ?_; with_reducible conv => whnf)))
  refine ifF (by simp [hEs]) ?_
  ((with_reducible conv => whnf); repeat (first | (rw [natD_len]; with_reducible conv => whnf) | (rw [intD_len]; with_reducible conv => whnf) | (refine Exists.intro _ (And.intro (rfl : _ = some _) ?_); with_reducible conv => whnf) | (refine And.intro (okII _ _) ?_; rw [eqD_ii]; with_reducible conv => whnf) | (refine And.intro (by first | assumption | exact Exists.intro _ (by assumption) | exact ⟨rfl, rfl, by decide, by decide⟩ | exact Nat.le_of_ble_eq_true rfl | exact rfl) ?_; with_reducible conv => whnf) | (rw [isLst_at (by assumption)]; with_reducible conv => whnf) | (refine ifT rfl ?_; with_reducible conv => whnf) | (refine ifF rfl ?_; with_reducible conv => whnf) | (refine it_at (by assumption) ?_; with_reducible conv => whnf)))
  refine ⟨⟨by omega, by omega⟩, ?_⟩
  rw [show (N : Int) + 1 = ((N + 1 : Nat) : Int) by omega]
  refine Lc_rm (fun k => .int (((chs N k : Nat) : Int) * der (N - k))) (by unfold szL; omega) (by intros; trivial) (fun k S' R hk h hR => ?_) fun S24 s24 => ?_
  · ((with_reducible conv => whnf); repeat (first | (rw [natD_len]; with_reducible conv => whnf) | (rw [intD_len]; with_reducible conv => whnf) | (refine Exists.intro _ (And.intro (rfl : _ = some _) ?_); with_reducible conv => whnf) | (refine And.intro (okII _ _) ?_; rw [eqD_ii]; with_reducible conv => whnf) | (refine And.intro (by first | assumption | exact Exists.intro _ (by assumption) | exact ⟨rfl, rfl, by decide, by decide⟩ | exact Nat.le_of_ble_eq_true rfl | exact rfl) ?_; with_reducible conv => whnf) | (rw [isLst_at (by assumption)]; with_reducible conv => whnf) | (refine ifT rfl ?_; with_reducible conv => whnf) | (refine ifF rfl ?_; with_reducible conv => whnf) | (refine it_at (by assumption) ?_; with_reducible conv => whnf)))
    refine ⟨N, k, rfl, by omega, fun S22 s22 => ?_⟩
    rw [justZ_yes (by omega)]
    exact hR S22 s22
  rw [em]
  have e24 := at_push S24 (.lst (intD E))
  have d24 := (d21.sub (s23.trans s24)).app [.lst (intD E)]
  ((with_reducible conv => whnf); repeat (first | (rw [natD_len]; with_reducible conv => whnf) | (rw [intD_len]; with_reducible conv => whnf) | (refine Exists.intro _ (And.intro (rfl : _ = some _) ?_); with_reducible conv => whnf) | (refine And.intro (okII _ _) ?_; rw [eqD_ii]; with_reducible conv => whnf) | (refine And.intro (by first | assumption | exact Exists.intro _ (by assumption) | exact ⟨rfl, rfl, by decide, by decide⟩ | exact Nat.le_of_ble_eq_true rfl | exact rfl) ?_; with_reducible conv => whnf) | (rw [isLst_at (by assumption)]; with_reducible conv => whnf) | (refine ifT rfl ?_; with_reducible conv => whnf) | (refine ifF rfl ?_; with_reducible conv => whnf) | (refine it_at (by assumption) ?_; with_reducible conv => whnf)))
  obtain ⟨w1, w2, w3⟩ := same_tup E (by omega)
  refine ⟨_, rfl, w1, w2, w3, fun S25 s25 => ?_⟩
  have d25 := d24.sub s25
  exact law_B ho100 ho hi kk d25
end K96
set_option Elab.async false
set_option linter.all false
set_option maxRecDepth 100000
set_option maxHeartbeats 8000000
/-! the end: oddsweighed_k96_whole_letters_in_envelop -/
namespace K96
open PySem PySem.Spec DL
theorem all_mk {l : PySem.W.OpenLaw} {w : World} {K : PySem.W.Frag} {h : Heap} {mg : Str → Option Value} {fa f_divisor f_fraction f_all_wrong f_ways f_just_right f_rings_of f_orders_of f_count_by_rings f_chance_of_ring f_longest_at_most f_mean_right f_law_draws f_law_take f_law_same f_law_shared f_law_frac f_law_plus f_law_mul f_law_ways f_law_all_orders f_law_rings f_law_orders f_law_wrong f_law_by_rings f_law_short f_law_few f_law_order f_law : Addr} (X : K.In h) (G : h.Ns mainGlobals mg) (hfa : mg "law" = some (.ref fa))
    {od_divisor an_divisor : Option Addr} {sl_divisor : Array (Option Value)} {oc_divisor kV_divisor dc_divisor pm_divisor cd_divisor ct_divisor : Value}
    (a_divisor : PySem.W.nsIn K mainGlobals "divisor" = some (some (.ref f_divisor))) (l_divisor : K.lookup f_divisor = some ⟨oc_divisor, od_divisor, .func (PySem.W.fnOf "divisor" "divisor" (L2.defArgs s_divisor) (L2.defBody s_divisor) (L2.defScope s_divisor) .none kV_divisor dc_divisor pm_divisor an_divisor cd_divisor ct_divisor), sl_divisor⟩) (c_divisor : PySem.W.codeIn K cd_divisor "divisor" = true) (k_divisor : PySem.W.keepIn K (.ref f_divisor) = true)
    {od_fraction an_fraction : Option Addr} {sl_fraction : Array (Option Value)} {oc_fraction kV_fraction dc_fraction pm_fraction cd_fraction ct_fraction : Value}
    (a_fraction : PySem.W.nsIn K mainGlobals "fraction" = some (some (.ref f_fraction))) (l_fraction : K.lookup f_fraction = some ⟨oc_fraction, od_fraction, .func (PySem.W.fnOf "fraction" "fraction" (L2.defArgs s_fraction) (L2.defBody s_fraction) (L2.defScope s_fraction) .none kV_fraction dc_fraction pm_fraction an_fraction cd_fraction ct_fraction), sl_fraction⟩) (c_fraction : PySem.W.codeIn K cd_fraction "fraction" = true) (k_fraction : PySem.W.keepIn K (.ref f_fraction) = true)
    {od_all_wrong an_all_wrong : Option Addr} {sl_all_wrong : Array (Option Value)} {oc_all_wrong kV_all_wrong dc_all_wrong pm_all_wrong cd_all_wrong ct_all_wrong : Value}
    (a_all_wrong : PySem.W.nsIn K mainGlobals "all_wrong" = some (some (.ref f_all_wrong))) (l_all_wrong : K.lookup f_all_wrong = some ⟨oc_all_wrong, od_all_wrong, .func (PySem.W.fnOf "all_wrong" "all_wrong" (L2.defArgs s_all_wrong) (L2.defBody s_all_wrong) (L2.defScope s_all_wrong) .none kV_all_wrong dc_all_wrong pm_all_wrong an_all_wrong cd_all_wrong ct_all_wrong), sl_all_wrong⟩) (c_all_wrong : PySem.W.codeIn K cd_all_wrong "all_wrong" = true) (k_all_wrong : PySem.W.keepIn K (.ref f_all_wrong) = true)
    {od_ways an_ways : Option Addr} {sl_ways : Array (Option Value)} {oc_ways kV_ways dc_ways pm_ways cd_ways ct_ways : Value}
    (a_ways : PySem.W.nsIn K mainGlobals "ways" = some (some (.ref f_ways))) (l_ways : K.lookup f_ways = some ⟨oc_ways, od_ways, .func (PySem.W.fnOf "ways" "ways" (L2.defArgs s_ways) (L2.defBody s_ways) (L2.defScope s_ways) .none kV_ways dc_ways pm_ways an_ways cd_ways ct_ways), sl_ways⟩) (c_ways : PySem.W.codeIn K cd_ways "ways" = true) (k_ways : PySem.W.keepIn K (.ref f_ways) = true)
    {od_just_right an_just_right : Option Addr} {sl_just_right : Array (Option Value)} {oc_just_right kV_just_right dc_just_right pm_just_right cd_just_right ct_just_right : Value}
    (a_just_right : PySem.W.nsIn K mainGlobals "just_right" = some (some (.ref f_just_right))) (l_just_right : K.lookup f_just_right = some ⟨oc_just_right, od_just_right, .func (PySem.W.fnOf "just_right" "just_right" (L2.defArgs s_just_right) (L2.defBody s_just_right) (L2.defScope s_just_right) .none kV_just_right dc_just_right pm_just_right an_just_right cd_just_right ct_just_right), sl_just_right⟩) (c_just_right : PySem.W.codeIn K cd_just_right "just_right" = true) (k_just_right : PySem.W.keepIn K (.ref f_just_right) = true)
    {od_rings_of an_rings_of : Option Addr} {sl_rings_of : Array (Option Value)} {oc_rings_of kV_rings_of dc_rings_of pm_rings_of cd_rings_of ct_rings_of : Value}
    (a_rings_of : PySem.W.nsIn K mainGlobals "rings_of" = some (some (.ref f_rings_of))) (l_rings_of : K.lookup f_rings_of = some ⟨oc_rings_of, od_rings_of, .func (PySem.W.fnOf "rings_of" "rings_of" (L2.defArgs s_rings_of) (L2.defBody s_rings_of) (L2.defScope s_rings_of) .none kV_rings_of dc_rings_of pm_rings_of an_rings_of cd_rings_of ct_rings_of), sl_rings_of⟩) (c_rings_of : PySem.W.codeIn K cd_rings_of "rings_of" = true) (k_rings_of : PySem.W.keepIn K (.ref f_rings_of) = true)
    {od_orders_of an_orders_of : Option Addr} {sl_orders_of : Array (Option Value)} {oc_orders_of kV_orders_of dc_orders_of pm_orders_of cd_orders_of ct_orders_of : Value}
    (a_orders_of : PySem.W.nsIn K mainGlobals "orders_of" = some (some (.ref f_orders_of))) (l_orders_of : K.lookup f_orders_of = some ⟨oc_orders_of, od_orders_of, .func (PySem.W.fnOf "orders_of" "orders_of" (L2.defArgs s_orders_of) (L2.defBody s_orders_of) (L2.defScope s_orders_of) .none kV_orders_of dc_orders_of pm_orders_of an_orders_of cd_orders_of ct_orders_of), sl_orders_of⟩) (c_orders_of : PySem.W.codeIn K cd_orders_of "orders_of" = true) (k_orders_of : PySem.W.keepIn K (.ref f_orders_of) = true)
    {od_count_by_rings an_count_by_rings : Option Addr} {sl_count_by_rings : Array (Option Value)} {oc_count_by_rings kV_count_by_rings dc_count_by_rings pm_count_by_rings cd_count_by_rings ct_count_by_rings : Value}
    (a_count_by_rings : PySem.W.nsIn K mainGlobals "count_by_rings" = some (some (.ref f_count_by_rings))) (l_count_by_rings : K.lookup f_count_by_rings = some ⟨oc_count_by_rings, od_count_by_rings, .func (PySem.W.fnOf "count_by_rings" "count_by_rings" (L2.defArgs s_count_by_rings) (L2.defBody s_count_by_rings) (L2.defScope s_count_by_rings) .none kV_count_by_rings dc_count_by_rings pm_count_by_rings an_count_by_rings cd_count_by_rings ct_count_by_rings), sl_count_by_rings⟩) (c_count_by_rings : PySem.W.codeIn K cd_count_by_rings "count_by_rings" = true) (k_count_by_rings : PySem.W.keepIn K (.ref f_count_by_rings) = true)
    {od_chance_of_ring an_chance_of_ring : Option Addr} {sl_chance_of_ring : Array (Option Value)} {oc_chance_of_ring kV_chance_of_ring dc_chance_of_ring pm_chance_of_ring cd_chance_of_ring ct_chance_of_ring : Value}
    (a_chance_of_ring : PySem.W.nsIn K mainGlobals "chance_of_ring" = some (some (.ref f_chance_of_ring))) (l_chance_of_ring : K.lookup f_chance_of_ring = some ⟨oc_chance_of_ring, od_chance_of_ring, .func (PySem.W.fnOf "chance_of_ring" "chance_of_ring" (L2.defArgs s_chance_of_ring) (L2.defBody s_chance_of_ring) (L2.defScope s_chance_of_ring) .none kV_chance_of_ring dc_chance_of_ring pm_chance_of_ring an_chance_of_ring cd_chance_of_ring ct_chance_of_ring), sl_chance_of_ring⟩) (c_chance_of_ring : PySem.W.codeIn K cd_chance_of_ring "chance_of_ring" = true) (k_chance_of_ring : PySem.W.keepIn K (.ref f_chance_of_ring) = true)
    {od_longest_at_most an_longest_at_most : Option Addr} {sl_longest_at_most : Array (Option Value)} {oc_longest_at_most kV_longest_at_most dc_longest_at_most pm_longest_at_most cd_longest_at_most ct_longest_at_most : Value}
    (a_longest_at_most : PySem.W.nsIn K mainGlobals "longest_at_most" = some (some (.ref f_longest_at_most))) (l_longest_at_most : K.lookup f_longest_at_most = some ⟨oc_longest_at_most, od_longest_at_most, .func (PySem.W.fnOf "longest_at_most" "longest_at_most" (L2.defArgs s_longest_at_most) (L2.defBody s_longest_at_most) (L2.defScope s_longest_at_most) .none kV_longest_at_most dc_longest_at_most pm_longest_at_most an_longest_at_most cd_longest_at_most ct_longest_at_most), sl_longest_at_most⟩) (c_longest_at_most : PySem.W.codeIn K cd_longest_at_most "longest_at_most" = true) (k_longest_at_most : PySem.W.keepIn K (.ref f_longest_at_most) = true)
    {od_mean_right an_mean_right : Option Addr} {sl_mean_right : Array (Option Value)} {oc_mean_right kV_mean_right dc_mean_right pm_mean_right cd_mean_right ct_mean_right : Value}
    (a_mean_right : PySem.W.nsIn K mainGlobals "mean_right" = some (some (.ref f_mean_right))) (l_mean_right : K.lookup f_mean_right = some ⟨oc_mean_right, od_mean_right, .func (PySem.W.fnOf "mean_right" "mean_right" (L2.defArgs s_mean_right) (L2.defBody s_mean_right) (L2.defScope s_mean_right) .none kV_mean_right dc_mean_right pm_mean_right an_mean_right cd_mean_right ct_mean_right), sl_mean_right⟩) (c_mean_right : PySem.W.codeIn K cd_mean_right "mean_right" = true) (k_mean_right : PySem.W.keepIn K (.ref f_mean_right) = true)
    {od_law_draws an_law_draws : Option Addr} {sl_law_draws : Array (Option Value)} {oc_law_draws kV_law_draws dc_law_draws pm_law_draws cd_law_draws ct_law_draws : Value}
    (a_law_draws : PySem.W.nsIn K mainGlobals "_law_draws" = some (some (.ref f_law_draws))) (l_law_draws : K.lookup f_law_draws = some ⟨oc_law_draws, od_law_draws, .func (PySem.W.fnOf "_law_draws" "_law_draws" (L2.defArgs s_law_draws) (L2.defBody s_law_draws) (L2.defScope s_law_draws) .none kV_law_draws dc_law_draws pm_law_draws an_law_draws cd_law_draws ct_law_draws), sl_law_draws⟩) (c_law_draws : PySem.W.codeIn K cd_law_draws "_law_draws" = true) (k_law_draws : PySem.W.keepIn K (.ref f_law_draws) = true)
    {od_law_take an_law_take : Option Addr} {sl_law_take : Array (Option Value)} {oc_law_take kV_law_take dc_law_take pm_law_take cd_law_take ct_law_take : Value}
    (a_law_take : PySem.W.nsIn K mainGlobals "_law_take" = some (some (.ref f_law_take))) (l_law_take : K.lookup f_law_take = some ⟨oc_law_take, od_law_take, .func (PySem.W.fnOf "_law_take" "_law_take" (L2.defArgs s_law_take) (L2.defBody s_law_take) (L2.defScope s_law_take) .none kV_law_take dc_law_take pm_law_take an_law_take cd_law_take ct_law_take), sl_law_take⟩) (c_law_take : PySem.W.codeIn K cd_law_take "_law_take" = true) (k_law_take : PySem.W.keepIn K (.ref f_law_take) = true)
    {od_law_same an_law_same : Option Addr} {sl_law_same : Array (Option Value)} {oc_law_same kV_law_same dc_law_same pm_law_same cd_law_same ct_law_same : Value}
    (a_law_same : PySem.W.nsIn K mainGlobals "_law_same" = some (some (.ref f_law_same))) (l_law_same : K.lookup f_law_same = some ⟨oc_law_same, od_law_same, .func (PySem.W.fnOf "_law_same" "_law_same" (L2.defArgs s_law_same) (L2.defBody s_law_same) (L2.defScope s_law_same) .none kV_law_same dc_law_same pm_law_same an_law_same cd_law_same ct_law_same), sl_law_same⟩) (c_law_same : PySem.W.codeIn K cd_law_same "_law_same" = true) (k_law_same : PySem.W.keepIn K (.ref f_law_same) = true)
    {od_law_shared an_law_shared : Option Addr} {sl_law_shared : Array (Option Value)} {oc_law_shared kV_law_shared dc_law_shared pm_law_shared cd_law_shared ct_law_shared : Value}
    (a_law_shared : PySem.W.nsIn K mainGlobals "_law_shared" = some (some (.ref f_law_shared))) (l_law_shared : K.lookup f_law_shared = some ⟨oc_law_shared, od_law_shared, .func (PySem.W.fnOf "_law_shared" "_law_shared" (L2.defArgs s_law_shared) (L2.defBody s_law_shared) (L2.defScope s_law_shared) .none kV_law_shared dc_law_shared pm_law_shared an_law_shared cd_law_shared ct_law_shared), sl_law_shared⟩) (c_law_shared : PySem.W.codeIn K cd_law_shared "_law_shared" = true) (k_law_shared : PySem.W.keepIn K (.ref f_law_shared) = true)
    {od_law_frac an_law_frac : Option Addr} {sl_law_frac : Array (Option Value)} {oc_law_frac kV_law_frac dc_law_frac pm_law_frac cd_law_frac ct_law_frac : Value}
    (a_law_frac : PySem.W.nsIn K mainGlobals "_law_frac" = some (some (.ref f_law_frac))) (l_law_frac : K.lookup f_law_frac = some ⟨oc_law_frac, od_law_frac, .func (PySem.W.fnOf "_law_frac" "_law_frac" (L2.defArgs s_law_frac) (L2.defBody s_law_frac) (L2.defScope s_law_frac) .none kV_law_frac dc_law_frac pm_law_frac an_law_frac cd_law_frac ct_law_frac), sl_law_frac⟩) (c_law_frac : PySem.W.codeIn K cd_law_frac "_law_frac" = true) (k_law_frac : PySem.W.keepIn K (.ref f_law_frac) = true)
    {od_law_plus an_law_plus : Option Addr} {sl_law_plus : Array (Option Value)} {oc_law_plus kV_law_plus dc_law_plus pm_law_plus cd_law_plus ct_law_plus : Value}
    (a_law_plus : PySem.W.nsIn K mainGlobals "_law_plus" = some (some (.ref f_law_plus))) (l_law_plus : K.lookup f_law_plus = some ⟨oc_law_plus, od_law_plus, .func (PySem.W.fnOf "_law_plus" "_law_plus" (L2.defArgs s_law_plus) (L2.defBody s_law_plus) (L2.defScope s_law_plus) .none kV_law_plus dc_law_plus pm_law_plus an_law_plus cd_law_plus ct_law_plus), sl_law_plus⟩) (c_law_plus : PySem.W.codeIn K cd_law_plus "_law_plus" = true) (k_law_plus : PySem.W.keepIn K (.ref f_law_plus) = true)
    {od_law_mul an_law_mul : Option Addr} {sl_law_mul : Array (Option Value)} {oc_law_mul kV_law_mul dc_law_mul pm_law_mul cd_law_mul ct_law_mul : Value}
    (a_law_mul : PySem.W.nsIn K mainGlobals "_law_mul" = some (some (.ref f_law_mul))) (l_law_mul : K.lookup f_law_mul = some ⟨oc_law_mul, od_law_mul, .func (PySem.W.fnOf "_law_mul" "_law_mul" (L2.defArgs s_law_mul) (L2.defBody s_law_mul) (L2.defScope s_law_mul) .none kV_law_mul dc_law_mul pm_law_mul an_law_mul cd_law_mul ct_law_mul), sl_law_mul⟩) (c_law_mul : PySem.W.codeIn K cd_law_mul "_law_mul" = true) (k_law_mul : PySem.W.keepIn K (.ref f_law_mul) = true)
    {od_law_ways an_law_ways : Option Addr} {sl_law_ways : Array (Option Value)} {oc_law_ways kV_law_ways dc_law_ways pm_law_ways cd_law_ways ct_law_ways : Value}
    (a_law_ways : PySem.W.nsIn K mainGlobals "_law_ways" = some (some (.ref f_law_ways))) (l_law_ways : K.lookup f_law_ways = some ⟨oc_law_ways, od_law_ways, .func (PySem.W.fnOf "_law_ways" "_law_ways" (L2.defArgs s_law_ways) (L2.defBody s_law_ways) (L2.defScope s_law_ways) .none kV_law_ways dc_law_ways pm_law_ways an_law_ways cd_law_ways ct_law_ways), sl_law_ways⟩) (c_law_ways : PySem.W.codeIn K cd_law_ways "_law_ways" = true) (k_law_ways : PySem.W.keepIn K (.ref f_law_ways) = true)
    {od_law_all_orders an_law_all_orders : Option Addr} {sl_law_all_orders : Array (Option Value)} {oc_law_all_orders kV_law_all_orders dc_law_all_orders pm_law_all_orders cd_law_all_orders ct_law_all_orders : Value}
    (a_law_all_orders : PySem.W.nsIn K mainGlobals "_law_all_orders" = some (some (.ref f_law_all_orders))) (l_law_all_orders : K.lookup f_law_all_orders = some ⟨oc_law_all_orders, od_law_all_orders, .func (PySem.W.fnOf "_law_all_orders" "_law_all_orders" (L2.defArgs s_law_all_orders) (L2.defBody s_law_all_orders) (L2.defScope s_law_all_orders) .none kV_law_all_orders dc_law_all_orders pm_law_all_orders an_law_all_orders cd_law_all_orders ct_law_all_orders), sl_law_all_orders⟩) (c_law_all_orders : PySem.W.codeIn K cd_law_all_orders "_law_all_orders" = true) (k_law_all_orders : PySem.W.keepIn K (.ref f_law_all_orders) = true)
    {od_law_rings an_law_rings : Option Addr} {sl_law_rings : Array (Option Value)} {oc_law_rings kV_law_rings dc_law_rings pm_law_rings cd_law_rings ct_law_rings : Value}
    (a_law_rings : PySem.W.nsIn K mainGlobals "_law_rings" = some (some (.ref f_law_rings))) (l_law_rings : K.lookup f_law_rings = some ⟨oc_law_rings, od_law_rings, .func (PySem.W.fnOf "_law_rings" "_law_rings" (L2.defArgs s_law_rings) (L2.defBody s_law_rings) (L2.defScope s_law_rings) .none kV_law_rings dc_law_rings pm_law_rings an_law_rings cd_law_rings ct_law_rings), sl_law_rings⟩) (c_law_rings : PySem.W.codeIn K cd_law_rings "_law_rings" = true) (k_law_rings : PySem.W.keepIn K (.ref f_law_rings) = true)
    {od_law_orders an_law_orders : Option Addr} {sl_law_orders : Array (Option Value)} {oc_law_orders kV_law_orders dc_law_orders pm_law_orders cd_law_orders ct_law_orders : Value}
    (a_law_orders : PySem.W.nsIn K mainGlobals "_law_orders" = some (some (.ref f_law_orders))) (l_law_orders : K.lookup f_law_orders = some ⟨oc_law_orders, od_law_orders, .func (PySem.W.fnOf "_law_orders" "_law_orders" (L2.defArgs s_law_orders) (L2.defBody s_law_orders) (L2.defScope s_law_orders) .none kV_law_orders dc_law_orders pm_law_orders an_law_orders cd_law_orders ct_law_orders), sl_law_orders⟩) (c_law_orders : PySem.W.codeIn K cd_law_orders "_law_orders" = true) (k_law_orders : PySem.W.keepIn K (.ref f_law_orders) = true)
    {od_law_wrong an_law_wrong : Option Addr} {sl_law_wrong : Array (Option Value)} {oc_law_wrong kV_law_wrong dc_law_wrong pm_law_wrong cd_law_wrong ct_law_wrong : Value}
    (a_law_wrong : PySem.W.nsIn K mainGlobals "_law_wrong" = some (some (.ref f_law_wrong))) (l_law_wrong : K.lookup f_law_wrong = some ⟨oc_law_wrong, od_law_wrong, .func (PySem.W.fnOf "_law_wrong" "_law_wrong" (L2.defArgs s_law_wrong) (L2.defBody s_law_wrong) (L2.defScope s_law_wrong) .none kV_law_wrong dc_law_wrong pm_law_wrong an_law_wrong cd_law_wrong ct_law_wrong), sl_law_wrong⟩) (c_law_wrong : PySem.W.codeIn K cd_law_wrong "_law_wrong" = true) (k_law_wrong : PySem.W.keepIn K (.ref f_law_wrong) = true)
    {od_law_by_rings an_law_by_rings : Option Addr} {sl_law_by_rings : Array (Option Value)} {oc_law_by_rings kV_law_by_rings dc_law_by_rings pm_law_by_rings cd_law_by_rings ct_law_by_rings : Value}
    (a_law_by_rings : PySem.W.nsIn K mainGlobals "_law_by_rings" = some (some (.ref f_law_by_rings))) (l_law_by_rings : K.lookup f_law_by_rings = some ⟨oc_law_by_rings, od_law_by_rings, .func (PySem.W.fnOf "_law_by_rings" "_law_by_rings" (L2.defArgs s_law_by_rings) (L2.defBody s_law_by_rings) (L2.defScope s_law_by_rings) .none kV_law_by_rings dc_law_by_rings pm_law_by_rings an_law_by_rings cd_law_by_rings ct_law_by_rings), sl_law_by_rings⟩) (c_law_by_rings : PySem.W.codeIn K cd_law_by_rings "_law_by_rings" = true) (k_law_by_rings : PySem.W.keepIn K (.ref f_law_by_rings) = true)
    {od_law_short an_law_short : Option Addr} {sl_law_short : Array (Option Value)} {oc_law_short kV_law_short dc_law_short pm_law_short cd_law_short ct_law_short : Value}
    (a_law_short : PySem.W.nsIn K mainGlobals "_law_short" = some (some (.ref f_law_short))) (l_law_short : K.lookup f_law_short = some ⟨oc_law_short, od_law_short, .func (PySem.W.fnOf "_law_short" "_law_short" (L2.defArgs s_law_short) (L2.defBody s_law_short) (L2.defScope s_law_short) .none kV_law_short dc_law_short pm_law_short an_law_short cd_law_short ct_law_short), sl_law_short⟩) (c_law_short : PySem.W.codeIn K cd_law_short "_law_short" = true) (k_law_short : PySem.W.keepIn K (.ref f_law_short) = true)
    {od_law_few an_law_few : Option Addr} {sl_law_few : Array (Option Value)} {oc_law_few kV_law_few dc_law_few pm_law_few cd_law_few ct_law_few : Value}
    (a_law_few : PySem.W.nsIn K mainGlobals "_law_few" = some (some (.ref f_law_few))) (l_law_few : K.lookup f_law_few = some ⟨oc_law_few, od_law_few, .func (PySem.W.fnOf "_law_few" "_law_few" (L2.defArgs s_law_few) (L2.defBody s_law_few) (L2.defScope s_law_few) .none kV_law_few dc_law_few pm_law_few an_law_few cd_law_few ct_law_few), sl_law_few⟩) (c_law_few : PySem.W.codeIn K cd_law_few "_law_few" = true) (k_law_few : PySem.W.keepIn K (.ref f_law_few) = true)
    {od_law_order an_law_order : Option Addr} {sl_law_order : Array (Option Value)} {oc_law_order kV_law_order dc_law_order pm_law_order cd_law_order ct_law_order : Value}
    (a_law_order : PySem.W.nsIn K mainGlobals "_law_order" = some (some (.ref f_law_order))) (l_law_order : K.lookup f_law_order = some ⟨oc_law_order, od_law_order, .func (PySem.W.fnOf "_law_order" "_law_order" (L2.defArgs s_law_order) (L2.defBody s_law_order) (L2.defScope s_law_order) .none kV_law_order dc_law_order pm_law_order an_law_order cd_law_order ct_law_order), sl_law_order⟩) (c_law_order : PySem.W.codeIn K cd_law_order "_law_order" = true) (k_law_order : PySem.W.keepIn K (.ref f_law_order) = true)
    {od_law an_law : Option Addr} {sl_law : Array (Option Value)} {oc_law kV_law dc_law pm_law cd_law ct_law : Value}
    (a_law : PySem.W.nsIn K mainGlobals "law" = some (some (.ref f_law))) (l_law : K.lookup f_law = some ⟨oc_law, od_law, .func (PySem.W.fnOf "law" "law" (L2.defArgs s_law) (L2.defBody s_law) (L2.defScope s_law) .none kV_law dc_law pm_law an_law cd_law ct_law), sl_law⟩) (c_law : PySem.W.codeIn K cd_law "law" = true) (k_law : PySem.W.keepIn K (.ref f_law) = true)
    (z_gcd : PySem.W.nsIn K mainGlobals "gcd" = some (some (.builtin "math.gcd")))
    (z_range : PySem.W.nsIn K mainGlobals "range" = some none)
    (z_min : PySem.W.nsIn K mainGlobals "min" = some none)
    (z_len : PySem.W.nsIn K mainGlobals "len" = some none)
    (z_tuple : PySem.W.nsIn K mainGlobals "tuple" = some none)
    (z_int : PySem.W.nsIn K mainGlobals "int" = some none)
    (z_list : PySem.W.nsIn K mainGlobals "list" = some none)
    (z_bool : PySem.W.nsIn K mainGlobals "bool" = some none)
    (z_isinstance : PySem.W.nsIn K mainGlobals "isinstance" = some none)
    (z_str : PySem.W.nsIn K mainGlobals "str" = some none)
    (z_abs : PySem.W.nsIn K mainGlobals "abs" = some none)
    (z_sum : PySem.W.nsIn K mainGlobals "sum" = some none)
    (z_max : PySem.W.nsIn K mainGlobals "max" = some none)
    {t_NOTHING : Addr} {od_NOTHING : Option Addr} {its_NOTHING : Array Value} {n_NOTHING : Nat} {sl_NOTHING : Array (Option Value)} (a_NOTHING : PySem.W.nsIn K mainGlobals "NOTHING" = some (some (.ref t_NOTHING))) (l_NOTHING : K.lookup t_NOTHING = some ⟨.type "tuple", od_NOTHING, .seq its_NOTHING n_NOTHING, sl_NOTHING⟩) (w_NOTHING : L2.Vals ([0, 1].map L2.V.int) its_NOTHING.toList) (y_NOTHING : its_NOTHING.size ≤ sizeLine)
    : ∃ fd : FuncData, (∀ (s : Shared) (v : Value), BindsTo s fd ⟨[v], []⟩ [("script", v)]) ∧ ∀ base : Heap, K.In base → base.Ns mainGlobals mg → L2.FnOk l.prog w K mg base L2.CX0 6 fa fd ["script"] (spOf K 1 (sp_law)) := by
  have e := hfa.symm.trans (PySem.W.mg_of X G a_law)
  cases e
  have F_divisor := L2.fun_mk (st := s_divisor) l_divisor c_divisor k_divisor
  have m_divisor : mg "divisor" = some (.ref f_divisor) := PySem.W.mg_of X G a_divisor
  have F_fraction := L2.fun_mk (st := s_fraction) l_fraction c_fraction k_fraction
  have m_fraction : mg "fraction" = some (.ref f_fraction) := PySem.W.mg_of X G a_fraction
  have F_all_wrong := L2.fun_mk (st := s_all_wrong) l_all_wrong c_all_wrong k_all_wrong
  have m_all_wrong : mg "all_wrong" = some (.ref f_all_wrong) := PySem.W.mg_of X G a_all_wrong
  have F_ways := L2.fun_mk (st := s_ways) l_ways c_ways k_ways
  have m_ways : mg "ways" = some (.ref f_ways) := PySem.W.mg_of X G a_ways
  have F_just_right := L2.fun_mk (st := s_just_right) l_just_right c_just_right k_just_right
  have m_just_right : mg "just_right" = some (.ref f_just_right) := PySem.W.mg_of X G a_just_right
  have F_rings_of := L2.fun_mk (st := s_rings_of) l_rings_of c_rings_of k_rings_of
  have m_rings_of : mg "rings_of" = some (.ref f_rings_of) := PySem.W.mg_of X G a_rings_of
  have F_orders_of := L2.fun_mk (st := s_orders_of) l_orders_of c_orders_of k_orders_of
  have m_orders_of : mg "orders_of" = some (.ref f_orders_of) := PySem.W.mg_of X G a_orders_of
  have F_count_by_rings := L2.fun_mk (st := s_count_by_rings) l_count_by_rings c_count_by_rings k_count_by_rings
  have m_count_by_rings : mg "count_by_rings" = some (.ref f_count_by_rings) := PySem.W.mg_of X G a_count_by_rings
  have F_chance_of_ring := L2.fun_mk (st := s_chance_of_ring) l_chance_of_ring c_chance_of_ring k_chance_of_ring
  have m_chance_of_ring : mg "chance_of_ring" = some (.ref f_chance_of_ring) := PySem.W.mg_of X G a_chance_of_ring
  have F_longest_at_most := L2.fun_mk (st := s_longest_at_most) l_longest_at_most c_longest_at_most k_longest_at_most
  have m_longest_at_most : mg "longest_at_most" = some (.ref f_longest_at_most) := PySem.W.mg_of X G a_longest_at_most
  have F_mean_right := L2.fun_mk (st := s_mean_right) l_mean_right c_mean_right k_mean_right
  have m_mean_right : mg "mean_right" = some (.ref f_mean_right) := PySem.W.mg_of X G a_mean_right
  have F_law_draws := L2.fun_mk (st := s_law_draws) l_law_draws c_law_draws k_law_draws
  have m_law_draws : mg "_law_draws" = some (.ref f_law_draws) := PySem.W.mg_of X G a_law_draws
  have F_law_take := L2.fun_mk (st := s_law_take) l_law_take c_law_take k_law_take
  have m_law_take : mg "_law_take" = some (.ref f_law_take) := PySem.W.mg_of X G a_law_take
  have F_law_same := L2.fun_mk (st := s_law_same) l_law_same c_law_same k_law_same
  have m_law_same : mg "_law_same" = some (.ref f_law_same) := PySem.W.mg_of X G a_law_same
  have F_law_shared := L2.fun_mk (st := s_law_shared) l_law_shared c_law_shared k_law_shared
  have m_law_shared : mg "_law_shared" = some (.ref f_law_shared) := PySem.W.mg_of X G a_law_shared
  have F_law_frac := L2.fun_mk (st := s_law_frac) l_law_frac c_law_frac k_law_frac
  have m_law_frac : mg "_law_frac" = some (.ref f_law_frac) := PySem.W.mg_of X G a_law_frac
  have F_law_plus := L2.fun_mk (st := s_law_plus) l_law_plus c_law_plus k_law_plus
  have m_law_plus : mg "_law_plus" = some (.ref f_law_plus) := PySem.W.mg_of X G a_law_plus
  have F_law_mul := L2.fun_mk (st := s_law_mul) l_law_mul c_law_mul k_law_mul
  have m_law_mul : mg "_law_mul" = some (.ref f_law_mul) := PySem.W.mg_of X G a_law_mul
  have F_law_ways := L2.fun_mk (st := s_law_ways) l_law_ways c_law_ways k_law_ways
  have m_law_ways : mg "_law_ways" = some (.ref f_law_ways) := PySem.W.mg_of X G a_law_ways
  have F_law_all_orders := L2.fun_mk (st := s_law_all_orders) l_law_all_orders c_law_all_orders k_law_all_orders
  have m_law_all_orders : mg "_law_all_orders" = some (.ref f_law_all_orders) := PySem.W.mg_of X G a_law_all_orders
  have F_law_rings := L2.fun_mk (st := s_law_rings) l_law_rings c_law_rings k_law_rings
  have m_law_rings : mg "_law_rings" = some (.ref f_law_rings) := PySem.W.mg_of X G a_law_rings
  have F_law_orders := L2.fun_mk (st := s_law_orders) l_law_orders c_law_orders k_law_orders
  have m_law_orders : mg "_law_orders" = some (.ref f_law_orders) := PySem.W.mg_of X G a_law_orders
  have F_law_wrong := L2.fun_mk (st := s_law_wrong) l_law_wrong c_law_wrong k_law_wrong
  have m_law_wrong : mg "_law_wrong" = some (.ref f_law_wrong) := PySem.W.mg_of X G a_law_wrong
  have F_law_by_rings := L2.fun_mk (st := s_law_by_rings) l_law_by_rings c_law_by_rings k_law_by_rings
  have m_law_by_rings : mg "_law_by_rings" = some (.ref f_law_by_rings) := PySem.W.mg_of X G a_law_by_rings
  have F_law_short := L2.fun_mk (st := s_law_short) l_law_short c_law_short k_law_short
  have m_law_short : mg "_law_short" = some (.ref f_law_short) := PySem.W.mg_of X G a_law_short
  have F_law_few := L2.fun_mk (st := s_law_few) l_law_few c_law_few k_law_few
  have m_law_few : mg "_law_few" = some (.ref f_law_few) := PySem.W.mg_of X G a_law_few
  have F_law_order := L2.fun_mk (st := s_law_order) l_law_order c_law_order k_law_order
  have m_law_order : mg "_law_order" = some (.ref f_law_order) := PySem.W.mg_of X G a_law_order
  have F_law := L2.fun_mk (st := s_law) l_law c_law k_law
  have m_law : mg "law" = some (.ref _) := PySem.W.mg_of X G a_law
  have g_NOTHING := PySem.W.mg_of X G a_NOTHING
  have h_NOTHING := rep_ints (ns := [0, 1]) l_NOTHING y_NOTHING w_NOTHING
  have z_gcd := PySem.W.mg_of X G z_gcd
  have z_range := PySem.W.mg_none_of X G z_range
  have z_min := PySem.W.mg_none_of X G z_min
  have z_len := PySem.W.mg_none_of X G z_len
  have z_tuple := PySem.W.mg_none_of X G z_tuple
  have z_int := PySem.W.mg_none_of X G z_int
  have z_list := PySem.W.mg_none_of X G z_list
  have z_bool := PySem.W.mg_none_of X G z_bool
  have z_isinstance := PySem.W.mg_none_of X G z_isinstance
  have z_str := PySem.W.mg_none_of X G z_str
  have z_abs := PySem.W.mg_none_of X G z_abs
  have z_sum := PySem.W.mg_none_of X G z_sum
  have z_max := PySem.W.mg_none_of X G z_max
  refine ⟨PySem.W.fnOf "law" "law" (L2.defArgs s_law) (L2.defBody s_law) (L2.defScope s_law) .none kV_law dc_law pm_law an_law cd_law ct_law, fun s v => .of_eq rfl, fun base _ _ => ?_⟩
  have C_law_draws : Callee l.prog w K mg base "_law_draws" 1 2 (sp_draws) := ok_law_draws (k := 0) F_law_draws m_law_draws z_int z_len z_list z_range  body_law_draws
  have C_law_take : Callee l.prog w K mg base "_law_take" 1 2 (sp_take) := ok_law_take (k := 0) F_law_take m_law_take z_len z_int  body_law_take
  have C_law_all_orders : Callee l.prog w K mg base "_law_all_orders" 1 1 (sp_allO) := ok_law_all_orders (k := 0) F_law_all_orders m_law_all_orders z_range  body_law_all_orders
  have C_law_rings : Callee l.prog w K mg base "_law_rings" 1 1 (sp_rings) := ok_law_rings (k := 0) F_law_rings m_law_rings z_len z_range z_min z_tuple  body_law_rings
  have C_ways : Callee l.prog w K mg base "ways" 1 2 (sp_ways) := ok_ways (k := 0) F_ways m_ways z_min z_range  body_ways
  have C_all_wrong : Callee l.prog w K mg base "all_wrong" 1 1 (sp_wrong) := ok_all_wrong (k := 0) F_all_wrong m_all_wrong z_range  body_all_wrong
  have C_just_right : Callee l.prog w K mg base "just_right" 2 2 (sp_just) := ok_just_right (k := 1) F_just_right m_just_right  C_ways (by decide) C_all_wrong (by decide) body_just_right
  have N_law_same : Callee l.prog w K mg base "_law_same" 0 2 spNo := callee_none F_law_same m_law_same (F_law_same.binds (ps := ["actual", "due"]) fun _ _ _ _ _ _ us hl => match us, hl with | [_, _], _ => rfl) (fun _ _ _ h => h)
  have C_law_same_0 : Callee l.prog w K mg base "_law_same" 1 2 (sp_same 0) := ok_law_same (k := 0) F_law_same m_law_same z_bool z_isinstance z_int z_str z_tuple z_len z_range N_law_same (by decide) (body_law_same _ 0 (by decide) (.inl rfl))
  have C_law_same_1 : Callee l.prog w K mg base "_law_same" 2 2 (sp_same 1) := ok_law_same (k := 1) F_law_same m_law_same z_bool z_isinstance z_int z_str z_tuple z_len z_range C_law_same_0 (by decide) (body_law_same _ 1 (by decide) (.inr ⟨_, rfl, rfl⟩))
  have C_law_same_2 : Callee l.prog w K mg base "_law_same" 3 2 (sp_same 2) := ok_law_same (k := 2) F_law_same m_law_same z_bool z_isinstance z_int z_str z_tuple z_len z_range C_law_same_1 (by decide) (body_law_same _ 2 (by decide) (.inr ⟨_, rfl, rfl⟩))
  have C_law_same : Callee l.prog w K mg base "_law_same" 4 2 (sp_same 3) := ok_law_same (k := 3) F_law_same m_law_same z_bool z_isinstance z_int z_str z_tuple z_len z_range C_law_same_2 (by decide) (body_law_same _ 3 (by decide) (.inr ⟨_, rfl, rfl⟩))
  have C_count_by_rings : Callee l.prog w K mg base "count_by_rings" 1 2 (sp_cnt) := ok_count_by_rings (k := 0) F_count_by_rings m_count_by_rings z_range  body_count_by_rings
  have C_law_shared : Callee l.prog w K mg base "_law_shared" 1 2 (sp_shared) := ok_law_shared (k := 0) F_law_shared m_law_shared z_abs z_range z_int  body_law_shared
  have C_law_frac : Callee l.prog w K mg base "_law_frac" 2 2 (sp_frac) := ok_law_frac (k := 1) F_law_frac m_law_frac  C_law_shared (by decide) body_law_frac
  have C_orders_of : Callee l.prog w K mg base "orders_of" 1 1 (sp_orders) := ok_orders_of (k := 0) F_orders_of m_orders_of z_range  body_orders_of
  have C_divisor : Callee l.prog w K mg base "divisor" 1 2 (sp_gcd) := ok_divisor (k := 0) F_divisor m_divisor z_gcd  body_divisor
  have C_fraction : Callee l.prog w K mg base "fraction" 2 2 (sp_ratio) := ok_fraction (k := 1) F_fraction m_fraction  C_divisor (by decide) body_fraction
  have C_longest_at_most : Callee l.prog w K mg base "longest_at_most" 3 2 (sp_short) := ok_longest_at_most (k := 2) F_longest_at_most m_longest_at_most z_range z_min C_orders_of (by decide) C_fraction (by decide) body_longest_at_most
  have C_chance_of_ring : Callee l.prog w K mg base "chance_of_ring" 1 2 (sp_chan) := ok_chance_of_ring (k := 0) F_chance_of_ring m_chance_of_ring  g_NOTHING (show L2.RelV (.ref t_NOTHING) (.ref t_NOTHING) from rfl) h_NOTHING  body_chance_of_ring
  have C_mean_right : Callee l.prog w K mg base "mean_right" 3 1 (sp_mean) := ok_mean_right (k := 2) F_mean_right m_mean_right  C_fraction (by decide) body_mean_right
  have C_law_few : Callee l.prog w K mg base "_law_few" 5 1 (sp_few) := ok_law_few (k := 4) F_law_few m_law_few z_len z_range z_max z_sum C_law_all_orders (by decide) C_law_rings (by decide) C_just_right (by decide) C_law_same (by decide) C_count_by_rings (by decide) C_all_wrong (by decide) C_law_frac (by decide) C_longest_at_most (by decide) C_chance_of_ring (by decide) C_mean_right (by decide) body_law_few
  have C_law_order : Callee l.prog w K mg base "_law_order" 2 2 (sp_order) := ok_law_order (k := 1) F_law_order m_law_order z_list z_range z_len z_tuple C_law_take (by decide) body_law_order
  have C_rings_of : Callee l.prog w K mg base "rings_of" 1 1 (sp_ringsof) := ok_rings_of (k := 0) F_rings_of m_rings_of z_len z_range z_tuple  body_rings_of
  have C_law_orders : Callee l.prog w K mg base "_law_orders" 1 1 (sp_orders) := ok_law_orders (k := 0) F_law_orders m_law_orders z_range  body_law_orders
  have C_law_ways : Callee l.prog w K mg base "_law_ways" 1 2 (sp_ways) := ok_law_ways (k := 0) F_law_ways m_law_ways z_range  body_law_ways
  have C_law_wrong : Callee l.prog w K mg base "_law_wrong" 2 1 (sp_wrongs) := ok_law_wrong (k := 1) F_law_wrong m_law_wrong z_range z_sum C_law_orders (by decide) C_law_ways (by decide) body_law_wrong
  have C_law_by_rings : Callee l.prog w K mg base "_law_by_rings" 1 1 (sp_rows) := ok_law_by_rings (k := 0) F_law_by_rings m_law_by_rings z_range  body_law_by_rings
  have C_law_plus : Callee l.prog w K mg base "_law_plus" 3 2 (sp_s2 (· + ·)) := ok_law_plus (k := 2) F_law_plus m_law_plus  C_law_frac (by decide) body_law_plus
  have C_law_mul : Callee l.prog w K mg base "_law_mul" 3 2 (sp_s2 (· * ·)) := ok_law_mul (k := 2) F_law_mul m_law_mul  C_law_frac (by decide) body_law_mul
  have C_law_short : Callee l.prog w K mg base "_law_short" 4 2 (sp_short) := ok_law_short (k := 3) F_law_short m_law_short z_range z_min C_law_plus (by decide) C_law_mul (by decide) body_law_short
  exact ok_law (k := 5) F_law m_law z_int z_len z_sum z_range z_tuple C_law_draws (by decide) C_law_take (by decide) C_law_few (by decide) C_law_order (by decide) C_rings_of (by decide) C_law_rings (by decide) C_law_same (by decide) C_law_wrong (by decide) C_all_wrong (by decide) C_law_ways (by decide) C_just_right (by decide) C_law_orders (by decide) C_law_by_rings (by decide) C_count_by_rings (by decide) C_law_short (by decide) C_longest_at_most (by decide) C_chance_of_ring (by decide) C_mean_right (by decide) body_law
end K96
open PySem PySem.W PyProof.Rows in
set_option maxRecDepth 100000 in
set_option maxHeartbeats 0 in
theorem PySem.Challenge.cw_oddsweighed_k96_whole_letters_in_envelop_holds : PySem.Challenge.rw_oddsweighed_k96_whole_letters_in_envelop.Holds := by
  w_on; o_law; k_head; (case hw => w_witness2)
  k_fill
  refine L2.walk_of (l := PySem.Challenge.rw_oddsweighed_k96_whole_letters_in_envelop) (n := 63) (k := 6) (x := "script") (CX := fun _ => L2.CX0) (sp := fun w => DL.spOf _ 1 (K96.sp_law)) rfl (by decide) rfl ⟨rfl, by decide, by decide⟩ (fun w h Y => PySem.W.kIn_of Y) ?F (fun _ _ a ns hl hO hS => DL.law_sp hO hS ⟨ns, rfl, hl, fun _ => rfl⟩) (fun _ _ _ _ _ h => h)
  case F =>
    intro w mg fa h KX G hmg
    refine' K96.all_mk KX G hmg ?a_divisor ?l_divisor ?c_divisor ?k_divisor ?a_fraction ?l_fraction ?c_fraction ?k_fraction ?a_all_wrong ?l_all_wrong ?c_all_wrong ?k_all_wrong ?a_ways ?l_ways ?c_ways ?k_ways ?a_just_right ?l_just_right ?c_just_right ?k_just_right ?a_rings_of ?l_rings_of ?c_rings_of ?k_rings_of ?a_orders_of ?l_orders_of ?c_orders_of ?k_orders_of ?a_count_by_rings ?l_count_by_rings ?c_count_by_rings ?k_count_by_rings ?a_chance_of_ring ?l_chance_of_ring ?c_chance_of_ring ?k_chance_of_ring ?a_longest_at_most ?l_longest_at_most ?c_longest_at_most ?k_longest_at_most ?a_mean_right ?l_mean_right ?c_mean_right ?k_mean_right ?a_law_draws ?l_law_draws ?c_law_draws ?k_law_draws ?a_law_take ?l_law_take ?c_law_take ?k_law_take ?a_law_same ?l_law_same ?c_law_same ?k_law_same ?a_law_shared ?l_law_shared ?c_law_shared ?k_law_shared ?a_law_frac ?l_law_frac ?c_law_frac ?k_law_frac ?a_law_plus ?l_law_plus ?c_law_plus ?k_law_plus ?a_law_mul ?l_law_mul ?c_law_mul ?k_law_mul ?a_law_ways ?l_law_ways ?c_law_ways ?k_law_ways ?a_law_all_orders ?l_law_all_orders ?c_law_all_orders ?k_law_all_orders ?a_law_rings ?l_law_rings ?c_law_rings ?k_law_rings ?a_law_orders ?l_law_orders ?c_law_orders ?k_law_orders ?a_law_wrong ?l_law_wrong ?c_law_wrong ?k_law_wrong ?a_law_by_rings ?l_law_by_rings ?c_law_by_rings ?k_law_by_rings ?a_law_short ?l_law_short ?c_law_short ?k_law_short ?a_law_few ?l_law_few ?c_law_few ?k_law_few ?a_law_order ?l_law_order ?c_law_order ?k_law_order ?a_law ?l_law ?c_law ?k_law ?z_gcd ?z_range ?z_min ?z_len ?z_tuple ?z_int ?z_list ?z_bool ?z_isinstance ?z_str ?z_abs ?z_sum ?z_max ?a_NOTHING ?l_NOTHING ?w_NOTHING ?y_NOTHING
    (case a_divisor => k_is)
    (case l_divisor => k_is)
    (case c_divisor => k_is)
    (case k_divisor => k_is)
    (case a_fraction => k_is)
    (case l_fraction => k_is)
    (case c_fraction => k_is)
    (case k_fraction => k_is)
    (case a_all_wrong => k_is)
    (case l_all_wrong => k_is)
    (case c_all_wrong => k_is)
    (case k_all_wrong => k_is)
    (case a_ways => k_is)
    (case l_ways => k_is)
    (case c_ways => k_is)
    (case k_ways => k_is)
    (case a_just_right => k_is)
    (case l_just_right => k_is)
    (case c_just_right => k_is)
    (case k_just_right => k_is)
    (case a_rings_of => k_is)
    (case l_rings_of => k_is)
    (case c_rings_of => k_is)
    (case k_rings_of => k_is)
    (case a_orders_of => k_is)
    (case l_orders_of => k_is)
    (case c_orders_of => k_is)
    (case k_orders_of => k_is)
    (case a_count_by_rings => k_is)
    (case l_count_by_rings => k_is)
    (case c_count_by_rings => k_is)
    (case k_count_by_rings => k_is)
    (case a_chance_of_ring => k_is)
    (case l_chance_of_ring => k_is)
    (case c_chance_of_ring => k_is)
    (case k_chance_of_ring => k_is)
    (case a_longest_at_most => k_is)
    (case l_longest_at_most => k_is)
    (case c_longest_at_most => k_is)
    (case k_longest_at_most => k_is)
    (case a_mean_right => k_is)
    (case l_mean_right => k_is)
    (case c_mean_right => k_is)
    (case k_mean_right => k_is)
    (case a_law_draws => k_is)
    (case l_law_draws => k_is)
    (case c_law_draws => k_is)
    (case k_law_draws => k_is)
    (case a_law_take => k_is)
    (case l_law_take => k_is)
    (case c_law_take => k_is)
    (case k_law_take => k_is)
    (case a_law_same => k_is)
    (case l_law_same => k_is)
    (case c_law_same => k_is)
    (case k_law_same => k_is)
    (case a_law_shared => k_is)
    (case l_law_shared => k_is)
    (case c_law_shared => k_is)
    (case k_law_shared => k_is)
    (case a_law_frac => k_is)
    (case l_law_frac => k_is)
    (case c_law_frac => k_is)
    (case k_law_frac => k_is)
    (case a_law_plus => k_is)
    (case l_law_plus => k_is)
    (case c_law_plus => k_is)
    (case k_law_plus => k_is)
    (case a_law_mul => k_is)
    (case l_law_mul => k_is)
    (case c_law_mul => k_is)
    (case k_law_mul => k_is)
    (case a_law_ways => k_is)
    (case l_law_ways => k_is)
    (case c_law_ways => k_is)
    (case k_law_ways => k_is)
    (case a_law_all_orders => k_is)
    (case l_law_all_orders => k_is)
    (case c_law_all_orders => k_is)
    (case k_law_all_orders => k_is)
    (case a_law_rings => k_is)
    (case l_law_rings => k_is)
    (case c_law_rings => k_is)
    (case k_law_rings => k_is)
    (case a_law_orders => k_is)
    (case l_law_orders => k_is)
    (case c_law_orders => k_is)
    (case k_law_orders => k_is)
    (case a_law_wrong => k_is)
    (case l_law_wrong => k_is)
    (case c_law_wrong => k_is)
    (case k_law_wrong => k_is)
    (case a_law_by_rings => k_is)
    (case l_law_by_rings => k_is)
    (case c_law_by_rings => k_is)
    (case k_law_by_rings => k_is)
    (case a_law_short => k_is)
    (case l_law_short => k_is)
    (case c_law_short => k_is)
    (case k_law_short => k_is)
    (case a_law_few => k_is)
    (case l_law_few => k_is)
    (case c_law_few => k_is)
    (case k_law_few => k_is)
    (case a_law_order => k_is)
    (case l_law_order => k_is)
    (case c_law_order => k_is)
    (case k_law_order => k_is)
    (case a_law => k_is)
    (case l_law => k_is)
    (case c_law => k_is)
    (case k_law => k_is)
    (case z_gcd => k_is)
    (case z_range => k_is)
    (case z_min => k_is)
    (case z_len => k_is)
    (case z_tuple => k_is)
    (case z_int => k_is)
    (case z_list => k_is)
    (case z_bool => k_is)
    (case z_isinstance => k_is)
    (case z_str => k_is)
    (case z_abs => k_is)
    (case z_sum => k_is)
    (case z_max => k_is)
    (case a_NOTHING => k_is)
    (case l_NOTHING => k_is)
    (case w_NOTHING => exact (.cons ⟨_, rfl⟩ (.cons ⟨_, rfl⟩ .nil)))
    (case y_NOTHING => decide)
