/-
  Part of a proof: an evaluator of the model's code over abstract memory, and that it is sound against the model's weakest preconditions; no conditions.
-/
import Derived.RangeFuncLeaves
import Derived.OrdersIn
import Derived.KernelRfl
set_option linter.constructorNameAsVariable false
set_option linter.unusedVariables false
set_option linter.unusedSimpArgs false
set_option linter.unusedSectionVars false
set_option linter.unusedVariables false
namespace Go.Ev
open Go
noncomputable section

inductive Ix where | i0 | i1 | i2 | i3 | i4 | i5 | i6 | i7 | i8 | i9 | i10 | i11 | i12 | i13 | i14 | i15
def toIx (n : Nat) : Ix := Nat.rec (motive := fun _ => Ix) .i0 (fun n _ => Nat.rec (motive := fun _ => Ix) .i1 (fun n _ => Nat.rec (motive := fun _ => Ix) .i2 (fun n _ => Nat.rec (motive := fun _ => Ix) .i3 (fun n _ => Nat.rec (motive := fun _ => Ix) .i4 (fun n _ => Nat.rec (motive := fun _ => Ix) .i5 (fun n _ => Nat.rec (motive := fun _ => Ix) .i6 (fun n _ => Nat.rec (motive := fun _ => Ix) .i7 (fun n _ => Nat.rec (motive := fun _ => Ix) .i8 (fun n _ => Nat.rec (motive := fun _ => Ix) .i9 (fun n _ => Nat.rec (motive := fun _ => Ix) .i10 (fun n _ => Nat.rec (motive := fun _ => Ix) .i11 (fun n _ => Nat.rec (motive := fun _ => Ix) .i12 (fun n _ => Nat.rec (motive := fun _ => Ix) .i13 (fun n _ => Nat.rec (motive := fun _ => Ix) .i14 (fun _ _ => .i15) n) n) n) n) n) n) n) n) n) n) n) n) n) n) n
inductive R (α : Type) where | mk (a0 a1 a2 a3 a4 a5 a6 a7 a8 a9 a10 a11 a12 a13 a14 a15 : α)
namespace R
variable {α : Type}
noncomputable def g0 (r : R α) : α := R.rec (motive := fun _ => α) (fun a0 _ _ _ _ _ _ _ _ _ _ _ _ _ _ _ => a0) r
noncomputable def g1 (r : R α) : α := R.rec (motive := fun _ => α) (fun _ a1 _ _ _ _ _ _ _ _ _ _ _ _ _ _ => a1) r
noncomputable def g2 (r : R α) : α := R.rec (motive := fun _ => α) (fun _ _ a2 _ _ _ _ _ _ _ _ _ _ _ _ _ => a2) r
noncomputable def g3 (r : R α) : α := R.rec (motive := fun _ => α) (fun _ _ _ a3 _ _ _ _ _ _ _ _ _ _ _ _ => a3) r
noncomputable def g4 (r : R α) : α := R.rec (motive := fun _ => α) (fun _ _ _ _ a4 _ _ _ _ _ _ _ _ _ _ _ => a4) r
noncomputable def g5 (r : R α) : α := R.rec (motive := fun _ => α) (fun _ _ _ _ _ a5 _ _ _ _ _ _ _ _ _ _ => a5) r
noncomputable def g6 (r : R α) : α := R.rec (motive := fun _ => α) (fun _ _ _ _ _ _ a6 _ _ _ _ _ _ _ _ _ => a6) r
noncomputable def g7 (r : R α) : α := R.rec (motive := fun _ => α) (fun _ _ _ _ _ _ _ a7 _ _ _ _ _ _ _ _ => a7) r
noncomputable def g8 (r : R α) : α := R.rec (motive := fun _ => α) (fun _ _ _ _ _ _ _ _ a8 _ _ _ _ _ _ _ => a8) r
noncomputable def g9 (r : R α) : α := R.rec (motive := fun _ => α) (fun _ _ _ _ _ _ _ _ _ a9 _ _ _ _ _ _ => a9) r
noncomputable def g10 (r : R α) : α := R.rec (motive := fun _ => α) (fun _ _ _ _ _ _ _ _ _ _ a10 _ _ _ _ _ => a10) r
noncomputable def g11 (r : R α) : α := R.rec (motive := fun _ => α) (fun _ _ _ _ _ _ _ _ _ _ _ a11 _ _ _ _ => a11) r
noncomputable def g12 (r : R α) : α := R.rec (motive := fun _ => α) (fun _ _ _ _ _ _ _ _ _ _ _ _ a12 _ _ _ => a12) r
noncomputable def g13 (r : R α) : α := R.rec (motive := fun _ => α) (fun _ _ _ _ _ _ _ _ _ _ _ _ _ a13 _ _ => a13) r
noncomputable def g14 (r : R α) : α := R.rec (motive := fun _ => α) (fun _ _ _ _ _ _ _ _ _ _ _ _ _ _ a14 _ => a14) r
noncomputable def g15 (r : R α) : α := R.rec (motive := fun _ => α) (fun _ _ _ _ _ _ _ _ _ _ _ _ _ _ _ a15 => a15) r
noncomputable def p0 (x : α) (r : R α) : R α := R.rec (motive := fun _ => R α) (fun _ a1 a2 a3 a4 a5 a6 a7 a8 a9 a10 a11 a12 a13 a14 a15 => .mk x a1 a2 a3 a4 a5 a6 a7 a8 a9 a10 a11 a12 a13 a14 a15) r
noncomputable def p1 (x : α) (r : R α) : R α := R.rec (motive := fun _ => R α) (fun a0 _ a2 a3 a4 a5 a6 a7 a8 a9 a10 a11 a12 a13 a14 a15 => .mk a0 x a2 a3 a4 a5 a6 a7 a8 a9 a10 a11 a12 a13 a14 a15) r
noncomputable def p2 (x : α) (r : R α) : R α := R.rec (motive := fun _ => R α) (fun a0 a1 _ a3 a4 a5 a6 a7 a8 a9 a10 a11 a12 a13 a14 a15 => .mk a0 a1 x a3 a4 a5 a6 a7 a8 a9 a10 a11 a12 a13 a14 a15) r
noncomputable def p3 (x : α) (r : R α) : R α := R.rec (motive := fun _ => R α) (fun a0 a1 a2 _ a4 a5 a6 a7 a8 a9 a10 a11 a12 a13 a14 a15 => .mk a0 a1 a2 x a4 a5 a6 a7 a8 a9 a10 a11 a12 a13 a14 a15) r
noncomputable def p4 (x : α) (r : R α) : R α := R.rec (motive := fun _ => R α) (fun a0 a1 a2 a3 _ a5 a6 a7 a8 a9 a10 a11 a12 a13 a14 a15 => .mk a0 a1 a2 a3 x a5 a6 a7 a8 a9 a10 a11 a12 a13 a14 a15) r
noncomputable def p5 (x : α) (r : R α) : R α := R.rec (motive := fun _ => R α) (fun a0 a1 a2 a3 a4 _ a6 a7 a8 a9 a10 a11 a12 a13 a14 a15 => .mk a0 a1 a2 a3 a4 x a6 a7 a8 a9 a10 a11 a12 a13 a14 a15) r
noncomputable def p6 (x : α) (r : R α) : R α := R.rec (motive := fun _ => R α) (fun a0 a1 a2 a3 a4 a5 _ a7 a8 a9 a10 a11 a12 a13 a14 a15 => .mk a0 a1 a2 a3 a4 a5 x a7 a8 a9 a10 a11 a12 a13 a14 a15) r
noncomputable def p7 (x : α) (r : R α) : R α := R.rec (motive := fun _ => R α) (fun a0 a1 a2 a3 a4 a5 a6 _ a8 a9 a10 a11 a12 a13 a14 a15 => .mk a0 a1 a2 a3 a4 a5 a6 x a8 a9 a10 a11 a12 a13 a14 a15) r
noncomputable def p8 (x : α) (r : R α) : R α := R.rec (motive := fun _ => R α) (fun a0 a1 a2 a3 a4 a5 a6 a7 _ a9 a10 a11 a12 a13 a14 a15 => .mk a0 a1 a2 a3 a4 a5 a6 a7 x a9 a10 a11 a12 a13 a14 a15) r
noncomputable def p9 (x : α) (r : R α) : R α := R.rec (motive := fun _ => R α) (fun a0 a1 a2 a3 a4 a5 a6 a7 a8 _ a10 a11 a12 a13 a14 a15 => .mk a0 a1 a2 a3 a4 a5 a6 a7 a8 x a10 a11 a12 a13 a14 a15) r
noncomputable def p10 (x : α) (r : R α) : R α := R.rec (motive := fun _ => R α) (fun a0 a1 a2 a3 a4 a5 a6 a7 a8 a9 _ a11 a12 a13 a14 a15 => .mk a0 a1 a2 a3 a4 a5 a6 a7 a8 a9 x a11 a12 a13 a14 a15) r
noncomputable def p11 (x : α) (r : R α) : R α := R.rec (motive := fun _ => R α) (fun a0 a1 a2 a3 a4 a5 a6 a7 a8 a9 a10 _ a12 a13 a14 a15 => .mk a0 a1 a2 a3 a4 a5 a6 a7 a8 a9 a10 x a12 a13 a14 a15) r
noncomputable def p12 (x : α) (r : R α) : R α := R.rec (motive := fun _ => R α) (fun a0 a1 a2 a3 a4 a5 a6 a7 a8 a9 a10 a11 _ a13 a14 a15 => .mk a0 a1 a2 a3 a4 a5 a6 a7 a8 a9 a10 a11 x a13 a14 a15) r
noncomputable def p13 (x : α) (r : R α) : R α := R.rec (motive := fun _ => R α) (fun a0 a1 a2 a3 a4 a5 a6 a7 a8 a9 a10 a11 a12 _ a14 a15 => .mk a0 a1 a2 a3 a4 a5 a6 a7 a8 a9 a10 a11 a12 x a14 a15) r
noncomputable def p14 (x : α) (r : R α) : R α := R.rec (motive := fun _ => R α) (fun a0 a1 a2 a3 a4 a5 a6 a7 a8 a9 a10 a11 a12 a13 _ a15 => .mk a0 a1 a2 a3 a4 a5 a6 a7 a8 a9 a10 a11 a12 a13 x a15) r
noncomputable def p15 (x : α) (r : R α) : R α := R.rec (motive := fun _ => R α) (fun a0 a1 a2 a3 a4 a5 a6 a7 a8 a9 a10 a11 a12 a13 a14 _ => .mk a0 a1 a2 a3 a4 a5 a6 a7 a8 a9 a10 a11 a12 a13 a14 x) r
noncomputable def get (i : Ix) (r : R α) : α := Ix.rec (motive := fun _ => R α → α) g0 g1 g2 g3 g4 g5 g6 g7 g8 g9 g10 g11 g12 g13 g14 g15 i r
noncomputable def put (i : Ix) (x : α) (r : R α) : R α := Ix.rec (motive := fun _ => α → R α → R α) p0 p1 p2 p3 p4 p5 p6 p7 p8 p9 p10 p11 p12 p13 p14 p15 i x r
def all (x : α) : R α := .mk x x x x x x x x x x x x x x x x
noncomputable def selG {γ : Type} (i : Ix) (k : (R α → α) → γ) : γ := Ix.casesOn i (k g0) (k g1) (k g2) (k g3) (k g4) (k g5) (k g6) (k g7) (k g8) (k g9) (k g10) (k g11) (k g12) (k g13) (k g14) (k g15)
noncomputable def selP {γ : Type} (i : Ix) (k : (α → R α → R α) → γ) : γ := Ix.casesOn i (k p0) (k p1) (k p2) (k p3) (k p4) (k p5) (k p6) (k p7) (k p8) (k p9) (k p10) (k p11) (k p12) (k p13) (k p14) (k p15)
theorem selG_eq {γ : Type} (i : Ix) (k : (R α → α) → γ) : selG i k = k (get i) := by cases i <;> rfl
theorem selP_eq {γ : Type} (i : Ix) (k : (α → R α → R α) → γ) : selP i k = k (put i) := by cases i <;> rfl
theorem get_put_same (i : Ix) (x : α) (r : R α) : get i (put i x r) = x := by cases r; cases i <;> rfl
theorem get_put_ne {i j : Ix} (h : i ≠ j) (x : α) (r : R α) : get i (put j x r) = get i r := by
  cases r; cases i <;> cases j <;> first | rfl | exact absurd rfl h
theorem get_all (i : Ix) (x : α) : get i (all x) = x := by cases i <;> rfl
end R
def Ix.no (i : Ix) : Nat := Ix.casesOn i 0 1 2 3 4 5 6 7 8 9 10 11 12 13 14 15
theorem no_toIx : ∀ n, n < 16 → (toIx n).no = n := by decide
theorem toIx_inj {a b : Nat} (ha : a < 16) (hb : b < 16) (h : toIx a = toIx b) : a = b := by
  rw [← no_toIx a ha, ← no_toIx b hb, h]
inductive Ox where | i0 | i1 | i2 | i3 | i4 | i5 | i6 | i7
def toOx (n : Nat) : Ox := Nat.rec (motive := fun _ => Ox) .i0 (fun n _ => Nat.rec (motive := fun _ => Ox) .i1 (fun n _ => Nat.rec (motive := fun _ => Ox) .i2 (fun n _ => Nat.rec (motive := fun _ => Ox) .i3 (fun n _ => Nat.rec (motive := fun _ => Ox) .i4 (fun n _ => Nat.rec (motive := fun _ => Ox) .i5 (fun n _ => Nat.rec (motive := fun _ => Ox) .i6 (fun _ _ => .i7) n) n) n) n) n) n) n
inductive O (α : Type) where | mk (a0 a1 a2 a3 a4 a5 a6 a7 : α)
namespace O
variable {α : Type}
noncomputable def g0 (r : O α) : α := O.rec (motive := fun _ => α) (fun a0 _ _ _ _ _ _ _ => a0) r
noncomputable def g1 (r : O α) : α := O.rec (motive := fun _ => α) (fun _ a1 _ _ _ _ _ _ => a1) r
noncomputable def g2 (r : O α) : α := O.rec (motive := fun _ => α) (fun _ _ a2 _ _ _ _ _ => a2) r
noncomputable def g3 (r : O α) : α := O.rec (motive := fun _ => α) (fun _ _ _ a3 _ _ _ _ => a3) r
noncomputable def g4 (r : O α) : α := O.rec (motive := fun _ => α) (fun _ _ _ _ a4 _ _ _ => a4) r
noncomputable def g5 (r : O α) : α := O.rec (motive := fun _ => α) (fun _ _ _ _ _ a5 _ _ => a5) r
noncomputable def g6 (r : O α) : α := O.rec (motive := fun _ => α) (fun _ _ _ _ _ _ a6 _ => a6) r
noncomputable def g7 (r : O α) : α := O.rec (motive := fun _ => α) (fun _ _ _ _ _ _ _ a7 => a7) r
noncomputable def p0 (x : α) (r : O α) : O α := O.rec (motive := fun _ => O α) (fun _ a1 a2 a3 a4 a5 a6 a7 => .mk x a1 a2 a3 a4 a5 a6 a7) r
noncomputable def p1 (x : α) (r : O α) : O α := O.rec (motive := fun _ => O α) (fun a0 _ a2 a3 a4 a5 a6 a7 => .mk a0 x a2 a3 a4 a5 a6 a7) r
noncomputable def p2 (x : α) (r : O α) : O α := O.rec (motive := fun _ => O α) (fun a0 a1 _ a3 a4 a5 a6 a7 => .mk a0 a1 x a3 a4 a5 a6 a7) r
noncomputable def p3 (x : α) (r : O α) : O α := O.rec (motive := fun _ => O α) (fun a0 a1 a2 _ a4 a5 a6 a7 => .mk a0 a1 a2 x a4 a5 a6 a7) r
noncomputable def p4 (x : α) (r : O α) : O α := O.rec (motive := fun _ => O α) (fun a0 a1 a2 a3 _ a5 a6 a7 => .mk a0 a1 a2 a3 x a5 a6 a7) r
noncomputable def p5 (x : α) (r : O α) : O α := O.rec (motive := fun _ => O α) (fun a0 a1 a2 a3 a4 _ a6 a7 => .mk a0 a1 a2 a3 a4 x a6 a7) r
noncomputable def p6 (x : α) (r : O α) : O α := O.rec (motive := fun _ => O α) (fun a0 a1 a2 a3 a4 a5 _ a7 => .mk a0 a1 a2 a3 a4 a5 x a7) r
noncomputable def p7 (x : α) (r : O α) : O α := O.rec (motive := fun _ => O α) (fun a0 a1 a2 a3 a4 a5 a6 _ => .mk a0 a1 a2 a3 a4 a5 a6 x) r
noncomputable def get (i : Ox) (r : O α) : α := Ox.rec (motive := fun _ => O α → α) g0 g1 g2 g3 g4 g5 g6 g7 i r
noncomputable def put (i : Ox) (x : α) (r : O α) : O α := Ox.rec (motive := fun _ => α → O α → O α) p0 p1 p2 p3 p4 p5 p6 p7 i x r
def all (x : α) : O α := .mk x x x x x x x x
noncomputable def selG {γ : Type} (i : Ox) (k : (O α → α) → γ) : γ := Ox.casesOn i (k g0) (k g1) (k g2) (k g3) (k g4) (k g5) (k g6) (k g7)
noncomputable def selP {γ : Type} (i : Ox) (k : (α → O α → O α) → γ) : γ := Ox.casesOn i (k p0) (k p1) (k p2) (k p3) (k p4) (k p5) (k p6) (k p7)
theorem selG_eq {γ : Type} (i : Ox) (k : (O α → α) → γ) : selG i k = k (get i) := by cases i <;> rfl
theorem selP_eq {γ : Type} (i : Ox) (k : (α → O α → O α) → γ) : selP i k = k (put i) := by cases i <;> rfl
theorem get_put_same (i : Ox) (x : α) (r : O α) : get i (put i x r) = x := by cases r; cases i <;> rfl
theorem get_put_ne {i j : Ox} (h : i ≠ j) (x : α) (r : O α) : get i (put j x r) = get i r := by
  cases r; cases i <;> cases j <;> first | rfl | exact absurd rfl h
theorem get_all (i : Ox) (x : α) : get i (all x) = x := by cases i <;> rfl
end O
def Ox.no (i : Ox) : Nat := Ox.casesOn i 0 1 2 3 4 5 6 7
theorem no_toOx : ∀ n, n < 8 → (toOx n).no = n := by decide
theorem toOx_inj {a b : Nat} (ha : a < 8) (hb : b < 8) (h : toOx a = toOx b) : a = b := by
  rw [← no_toOx a ha, ← no_toOx b hb, h]

/-! ### texts as numbers: the bytes from the lowest place on, a 1 behind them -/
def enc (l : List UInt8) : Nat := l.foldr (fun b n => Nat.add b.toNat (Nat.mul 256 n)) 1
def slen (c : Nat) : Nat := Nat.div (Nat.log2 c) 8
def sat (c i : Nat) : Nat := Nat.mod (Nat.shiftRight c (Nat.mul 8 i)) 256
def ssub (c lo hi : Nat) : Nat := Nat.add (Nat.mod (Nat.shiftRight c (Nat.mul 8 lo)) (Nat.pow 256 (Nat.sub hi lo))) (Nat.pow 256 (Nat.sub hi lo))
def sapp (a b : Nat) : Nat := Nat.add (Nat.sub a (Nat.pow 256 (slen a))) (Nat.mul b (Nat.pow 256 (slen a)))

/-! ### abstract values -/
/-- what stands for memory: nil pointers and their like; 'pt' a place; 'sl' a slice of known room, 'so' one whose room ends with its block, 'se' an empty one; 'mp' a map; 'y' a loop's yield -/
inductive Ref where
  | np | pt (id off : Nat) | ns | sl (id off len cap : Nat) | so (id sz off len : Nat) | se | nm | mp (id : Nat) | nf | ni | y (id : Nat)
inductive V where
  | u | b (x : Bool) | i (k : IntKind) (n : Int) | s (c : Nat) | r (x : Ref) | f (fn : Nat) (fst caps : V) | w (t : Nat) (v : V) | a (l : V) | t (l : V) | n | c (h t : V)

noncomputable def oB (g : Bool → Option V) (v : V) : Option V := V.rec (motive := fun _ => (Bool → Option V) → Option V) (fun _ => none) (fun x0 g => g x0) (fun _ _ _ => none) (fun _ _ => none) (fun _ _ => none) (fun _ _ _ _ _ _ => none) (fun _ _ _ _ => none) (fun _ _ _ => none) (fun _ _ _ => none) (fun _ => none) (fun _ _ _ _ _ => none) v g
noncomputable def oI (g : IntKind → Int → Option V) (v : V) : Option V := V.rec (motive := fun _ => (IntKind → Int → Option V) → Option V) (fun _ => none) (fun _ _ => none) (fun x0 x1 g => g x0 x1) (fun _ _ => none) (fun _ _ => none) (fun _ _ _ _ _ _ => none) (fun _ _ _ _ => none) (fun _ _ _ => none) (fun _ _ _ => none) (fun _ => none) (fun _ _ _ _ _ => none) v g
noncomputable def oS (g : Nat → Option V) (v : V) : Option V := V.rec (motive := fun _ => (Nat → Option V) → Option V) (fun _ => none) (fun _ _ => none) (fun _ _ _ => none) (fun x0 g => g x0) (fun _ _ => none) (fun _ _ _ _ _ _ => none) (fun _ _ _ _ => none) (fun _ _ _ => none) (fun _ _ _ => none) (fun _ => none) (fun _ _ _ _ _ => none) v g
noncomputable def oR (g : Ref → Option V) (v : V) : Option V := V.rec (motive := fun _ => (Ref → Option V) → Option V) (fun _ => none) (fun _ _ => none) (fun _ _ _ => none) (fun _ _ => none) (fun x0 g => g x0) (fun _ _ _ _ _ _ => none) (fun _ _ _ _ => none) (fun _ _ _ => none) (fun _ _ _ => none) (fun _ => none) (fun _ _ _ _ _ => none) v g
noncomputable def oF (g : Nat → V → V → Option V) (v : V) : Option V := V.rec (motive := fun _ => (Nat → V → V → Option V) → Option V) (fun _ => none) (fun _ _ => none) (fun _ _ _ => none) (fun _ _ => none) (fun _ _ => none) (fun x0 x1 x2 _ _ g => g x0 x1 x2) (fun _ _ _ _ => none) (fun _ _ _ => none) (fun _ _ _ => none) (fun _ => none) (fun _ _ _ _ _ => none) v g
noncomputable def oW (g : Nat → V → Option V) (v : V) : Option V := V.rec (motive := fun _ => (Nat → V → Option V) → Option V) (fun _ => none) (fun _ _ => none) (fun _ _ _ => none) (fun _ _ => none) (fun _ _ => none) (fun _ _ _ _ _ _ => none) (fun x0 x1 _ g => g x0 x1) (fun _ _ _ => none) (fun _ _ _ => none) (fun _ => none) (fun _ _ _ _ _ => none) v g
noncomputable def oA (g : V → Option V) (v : V) : Option V := V.rec (motive := fun _ => (V → Option V) → Option V) (fun _ => none) (fun _ _ => none) (fun _ _ _ => none) (fun _ _ => none) (fun _ _ => none) (fun _ _ _ _ _ _ => none) (fun _ _ _ _ => none) (fun x0 _ g => g x0) (fun _ _ _ => none) (fun _ => none) (fun _ _ _ _ _ => none) v g
noncomputable def oT (g : V → Option V) (v : V) : Option V := V.rec (motive := fun _ => (V → Option V) → Option V) (fun _ => none) (fun _ _ => none) (fun _ _ _ => none) (fun _ _ => none) (fun _ _ => none) (fun _ _ _ _ _ _ => none) (fun _ _ _ _ => none) (fun _ _ _ => none) (fun x0 _ g => g x0) (fun _ => none) (fun _ _ _ _ _ => none) v g
noncomputable def oN (g : Option V) (v : V) : Option V := V.rec (motive := fun _ => (Option V) → Option V) (fun _ => none) (fun _ _ => none) (fun _ _ _ => none) (fun _ _ => none) (fun _ _ => none) (fun _ _ _ _ _ _ => none) (fun _ _ _ _ => none) (fun _ _ _ => none) (fun _ _ _ => none) (fun g => g) (fun _ _ _ _ _ => none) v g
noncomputable def oC (g : V → V → Option V) (v : V) : Option V := V.rec (motive := fun _ => (V → V → Option V) → Option V) (fun _ => none) (fun _ _ => none) (fun _ _ _ => none) (fun _ _ => none) (fun _ _ => none) (fun _ _ _ _ _ _ => none) (fun _ _ _ _ => none) (fun _ _ _ => none) (fun _ _ _ => none) (fun _ => none) (fun x0 x1 _ _ g => g x0 x1) v g
noncomputable def qB (g : Bool → Bool) (v : V) : Bool := V.rec (motive := fun _ => (Bool → Bool) → Bool) (fun _ => false) (fun x0 g => g x0) (fun _ _ _ => false) (fun _ _ => false) (fun _ _ => false) (fun _ _ _ _ _ _ => false) (fun _ _ _ _ => false) (fun _ _ _ => false) (fun _ _ _ => false) (fun _ => false) (fun _ _ _ _ _ => false) v g
noncomputable def qI (g : IntKind → Int → Bool) (v : V) : Bool := V.rec (motive := fun _ => (IntKind → Int → Bool) → Bool) (fun _ => false) (fun _ _ => false) (fun x0 x1 g => g x0 x1) (fun _ _ => false) (fun _ _ => false) (fun _ _ _ _ _ _ => false) (fun _ _ _ _ => false) (fun _ _ _ => false) (fun _ _ _ => false) (fun _ => false) (fun _ _ _ _ _ => false) v g
noncomputable def qS (g : Nat → Bool) (v : V) : Bool := V.rec (motive := fun _ => (Nat → Bool) → Bool) (fun _ => false) (fun _ _ => false) (fun _ _ _ => false) (fun x0 g => g x0) (fun _ _ => false) (fun _ _ _ _ _ _ => false) (fun _ _ _ _ => false) (fun _ _ _ => false) (fun _ _ _ => false) (fun _ => false) (fun _ _ _ _ _ => false) v g
noncomputable def qR (g : Ref → Bool) (v : V) : Bool := V.rec (motive := fun _ => (Ref → Bool) → Bool) (fun _ => false) (fun _ _ => false) (fun _ _ _ => false) (fun _ _ => false) (fun x0 g => g x0) (fun _ _ _ _ _ _ => false) (fun _ _ _ _ => false) (fun _ _ _ => false) (fun _ _ _ => false) (fun _ => false) (fun _ _ _ _ _ => false) v g
noncomputable def qF (g : Nat → V → V → Bool) (v : V) : Bool := V.rec (motive := fun _ => (Nat → V → V → Bool) → Bool) (fun _ => false) (fun _ _ => false) (fun _ _ _ => false) (fun _ _ => false) (fun _ _ => false) (fun x0 x1 x2 _ _ g => g x0 x1 x2) (fun _ _ _ _ => false) (fun _ _ _ => false) (fun _ _ _ => false) (fun _ => false) (fun _ _ _ _ _ => false) v g
noncomputable def qW (g : Nat → V → Bool) (v : V) : Bool := V.rec (motive := fun _ => (Nat → V → Bool) → Bool) (fun _ => false) (fun _ _ => false) (fun _ _ _ => false) (fun _ _ => false) (fun _ _ => false) (fun _ _ _ _ _ _ => false) (fun x0 x1 _ g => g x0 x1) (fun _ _ _ => false) (fun _ _ _ => false) (fun _ => false) (fun _ _ _ _ _ => false) v g
noncomputable def qA (g : V → Bool) (v : V) : Bool := V.rec (motive := fun _ => (V → Bool) → Bool) (fun _ => false) (fun _ _ => false) (fun _ _ _ => false) (fun _ _ => false) (fun _ _ => false) (fun _ _ _ _ _ _ => false) (fun _ _ _ _ => false) (fun x0 _ g => g x0) (fun _ _ _ => false) (fun _ => false) (fun _ _ _ _ _ => false) v g
noncomputable def qT (g : V → Bool) (v : V) : Bool := V.rec (motive := fun _ => (V → Bool) → Bool) (fun _ => false) (fun _ _ => false) (fun _ _ _ => false) (fun _ _ => false) (fun _ _ => false) (fun _ _ _ _ _ _ => false) (fun _ _ _ _ => false) (fun _ _ _ => false) (fun x0 _ g => g x0) (fun _ => false) (fun _ _ _ _ _ => false) v g
noncomputable def qN (g : Bool) (v : V) : Bool := V.rec (motive := fun _ => (Bool) → Bool) (fun _ => false) (fun _ _ => false) (fun _ _ _ => false) (fun _ _ => false) (fun _ _ => false) (fun _ _ _ _ _ _ => false) (fun _ _ _ _ => false) (fun _ _ _ => false) (fun _ _ _ => false) (fun g => g) (fun _ _ _ _ _ => false) v g
noncomputable def qC (g : V → V → Bool) (v : V) : Bool := V.rec (motive := fun _ => (V → V → Bool) → Bool) (fun _ => false) (fun _ _ => false) (fun _ _ _ => false) (fun _ _ => false) (fun _ _ => false) (fun _ _ _ _ _ _ => false) (fun _ _ _ _ => false) (fun _ _ _ => false) (fun _ _ _ => false) (fun _ => false) (fun x0 x1 _ _ g => g x0 x1) v g
noncomputable def opt_ (g : Nat → Nat → Option V) (x : Ref) : Option V := Ref.rec (motive := fun _ => (Nat → Nat → Option V) → Option V) (fun _ => none) (fun x0 x1 g => g x0 x1) (fun _ => none) (fun _ _ _ _ _ => none) (fun _ _ _ _ _ => none) (fun _ => none) (fun _ => none) (fun _ _ => none) (fun _ => none) (fun _ => none) (fun _ _ => none) x g
noncomputable def oPt (g : Nat → Nat → Option V) (v : V) : Option V := oR (opt_ g) v
noncomputable def omp_ (g : Nat → Option V) (x : Ref) : Option V := Ref.rec (motive := fun _ => (Nat → Option V) → Option V) (fun _ => none) (fun _ _ _ => none) (fun _ => none) (fun _ _ _ _ _ => none) (fun _ _ _ _ _ => none) (fun _ => none) (fun _ => none) (fun x0 g => g x0) (fun _ => none) (fun _ => none) (fun _ _ => none) x g
noncomputable def oMp (g : Nat → Option V) (v : V) : Option V := oR (omp_ g) v
noncomputable def oy_ (g : Nat → Option V) (x : Ref) : Option V := Ref.rec (motive := fun _ => (Nat → Option V) → Option V) (fun _ => none) (fun _ _ _ => none) (fun _ => none) (fun _ _ _ _ _ => none) (fun _ _ _ _ _ => none) (fun _ => none) (fun _ => none) (fun _ _ => none) (fun _ => none) (fun _ => none) (fun x0 g => g x0) x g
noncomputable def oY (g : Nat → Option V) (v : V) : Option V := oR (oy_ g) v
noncomputable def qpt_ (g : Nat → Nat → Bool) (x : Ref) : Bool := Ref.rec (motive := fun _ => (Nat → Nat → Bool) → Bool) (fun _ => false) (fun x0 x1 g => g x0 x1) (fun _ => false) (fun _ _ _ _ _ => false) (fun _ _ _ _ _ => false) (fun _ => false) (fun _ => false) (fun _ _ => false) (fun _ => false) (fun _ => false) (fun _ _ => false) x g
noncomputable def qPt (g : Nat → Nat → Bool) (v : V) : Bool := qR (qpt_ g) v
noncomputable def qmp_ (g : Nat → Bool) (x : Ref) : Bool := Ref.rec (motive := fun _ => (Nat → Bool) → Bool) (fun _ => false) (fun _ _ _ => false) (fun _ => false) (fun _ _ _ _ _ => false) (fun _ _ _ _ _ => false) (fun _ => false) (fun _ => false) (fun x0 g => g x0) (fun _ => false) (fun _ => false) (fun _ _ => false) x g
noncomputable def qMp (g : Nat → Bool) (v : V) : Bool := qR (qmp_ g) v
noncomputable def qy_ (g : Nat → Bool) (x : Ref) : Bool := Ref.rec (motive := fun _ => (Nat → Bool) → Bool) (fun _ => false) (fun _ _ _ => false) (fun _ => false) (fun _ _ _ _ _ => false) (fun _ _ _ _ _ => false) (fun _ => false) (fun _ => false) (fun _ _ => false) (fun _ => false) (fun _ => false) (fun x0 g => g x0) x g
noncomputable def qY (g : Nat → Bool) (v : V) : Bool := qR (qy_ g) v

/-! ### lists of values -/
namespace V
/-- a value of one cell -/
noncomputable def one (v : V) : Bool := V.rec (motive := fun _ => Bool) false (fun _ => true) (fun _ _ => true) (fun _ => true) (fun _ => true) (fun _ _ _ _ _ => true) (fun _ _ _ => true) (fun _ _ => false) (fun _ _ => false) false (fun _ _ _ _ => false) v
/-- has a list just n elements? -/
noncomputable def isLen (n : Nat) : V → Bool := Nat.rec (motive := fun _ => V → Bool) (qN true) (fun _ ih => qC fun _ t => ih t) n
noncomputable def nth (n : Nat) : V → Option V := Nat.rec (motive := fun _ => V → Option V) (oC fun h _ => some h) (fun _ ih => oC fun _ t => ih t) n
noncomputable def drop (n : Nat) : V → Option V := Nat.rec (motive := fun _ => V → Option V) some (fun _ ih => oC fun _ t => ih t) n
noncomputable def take (n : Nat) : V → Option V := Nat.rec (motive := fun _ => V → Option V) (fun _ => some .n) (fun _ ih => oC fun h t => Option.rec (motive := fun _ => Option V) none (fun l => some (.c h l)) (ih t)) n
/-- l's elements, just n, ahead of m -/
noncomputable def app (n : Nat) : V → V → Option V := Nat.rec (motive := fun _ => V → V → Option V) (fun l m => oN (some m) l) (fun _ ih l m => oC (fun h t => Option.rec (motive := fun _ => Option V) none (fun l => some (.c h l)) (ih t m)) l) n
/-- two lists, the first one of at most fuel elements -/
noncomputable def cat (fuel : Nat) (l m : V) : Option V := Nat.rec (motive := fun _ => V → Option V) (oN (some m)) (fun _ ih l => V.rec (motive := fun _ => Option V) none (fun _ => none) (fun _ _ => none) (fun _ => none) (fun _ => none) (fun _ _ _ _ _ => none) (fun _ _ _ => none) (fun _ _ => none) (fun _ _ => none) (some m) (fun h t _ _ => Option.rec (motive := fun _ => Option V) none (fun l => some (.c h l)) (ih t)) l) fuel l
/-- n elements in place of those from off on -/
noncomputable def over (off : Nat) (x l : V) (n : Nat) : Option V :=
  Option.rec (motive := fun _ => Option V) none (fun a => Option.rec (motive := fun _ => Option V) none (fun z => Option.rec (motive := fun _ => Option V) none (fun m => app off a m) (app n x z)) (drop (Nat.add off n) l)) (take off l)
end V

/-! ### whole numbers -/
def kmax (k : IntKind) : Nat := IntKind.rec (motive := fun _ => Nat) 127 32767 2147483647 9223372036854775807 255 65535 4294967295 18446744073709551615 k
def kno (k : IntKind) : Nat := IntKind.rec (motive := fun _ => Nat) 0 1 2 3 4 5 6 7 k
def kwrap (k : IntKind) (s : Nat) : Int := Bool.rec (motive := fun _ => Int) (k.wrap (Int.ofNat s)) (Int.ofNat s) (Nat.ble s (kmax k))
def iAdd (k : IntKind) (x y : Int) : Int := Int.rec (motive := fun _ => Int) (fun a => Int.rec (motive := fun _ => Int) (fun b => kwrap k (Nat.add a b)) (fun _ => k.wrap (x + y)) y) (fun _ => k.wrap (x + y)) x
def iSub (k : IntKind) (x y : Int) : Int := Int.rec (motive := fun _ => Int) (fun a => Int.rec (motive := fun _ => Int) (fun b => Bool.rec (motive := fun _ => Int) (k.wrap (x - y)) (kwrap k (Nat.sub a b)) (Nat.ble b a)) (fun _ => k.wrap (x - y)) y) (fun _ => k.wrap (x - y)) x
def iMul (k : IntKind) (x y : Int) : Int := Int.rec (motive := fun _ => Int) (fun a => Int.rec (motive := fun _ => Int) (fun b => kwrap k (Nat.mul a b)) (fun _ => k.wrap (x * y)) y) (fun _ => k.wrap (x * y)) x
def iQuo (k : IntKind) (x y : Int) : Int := Int.rec (motive := fun _ => Int) (fun a => Int.rec (motive := fun _ => Int) (fun b => kwrap k (Nat.div a b)) (fun _ => k.wrap (x.tdiv y)) y) (fun _ => k.wrap (x.tdiv y)) x
def iRem (x y : Int) : Int := Int.rec (motive := fun _ => Int) (fun a => Int.rec (motive := fun _ => Int) (fun b => Int.ofNat (Nat.mod a b)) (fun _ => x.tmod y) y) (fun _ => x.tmod y) x
def iLt (x y : Int) : Bool := Int.rec (motive := fun _ => Bool) (fun a => Int.rec (motive := fun _ => Bool) (fun b => Nat.ble (Nat.succ a) b) (fun _ => false) y) (fun _ => decide (x < y)) x
def iEq (x y : Int) : Bool := Int.rec (motive := fun _ => Bool) (fun a => Int.rec (motive := fun _ => Bool) (fun b => Nat.beq a b) (fun _ => false) y) (fun _ => decide (x = y)) x
def iZero (x : Int) : Bool := Int.rec (motive := fun _ => Bool) (fun a => Nat.beq a 0) (fun _ => false) x
/-- bits of two numbers that are not negative -/
def iBits (g : Nat → Nat → Nat) (k : IntKind) (x y : Int) : Option Int :=
  Int.casesOn x (fun a => Int.casesOn y (fun b => Bool.casesOn (Nat.ble a (kmax k)) none (Bool.casesOn (Nat.ble b (kmax k)) none (Bool.casesOn (Nat.ble (g a b) (kmax k)) none (some (Int.ofNat (g a b)))))) (fun _ => none)) (fun _ => none)
def andNot (a b : Nat) : Nat := Nat.xor a (Nat.land a b)

noncomputable def bi2 (g : IntKind → Int → Int → Option V) (x y : V) : Option V :=
  oI (fun k a => oI (fun k' b => Bool.rec (motive := fun _ => Option V) none (g k a b) (Nat.beq (kno k) (kno k'))) y) x
noncomputable def bs2 (g : Nat → Nat → V) (x y : V) : Option V := oS (fun a => oS (fun b => some (g a b)) y) x
def not (b : Bool) : Bool := Bool.rec (motive := fun _ => Bool) true false b
def beqB (a b : Bool) : Bool := Bool.rec (motive := fun _ => Bool) (not b) b a

structure T1 where (a0 a1 a2 a3 a4 a5 a6 a7 : V)
namespace T1
noncomputable def p0 (x : V) (r : T1) : T1 := T1.rec (motive := fun _ => V → T1) (fun _ a1 a2 a3 a4 a5 a6 a7 x => .mk x a1 a2 a3 a4 a5 a6 a7) r x
noncomputable def p1 (x : V) (r : T1) : T1 := T1.rec (motive := fun _ => V → T1) (fun a0 _ a2 a3 a4 a5 a6 a7 x => .mk a0 x a2 a3 a4 a5 a6 a7) r x
noncomputable def p2 (x : V) (r : T1) : T1 := T1.rec (motive := fun _ => V → T1) (fun a0 a1 _ a3 a4 a5 a6 a7 x => .mk a0 a1 x a3 a4 a5 a6 a7) r x
noncomputable def p3 (x : V) (r : T1) : T1 := T1.rec (motive := fun _ => V → T1) (fun a0 a1 a2 _ a4 a5 a6 a7 x => .mk a0 a1 a2 x a4 a5 a6 a7) r x
noncomputable def p4 (x : V) (r : T1) : T1 := T1.rec (motive := fun _ => V → T1) (fun a0 a1 a2 a3 _ a5 a6 a7 x => .mk a0 a1 a2 a3 x a5 a6 a7) r x
noncomputable def p5 (x : V) (r : T1) : T1 := T1.rec (motive := fun _ => V → T1) (fun a0 a1 a2 a3 a4 _ a6 a7 x => .mk a0 a1 a2 a3 a4 x a6 a7) r x
noncomputable def p6 (x : V) (r : T1) : T1 := T1.rec (motive := fun _ => V → T1) (fun a0 a1 a2 a3 a4 a5 _ a7 x => .mk a0 a1 a2 a3 a4 a5 x a7) r x
noncomputable def p7 (x : V) (r : T1) : T1 := T1.rec (motive := fun _ => V → T1) (fun a0 a1 a2 a3 a4 a5 a6 _ x => .mk a0 a1 a2 a3 a4 a5 a6 x) r x
noncomputable def u0 (f : V → V) (r : T1) : T1 := T1.rec (motive := fun _ => (V → V) → T1) (fun a0 a1 a2 a3 a4 a5 a6 a7 f => .mk (f a0) a1 a2 a3 a4 a5 a6 a7) r f
noncomputable def u1 (f : V → V) (r : T1) : T1 := T1.rec (motive := fun _ => (V → V) → T1) (fun a0 a1 a2 a3 a4 a5 a6 a7 f => .mk a0 (f a1) a2 a3 a4 a5 a6 a7) r f
noncomputable def u2 (f : V → V) (r : T1) : T1 := T1.rec (motive := fun _ => (V → V) → T1) (fun a0 a1 a2 a3 a4 a5 a6 a7 f => .mk a0 a1 (f a2) a3 a4 a5 a6 a7) r f
noncomputable def u3 (f : V → V) (r : T1) : T1 := T1.rec (motive := fun _ => (V → V) → T1) (fun a0 a1 a2 a3 a4 a5 a6 a7 f => .mk a0 a1 a2 (f a3) a4 a5 a6 a7) r f
noncomputable def u4 (f : V → V) (r : T1) : T1 := T1.rec (motive := fun _ => (V → V) → T1) (fun a0 a1 a2 a3 a4 a5 a6 a7 f => .mk a0 a1 a2 a3 (f a4) a5 a6 a7) r f
noncomputable def u5 (f : V → V) (r : T1) : T1 := T1.rec (motive := fun _ => (V → V) → T1) (fun a0 a1 a2 a3 a4 a5 a6 a7 f => .mk a0 a1 a2 a3 a4 (f a5) a6 a7) r f
noncomputable def u6 (f : V → V) (r : T1) : T1 := T1.rec (motive := fun _ => (V → V) → T1) (fun a0 a1 a2 a3 a4 a5 a6 a7 f => .mk a0 a1 a2 a3 a4 a5 (f a6) a7) r f
noncomputable def u7 (f : V → V) (r : T1) : T1 := T1.rec (motive := fun _ => (V → V) → T1) (fun a0 a1 a2 a3 a4 a5 a6 a7 f => .mk a0 a1 a2 a3 a4 a5 a6 (f a7)) r f
noncomputable def get (i : Ox) (r : T1) : V := Ox.rec (motive := fun _ => T1 → V) T1.a0 T1.a1 T1.a2 T1.a3 T1.a4 T1.a5 T1.a6 T1.a7 i r
noncomputable def put (i : Ox) (x : V) (r : T1) : T1 := Ox.rec (motive := fun _ => V → T1 → T1) p0 p1 p2 p3 p4 p5 p6 p7 i x r
noncomputable def upd (i : Ox) (f : V → V) (r : T1) : T1 := Ox.rec (motive := fun _ => (V → V) → T1 → T1) u0 u1 u2 u3 u4 u5 u6 u7 i f r
def all (x : V) : T1 := .mk x x x x x x x x
noncomputable def selG {γ : Type} (i : Ox) (k : (T1 → V) → γ) : γ := Ox.casesOn i (k T1.a0) (k T1.a1) (k T1.a2) (k T1.a3) (k T1.a4) (k T1.a5) (k T1.a6) (k T1.a7)
noncomputable def selP {γ : Type} (i : Ox) (k : (V → T1 → T1) → γ) : γ := Ox.casesOn i (k p0) (k p1) (k p2) (k p3) (k p4) (k p5) (k p6) (k p7)
noncomputable def selU {γ : Type} (i : Ox) (k : ((V → V) → T1 → T1) → γ) : γ := Ox.casesOn i (k u0) (k u1) (k u2) (k u3) (k u4) (k u5) (k u6) (k u7)
theorem selG_eq {γ : Type} (i : Ox) (k : (T1 → V) → γ) : selG i k = k (get i) := by cases i <;> rfl
theorem selP_eq {γ : Type} (i : Ox) (k : (V → T1 → T1) → γ) : selP i k = k (put i) := by cases i <;> rfl
theorem selU_eq {γ : Type} (i : Ox) (k : ((V → V) → T1 → T1) → γ) : selU i k = k (upd i) := by cases i <;> rfl
theorem get_put_same (i : Ox) (x : V) (r : T1) : get i (put i x r) = x := by cases r; cases i <;> rfl
theorem get_put_ne {i j : Ox} (h : i ≠ j) (x : V) (r : T1) : get i (put j x r) = get i r := by
  cases r; cases i <;> cases j <;> first | rfl | exact absurd rfl h
theorem get_upd_same (i : Ox) (f : V → V) (r : T1) : get i (upd i f r) = f (get i r) := by cases r; cases i <;> rfl
theorem get_upd_ne {i j : Ox} (h : i ≠ j) (f : V → V) (r : T1) : get i (upd j f r) = get i r := by
  cases r; cases i <;> cases j <;> first | rfl | exact absurd rfl h
theorem get_all (i : Ox) (x : V) : get i (all x) = x := by cases i <;> rfl
end T1
structure T2 where (a0 a1 a2 a3 a4 a5 a6 a7 : T1)
namespace T2
noncomputable def p0 (x : T1) (r : T2) : T2 := T2.rec (motive := fun _ => T1 → T2) (fun _ a1 a2 a3 a4 a5 a6 a7 x => .mk x a1 a2 a3 a4 a5 a6 a7) r x
noncomputable def p1 (x : T1) (r : T2) : T2 := T2.rec (motive := fun _ => T1 → T2) (fun a0 _ a2 a3 a4 a5 a6 a7 x => .mk a0 x a2 a3 a4 a5 a6 a7) r x
noncomputable def p2 (x : T1) (r : T2) : T2 := T2.rec (motive := fun _ => T1 → T2) (fun a0 a1 _ a3 a4 a5 a6 a7 x => .mk a0 a1 x a3 a4 a5 a6 a7) r x
noncomputable def p3 (x : T1) (r : T2) : T2 := T2.rec (motive := fun _ => T1 → T2) (fun a0 a1 a2 _ a4 a5 a6 a7 x => .mk a0 a1 a2 x a4 a5 a6 a7) r x
noncomputable def p4 (x : T1) (r : T2) : T2 := T2.rec (motive := fun _ => T1 → T2) (fun a0 a1 a2 a3 _ a5 a6 a7 x => .mk a0 a1 a2 a3 x a5 a6 a7) r x
noncomputable def p5 (x : T1) (r : T2) : T2 := T2.rec (motive := fun _ => T1 → T2) (fun a0 a1 a2 a3 a4 _ a6 a7 x => .mk a0 a1 a2 a3 a4 x a6 a7) r x
noncomputable def p6 (x : T1) (r : T2) : T2 := T2.rec (motive := fun _ => T1 → T2) (fun a0 a1 a2 a3 a4 a5 _ a7 x => .mk a0 a1 a2 a3 a4 a5 x a7) r x
noncomputable def p7 (x : T1) (r : T2) : T2 := T2.rec (motive := fun _ => T1 → T2) (fun a0 a1 a2 a3 a4 a5 a6 _ x => .mk a0 a1 a2 a3 a4 a5 a6 x) r x
noncomputable def u0 (f : T1 → T1) (r : T2) : T2 := T2.rec (motive := fun _ => (T1 → T1) → T2) (fun a0 a1 a2 a3 a4 a5 a6 a7 f => .mk (f a0) a1 a2 a3 a4 a5 a6 a7) r f
noncomputable def u1 (f : T1 → T1) (r : T2) : T2 := T2.rec (motive := fun _ => (T1 → T1) → T2) (fun a0 a1 a2 a3 a4 a5 a6 a7 f => .mk a0 (f a1) a2 a3 a4 a5 a6 a7) r f
noncomputable def u2 (f : T1 → T1) (r : T2) : T2 := T2.rec (motive := fun _ => (T1 → T1) → T2) (fun a0 a1 a2 a3 a4 a5 a6 a7 f => .mk a0 a1 (f a2) a3 a4 a5 a6 a7) r f
noncomputable def u3 (f : T1 → T1) (r : T2) : T2 := T2.rec (motive := fun _ => (T1 → T1) → T2) (fun a0 a1 a2 a3 a4 a5 a6 a7 f => .mk a0 a1 a2 (f a3) a4 a5 a6 a7) r f
noncomputable def u4 (f : T1 → T1) (r : T2) : T2 := T2.rec (motive := fun _ => (T1 → T1) → T2) (fun a0 a1 a2 a3 a4 a5 a6 a7 f => .mk a0 a1 a2 a3 (f a4) a5 a6 a7) r f
noncomputable def u5 (f : T1 → T1) (r : T2) : T2 := T2.rec (motive := fun _ => (T1 → T1) → T2) (fun a0 a1 a2 a3 a4 a5 a6 a7 f => .mk a0 a1 a2 a3 a4 (f a5) a6 a7) r f
noncomputable def u6 (f : T1 → T1) (r : T2) : T2 := T2.rec (motive := fun _ => (T1 → T1) → T2) (fun a0 a1 a2 a3 a4 a5 a6 a7 f => .mk a0 a1 a2 a3 a4 a5 (f a6) a7) r f
noncomputable def u7 (f : T1 → T1) (r : T2) : T2 := T2.rec (motive := fun _ => (T1 → T1) → T2) (fun a0 a1 a2 a3 a4 a5 a6 a7 f => .mk a0 a1 a2 a3 a4 a5 a6 (f a7)) r f
noncomputable def get (i : Ox) (r : T2) : T1 := Ox.rec (motive := fun _ => T2 → T1) T2.a0 T2.a1 T2.a2 T2.a3 T2.a4 T2.a5 T2.a6 T2.a7 i r
noncomputable def put (i : Ox) (x : T1) (r : T2) : T2 := Ox.rec (motive := fun _ => T1 → T2 → T2) p0 p1 p2 p3 p4 p5 p6 p7 i x r
noncomputable def upd (i : Ox) (f : T1 → T1) (r : T2) : T2 := Ox.rec (motive := fun _ => (T1 → T1) → T2 → T2) u0 u1 u2 u3 u4 u5 u6 u7 i f r
def all (x : T1) : T2 := .mk x x x x x x x x
noncomputable def selG {γ : Type} (i : Ox) (k : (T2 → T1) → γ) : γ := Ox.casesOn i (k T2.a0) (k T2.a1) (k T2.a2) (k T2.a3) (k T2.a4) (k T2.a5) (k T2.a6) (k T2.a7)
noncomputable def selP {γ : Type} (i : Ox) (k : (T1 → T2 → T2) → γ) : γ := Ox.casesOn i (k p0) (k p1) (k p2) (k p3) (k p4) (k p5) (k p6) (k p7)
noncomputable def selU {γ : Type} (i : Ox) (k : ((T1 → T1) → T2 → T2) → γ) : γ := Ox.casesOn i (k u0) (k u1) (k u2) (k u3) (k u4) (k u5) (k u6) (k u7)
theorem selG_eq {γ : Type} (i : Ox) (k : (T2 → T1) → γ) : selG i k = k (get i) := by cases i <;> rfl
theorem selP_eq {γ : Type} (i : Ox) (k : (T1 → T2 → T2) → γ) : selP i k = k (put i) := by cases i <;> rfl
theorem selU_eq {γ : Type} (i : Ox) (k : ((T1 → T1) → T2 → T2) → γ) : selU i k = k (upd i) := by cases i <;> rfl
theorem get_put_same (i : Ox) (x : T1) (r : T2) : get i (put i x r) = x := by cases r; cases i <;> rfl
theorem get_put_ne {i j : Ox} (h : i ≠ j) (x : T1) (r : T2) : get i (put j x r) = get i r := by
  cases r; cases i <;> cases j <;> first | rfl | exact absurd rfl h
theorem get_upd_same (i : Ox) (f : T1 → T1) (r : T2) : get i (upd i f r) = f (get i r) := by cases r; cases i <;> rfl
theorem get_upd_ne {i j : Ox} (h : i ≠ j) (f : T1 → T1) (r : T2) : get i (upd j f r) = get i r := by
  cases r; cases i <;> cases j <;> first | rfl | exact absurd rfl h
theorem get_all (i : Ox) (x : T1) : get i (all x) = x := by cases i <;> rfl
end T2
structure T3 where (a0 a1 a2 a3 a4 a5 a6 a7 : T2)
namespace T3
noncomputable def p0 (x : T2) (r : T3) : T3 := T3.rec (motive := fun _ => T2 → T3) (fun _ a1 a2 a3 a4 a5 a6 a7 x => .mk x a1 a2 a3 a4 a5 a6 a7) r x
noncomputable def p1 (x : T2) (r : T3) : T3 := T3.rec (motive := fun _ => T2 → T3) (fun a0 _ a2 a3 a4 a5 a6 a7 x => .mk a0 x a2 a3 a4 a5 a6 a7) r x
noncomputable def p2 (x : T2) (r : T3) : T3 := T3.rec (motive := fun _ => T2 → T3) (fun a0 a1 _ a3 a4 a5 a6 a7 x => .mk a0 a1 x a3 a4 a5 a6 a7) r x
noncomputable def p3 (x : T2) (r : T3) : T3 := T3.rec (motive := fun _ => T2 → T3) (fun a0 a1 a2 _ a4 a5 a6 a7 x => .mk a0 a1 a2 x a4 a5 a6 a7) r x
noncomputable def p4 (x : T2) (r : T3) : T3 := T3.rec (motive := fun _ => T2 → T3) (fun a0 a1 a2 a3 _ a5 a6 a7 x => .mk a0 a1 a2 a3 x a5 a6 a7) r x
noncomputable def p5 (x : T2) (r : T3) : T3 := T3.rec (motive := fun _ => T2 → T3) (fun a0 a1 a2 a3 a4 _ a6 a7 x => .mk a0 a1 a2 a3 a4 x a6 a7) r x
noncomputable def p6 (x : T2) (r : T3) : T3 := T3.rec (motive := fun _ => T2 → T3) (fun a0 a1 a2 a3 a4 a5 _ a7 x => .mk a0 a1 a2 a3 a4 a5 x a7) r x
noncomputable def p7 (x : T2) (r : T3) : T3 := T3.rec (motive := fun _ => T2 → T3) (fun a0 a1 a2 a3 a4 a5 a6 _ x => .mk a0 a1 a2 a3 a4 a5 a6 x) r x
noncomputable def u0 (f : T2 → T2) (r : T3) : T3 := T3.rec (motive := fun _ => (T2 → T2) → T3) (fun a0 a1 a2 a3 a4 a5 a6 a7 f => .mk (f a0) a1 a2 a3 a4 a5 a6 a7) r f
noncomputable def u1 (f : T2 → T2) (r : T3) : T3 := T3.rec (motive := fun _ => (T2 → T2) → T3) (fun a0 a1 a2 a3 a4 a5 a6 a7 f => .mk a0 (f a1) a2 a3 a4 a5 a6 a7) r f
noncomputable def u2 (f : T2 → T2) (r : T3) : T3 := T3.rec (motive := fun _ => (T2 → T2) → T3) (fun a0 a1 a2 a3 a4 a5 a6 a7 f => .mk a0 a1 (f a2) a3 a4 a5 a6 a7) r f
noncomputable def u3 (f : T2 → T2) (r : T3) : T3 := T3.rec (motive := fun _ => (T2 → T2) → T3) (fun a0 a1 a2 a3 a4 a5 a6 a7 f => .mk a0 a1 a2 (f a3) a4 a5 a6 a7) r f
noncomputable def u4 (f : T2 → T2) (r : T3) : T3 := T3.rec (motive := fun _ => (T2 → T2) → T3) (fun a0 a1 a2 a3 a4 a5 a6 a7 f => .mk a0 a1 a2 a3 (f a4) a5 a6 a7) r f
noncomputable def u5 (f : T2 → T2) (r : T3) : T3 := T3.rec (motive := fun _ => (T2 → T2) → T3) (fun a0 a1 a2 a3 a4 a5 a6 a7 f => .mk a0 a1 a2 a3 a4 (f a5) a6 a7) r f
noncomputable def u6 (f : T2 → T2) (r : T3) : T3 := T3.rec (motive := fun _ => (T2 → T2) → T3) (fun a0 a1 a2 a3 a4 a5 a6 a7 f => .mk a0 a1 a2 a3 a4 a5 (f a6) a7) r f
noncomputable def u7 (f : T2 → T2) (r : T3) : T3 := T3.rec (motive := fun _ => (T2 → T2) → T3) (fun a0 a1 a2 a3 a4 a5 a6 a7 f => .mk a0 a1 a2 a3 a4 a5 a6 (f a7)) r f
noncomputable def get (i : Ox) (r : T3) : T2 := Ox.rec (motive := fun _ => T3 → T2) T3.a0 T3.a1 T3.a2 T3.a3 T3.a4 T3.a5 T3.a6 T3.a7 i r
noncomputable def put (i : Ox) (x : T2) (r : T3) : T3 := Ox.rec (motive := fun _ => T2 → T3 → T3) p0 p1 p2 p3 p4 p5 p6 p7 i x r
noncomputable def upd (i : Ox) (f : T2 → T2) (r : T3) : T3 := Ox.rec (motive := fun _ => (T2 → T2) → T3 → T3) u0 u1 u2 u3 u4 u5 u6 u7 i f r
def all (x : T2) : T3 := .mk x x x x x x x x
noncomputable def selG {γ : Type} (i : Ox) (k : (T3 → T2) → γ) : γ := Ox.casesOn i (k T3.a0) (k T3.a1) (k T3.a2) (k T3.a3) (k T3.a4) (k T3.a5) (k T3.a6) (k T3.a7)
noncomputable def selP {γ : Type} (i : Ox) (k : (T2 → T3 → T3) → γ) : γ := Ox.casesOn i (k p0) (k p1) (k p2) (k p3) (k p4) (k p5) (k p6) (k p7)
noncomputable def selU {γ : Type} (i : Ox) (k : ((T2 → T2) → T3 → T3) → γ) : γ := Ox.casesOn i (k u0) (k u1) (k u2) (k u3) (k u4) (k u5) (k u6) (k u7)
theorem selG_eq {γ : Type} (i : Ox) (k : (T3 → T2) → γ) : selG i k = k (get i) := by cases i <;> rfl
theorem selP_eq {γ : Type} (i : Ox) (k : (T2 → T3 → T3) → γ) : selP i k = k (put i) := by cases i <;> rfl
theorem selU_eq {γ : Type} (i : Ox) (k : ((T2 → T2) → T3 → T3) → γ) : selU i k = k (upd i) := by cases i <;> rfl
theorem get_put_same (i : Ox) (x : T2) (r : T3) : get i (put i x r) = x := by cases r; cases i <;> rfl
theorem get_put_ne {i j : Ox} (h : i ≠ j) (x : T2) (r : T3) : get i (put j x r) = get i r := by
  cases r; cases i <;> cases j <;> first | rfl | exact absurd rfl h
theorem get_upd_same (i : Ox) (f : T2 → T2) (r : T3) : get i (upd i f r) = f (get i r) := by cases r; cases i <;> rfl
theorem get_upd_ne {i j : Ox} (h : i ≠ j) (f : T2 → T2) (r : T3) : get i (upd j f r) = get i r := by
  cases r; cases i <;> cases j <;> first | rfl | exact absurd rfl h
theorem get_all (i : Ox) (x : T2) : get i (all x) = x := by cases i <;> rfl
end T3
structure T4 where (a0 a1 a2 a3 a4 a5 a6 a7 : T3)
namespace T4
noncomputable def p0 (x : T3) (r : T4) : T4 := T4.rec (motive := fun _ => T3 → T4) (fun _ a1 a2 a3 a4 a5 a6 a7 x => .mk x a1 a2 a3 a4 a5 a6 a7) r x
noncomputable def p1 (x : T3) (r : T4) : T4 := T4.rec (motive := fun _ => T3 → T4) (fun a0 _ a2 a3 a4 a5 a6 a7 x => .mk a0 x a2 a3 a4 a5 a6 a7) r x
noncomputable def p2 (x : T3) (r : T4) : T4 := T4.rec (motive := fun _ => T3 → T4) (fun a0 a1 _ a3 a4 a5 a6 a7 x => .mk a0 a1 x a3 a4 a5 a6 a7) r x
noncomputable def p3 (x : T3) (r : T4) : T4 := T4.rec (motive := fun _ => T3 → T4) (fun a0 a1 a2 _ a4 a5 a6 a7 x => .mk a0 a1 a2 x a4 a5 a6 a7) r x
noncomputable def p4 (x : T3) (r : T4) : T4 := T4.rec (motive := fun _ => T3 → T4) (fun a0 a1 a2 a3 _ a5 a6 a7 x => .mk a0 a1 a2 a3 x a5 a6 a7) r x
noncomputable def p5 (x : T3) (r : T4) : T4 := T4.rec (motive := fun _ => T3 → T4) (fun a0 a1 a2 a3 a4 _ a6 a7 x => .mk a0 a1 a2 a3 a4 x a6 a7) r x
noncomputable def p6 (x : T3) (r : T4) : T4 := T4.rec (motive := fun _ => T3 → T4) (fun a0 a1 a2 a3 a4 a5 _ a7 x => .mk a0 a1 a2 a3 a4 a5 x a7) r x
noncomputable def p7 (x : T3) (r : T4) : T4 := T4.rec (motive := fun _ => T3 → T4) (fun a0 a1 a2 a3 a4 a5 a6 _ x => .mk a0 a1 a2 a3 a4 a5 a6 x) r x
noncomputable def u0 (f : T3 → T3) (r : T4) : T4 := T4.rec (motive := fun _ => (T3 → T3) → T4) (fun a0 a1 a2 a3 a4 a5 a6 a7 f => .mk (f a0) a1 a2 a3 a4 a5 a6 a7) r f
noncomputable def u1 (f : T3 → T3) (r : T4) : T4 := T4.rec (motive := fun _ => (T3 → T3) → T4) (fun a0 a1 a2 a3 a4 a5 a6 a7 f => .mk a0 (f a1) a2 a3 a4 a5 a6 a7) r f
noncomputable def u2 (f : T3 → T3) (r : T4) : T4 := T4.rec (motive := fun _ => (T3 → T3) → T4) (fun a0 a1 a2 a3 a4 a5 a6 a7 f => .mk a0 a1 (f a2) a3 a4 a5 a6 a7) r f
noncomputable def u3 (f : T3 → T3) (r : T4) : T4 := T4.rec (motive := fun _ => (T3 → T3) → T4) (fun a0 a1 a2 a3 a4 a5 a6 a7 f => .mk a0 a1 a2 (f a3) a4 a5 a6 a7) r f
noncomputable def u4 (f : T3 → T3) (r : T4) : T4 := T4.rec (motive := fun _ => (T3 → T3) → T4) (fun a0 a1 a2 a3 a4 a5 a6 a7 f => .mk a0 a1 a2 a3 (f a4) a5 a6 a7) r f
noncomputable def u5 (f : T3 → T3) (r : T4) : T4 := T4.rec (motive := fun _ => (T3 → T3) → T4) (fun a0 a1 a2 a3 a4 a5 a6 a7 f => .mk a0 a1 a2 a3 a4 (f a5) a6 a7) r f
noncomputable def u6 (f : T3 → T3) (r : T4) : T4 := T4.rec (motive := fun _ => (T3 → T3) → T4) (fun a0 a1 a2 a3 a4 a5 a6 a7 f => .mk a0 a1 a2 a3 a4 a5 (f a6) a7) r f
noncomputable def u7 (f : T3 → T3) (r : T4) : T4 := T4.rec (motive := fun _ => (T3 → T3) → T4) (fun a0 a1 a2 a3 a4 a5 a6 a7 f => .mk a0 a1 a2 a3 a4 a5 a6 (f a7)) r f
noncomputable def get (i : Ox) (r : T4) : T3 := Ox.rec (motive := fun _ => T4 → T3) T4.a0 T4.a1 T4.a2 T4.a3 T4.a4 T4.a5 T4.a6 T4.a7 i r
noncomputable def put (i : Ox) (x : T3) (r : T4) : T4 := Ox.rec (motive := fun _ => T3 → T4 → T4) p0 p1 p2 p3 p4 p5 p6 p7 i x r
noncomputable def upd (i : Ox) (f : T3 → T3) (r : T4) : T4 := Ox.rec (motive := fun _ => (T3 → T3) → T4 → T4) u0 u1 u2 u3 u4 u5 u6 u7 i f r
def all (x : T3) : T4 := .mk x x x x x x x x
noncomputable def selG {γ : Type} (i : Ox) (k : (T4 → T3) → γ) : γ := Ox.casesOn i (k T4.a0) (k T4.a1) (k T4.a2) (k T4.a3) (k T4.a4) (k T4.a5) (k T4.a6) (k T4.a7)
noncomputable def selP {γ : Type} (i : Ox) (k : (T3 → T4 → T4) → γ) : γ := Ox.casesOn i (k p0) (k p1) (k p2) (k p3) (k p4) (k p5) (k p6) (k p7)
noncomputable def selU {γ : Type} (i : Ox) (k : ((T3 → T3) → T4 → T4) → γ) : γ := Ox.casesOn i (k u0) (k u1) (k u2) (k u3) (k u4) (k u5) (k u6) (k u7)
theorem selG_eq {γ : Type} (i : Ox) (k : (T4 → T3) → γ) : selG i k = k (get i) := by cases i <;> rfl
theorem selP_eq {γ : Type} (i : Ox) (k : (T3 → T4 → T4) → γ) : selP i k = k (put i) := by cases i <;> rfl
theorem selU_eq {γ : Type} (i : Ox) (k : ((T3 → T3) → T4 → T4) → γ) : selU i k = k (upd i) := by cases i <;> rfl
theorem get_put_same (i : Ox) (x : T3) (r : T4) : get i (put i x r) = x := by cases r; cases i <;> rfl
theorem get_put_ne {i j : Ox} (h : i ≠ j) (x : T3) (r : T4) : get i (put j x r) = get i r := by
  cases r; cases i <;> cases j <;> first | rfl | exact absurd rfl h
theorem get_upd_same (i : Ox) (f : T3 → T3) (r : T4) : get i (upd i f r) = f (get i r) := by cases r; cases i <;> rfl
theorem get_upd_ne {i j : Ox} (h : i ≠ j) (f : T3 → T3) (r : T4) : get i (upd j f r) = get i r := by
  cases r; cases i <;> cases j <;> first | rfl | exact absurd rfl h
theorem get_all (i : Ox) (x : T3) : get i (all x) = x := by cases i <;> rfl
end T4
/-! ### memory -/
inductive Fz where | no | to (k : Nat) | st
/-- cells: in one row of eight, or in rows of s each -/
inductive Cs where | c1 (r : T1) | c2 (s : Nat) (r : T2) | c3 (s : Nat) (r : T3) | c4 (s : Nat) (r : T4)
inductive Ex where | exit (id : Nat) | goto (l : Nat) | ret
abbrev Tm := T3
inductive B where
  | x
  | g (n : Nat) (cs : Cs)
  | c (e : Nat) (fz : Fz) (ex : Bool) (n : Nat) (cs : Cs)
  | m (es : V)
  | it (c pos : Nat)
  | df
  | lp (st : Nat) (pj : Option Ex) (fn : Nat) (tm : Tm) (ps : List Nat) (asn body : Code) (d : Nat)
  | gi
structure H1 where (a0 a1 a2 a3 a4 a5 a6 a7 : B)
namespace H1
noncomputable def p0 (x : B) (r : H1) : H1 := H1.rec (motive := fun _ => B → H1) (fun _ a1 a2 a3 a4 a5 a6 a7 x => .mk x a1 a2 a3 a4 a5 a6 a7) r x
noncomputable def p1 (x : B) (r : H1) : H1 := H1.rec (motive := fun _ => B → H1) (fun a0 _ a2 a3 a4 a5 a6 a7 x => .mk a0 x a2 a3 a4 a5 a6 a7) r x
noncomputable def p2 (x : B) (r : H1) : H1 := H1.rec (motive := fun _ => B → H1) (fun a0 a1 _ a3 a4 a5 a6 a7 x => .mk a0 a1 x a3 a4 a5 a6 a7) r x
noncomputable def p3 (x : B) (r : H1) : H1 := H1.rec (motive := fun _ => B → H1) (fun a0 a1 a2 _ a4 a5 a6 a7 x => .mk a0 a1 a2 x a4 a5 a6 a7) r x
noncomputable def p4 (x : B) (r : H1) : H1 := H1.rec (motive := fun _ => B → H1) (fun a0 a1 a2 a3 _ a5 a6 a7 x => .mk a0 a1 a2 a3 x a5 a6 a7) r x
noncomputable def p5 (x : B) (r : H1) : H1 := H1.rec (motive := fun _ => B → H1) (fun a0 a1 a2 a3 a4 _ a6 a7 x => .mk a0 a1 a2 a3 a4 x a6 a7) r x
noncomputable def p6 (x : B) (r : H1) : H1 := H1.rec (motive := fun _ => B → H1) (fun a0 a1 a2 a3 a4 a5 _ a7 x => .mk a0 a1 a2 a3 a4 a5 x a7) r x
noncomputable def p7 (x : B) (r : H1) : H1 := H1.rec (motive := fun _ => B → H1) (fun a0 a1 a2 a3 a4 a5 a6 _ x => .mk a0 a1 a2 a3 a4 a5 a6 x) r x
noncomputable def u0 (f : B → B) (r : H1) : H1 := H1.rec (motive := fun _ => (B → B) → H1) (fun a0 a1 a2 a3 a4 a5 a6 a7 f => .mk (f a0) a1 a2 a3 a4 a5 a6 a7) r f
noncomputable def u1 (f : B → B) (r : H1) : H1 := H1.rec (motive := fun _ => (B → B) → H1) (fun a0 a1 a2 a3 a4 a5 a6 a7 f => .mk a0 (f a1) a2 a3 a4 a5 a6 a7) r f
noncomputable def u2 (f : B → B) (r : H1) : H1 := H1.rec (motive := fun _ => (B → B) → H1) (fun a0 a1 a2 a3 a4 a5 a6 a7 f => .mk a0 a1 (f a2) a3 a4 a5 a6 a7) r f
noncomputable def u3 (f : B → B) (r : H1) : H1 := H1.rec (motive := fun _ => (B → B) → H1) (fun a0 a1 a2 a3 a4 a5 a6 a7 f => .mk a0 a1 a2 (f a3) a4 a5 a6 a7) r f
noncomputable def u4 (f : B → B) (r : H1) : H1 := H1.rec (motive := fun _ => (B → B) → H1) (fun a0 a1 a2 a3 a4 a5 a6 a7 f => .mk a0 a1 a2 a3 (f a4) a5 a6 a7) r f
noncomputable def u5 (f : B → B) (r : H1) : H1 := H1.rec (motive := fun _ => (B → B) → H1) (fun a0 a1 a2 a3 a4 a5 a6 a7 f => .mk a0 a1 a2 a3 a4 (f a5) a6 a7) r f
noncomputable def u6 (f : B → B) (r : H1) : H1 := H1.rec (motive := fun _ => (B → B) → H1) (fun a0 a1 a2 a3 a4 a5 a6 a7 f => .mk a0 a1 a2 a3 a4 a5 (f a6) a7) r f
noncomputable def u7 (f : B → B) (r : H1) : H1 := H1.rec (motive := fun _ => (B → B) → H1) (fun a0 a1 a2 a3 a4 a5 a6 a7 f => .mk a0 a1 a2 a3 a4 a5 a6 (f a7)) r f
noncomputable def get (i : Ox) (r : H1) : B := Ox.rec (motive := fun _ => H1 → B) H1.a0 H1.a1 H1.a2 H1.a3 H1.a4 H1.a5 H1.a6 H1.a7 i r
noncomputable def put (i : Ox) (x : B) (r : H1) : H1 := Ox.rec (motive := fun _ => B → H1 → H1) p0 p1 p2 p3 p4 p5 p6 p7 i x r
noncomputable def upd (i : Ox) (f : B → B) (r : H1) : H1 := Ox.rec (motive := fun _ => (B → B) → H1 → H1) u0 u1 u2 u3 u4 u5 u6 u7 i f r
def all (x : B) : H1 := .mk x x x x x x x x
noncomputable def selG {γ : Type} (i : Ox) (k : (H1 → B) → γ) : γ := Ox.casesOn i (k H1.a0) (k H1.a1) (k H1.a2) (k H1.a3) (k H1.a4) (k H1.a5) (k H1.a6) (k H1.a7)
noncomputable def selP {γ : Type} (i : Ox) (k : (B → H1 → H1) → γ) : γ := Ox.casesOn i (k p0) (k p1) (k p2) (k p3) (k p4) (k p5) (k p6) (k p7)
noncomputable def selU {γ : Type} (i : Ox) (k : ((B → B) → H1 → H1) → γ) : γ := Ox.casesOn i (k u0) (k u1) (k u2) (k u3) (k u4) (k u5) (k u6) (k u7)
theorem selG_eq {γ : Type} (i : Ox) (k : (H1 → B) → γ) : selG i k = k (get i) := by cases i <;> rfl
theorem selP_eq {γ : Type} (i : Ox) (k : (B → H1 → H1) → γ) : selP i k = k (put i) := by cases i <;> rfl
theorem selU_eq {γ : Type} (i : Ox) (k : ((B → B) → H1 → H1) → γ) : selU i k = k (upd i) := by cases i <;> rfl
theorem get_put_same (i : Ox) (x : B) (r : H1) : get i (put i x r) = x := by cases r; cases i <;> rfl
theorem get_put_ne {i j : Ox} (h : i ≠ j) (x : B) (r : H1) : get i (put j x r) = get i r := by
  cases r; cases i <;> cases j <;> first | rfl | exact absurd rfl h
theorem get_upd_same (i : Ox) (f : B → B) (r : H1) : get i (upd i f r) = f (get i r) := by cases r; cases i <;> rfl
theorem get_upd_ne {i j : Ox} (h : i ≠ j) (f : B → B) (r : H1) : get i (upd j f r) = get i r := by
  cases r; cases i <;> cases j <;> first | rfl | exact absurd rfl h
theorem get_all (i : Ox) (x : B) : get i (all x) = x := by cases i <;> rfl
end H1
structure H2 where (a0 a1 a2 a3 a4 a5 a6 a7 : H1)
namespace H2
noncomputable def p0 (x : H1) (r : H2) : H2 := H2.rec (motive := fun _ => H1 → H2) (fun _ a1 a2 a3 a4 a5 a6 a7 x => .mk x a1 a2 a3 a4 a5 a6 a7) r x
noncomputable def p1 (x : H1) (r : H2) : H2 := H2.rec (motive := fun _ => H1 → H2) (fun a0 _ a2 a3 a4 a5 a6 a7 x => .mk a0 x a2 a3 a4 a5 a6 a7) r x
noncomputable def p2 (x : H1) (r : H2) : H2 := H2.rec (motive := fun _ => H1 → H2) (fun a0 a1 _ a3 a4 a5 a6 a7 x => .mk a0 a1 x a3 a4 a5 a6 a7) r x
noncomputable def p3 (x : H1) (r : H2) : H2 := H2.rec (motive := fun _ => H1 → H2) (fun a0 a1 a2 _ a4 a5 a6 a7 x => .mk a0 a1 a2 x a4 a5 a6 a7) r x
noncomputable def p4 (x : H1) (r : H2) : H2 := H2.rec (motive := fun _ => H1 → H2) (fun a0 a1 a2 a3 _ a5 a6 a7 x => .mk a0 a1 a2 a3 x a5 a6 a7) r x
noncomputable def p5 (x : H1) (r : H2) : H2 := H2.rec (motive := fun _ => H1 → H2) (fun a0 a1 a2 a3 a4 _ a6 a7 x => .mk a0 a1 a2 a3 a4 x a6 a7) r x
noncomputable def p6 (x : H1) (r : H2) : H2 := H2.rec (motive := fun _ => H1 → H2) (fun a0 a1 a2 a3 a4 a5 _ a7 x => .mk a0 a1 a2 a3 a4 a5 x a7) r x
noncomputable def p7 (x : H1) (r : H2) : H2 := H2.rec (motive := fun _ => H1 → H2) (fun a0 a1 a2 a3 a4 a5 a6 _ x => .mk a0 a1 a2 a3 a4 a5 a6 x) r x
noncomputable def u0 (f : H1 → H1) (r : H2) : H2 := H2.rec (motive := fun _ => (H1 → H1) → H2) (fun a0 a1 a2 a3 a4 a5 a6 a7 f => .mk (f a0) a1 a2 a3 a4 a5 a6 a7) r f
noncomputable def u1 (f : H1 → H1) (r : H2) : H2 := H2.rec (motive := fun _ => (H1 → H1) → H2) (fun a0 a1 a2 a3 a4 a5 a6 a7 f => .mk a0 (f a1) a2 a3 a4 a5 a6 a7) r f
noncomputable def u2 (f : H1 → H1) (r : H2) : H2 := H2.rec (motive := fun _ => (H1 → H1) → H2) (fun a0 a1 a2 a3 a4 a5 a6 a7 f => .mk a0 a1 (f a2) a3 a4 a5 a6 a7) r f
noncomputable def u3 (f : H1 → H1) (r : H2) : H2 := H2.rec (motive := fun _ => (H1 → H1) → H2) (fun a0 a1 a2 a3 a4 a5 a6 a7 f => .mk a0 a1 a2 (f a3) a4 a5 a6 a7) r f
noncomputable def u4 (f : H1 → H1) (r : H2) : H2 := H2.rec (motive := fun _ => (H1 → H1) → H2) (fun a0 a1 a2 a3 a4 a5 a6 a7 f => .mk a0 a1 a2 a3 (f a4) a5 a6 a7) r f
noncomputable def u5 (f : H1 → H1) (r : H2) : H2 := H2.rec (motive := fun _ => (H1 → H1) → H2) (fun a0 a1 a2 a3 a4 a5 a6 a7 f => .mk a0 a1 a2 a3 a4 (f a5) a6 a7) r f
noncomputable def u6 (f : H1 → H1) (r : H2) : H2 := H2.rec (motive := fun _ => (H1 → H1) → H2) (fun a0 a1 a2 a3 a4 a5 a6 a7 f => .mk a0 a1 a2 a3 a4 a5 (f a6) a7) r f
noncomputable def u7 (f : H1 → H1) (r : H2) : H2 := H2.rec (motive := fun _ => (H1 → H1) → H2) (fun a0 a1 a2 a3 a4 a5 a6 a7 f => .mk a0 a1 a2 a3 a4 a5 a6 (f a7)) r f
noncomputable def get (i : Ox) (r : H2) : H1 := Ox.rec (motive := fun _ => H2 → H1) H2.a0 H2.a1 H2.a2 H2.a3 H2.a4 H2.a5 H2.a6 H2.a7 i r
noncomputable def put (i : Ox) (x : H1) (r : H2) : H2 := Ox.rec (motive := fun _ => H1 → H2 → H2) p0 p1 p2 p3 p4 p5 p6 p7 i x r
noncomputable def upd (i : Ox) (f : H1 → H1) (r : H2) : H2 := Ox.rec (motive := fun _ => (H1 → H1) → H2 → H2) u0 u1 u2 u3 u4 u5 u6 u7 i f r
def all (x : H1) : H2 := .mk x x x x x x x x
noncomputable def selG {γ : Type} (i : Ox) (k : (H2 → H1) → γ) : γ := Ox.casesOn i (k H2.a0) (k H2.a1) (k H2.a2) (k H2.a3) (k H2.a4) (k H2.a5) (k H2.a6) (k H2.a7)
noncomputable def selP {γ : Type} (i : Ox) (k : (H1 → H2 → H2) → γ) : γ := Ox.casesOn i (k p0) (k p1) (k p2) (k p3) (k p4) (k p5) (k p6) (k p7)
noncomputable def selU {γ : Type} (i : Ox) (k : ((H1 → H1) → H2 → H2) → γ) : γ := Ox.casesOn i (k u0) (k u1) (k u2) (k u3) (k u4) (k u5) (k u6) (k u7)
theorem selG_eq {γ : Type} (i : Ox) (k : (H2 → H1) → γ) : selG i k = k (get i) := by cases i <;> rfl
theorem selP_eq {γ : Type} (i : Ox) (k : (H1 → H2 → H2) → γ) : selP i k = k (put i) := by cases i <;> rfl
theorem selU_eq {γ : Type} (i : Ox) (k : ((H1 → H1) → H2 → H2) → γ) : selU i k = k (upd i) := by cases i <;> rfl
theorem get_put_same (i : Ox) (x : H1) (r : H2) : get i (put i x r) = x := by cases r; cases i <;> rfl
theorem get_put_ne {i j : Ox} (h : i ≠ j) (x : H1) (r : H2) : get i (put j x r) = get i r := by
  cases r; cases i <;> cases j <;> first | rfl | exact absurd rfl h
theorem get_upd_same (i : Ox) (f : H1 → H1) (r : H2) : get i (upd i f r) = f (get i r) := by cases r; cases i <;> rfl
theorem get_upd_ne {i j : Ox} (h : i ≠ j) (f : H1 → H1) (r : H2) : get i (upd j f r) = get i r := by
  cases r; cases i <;> cases j <;> first | rfl | exact absurd rfl h
theorem get_all (i : Ox) (x : H1) : get i (all x) = x := by cases i <;> rfl
end H2
structure H3 where (a0 a1 a2 a3 a4 a5 a6 a7 : H2)
namespace H3
noncomputable def p0 (x : H2) (r : H3) : H3 := H3.rec (motive := fun _ => H2 → H3) (fun _ a1 a2 a3 a4 a5 a6 a7 x => .mk x a1 a2 a3 a4 a5 a6 a7) r x
noncomputable def p1 (x : H2) (r : H3) : H3 := H3.rec (motive := fun _ => H2 → H3) (fun a0 _ a2 a3 a4 a5 a6 a7 x => .mk a0 x a2 a3 a4 a5 a6 a7) r x
noncomputable def p2 (x : H2) (r : H3) : H3 := H3.rec (motive := fun _ => H2 → H3) (fun a0 a1 _ a3 a4 a5 a6 a7 x => .mk a0 a1 x a3 a4 a5 a6 a7) r x
noncomputable def p3 (x : H2) (r : H3) : H3 := H3.rec (motive := fun _ => H2 → H3) (fun a0 a1 a2 _ a4 a5 a6 a7 x => .mk a0 a1 a2 x a4 a5 a6 a7) r x
noncomputable def p4 (x : H2) (r : H3) : H3 := H3.rec (motive := fun _ => H2 → H3) (fun a0 a1 a2 a3 _ a5 a6 a7 x => .mk a0 a1 a2 a3 x a5 a6 a7) r x
noncomputable def p5 (x : H2) (r : H3) : H3 := H3.rec (motive := fun _ => H2 → H3) (fun a0 a1 a2 a3 a4 _ a6 a7 x => .mk a0 a1 a2 a3 a4 x a6 a7) r x
noncomputable def p6 (x : H2) (r : H3) : H3 := H3.rec (motive := fun _ => H2 → H3) (fun a0 a1 a2 a3 a4 a5 _ a7 x => .mk a0 a1 a2 a3 a4 a5 x a7) r x
noncomputable def p7 (x : H2) (r : H3) : H3 := H3.rec (motive := fun _ => H2 → H3) (fun a0 a1 a2 a3 a4 a5 a6 _ x => .mk a0 a1 a2 a3 a4 a5 a6 x) r x
noncomputable def u0 (f : H2 → H2) (r : H3) : H3 := H3.rec (motive := fun _ => (H2 → H2) → H3) (fun a0 a1 a2 a3 a4 a5 a6 a7 f => .mk (f a0) a1 a2 a3 a4 a5 a6 a7) r f
noncomputable def u1 (f : H2 → H2) (r : H3) : H3 := H3.rec (motive := fun _ => (H2 → H2) → H3) (fun a0 a1 a2 a3 a4 a5 a6 a7 f => .mk a0 (f a1) a2 a3 a4 a5 a6 a7) r f
noncomputable def u2 (f : H2 → H2) (r : H3) : H3 := H3.rec (motive := fun _ => (H2 → H2) → H3) (fun a0 a1 a2 a3 a4 a5 a6 a7 f => .mk a0 a1 (f a2) a3 a4 a5 a6 a7) r f
noncomputable def u3 (f : H2 → H2) (r : H3) : H3 := H3.rec (motive := fun _ => (H2 → H2) → H3) (fun a0 a1 a2 a3 a4 a5 a6 a7 f => .mk a0 a1 a2 (f a3) a4 a5 a6 a7) r f
noncomputable def u4 (f : H2 → H2) (r : H3) : H3 := H3.rec (motive := fun _ => (H2 → H2) → H3) (fun a0 a1 a2 a3 a4 a5 a6 a7 f => .mk a0 a1 a2 a3 (f a4) a5 a6 a7) r f
noncomputable def u5 (f : H2 → H2) (r : H3) : H3 := H3.rec (motive := fun _ => (H2 → H2) → H3) (fun a0 a1 a2 a3 a4 a5 a6 a7 f => .mk a0 a1 a2 a3 a4 (f a5) a6 a7) r f
noncomputable def u6 (f : H2 → H2) (r : H3) : H3 := H3.rec (motive := fun _ => (H2 → H2) → H3) (fun a0 a1 a2 a3 a4 a5 a6 a7 f => .mk a0 a1 a2 a3 a4 a5 (f a6) a7) r f
noncomputable def u7 (f : H2 → H2) (r : H3) : H3 := H3.rec (motive := fun _ => (H2 → H2) → H3) (fun a0 a1 a2 a3 a4 a5 a6 a7 f => .mk a0 a1 a2 a3 a4 a5 a6 (f a7)) r f
noncomputable def get (i : Ox) (r : H3) : H2 := Ox.rec (motive := fun _ => H3 → H2) H3.a0 H3.a1 H3.a2 H3.a3 H3.a4 H3.a5 H3.a6 H3.a7 i r
noncomputable def put (i : Ox) (x : H2) (r : H3) : H3 := Ox.rec (motive := fun _ => H2 → H3 → H3) p0 p1 p2 p3 p4 p5 p6 p7 i x r
noncomputable def upd (i : Ox) (f : H2 → H2) (r : H3) : H3 := Ox.rec (motive := fun _ => (H2 → H2) → H3 → H3) u0 u1 u2 u3 u4 u5 u6 u7 i f r
def all (x : H2) : H3 := .mk x x x x x x x x
noncomputable def selG {γ : Type} (i : Ox) (k : (H3 → H2) → γ) : γ := Ox.casesOn i (k H3.a0) (k H3.a1) (k H3.a2) (k H3.a3) (k H3.a4) (k H3.a5) (k H3.a6) (k H3.a7)
noncomputable def selP {γ : Type} (i : Ox) (k : (H2 → H3 → H3) → γ) : γ := Ox.casesOn i (k p0) (k p1) (k p2) (k p3) (k p4) (k p5) (k p6) (k p7)
noncomputable def selU {γ : Type} (i : Ox) (k : ((H2 → H2) → H3 → H3) → γ) : γ := Ox.casesOn i (k u0) (k u1) (k u2) (k u3) (k u4) (k u5) (k u6) (k u7)
theorem selG_eq {γ : Type} (i : Ox) (k : (H3 → H2) → γ) : selG i k = k (get i) := by cases i <;> rfl
theorem selP_eq {γ : Type} (i : Ox) (k : (H2 → H3 → H3) → γ) : selP i k = k (put i) := by cases i <;> rfl
theorem selU_eq {γ : Type} (i : Ox) (k : ((H2 → H2) → H3 → H3) → γ) : selU i k = k (upd i) := by cases i <;> rfl
theorem get_put_same (i : Ox) (x : H2) (r : H3) : get i (put i x r) = x := by cases r; cases i <;> rfl
theorem get_put_ne {i j : Ox} (h : i ≠ j) (x : H2) (r : H3) : get i (put j x r) = get i r := by
  cases r; cases i <;> cases j <;> first | rfl | exact absurd rfl h
theorem get_upd_same (i : Ox) (f : H2 → H2) (r : H3) : get i (upd i f r) = f (get i r) := by cases r; cases i <;> rfl
theorem get_upd_ne {i j : Ox} (h : i ≠ j) (f : H2 → H2) (r : H3) : get i (upd j f r) = get i r := by
  cases r; cases i <;> cases j <;> first | rfl | exact absurd rfl h
theorem get_all (i : Ox) (x : H2) : get i (all x) = x := by cases i <;> rfl
end H3
structure H4 where (a0 a1 a2 a3 a4 a5 a6 a7 : H3)
namespace H4
noncomputable def p0 (x : H3) (r : H4) : H4 := H4.rec (motive := fun _ => H3 → H4) (fun _ a1 a2 a3 a4 a5 a6 a7 x => .mk x a1 a2 a3 a4 a5 a6 a7) r x
noncomputable def p1 (x : H3) (r : H4) : H4 := H4.rec (motive := fun _ => H3 → H4) (fun a0 _ a2 a3 a4 a5 a6 a7 x => .mk a0 x a2 a3 a4 a5 a6 a7) r x
noncomputable def p2 (x : H3) (r : H4) : H4 := H4.rec (motive := fun _ => H3 → H4) (fun a0 a1 _ a3 a4 a5 a6 a7 x => .mk a0 a1 x a3 a4 a5 a6 a7) r x
noncomputable def p3 (x : H3) (r : H4) : H4 := H4.rec (motive := fun _ => H3 → H4) (fun a0 a1 a2 _ a4 a5 a6 a7 x => .mk a0 a1 a2 x a4 a5 a6 a7) r x
noncomputable def p4 (x : H3) (r : H4) : H4 := H4.rec (motive := fun _ => H3 → H4) (fun a0 a1 a2 a3 _ a5 a6 a7 x => .mk a0 a1 a2 a3 x a5 a6 a7) r x
noncomputable def p5 (x : H3) (r : H4) : H4 := H4.rec (motive := fun _ => H3 → H4) (fun a0 a1 a2 a3 a4 _ a6 a7 x => .mk a0 a1 a2 a3 a4 x a6 a7) r x
noncomputable def p6 (x : H3) (r : H4) : H4 := H4.rec (motive := fun _ => H3 → H4) (fun a0 a1 a2 a3 a4 a5 _ a7 x => .mk a0 a1 a2 a3 a4 a5 x a7) r x
noncomputable def p7 (x : H3) (r : H4) : H4 := H4.rec (motive := fun _ => H3 → H4) (fun a0 a1 a2 a3 a4 a5 a6 _ x => .mk a0 a1 a2 a3 a4 a5 a6 x) r x
noncomputable def u0 (f : H3 → H3) (r : H4) : H4 := H4.rec (motive := fun _ => (H3 → H3) → H4) (fun a0 a1 a2 a3 a4 a5 a6 a7 f => .mk (f a0) a1 a2 a3 a4 a5 a6 a7) r f
noncomputable def u1 (f : H3 → H3) (r : H4) : H4 := H4.rec (motive := fun _ => (H3 → H3) → H4) (fun a0 a1 a2 a3 a4 a5 a6 a7 f => .mk a0 (f a1) a2 a3 a4 a5 a6 a7) r f
noncomputable def u2 (f : H3 → H3) (r : H4) : H4 := H4.rec (motive := fun _ => (H3 → H3) → H4) (fun a0 a1 a2 a3 a4 a5 a6 a7 f => .mk a0 a1 (f a2) a3 a4 a5 a6 a7) r f
noncomputable def u3 (f : H3 → H3) (r : H4) : H4 := H4.rec (motive := fun _ => (H3 → H3) → H4) (fun a0 a1 a2 a3 a4 a5 a6 a7 f => .mk a0 a1 a2 (f a3) a4 a5 a6 a7) r f
noncomputable def u4 (f : H3 → H3) (r : H4) : H4 := H4.rec (motive := fun _ => (H3 → H3) → H4) (fun a0 a1 a2 a3 a4 a5 a6 a7 f => .mk a0 a1 a2 a3 (f a4) a5 a6 a7) r f
noncomputable def u5 (f : H3 → H3) (r : H4) : H4 := H4.rec (motive := fun _ => (H3 → H3) → H4) (fun a0 a1 a2 a3 a4 a5 a6 a7 f => .mk a0 a1 a2 a3 a4 (f a5) a6 a7) r f
noncomputable def u6 (f : H3 → H3) (r : H4) : H4 := H4.rec (motive := fun _ => (H3 → H3) → H4) (fun a0 a1 a2 a3 a4 a5 a6 a7 f => .mk a0 a1 a2 a3 a4 a5 (f a6) a7) r f
noncomputable def u7 (f : H3 → H3) (r : H4) : H4 := H4.rec (motive := fun _ => (H3 → H3) → H4) (fun a0 a1 a2 a3 a4 a5 a6 a7 f => .mk a0 a1 a2 a3 a4 a5 a6 (f a7)) r f
noncomputable def get (i : Ox) (r : H4) : H3 := Ox.rec (motive := fun _ => H4 → H3) H4.a0 H4.a1 H4.a2 H4.a3 H4.a4 H4.a5 H4.a6 H4.a7 i r
noncomputable def put (i : Ox) (x : H3) (r : H4) : H4 := Ox.rec (motive := fun _ => H3 → H4 → H4) p0 p1 p2 p3 p4 p5 p6 p7 i x r
noncomputable def upd (i : Ox) (f : H3 → H3) (r : H4) : H4 := Ox.rec (motive := fun _ => (H3 → H3) → H4 → H4) u0 u1 u2 u3 u4 u5 u6 u7 i f r
def all (x : H3) : H4 := .mk x x x x x x x x
noncomputable def selG {γ : Type} (i : Ox) (k : (H4 → H3) → γ) : γ := Ox.casesOn i (k H4.a0) (k H4.a1) (k H4.a2) (k H4.a3) (k H4.a4) (k H4.a5) (k H4.a6) (k H4.a7)
noncomputable def selP {γ : Type} (i : Ox) (k : (H3 → H4 → H4) → γ) : γ := Ox.casesOn i (k p0) (k p1) (k p2) (k p3) (k p4) (k p5) (k p6) (k p7)
noncomputable def selU {γ : Type} (i : Ox) (k : ((H3 → H3) → H4 → H4) → γ) : γ := Ox.casesOn i (k u0) (k u1) (k u2) (k u3) (k u4) (k u5) (k u6) (k u7)
theorem selG_eq {γ : Type} (i : Ox) (k : (H4 → H3) → γ) : selG i k = k (get i) := by cases i <;> rfl
theorem selP_eq {γ : Type} (i : Ox) (k : (H3 → H4 → H4) → γ) : selP i k = k (put i) := by cases i <;> rfl
theorem selU_eq {γ : Type} (i : Ox) (k : ((H3 → H3) → H4 → H4) → γ) : selU i k = k (upd i) := by cases i <;> rfl
theorem get_put_same (i : Ox) (x : H3) (r : H4) : get i (put i x r) = x := by cases r; cases i <;> rfl
theorem get_put_ne {i j : Ox} (h : i ≠ j) (x : H3) (r : H4) : get i (put j x r) = get i r := by
  cases r; cases i <;> cases j <;> first | rfl | exact absurd rfl h
theorem get_upd_same (i : Ox) (f : H3 → H3) (r : H4) : get i (upd i f r) = f (get i r) := by cases r; cases i <;> rfl
theorem get_upd_ne {i j : Ox} (h : i ≠ j) (f : H3 → H3) (r : H4) : get i (upd j f r) = get i r := by
  cases r; cases i <;> cases j <;> first | rfl | exact absurd rfl h
theorem get_all (i : Ox) (x : H3) : get i (all x) = x := by cases i <;> rfl
end H4
structure H5 where (a0 a1 a2 a3 a4 a5 a6 a7 : H4)
namespace H5
noncomputable def p0 (x : H4) (r : H5) : H5 := H5.rec (motive := fun _ => H4 → H5) (fun _ a1 a2 a3 a4 a5 a6 a7 x => .mk x a1 a2 a3 a4 a5 a6 a7) r x
noncomputable def p1 (x : H4) (r : H5) : H5 := H5.rec (motive := fun _ => H4 → H5) (fun a0 _ a2 a3 a4 a5 a6 a7 x => .mk a0 x a2 a3 a4 a5 a6 a7) r x
noncomputable def p2 (x : H4) (r : H5) : H5 := H5.rec (motive := fun _ => H4 → H5) (fun a0 a1 _ a3 a4 a5 a6 a7 x => .mk a0 a1 x a3 a4 a5 a6 a7) r x
noncomputable def p3 (x : H4) (r : H5) : H5 := H5.rec (motive := fun _ => H4 → H5) (fun a0 a1 a2 _ a4 a5 a6 a7 x => .mk a0 a1 a2 x a4 a5 a6 a7) r x
noncomputable def p4 (x : H4) (r : H5) : H5 := H5.rec (motive := fun _ => H4 → H5) (fun a0 a1 a2 a3 _ a5 a6 a7 x => .mk a0 a1 a2 a3 x a5 a6 a7) r x
noncomputable def p5 (x : H4) (r : H5) : H5 := H5.rec (motive := fun _ => H4 → H5) (fun a0 a1 a2 a3 a4 _ a6 a7 x => .mk a0 a1 a2 a3 a4 x a6 a7) r x
noncomputable def p6 (x : H4) (r : H5) : H5 := H5.rec (motive := fun _ => H4 → H5) (fun a0 a1 a2 a3 a4 a5 _ a7 x => .mk a0 a1 a2 a3 a4 a5 x a7) r x
noncomputable def p7 (x : H4) (r : H5) : H5 := H5.rec (motive := fun _ => H4 → H5) (fun a0 a1 a2 a3 a4 a5 a6 _ x => .mk a0 a1 a2 a3 a4 a5 a6 x) r x
noncomputable def u0 (f : H4 → H4) (r : H5) : H5 := H5.rec (motive := fun _ => (H4 → H4) → H5) (fun a0 a1 a2 a3 a4 a5 a6 a7 f => .mk (f a0) a1 a2 a3 a4 a5 a6 a7) r f
noncomputable def u1 (f : H4 → H4) (r : H5) : H5 := H5.rec (motive := fun _ => (H4 → H4) → H5) (fun a0 a1 a2 a3 a4 a5 a6 a7 f => .mk a0 (f a1) a2 a3 a4 a5 a6 a7) r f
noncomputable def u2 (f : H4 → H4) (r : H5) : H5 := H5.rec (motive := fun _ => (H4 → H4) → H5) (fun a0 a1 a2 a3 a4 a5 a6 a7 f => .mk a0 a1 (f a2) a3 a4 a5 a6 a7) r f
noncomputable def u3 (f : H4 → H4) (r : H5) : H5 := H5.rec (motive := fun _ => (H4 → H4) → H5) (fun a0 a1 a2 a3 a4 a5 a6 a7 f => .mk a0 a1 a2 (f a3) a4 a5 a6 a7) r f
noncomputable def u4 (f : H4 → H4) (r : H5) : H5 := H5.rec (motive := fun _ => (H4 → H4) → H5) (fun a0 a1 a2 a3 a4 a5 a6 a7 f => .mk a0 a1 a2 a3 (f a4) a5 a6 a7) r f
noncomputable def u5 (f : H4 → H4) (r : H5) : H5 := H5.rec (motive := fun _ => (H4 → H4) → H5) (fun a0 a1 a2 a3 a4 a5 a6 a7 f => .mk a0 a1 a2 a3 a4 (f a5) a6 a7) r f
noncomputable def u6 (f : H4 → H4) (r : H5) : H5 := H5.rec (motive := fun _ => (H4 → H4) → H5) (fun a0 a1 a2 a3 a4 a5 a6 a7 f => .mk a0 a1 a2 a3 a4 a5 (f a6) a7) r f
noncomputable def u7 (f : H4 → H4) (r : H5) : H5 := H5.rec (motive := fun _ => (H4 → H4) → H5) (fun a0 a1 a2 a3 a4 a5 a6 a7 f => .mk a0 a1 a2 a3 a4 a5 a6 (f a7)) r f
noncomputable def get (i : Ox) (r : H5) : H4 := Ox.rec (motive := fun _ => H5 → H4) H5.a0 H5.a1 H5.a2 H5.a3 H5.a4 H5.a5 H5.a6 H5.a7 i r
noncomputable def put (i : Ox) (x : H4) (r : H5) : H5 := Ox.rec (motive := fun _ => H4 → H5 → H5) p0 p1 p2 p3 p4 p5 p6 p7 i x r
noncomputable def upd (i : Ox) (f : H4 → H4) (r : H5) : H5 := Ox.rec (motive := fun _ => (H4 → H4) → H5 → H5) u0 u1 u2 u3 u4 u5 u6 u7 i f r
def all (x : H4) : H5 := .mk x x x x x x x x
noncomputable def selG {γ : Type} (i : Ox) (k : (H5 → H4) → γ) : γ := Ox.casesOn i (k H5.a0) (k H5.a1) (k H5.a2) (k H5.a3) (k H5.a4) (k H5.a5) (k H5.a6) (k H5.a7)
noncomputable def selP {γ : Type} (i : Ox) (k : (H4 → H5 → H5) → γ) : γ := Ox.casesOn i (k p0) (k p1) (k p2) (k p3) (k p4) (k p5) (k p6) (k p7)
noncomputable def selU {γ : Type} (i : Ox) (k : ((H4 → H4) → H5 → H5) → γ) : γ := Ox.casesOn i (k u0) (k u1) (k u2) (k u3) (k u4) (k u5) (k u6) (k u7)
theorem selG_eq {γ : Type} (i : Ox) (k : (H5 → H4) → γ) : selG i k = k (get i) := by cases i <;> rfl
theorem selP_eq {γ : Type} (i : Ox) (k : (H4 → H5 → H5) → γ) : selP i k = k (put i) := by cases i <;> rfl
theorem selU_eq {γ : Type} (i : Ox) (k : ((H4 → H4) → H5 → H5) → γ) : selU i k = k (upd i) := by cases i <;> rfl
theorem get_put_same (i : Ox) (x : H4) (r : H5) : get i (put i x r) = x := by cases r; cases i <;> rfl
theorem get_put_ne {i j : Ox} (h : i ≠ j) (x : H4) (r : H5) : get i (put j x r) = get i r := by
  cases r; cases i <;> cases j <;> first | rfl | exact absurd rfl h
theorem get_upd_same (i : Ox) (f : H4 → H4) (r : H5) : get i (upd i f r) = f (get i r) := by cases r; cases i <;> rfl
theorem get_upd_ne {i j : Ox} (h : i ≠ j) (f : H4 → H4) (r : H5) : get i (upd j f r) = get i r := by
  cases r; cases i <;> cases j <;> first | rfl | exact absurd rfl h
theorem get_all (i : Ox) (x : H4) : get i (all x) = x := by cases i <;> rfl
end H5
noncomputable def obC (g : Nat → Fz → Bool → Nat → Cs → Option V) (b : B) : Option V := B.rec (motive := fun _ => (Nat → Fz → Bool → Nat → Cs → Option V) → Option V) (fun _ => none) (fun _ _ _ => none) (fun x0 x1 x2 x3 x4 g => g x0 x1 x2 x3 x4) (fun _ _ => none) (fun _ _ _ => none) (fun _ => none) (fun _ _ _ _ _ _ _ _ _ => none) (fun _ => none) b g
noncomputable def obM (g : V → Option V) (b : B) : Option V := B.rec (motive := fun _ => (V → Option V) → Option V) (fun _ => none) (fun _ _ _ => none) (fun _ _ _ _ _ _ => none) (fun x0 g => g x0) (fun _ _ _ => none) (fun _ => none) (fun _ _ _ _ _ _ _ _ _ => none) (fun _ => none) b g
noncomputable def obIt (g : Nat → Nat → Option V) (b : B) : Option V := B.rec (motive := fun _ => (Nat → Nat → Option V) → Option V) (fun _ => none) (fun _ _ _ => none) (fun _ _ _ _ _ _ => none) (fun _ _ => none) (fun x0 x1 g => g x0 x1) (fun _ => none) (fun _ _ _ _ _ _ _ _ _ => none) (fun _ => none) b g
noncomputable def obDf (g : Option V) (b : B) : Option V := B.rec (motive := fun _ => (Option V) → Option V) (fun _ => none) (fun _ _ _ => none) (fun _ _ _ _ _ _ => none) (fun _ _ => none) (fun _ _ _ => none) (fun g => g) (fun _ _ _ _ _ _ _ _ _ => none) (fun _ => none) b g
noncomputable def obLp (g : Nat → Option Ex → Nat → Tm → List Nat → Code → Code → Nat → Option V) (b : B) : Option V := B.rec (motive := fun _ => (Nat → Option Ex → Nat → Tm → List Nat → Code → Code → Nat → Option V) → Option V) (fun _ => none) (fun _ _ _ => none) (fun _ _ _ _ _ _ => none) (fun _ _ => none) (fun _ _ _ => none) (fun _ => none) (fun x0 x1 x2 x3 x4 x5 x6 x7 g => g x0 x1 x2 x3 x4 x5 x6 x7) (fun _ => none) b g
noncomputable def obGi (g : Option V) (b : B) : Option V := B.rec (motive := fun _ => (Option V) → Option V) (fun _ => none) (fun _ _ _ => none) (fun _ _ _ _ _ _ => none) (fun _ _ => none) (fun _ _ _ => none) (fun _ => none) (fun _ _ _ _ _ _ _ _ _ => none) (fun g => g) b g
noncomputable def qbC (g : Nat → Fz → Bool → Nat → Cs → Bool) (b : B) : Bool := B.rec (motive := fun _ => (Nat → Fz → Bool → Nat → Cs → Bool) → Bool) (fun _ => false) (fun _ _ _ => false) (fun x0 x1 x2 x3 x4 g => g x0 x1 x2 x3 x4) (fun _ _ => false) (fun _ _ _ => false) (fun _ => false) (fun _ _ _ _ _ _ _ _ _ => false) (fun _ => false) b g
noncomputable def qbM (g : V → Bool) (b : B) : Bool := B.rec (motive := fun _ => (V → Bool) → Bool) (fun _ => false) (fun _ _ _ => false) (fun _ _ _ _ _ _ => false) (fun x0 g => g x0) (fun _ _ _ => false) (fun _ => false) (fun _ _ _ _ _ _ _ _ _ => false) (fun _ => false) b g
noncomputable def qbIt (g : Nat → Nat → Bool) (b : B) : Bool := B.rec (motive := fun _ => (Nat → Nat → Bool) → Bool) (fun _ => false) (fun _ _ _ => false) (fun _ _ _ _ _ _ => false) (fun _ _ => false) (fun x0 x1 g => g x0 x1) (fun _ => false) (fun _ _ _ _ _ _ _ _ _ => false) (fun _ => false) b g
noncomputable def qbDf (g : Bool) (b : B) : Bool := B.rec (motive := fun _ => (Bool) → Bool) (fun _ => false) (fun _ _ _ => false) (fun _ _ _ _ _ _ => false) (fun _ _ => false) (fun _ _ _ => false) (fun g => g) (fun _ _ _ _ _ _ _ _ _ => false) (fun _ => false) b g
noncomputable def qbLp (g : Nat → Option Ex → Nat → Tm → List Nat → Code → Code → Nat → Bool) (b : B) : Bool := B.rec (motive := fun _ => (Nat → Option Ex → Nat → Tm → List Nat → Code → Code → Nat → Bool) → Bool) (fun _ => false) (fun _ _ _ => false) (fun _ _ _ _ _ _ => false) (fun _ _ => false) (fun _ _ _ => false) (fun _ => false) (fun x0 x1 x2 x3 x4 x5 x6 x7 g => g x0 x1 x2 x3 x4 x5 x6 x7) (fun _ => false) b g
noncomputable def qbGi (g : Bool) (b : B) : Bool := B.rec (motive := fun _ => (Bool) → Bool) (fun _ => false) (fun _ _ _ => false) (fun _ _ _ _ _ _ => false) (fun _ _ => false) (fun _ _ _ => false) (fun _ => false) (fun _ _ _ _ _ _ _ _ _ => false) (fun g => g) b g
abbrev HT := H5
inductive H where | mk (t : HT) (nx : Nat)

/-- a number is reckoned before it is handed on -/
def fN (e : Nat) (k : Nat → Option V) : Option V := Nat.rec (motive := fun _ => Option V) none (fun n _ => k n) (Nat.succ e)
def fB (e : Nat) (k : Nat → Bool) : Bool := Nat.rec (motive := fun _ => Bool) false (fun n _ => k n) (Nat.succ e)
theorem fN_eq (e : Nat) (k : Nat → Option V) : fN e k = k e := rfl
theorem fB_eq (e : Nat) (k : Nat → Bool) : fB e k = k e := rfl

def t1V : T1 := T1.all .u
def t2V : T2 := T2.all t1V
def t3V : T3 := T3.all t2V
def t4V : T4 := T4.all t3V
def d0 (n : Nat) : Ix := toIx (Nat.mod n 16)
def d1 (n : Nat) : Ix := toIx (Nat.mod (Nat.div n 16) 16)
def d2 (n : Nat) : Ix := toIx (Nat.mod (Nat.div n 256) 16)
def e0 (n : Nat) : Ox := toOx (Nat.mod n 8)
def e1 (n : Nat) : Ox := toOx (Nat.mod (Nat.div n 8) 8)
def e2 (n : Nat) : Ox := toOx (Nat.mod (Nat.div n 64) 8)
def e3 (n : Nat) : Ox := toOx (Nat.mod (Nat.div n 512) 8)
def e4 (n : Nat) : Ox := toOx (Nat.mod (Nat.div n 4096) 8)

namespace Cs
def room (cs : Cs) : Nat := Cs.rec (motive := fun _ => Nat) (fun _ => 8) (fun s _ => Bool.rec 0 (8 * s) (Nat.ble s 8)) (fun s _ => Bool.rec 0 (64 * s) (Nat.ble s 8)) (fun s _ => Bool.rec 0 (512 * s) (Nat.ble s 8)) cs
noncomputable def get1 (r : T1) (off : Nat) : V := T1.get (e0 off) r
noncomputable def get2 (s : Nat) (r : T2) (off : Nat) : V := T1.get (e0 (Nat.mod off s)) (T2.get (e0 (Nat.div off s)) r)
noncomputable def get3 (s : Nat) (r : T3) (off : Nat) : V := T1.get (e0 (Nat.mod off s)) (T2.get (e0 (Nat.div off s)) (T3.get (e1 (Nat.div off s)) r))
noncomputable def get4 (s : Nat) (r : T4) (off : Nat) : V := T1.get (e0 (Nat.mod off s)) (T2.get (e0 (Nat.div off s)) (T3.get (e1 (Nat.div off s)) (T4.get (e2 (Nat.div off s)) r)))
noncomputable def put1 (r : T1) (off : Nat) (v : V) : T1 := T1.put (e0 off) v r
noncomputable def put2 (s : Nat) (r : T2) (off : Nat) (v : V) : T2 := T2.upd (e0 (Nat.div off s)) (T1.put (e0 (Nat.mod off s)) v) r
noncomputable def put3 (s : Nat) (r : T3) (off : Nat) (v : V) : T3 := T3.upd (e1 (Nat.div off s)) (T2.upd (e0 (Nat.div off s)) (T1.put (e0 (Nat.mod off s)) v)) r
noncomputable def put4 (s : Nat) (r : T4) (off : Nat) (v : V) : T4 := T4.upd (e2 (Nat.div off s)) (T3.upd (e1 (Nat.div off s)) (T2.upd (e0 (Nat.div off s)) (T1.put (e0 (Nat.mod off s)) v))) r
noncomputable def get (cs : Cs) (off : Nat) : V := Cs.rec (motive := fun _ => Nat → V) get1 get2 get3 get4 cs off
noncomputable def put (cs : Cs) (off : Nat) (v : V) : Cs :=
  Cs.rec (motive := fun _ => Nat → V → Cs) (fun r off v => .c1 (put1 r off v)) (fun s r off v => .c2 s (put2 s r off v)) (fun s r off v => .c3 s (put3 s r off v)) (fun s r off v => .c4 s (put4 s r off v)) cs off v
/-- no cells yet, in rows of s -/
def nil (s : Nat) : Cs := Bool.rec (motive := fun _ => Cs) (.c1 t1V) (Bool.rec (motive := fun _ => Cs) (.c1 t1V) (.c2 s t2V) (Nat.ble s 8)) (Nat.ble 2 s)
noncomputable def gr1 (r : T1) (n : Nat) : Cs := Bool.rec (motive := fun _ => Cs) (Bool.rec (motive := fun _ => Cs) (Bool.rec (motive := fun _ => Cs) (.c4 8 (T4.p0 (T3.p0 (T2.p0 r t2V) t3V) t4V)) (.c3 8 (T3.p0 (T2.p0 r t2V) t3V)) (Nat.ble n 512)) (.c2 8 (T2.p0 r t2V)) (Nat.ble n 64)) (.c1 r) (Nat.ble n 8)
noncomputable def gr2 (s : Nat) (r : T2) (n : Nat) : Cs := Bool.rec (motive := fun _ => Cs) (Bool.rec (motive := fun _ => Cs) (.c4 s (T4.p0 (T3.p0 r t3V) t4V)) (.c3 s (T3.p0 r t3V)) (Nat.ble n (Nat.mul 64 s))) (.c2 s r) (Nat.ble n (Nat.mul 8 s))
noncomputable def gr3 (s : Nat) (r : T3) (n : Nat) : Cs := Bool.rec (motive := fun _ => Cs) (.c4 s (T4.p0 r t4V)) (.c3 s r) (Nat.ble n (Nat.mul 64 s))
/-- room for n cells -/
noncomputable def grow (cs : Cs) (n : Nat) : Cs :=
  Cs.rec (motive := fun _ => Nat → Cs) gr1 gr2 gr3 (fun s r _ => .c4 s r) cs n
/-- have they room for n cells? -/
def fits (cs : Cs) (n : Nat) : Bool := Cs.rec (motive := fun _ => Nat → Bool) (fun _ n => Nat.ble n 8) (fun s _ n => Bool.rec (motive := fun _ => Bool) false (Nat.ble n (Nat.mul 8 s)) (Nat.ble s 8)) (fun s _ n => Bool.rec (motive := fun _ => Bool) false (Nat.ble n (Nat.mul 64 s)) (Nat.ble s 8)) (fun s _ n => Bool.rec (motive := fun _ => Bool) false (Nat.ble n (Nat.mul 512 s)) (Nat.ble s 8)) cs n
/-- n cells from off on, as a list ahead of another one -/
noncomputable def ldn (n : Nat) : Cs → Nat → V → V := Nat.rec (motive := fun _ => Cs → Nat → V → V) (fun _ _ z => z) (fun _ ih cs off z => .c (get cs off) (ih cs (Nat.succ off) z)) n
noncomputable def li1 (r : T1) (z : V) : V := T1.rec (motive := fun _ => V → V) (fun a0 _ _ _ _ _ _ _ z => .c a0 z) r z
noncomputable def li2 (r : T1) (z : V) : V := T1.rec (motive := fun _ => V → V) (fun a0 a1 _ _ _ _ _ _ z => .c a0 (.c a1 z)) r z
noncomputable def li3 (r : T1) (z : V) : V := T1.rec (motive := fun _ => V → V) (fun a0 a1 a2 _ _ _ _ _ z => .c a0 (.c a1 (.c a2 z))) r z
noncomputable def li4 (r : T1) (z : V) : V := T1.rec (motive := fun _ => V → V) (fun a0 a1 a2 a3 _ _ _ _ z => .c a0 (.c a1 (.c a2 (.c a3 z)))) r z
noncomputable def li5 (r : T1) (z : V) : V := T1.rec (motive := fun _ => V → V) (fun a0 a1 a2 a3 a4 _ _ _ z => .c a0 (.c a1 (.c a2 (.c a3 (.c a4 z))))) r z
noncomputable def li6 (r : T1) (z : V) : V := T1.rec (motive := fun _ => V → V) (fun a0 a1 a2 a3 a4 a5 _ _ z => .c a0 (.c a1 (.c a2 (.c a3 (.c a4 (.c a5 z)))))) r z
noncomputable def li7 (r : T1) (z : V) : V := T1.rec (motive := fun _ => V → V) (fun a0 a1 a2 a3 a4 a5 a6 _ z => .c a0 (.c a1 (.c a2 (.c a3 (.c a4 (.c a5 (.c a6 z))))))) r z
noncomputable def li8 (r : T1) (z : V) : V := T1.rec (motive := fun _ => V → V) (fun a0 a1 a2 a3 a4 a5 a6 a7 z => .c a0 (.c a1 (.c a2 (.c a3 (.c a4 (.c a5 (.c a6 (.c a7 z)))))))) r z
/-- the first m of a row's values, 1 to 8, as a list -/
noncomputable def li (m : Nat) (r : T1) (z : V) : V := Ox.rec (motive := fun _ => T1 → V → V) li1 li2 li3 li4 li5 li6 li7 li8 (toOx (Nat.pred m)) r z
/-- are m cells from off on just a row of s? -/
def isRow (m s off : Nat) : Bool := Bool.rec (motive := fun _ => Bool) false (Bool.rec (motive := fun _ => Bool) false (Bool.rec (motive := fun _ => Bool) false (Nat.ble m 8) (Nat.ble 1 m)) (Nat.beq (Nat.mod off s) 0)) (Nat.beq m s)
def isRow1 (m off : Nat) : Bool := Bool.rec (motive := fun _ => Bool) false (Bool.rec (motive := fun _ => Bool) false (Nat.ble m 8) (Nat.ble 1 m)) (Nat.beq off 0)
noncomputable def ldq1 (r : T1) (m off : Nat) (z : V) : V := Bool.rec (motive := fun _ => V) (ldn m (.c1 r) off z) (li m r z) (isRow1 m off)
noncomputable def ldq2 (s : Nat) (r : T2) (m off : Nat) (z : V) : V := Bool.rec (motive := fun _ => V) (ldn m (.c2 s r) off z) (li m (T2.get (e0 (Nat.div off s)) r) z) (isRow m s off)
noncomputable def ldq3 (s : Nat) (r : T3) (m off : Nat) (z : V) : V := Bool.rec (motive := fun _ => V) (ldn m (.c3 s r) off z) (li m (T2.get (e0 (Nat.div off s)) (T3.get (e1 (Nat.div off s)) r)) z) (isRow m s off)
noncomputable def ldq4 (s : Nat) (r : T4) (m off : Nat) (z : V) : V := Bool.rec (motive := fun _ => V) (ldn m (.c4 s r) off z) (li m (T2.get (e0 (Nat.div off s)) (T3.get (e1 (Nat.div off s)) (T4.get (e2 (Nat.div off s)) r))) z) (isRow m s off)
/-- m cells from off on, as a list ahead of z -/
noncomputable def ldq (m : Nat) (cs : Cs) (off : Nat) (z : V) : V := Cs.rec (motive := fun _ => Nat → Nat → V → V) ldq1 ldq2 ldq3 ldq4 cs m off z
/-- a list of just n values of one cell each is laid from off on -/
noncomputable def stn (n : Nat) : V → Cs → Nat → Option Cs := Nat.rec (motive := fun _ => V → Cs → Nat → Option Cs) (fun l cs _ => Bool.rec (motive := fun _ => Option Cs) none (some cs) (qN true l))
  (fun _ ih l cs off => V.rec (motive := fun _ => (V → Cs → Nat → Option Cs) → Cs → Nat → Option Cs) (fun _ _ _ => none) (fun _ _ _ _ => none) (fun _ _ _ _ _ => none) (fun _ _ _ _ => none) (fun _ _ _ _ => none) (fun _ _ _ _ _ _ _ _ => none) (fun _ _ _ _ _ _ => none) (fun _ _ _ _ _ => none) (fun _ _ _ _ _ => none) (fun _ _ _ => none)
    (fun h t _ _ ih cs off => Bool.rec (motive := fun _ => Option Cs) none (ih t (put cs off h) (Nat.succ off)) (V.one h)) l ih cs off) n
end Cs

namespace H
noncomputable def get0 (t : HT) (id : Nat) : B := H1.get (e0 id) (H2.get (e1 id) (H3.get (e2 id) (H4.get (e3 id) (H5.get (e4 id) t))))
noncomputable def put0 (t : HT) (id : Nat) (b : B) : HT := H5.upd (e4 id) (H4.upd (e3 id) (H3.upd (e2 id) (H2.upd (e1 id) (H1.put (e0 id) b)))) t
noncomputable def get (h : H) (id : Nat) : B := H.rec (motive := fun _ => Nat → B) (fun t _ id => get0 t id) h id
noncomputable def put (h : H) (id : Nat) (b : B) : H := H.rec (motive := fun _ => Nat → B → H) (fun t nx id b => .mk (put0 t id b) nx) h id b
/-- a new block -/
noncomputable def new (h : H) (b : B) (k : Nat → H → Bool) : Bool :=
  H.rec (motive := fun _ => B → (Nat → H → Bool) → Bool) (fun t nx b k => fB (Nat.succ nx) fun m => Bool.rec (motive := fun _ => Bool) false (k nx (.mk (put0 t nx b) m)) (Nat.ble m 32768)) h b k
def none : H := .mk (H5.all (H4.all (H3.all (H2.all (H1.all .x))))) 0

noncomputable def ld (h : H) (id off : Nat) : Option V :=
  B.rec (motive := fun _ => Nat → Option V) (fun _ => .none) (fun n cs off => Bool.rec (motive := fun _ => Option V) .none (some (Cs.get cs off)) (Nat.ble (Nat.succ off) n)) (fun _ _ _ n cs off => Bool.rec (motive := fun _ => Option V) .none (some (Cs.get cs off)) (Nat.ble (Nat.succ off) n)) (fun _ _ => .none) (fun _ _ _ => .none) (fun _ => .none) (fun _ _ _ _ _ _ _ _ _ => .none) (fun _ => .none) (get h id) off
/-- a list of m cells from off on -/
noncomputable def lds (h : H) (id off m : Nat) : Option V :=
  B.rec (motive := fun _ => Nat → Nat → Option V) (fun _ _ => .none) (fun n cs off m => Bool.rec (motive := fun _ => Option V) .none (some (Cs.ldq m cs off .n)) (Nat.ble (Nat.add off m) n)) (fun _ _ _ n cs off m => Bool.rec (motive := fun _ => Option V) .none (some (Cs.ldq m cs off .n)) (Nat.ble (Nat.add off m) n)) (fun _ _ _ => .none) (fun _ _ _ _ => .none) (fun _ _ => .none) (fun _ _ _ _ _ _ _ _ _ _ => .none) (fun _ _ => .none) (get h id) off m
def thaw (fz : Fz) (off : Nat) : Bool := Fz.rec (motive := fun _ => Nat → Bool) (fun _ => true) (fun k off => Nat.ble k off) (fun _ => true) fz off
noncomputable def sts1 (h : H) (id off m : Nat) (l : V) (k : H → Bool) (e : Nat) (fz : Fz) (ex : Bool) (n : Nat) (cs : Cs) : Bool :=
  Bool.rec (motive := fun _ => Bool) false (Bool.rec (motive := fun _ => Bool) false (Option.rec (motive := fun _ => Bool) false (fun cs' => k (put h id (.c e fz ex n cs'))) (Cs.stn m l cs off)) (thaw fz off)) (Nat.ble (Nat.add off m) n)
/-- a list of just m cells is laid from off on -/
noncomputable def sts (h : H) (id off m : Nat) (l : V) (k : H → Bool) : Bool := qbC (sts1 h id off m l k) (get h id)
end H

/-- the cells of a value of a type: of a struct or an array those, else the value itself -/
noncomputable def cellsV (agg : Bool) (v : V) : Option V := Bool.rec (motive := fun _ => Option V) (Bool.rec (motive := fun _ => Option V) none (some (.c v .n)) (V.one v)) (oA some v) agg
def undV : V := .t .n

/-! ### the program, as it is looked up -/
abbrev C := Bool → Nat → V → H → (V → H → Bool) → Bool
/-- what is known of a function: nothing; a function of its arguments' values; bytealg.MakeNoZero at a slice type's element; what it makes of some arguments and some memory -/
inductive Sm where | no | pure (g : V → H → Option V) | mkz (e : Nat) | seg (g : V → H → Option (V × H))
structure Env where
  ft : Nat → Option Func
  tt : Nat → Option TypeInfo
  sm : Nat → Sm
  ds : Nat → Bool
  un : BinOp → Nat → V → V → Option V
  pg : Program

namespace Env
variable (E : Env)
def und (t : Nat) : Option TypeDesc :=
  match E.tt t with
  | some i => (match i.desc with
    | .named _ u => (match E.tt u with
      | some j => some j.desc
      | none => none)
    | d => some d)
  | none => none
def isAg (t : Nat) : Bool := match E.und t with | some (.struct _) => true | some (.array _ _) => true | _ => false
def szOf (t : Nat) : Nat := match E.tt t with | some i => i.size | none => 0
/-- is the type known? -/
def kn (t : Nat) : Bool := match E.tt t with | some _ => true | none => false
def byOf (t : Nat) : Nat := match E.tt t with | some i => i.bytes | none => 0
end Env

/-! ### constants -/
def vOf1 (v : Value) : V :=
  match v with
  | .bool b => .b b
  | .int k n => .i k n
  | .string s => .s (enc s.data.toList)
  | .pointer none => .r .np
  | .slice none 0 0 => .r .ns
  | .map none => .r .nm
  | .nilFunc => .r .nf
  | .nilIface => .r .ni
  | _ => .u
def vList (l : List Value) : V := l.foldr (fun v l => .c (vOf1 v) l) .n
def vOf (v : Value) : V :=
  match v with
  | .agg cs => .a (vList cs.toList)
  | .tuple vs => (match vs.toList with | [] => .t .n | _ => .u)
  | v => vOf1 v
def Env.zer (E : Env) (t : Nat) : Option V := match E.tt t with | some i => (match i.zero with | some v => some (vOf v) | none => none) | none => none

/-! ### operands -/
def rd (t : Nat) (T : Tm) : V := Bool.casesOn (Nat.ble (Nat.succ t) 512) .u (T1.get (e0 t) (T2.get (e1 t) (T3.get (e2 t) T)))
def wr (t : Nat) (v : V) (T : Tm) : Tm := Bool.casesOn (Nat.ble (Nat.succ t) 512) T (T3.upd (e2 t) (T2.upd (e1 t) (T1.put (e0 t) v)) T)
def withR {γ : Type} (t : Nat) (k : (Tm → V) → γ) : γ :=
  Bool.casesOn (Nat.ble (Nat.succ t) 512) (k fun _ => .u) (T3.selG (e2 t) fun g2 => T2.selG (e1 t) fun g1 => T1.selG (e0 t) fun g0 => k fun T => g0 (g1 (g2 T)))
def withO {γ : Type} (x : Operand) (k : (Tm → V) → γ) : γ :=
  match x with
  | .tmp t => withR t k
  | .const v => k fun _ => vOf v
  | .global g => k fun _ => Bool.casesOn (Nat.ble (Nat.succ g) 32) .u (.r (.pt g 0))
  | .func f => k fun _ => .f f .n .n
def withP {γ : Type} (nt : Nat) (d : Option Nat) (k : (V → Tm → Tm) → γ) : γ :=
  match d with
  | none => k fun _ T => T
  | some t => Bool.casesOn (Nat.ble (Nat.succ t) (Nat.min nt 512)) (k fun _ T => T) (T3.selU (e2 t) fun u2 => T2.selU (e1 t) fun u1 => T1.selP (e0 t) fun p0 => k fun v T => u2 (u1 (p0 v)) T)
def withL {γ : Type} (l : List Operand) (k : (Tm → V) → γ) : γ :=
  match l with
  | [] => k fun _ => .n
  | x :: l => withO x fun g => withL l fun gl => k fun T => .c (g T) (gl T)
/-- the place whose yield a guard asks -/
def guardOf (ops : Array Oper) (j : Nat) : Option Nat := match ops[j]? with | some o => o.dst | none => none

/-! ### operations, ready to be done -/
inductive IOp where
  | q (p : V → Tm → Tm) (f : Tm → H → Option V)
  | l (p : V → Tm → Tm) (f : C → Tm → H → (V → H → Bool) → Bool)
  | qg (g : Tm → V) (want : Bool) (p : V → Tm → Tm) (f : Tm → H → Option V)
  | lg (g : Tm → V) (want : Bool) (p : V → Tm → Tm) (f : C → Tm → H → (V → H → Bool) → Bool)
  | df (f : Tm → Option V)
  | bad

/-- a region's operations, and how many temporaries its frame has -/
abbrev Ops := Nat × Array Oper
def finQ (ops : Ops) (o : Oper) (f : Tm → H → Option V) : IOp :=
  withP ops.1 o.dst fun p => match o.guard with
    | none => .q p f
    | some (j, want) => (match guardOf ops.2 j with | some t => withR t fun g => .qg g want p f | none => .bad)
def finL (ops : Ops) (o : Oper) (f : C → Tm → H → (V → H → Bool) → Bool) : IOp :=
  withP ops.1 o.dst fun p => match o.guard with
    | none => .l p f
    | some (j, want) => (match guardOf ops.2 j with | some t => withR t fun g => .lg g want p f | none => .bad)

def oNat (g : Nat → Option V) (v : V) : Option V := oI (fun _ x => Int.rec (motive := fun _ => (Nat → Option V) → Option V) (fun n g => g n) (fun _ _ => none) x g) v
def qNat (g : Nat → Bool) (v : V) : Bool := qI (fun _ x => Int.rec (motive := fun _ => (Nat → Bool) → Bool) (fun n g => g n) (fun _ _ => false) x g) v
def natO (v : V) : Option Nat := V.casesOn v none (fun _ => none) (fun _ x => Int.casesOn x some (fun _ => none)) (fun _ => none) (fun _ => none) (fun _ _ _ => none) (fun _ _ => none) (fun _ => none) (fun _ => none) none (fun _ _ => none)
def goI (n : Nat) : V := .i .i64 (Int.ofNat n)

/-! #### the operations that only read -/
def q1 (g : Tm → V) (f : V → Option V) : Tm → H → Option V := fun T _ => f (g T)
def q2 (g h : Tm → V) (f : V → V → Option V) : Tm → H → Option V := fun T _ => f (g T) (h T)

def fPick (c a b : V) : Option V := oB (fun x => Bool.casesOn x (some b) (some a)) c
def fAdd : V → V → Option V := bi2 fun k a b => some (.i k (iAdd k a b))
def fSub : V → V → Option V := bi2 fun k a b => some (.i k (iSub k a b))
def fMul : V → V → Option V := bi2 fun k a b => some (.i k (iMul k a b))
def fQuo : V → V → Option V := bi2 fun k a b => Bool.casesOn (iZero b) (some (.i k (iQuo k a b))) none
def fRem : V → V → Option V := bi2 fun k a b => Bool.casesOn (iZero b) (some (.i k (iRem a b))) none
def fBit (g : Nat → Nat → Nat) : V → V → Option V := bi2 fun k a b => Option.casesOn (iBits g k a b) none fun r => some (.i k r)
def iAnd (k : IntKind) (x y : Int) : Option Int :=
  Int.casesOn x
    (fun a => Bool.casesOn (Nat.ble a (kmax k)) none (Int.casesOn y
      (fun b => Bool.casesOn (Nat.ble b (kmax k)) none (some (Int.ofNat (Nat.land a b))))
      (fun b => Bool.casesOn (Nat.ble b (kmax k)) none (some (Int.ofNat (andNot a b))))))
    (fun _ => none)
def fAnd : V → V → Option V := bi2 fun k a b => Option.casesOn (iAnd k a b) none fun r => some (.i k r)
def fOr : V → V → Option V := fBit Nat.lor
def fXor : V → V → Option V := fBit Nat.xor
def fAndNot : V → V → Option V := fBit andNot
def fShl (x y : V) : Option V := oI (fun k a => oNat (fun n => Bool.casesOn (Nat.ble n 64) none (some (.i k (k.wrap (a * 2 ^ (Nat.min n k.bits)))))) y) x
def fShr (x y : V) : Option V := oI (fun k a => oNat (fun n => Bool.casesOn (Nat.ble n 64) none (some (.i k (a.fdiv (2 ^ (Nat.min n k.bits)))))) y) x
def fEq : V → V → Option V := bi2 fun _ a b => some (.b (iEq a b))
def fNe : V → V → Option V := bi2 fun _ a b => some (.b (not (iEq a b)))
def fLt : V → V → Option V := bi2 fun _ a b => some (.b (iLt a b))
def fLe : V → V → Option V := bi2 fun _ a b => some (.b (not (iLt b a)))
def fGt : V → V → Option V := bi2 fun _ a b => some (.b (iLt b a))
def fGe : V → V → Option V := bi2 fun _ a b => some (.b (not (iLt a b)))
def fCat (x y : V) : Option V := oS (fun a => oS (fun b => Bool.casesOn (Nat.ble (Nat.add (slen a) (slen b)) 4294967296) none (some (.s (sapp a b)))) y) x
def fSEq : V → V → Option V := bs2 fun a b => .b (Nat.beq a b)
def fSNe : V → V → Option V := bs2 fun a b => .b (not (Nat.beq a b))
def fBEq (x y : V) : Option V := oB (fun a => oB (fun b => some (.b (beqB a b))) y) x
def fBNe (x y : V) : Option V := oB (fun a => oB (fun b => some (.b (not (beqB a b)))) y) x
/-- is it nil? -/
def refNil (x : Ref) : Bool := Ref.casesOn x true (fun _ _ => false) true (fun _ _ _ _ => false) (fun _ _ _ _ => false) false true (fun _ => false) true true (fun _ => true)
/-- a value against nil: of a pointer, slice, map, function, interface -/
def fNilP (v : V) : Option Bool := V.casesOn v none (fun _ => none) (fun _ _ => none) (fun _ => none) (fun x => Ref.casesOn x (some true) (fun _ _ => some false) none (fun _ _ _ _ => none) (fun _ _ _ _ => none) none none (fun _ => none) none none (fun _ => none)) (fun _ _ _ => none) (fun _ _ => none) (fun _ => none) (fun _ => none) none (fun _ _ => none)
def fNilS (v : V) : Option Bool := V.casesOn v none (fun _ => none) (fun _ _ => none) (fun _ => none) (fun x => Ref.casesOn x none (fun _ _ => none) (some true) (fun _ _ _ _ => some false) (fun _ _ _ _ => some false) (some false) none (fun _ => none) none none (fun _ => none)) (fun _ _ _ => none) (fun _ _ => none) (fun _ => none) (fun _ => none) none (fun _ _ => none)
def fNilM (v : V) : Option Bool := V.casesOn v none (fun _ => none) (fun _ _ => none) (fun _ => none) (fun x => Ref.casesOn x none (fun _ _ => none) none (fun _ _ _ _ => none) (fun _ _ _ _ => none) none (some true) (fun _ => some false) none none (fun _ => none)) (fun _ _ _ => none) (fun _ _ => none) (fun _ => none) (fun _ => none) none (fun _ _ => none)
def fNilF (v : V) : Option Bool := V.casesOn v none (fun _ => none) (fun _ _ => none) (fun _ => none) (fun x => Ref.casesOn x none (fun _ _ => none) none (fun _ _ _ _ => none) (fun _ _ _ _ => none) none none (fun _ => none) (some true) none (fun id => Bool.casesOn (Nat.ble id 32767) none (some false))) (fun _ _ _ => some false) (fun _ _ => none) (fun _ => none) (fun _ => none) none (fun _ _ => none)
def fNilI (v : V) : Option Bool := V.casesOn v none (fun _ => none) (fun _ _ => none) (fun _ => none) (fun x => Ref.casesOn x none (fun _ _ => none) none (fun _ _ _ _ => none) (fun _ _ _ _ => none) none none (fun _ => none) none (some true) (fun _ => none)) (fun _ _ _ => none) (fun _ _ => some false) (fun _ => none) (fun _ => none) none (fun _ _ => none)
/-- two pointers: one of them nil, or both into one block -/
def bV (neg : Bool) (b : Bool) : V := .b (Bool.casesOn neg b (not b))
def fPEq (neg : Bool) (x y : V) : Option V :=
  Option.casesOn (fNilP x) none fun a => Option.casesOn (fNilP y) none fun b =>
    Bool.casesOn a (Bool.casesOn b
      (oPt (fun i m => oPt (fun j n => Bool.casesOn (Nat.beq i j) none (some (bV neg (Nat.beq m n)))) y) x)
      (some (bV neg false))) (some (bV neg b))
def optB (neg : Bool) (x : Option Bool) : Option V := Option.casesOn x none fun b => some (bV neg b)

def isNilP (x : Operand) : Bool := match x with | .const (.pointer none) => true | _ => false
def isNilS (x : Operand) : Bool := match x with | .const (.slice none _ _) => true | _ => false
def isNilM (x : Operand) : Bool := match x with | .const (.map none) => true | _ => false
def isNilF (x : Operand) : Bool := match x with | .const .nilFunc => true | _ => false
def isNilI (x : Operand) : Bool := match x with | .const .nilIface => true | _ => false
def nilEq (neg : Bool) (isN : Operand → Bool) (f : V → Option Bool) (x y : Operand) (gx gy : Tm → V) : Option (Tm → H → Option V) :=
  match isN x, isN y with
  | true, _ => some fun T _ => optB neg (f (gy T))
  | false, true => some fun T _ => optB neg (f (gx T))
  | false, false => none
/-- structs of numbers, texts and truths: the fields in order -/
def fEqL (fs : List (Nat × (V → V → Option V))) (u v : V) : Option V := List.rec (motive := fun _ => V → V → Option V) (fun _ _ => some (.b true))
  (fun p _ ih u v => Option.rec (motive := fun _ => Option V) none (fun a => Option.rec (motive := fun _ => Option V) none (fun b => Option.rec (motive := fun _ => Option V) none (fun r => oB (fun x => Bool.rec (motive := fun _ => Option V) (some (.b false)) (ih u v) x) r) (p.2 a b)) (V.nth p.1 v)) (V.nth p.1 u)) fs u v
def eqFs (E : Env) (l : List Field) : Option (List (Nat × (V → V → Option V))) :=
  match l with
  | [] => some []
  | f :: l => match f.name == "_", E.und f.type, eqFs E l with
    | false, some (.int _), some r => some ((f.offset, fEq) :: r)
    | false, some .string, some r => some ((f.offset, fSEq) :: r)
    | false, some .bool, some r => some ((f.offset, fBEq) :: r)
    | _, _, _ => none
def fStEq (neg : Bool) (fs : List (Nat × (V → V → Option V))) (x y : V) : Option V := oA (fun l => oA (fun m => Option.rec (motive := fun _ => Option V) none (fun r => oB (fun b => some (bV neg b)) r) (fEqL fs l m)) y) x
/-- == or != where it is no number, text or truth -/
def cEq (E : Env) (neg : Bool) (t : Nat) (x y : Operand) (gx gy : Tm → V) : Option (Tm → H → Option V) :=
  match E.und t with
  | some (.pointer e) => (match nilEq neg isNilP fNilP x y gx gy with
      | some f => some f
      | none => (match E.szOf e with | 0 => none | _ => some fun T _ => fPEq neg (gx T) (gy T)))
  | some (.interface _) => nilEq neg isNilI fNilI x y gx gy
  | some (.slice _) => nilEq neg isNilS fNilS x y gx gy
  | some (.map _ _) => nilEq neg isNilM fNilM x y gx gy
  | some (.func _ _ _) => nilEq neg isNilF fNilF x y gx gy
  | some (.struct fs) => (match eqFs E fs.toList, E.pg.stoodInHeld t, E.pg.eqGuardType E.pg.depth t with
    | some l, false, false => some fun T _ => fStEq neg l (gx T) (gy T)
    | _, _, _ => none)
  | _ => none

def cBin (E : Env) (op : BinOp) (t : Nat) (x y : Operand) (gx gy : Tm → V) : Option (Tm → H → Option V) :=
  match E.und t with
  | some (.int _) => (match op with
    | .add => some (q2 gx gy fAdd)
    | .sub => some (q2 gx gy fSub)
    | .mul => some (q2 gx gy fMul)
    | .quo => some (q2 gx gy fQuo)
    | .rem => some (q2 gx gy fRem)
    | .and => some (q2 gx gy fAnd)
    | .or => some (q2 gx gy fOr)
    | .xor => some (q2 gx gy fXor)
    | .andNot => some (q2 gx gy fAndNot)
    | .shl => some (q2 gx gy fShl)
    | .shr => some (q2 gx gy fShr)
    | .eql => some (q2 gx gy fEq)
    | .neq => some (q2 gx gy fNe)
    | .lss => some (q2 gx gy fLt)
    | .leq => some (q2 gx gy fLe)
    | .gtr => some (q2 gx gy fGt)
    | .geq => some (q2 gx gy fGe))
  | some .string => (match op with
    | .add => some (q2 gx gy fCat)
    | .eql => some (q2 gx gy fSEq)
    | .neq => some (q2 gx gy fSNe)
    | _ => none)
  | some .bool => (match op with
    | .eql => some (q2 gx gy fBEq)
    | .neq => some (q2 gx gy fBNe)
    | _ => none)
  | _ => (match op with
    | .eql => cEq E false t x y gx gy
    | .neq => cEq E true t x y gx gy
    | _ => none)

def fNot (v : V) : Option V := oB (fun b => some (.b (not b))) v
def fNeg (v : V) : Option V := oI (fun k a => some (.i k (iSub k 0 a))) v
def fCompl (v : V) : Option V := oI (fun k a => Int.casesOn a (fun n => Bool.casesOn (Nat.ble (kno k) 3) none (Bool.casesOn (Nat.ble n (kmax k)) none (some (.i k (Int.negSucc n))))) (fun _ => none)) v
def fInt (k : IntKind) (v : V) : Option V := oI (fun _ x => some (.i k (Int.casesOn x (kwrap k) (fun _ => k.wrap x)))) v
def fRune (v : V) : Option V := oNat (fun n => Bool.casesOn (Nat.ble n 127) none (some (.s (Nat.add n 256)))) v
def fStr (v : V) : Option V := oS (fun c => some (.s c)) v
/-- a list of bytes as a text's number -/
def byteO (v : V) : Option Nat := V.casesOn v none (fun _ => none) (fun k x => Bool.casesOn (Nat.beq (kno k) 4) none (Int.casesOn x (fun b => Bool.casesOn (Nat.ble b 255) none (some b)) (fun _ => none))) (fun _ => none) (fun _ => none) (fun _ _ _ => none) (fun _ _ => none) (fun _ => none) (fun _ => none) none (fun _ _ => none)
def bytesN (n : Nat) : V → Option Nat := Nat.rec (motive := fun _ => V → Option Nat) (fun l => Bool.casesOn (qN true l) none (some 1))
  (fun _ ih l => V.casesOn l none (fun _ => none) (fun _ _ => none) (fun _ => none) (fun _ => none) (fun _ _ _ => none) (fun _ _ => none) (fun _ => none) (fun _ => none) none
    (fun h t => Option.casesOn (byteO h) none fun b => Option.casesOn (ih t) none fun c => some (Nat.add b (Nat.mul 256 c)))) n
/-- the n bytes of a text from i on, as a list ahead of z -/
def listN (n : Nat) : Nat → Nat → V → V := Nat.rec (motive := fun _ => Nat → Nat → V → V) (fun _ _ z => z) (fun _ ih c i z => .c (.i .u8 (Int.ofNat (sat c i))) (ih c (Nat.succ i) z)) n
/-- a slice: its block, its first cell, how many elements -/
def oSl (nil : Option V) (g : Nat → Nat → Nat → Option V) (v : V) : Option V :=
  oR (fun x => Ref.rec (motive := fun _ => Option V → (Nat → Nat → Nat → Option V) → Option V) (fun _ _ => none) (fun _ _ _ _ => none) (fun d _ => d) (fun id off len _ _ g => g id off len) (fun id _ off len _ g => g id off len) (fun _ _ => none) (fun _ _ => none) (fun _ _ _ => none) (fun _ _ => none) (fun _ _ => none) (fun _ _ _ => none) x nil g) v
def qSl (nil : Bool) (g : Nat → Nat → Nat → Bool) (v : V) : Bool :=
  qR (fun x => Ref.rec (motive := fun _ => Bool → (Nat → Nat → Nat → Bool) → Bool) (fun _ _ => false) (fun _ _ _ _ => false) (fun d _ => d) (fun id off len _ _ g => g id off len) (fun id _ off len _ g => g id off len) (fun _ _ => false) (fun _ _ => false) (fun _ _ _ => false) (fun _ _ => false) (fun _ _ => false) (fun _ _ _ => false) x nil g) v
def fBytes (T : V) (h : H) : Option V :=
  oSl (some (.s 1)) (fun id off len => Option.casesOn (H.lds h id off len) none fun l => Option.casesOn (bytesN len l) none fun c => some (.s c)) T

/-- a pointer seen as an unsafe.Pointer -/
def fUns (v : V) (h : H) : Option V :=
  oR (fun x => Ref.casesOn x (some v) (fun id off => obC (fun _ _ _ n _ => Bool.casesOn (Nat.ble (Nat.succ off) n) none (some v)) (H.get h id)) none (fun _ _ _ _ => none) (fun _ _ _ _ => none) none none (fun _ => none) none none (fun _ => none)) v
/-- and back -/
def fBack (E : Env) (u : Nat) (v : V) (h : H) : Option V :=
  oR (fun x => Ref.casesOn x (some v) (fun id off => obC (fun e _ ex n _ => Bool.casesOn ex none
    (Bool.casesOn (liesAt E.pg E.pg.depth e (n / E.pg.cellsOf e) off u 1) none (some v))) (H.get h id)) none (fun _ _ _ _ => none) (fun _ _ _ _ => none) none none (fun _ => none) none none (fun _ => none)) v

def cConv (E : Env) (src dst : Nat) (gx : Tm → V) : Option (Tm → H → Option V) :=
  match E.und src, E.und dst with
  | some (.int _), some (.int k) => some (q1 gx (fInt k))
  | some (.int _), some .string => some (q1 gx fRune)
  | some .string, some .string => some (q1 gx fStr)
  | some (.slice e), some .string => (match E.und e with | some (.int .u8) => some fun T h => fBytes (gx T) h | _ => none)
  | some (.pointer t), some .unsafePointer => (match E.szOf t with | 0 => none | _ => some fun T h => fUns (gx T) h)
  | some .unsafePointer, some (.pointer u) => (match E.szOf u with | 0 => none | _ => some fun T h => fBack E u (gx T) h)
  | _, _ => none

def fNilCheck (v : V) : Option V := V.casesOn v none (fun _ => none) (fun _ _ => none) (fun _ => none) (fun x => Bool.casesOn (refNil x) (some v) none) (fun _ _ _ => some v) (fun _ _ => some v) (fun _ => none) (fun _ => none) none (fun _ _ => none)
def fField (agg : Bool) (off sz : Nat) (v : V) : Option V :=
  oA (fun l => Bool.casesOn agg (V.nth off l) (Option.casesOn (V.drop off l) none fun m => Option.casesOn (V.take sz m) none fun k => some (.a k))) v
def fFieldAddr (off : Nat) (v : V) : Option V := oPt (fun id o => fN (Nat.add o off) fun n => some (.r (.pt id n))) v
def fIndexAddr (sz : Nat) (x ix : V) : Option V := oNat (fun i => oSl none (fun id off len => Bool.casesOn (Nat.ble (Nat.succ i) len) none (fN (Nat.add off (Nat.mul i sz)) fun n => some (.r (.pt id n)))) x) ix
def fIndexArr (len sz : Nat) (x ix : V) : Option V := oNat (fun i => oPt (fun id off => Bool.casesOn (Nat.ble (Nat.succ i) len) none (fN (Nat.add off (Nat.mul i sz)) fun n => some (.r (.pt id n)))) x) ix
def fIndexStr (x ix : V) : Option V := oNat (fun i => oS (fun c => Bool.casesOn (Nat.ble (Nat.succ i) (slen c)) none (some (.i .u8 (Int.ofNat (sat c i))))) x) ix
def fIndexAgg (agg : Bool) (len sz : Nat) (x ix : V) : Option V := oNat (fun i => Bool.casesOn (Nat.ble (Nat.succ i) len) none (fField agg (Nat.mul i sz) sz x)) ix
def fExtract (n : Nat) (v : V) : Option V := oT (V.nth n) v
def fLoad (agg : Bool) (sz : Nat) (v : V) (h : H) : Option V :=
  oPt (fun id off => Bool.casesOn agg (H.ld h id off) (Option.casesOn (H.lds h id off sz) none fun l => some (.a l))) v

/-- the bounds of a slice expression: low (0), high (the length), both within the top -/
def fBounds (lo hi : Option V) (len top : Nat) (g : Nat → Nat → Option V) : Option V :=
  Option.casesOn (Option.casesOn lo (some 0) natO) none fun l =>
  Option.casesOn (Option.casesOn hi (some len) natO) none fun h =>
  Bool.casesOn (Nat.ble l h) none (Bool.casesOn (Nat.ble h top) none (g l h))
def fSliceStr (lo hi : Option V) (v : V) : Option V := oS (fun c => fBounds lo hi (slen c) (slen c) fun l h => some (.s (ssub c l h))) v
def fSliceSl (sz : Nat) (lo hi : Option V) (v : V) : Option V :=
  oR (fun x => Ref.casesOn x none (fun _ _ => none)
    (fBounds lo hi 0 0 fun _ _ => some (.r .ns))
    (fun id off len cap => fBounds lo hi len cap fun l h => some (.r (.sl id (Bool.casesOn (Nat.beq cap l) (Nat.add off (Nat.mul l sz)) off) (Nat.sub h l) (Nat.sub cap l))))
    (fun id z off len => fBounds lo hi len len fun l h => Bool.casesOn (Nat.beq z sz) none (Bool.casesOn (Nat.beq l 0) (Bool.casesOn (Nat.beq l len) (some (.r (.so id z (Nat.add off (Nat.mul l sz)) (Nat.sub h l)))) (some (.r .se))) (some (.r (.so id z off h)))))
    none none (fun _ => none) none none (fun _ => none)) v
def fSliceArr (n sz : Nat) (lo hi : Option V) (v : V) : Option V :=
  oPt (fun id off => fBounds lo hi n n fun l h => some (.r (.sl id (Bool.casesOn (Nat.beq n l) (Nat.add off (Nat.mul l sz)) off) (Nat.sub h l) (Nat.sub n l)))) v

/-- keys of maps: whole numbers or texts -/
def fKey (a b : V) : Option Bool :=
  V.casesOn a none (fun _ => none)
    (fun k x => V.casesOn b none (fun _ => none) (fun k' y => Bool.casesOn (Nat.beq (kno k) (kno k')) none (some (iEq x y))) (fun _ => none) (fun _ => none) (fun _ _ _ => none) (fun _ _ => none) (fun _ => none) (fun _ => none) none (fun _ _ => none))
    (fun c => V.casesOn b none (fun _ => none) (fun _ _ => none) (fun d => some (Nat.beq c d)) (fun _ => none) (fun _ _ _ => none) (fun _ _ => none) (fun _ => none) (fun _ => none) none (fun _ _ => none))
    (fun _ => none) (fun _ _ _ => none) (fun _ _ => none) (fun _ => none) (fun _ => none) none (fun _ _ => none)
def isKey (a : V) : Bool := V.casesOn a false (fun _ => false) (fun _ _ => true) (fun _ => true) (fun _ => false) (fun _ _ _ => false) (fun _ _ => false) (fun _ => false) (fun _ => false) false (fun _ _ => false)
/-- a key of a map whose keys are texts (or else whole numbers) -/
def isKeyK (str : Bool) (a : V) : Bool := V.casesOn a false (fun _ => false) (fun _ _ => not str) (fun _ => str) (fun _ => false) (fun _ _ _ => false) (fun _ _ => false) (fun _ => false) (fun _ => false) false (fun _ _ => false)
/-- a map's entries: .c key (.c value rest); fuel: more than they are -/
def mFind (k : V) (fuel : Nat) : V → Option (Option V) := Nat.rec (motive := fun _ => V → Option (Option V)) (fun _ => none)
  (fun _ ih l => V.casesOn l none (fun _ => none) (fun _ _ => none) (fun _ => none) (fun _ => none) (fun _ _ _ => none) (fun _ _ => none) (fun _ => none) (fun _ => none) (some none) (fun key m => V.casesOn m none (fun _ => none) (fun _ _ => none) (fun _ => none) (fun _ => none) (fun _ _ _ => none) (fun _ _ => none) (fun _ => none) (fun _ => none) none (fun v rest => Option.casesOn (fKey k key) none fun e => Bool.casesOn e (ih rest) (some (some v))))) fuel
def mPut (k v : V) (fuel : Nat) : V → Option V := Nat.rec (motive := fun _ => V → Option V) (fun _ => none)
  (fun _ ih l => V.casesOn l none (fun _ => none) (fun _ _ => none) (fun _ => none) (fun _ => none) (fun _ _ _ => none) (fun _ _ => none) (fun _ => none) (fun _ => none) (some (.c k (.c v .n))) (fun key m => V.casesOn m none (fun _ => none) (fun _ _ => none) (fun _ => none) (fun _ => none) (fun _ _ _ => none) (fun _ _ => none) (fun _ => none) (fun _ => none) none (fun w rest => Option.casesOn (fKey k key) none fun e => Bool.casesOn e (Option.casesOn (ih rest) none fun z => some (.c key (.c w z))) (some (.c k (.c v rest)))))) fuel
def mLen (fuel : Nat) : V → Option Nat := Nat.rec (motive := fun _ => V → Option Nat) (fun _ => none)
  (fun _ ih l => V.casesOn l none (fun _ => none) (fun _ _ => none) (fun _ => none) (fun _ => none) (fun _ _ _ => none) (fun _ _ => none) (fun _ => none) (fun _ => none) (some 0) (fun _ m => V.casesOn m none (fun _ => none) (fun _ _ => none) (fun _ => none) (fun _ => none) (fun _ _ _ => none) (fun _ _ => none) (fun _ => none) (fun _ => none) none (fun _ rest => Option.casesOn (ih rest) none fun n => some (Nat.succ n)))) fuel
def mFuel : Nat := 100000
def fLookup (str : Bool) (zero : V) (ok : Bool) (x k : V) (h : H) : Option V :=
  oR (fun r => Ref.casesOn r none (fun _ _ => none) none (fun _ _ _ _ => none) (fun _ _ _ _ => none) none
    (Bool.casesOn (isKeyK str k) none (some (Bool.casesOn ok zero (.t (.c zero (.c (.b false) .n))))))
    (fun id => obM (fun es => Option.casesOn (mFind k mFuel es) none fun r => Bool.casesOn (isKeyK str k) none (some (Option.casesOn r (Bool.casesOn ok zero (.t (.c zero (.c (.b false) .n)))) fun v => Bool.casesOn ok v (.t (.c v (.c (.b true) .n)))))) (H.get h id))
    none none (fun _ => none)) x
def fMLen (x : V) (h : H) : Option V :=
  oR (fun r => Ref.casesOn r none (fun _ _ => none) none (fun _ _ _ _ => none) (fun _ _ _ _ => none) none (some (goI 0))
    (fun id => obM (fun es => Option.casesOn (mLen mFuel es) none fun n => some (goI n)) (H.get h id)) none none (fun _ => none)) x
def fAssert (t : Nat) (zero : Option V) (v : V) : Option V :=
  let miss : Option V := Option.casesOn zero none fun z => some (.t (.c z (.c (.b false) .n)))
  V.casesOn v none (fun _ => none) (fun _ _ => none) (fun _ => none) (fun r => Ref.casesOn r none (fun _ _ => none) none (fun _ _ _ _ => none) (fun _ _ _ _ => none) none none (fun _ => none) none miss (fun _ => none))
    (fun _ _ _ => none) (fun d x => Bool.casesOn (Nat.beq d t) miss (some (Option.casesOn zero x fun _ => .t (.c x (.c (.b true) .n))))) (fun _ => none) (fun _ => none) none (fun _ _ => none)
def fLenStr (v : V) : Option V := oS (fun c => some (goI (slen c))) v
def fLenSl (v : V) : Option V := oR (fun x => Ref.casesOn x none (fun _ _ => none) (some (goI 0)) (fun _ _ n _ => some (goI n)) (fun _ _ _ n => some (goI n)) (some (goI 0)) none (fun _ => none) none none (fun _ => none)) v
def fCapSl (v : V) : Option V := oR (fun x => Ref.casesOn x none (fun _ _ => none) (some (goI 0)) (fun _ _ _ c => some (goI c)) (fun _ _ _ _ => none) none none (fun _ => none) none none (fun _ => none)) v
def fMin : V → V → Option V := bi2 fun k a b => some (.i k (Bool.casesOn (iLt b a) a b))
def fMax : V → V → Option V := bi2 fun k a b => some (.i k (Bool.casesOn (iLt a b) a b))
/-- unsafe.SliceData of a slice with an element -/
def fData (v : V) : Option V := oSl (some (.r .np)) (fun id off len => Bool.casesOn (Nat.beq len 0) (some (.r (.pt id off))) none) v

/-! #### the operations that make, write or call -/
abbrev K1 := V → H → Bool
abbrev L1 := C → Tm → H → K1 → Bool

/-- cells that hold a list of just n -/
def mkCs (st n : Nat) (l : V) : Option Cs := Bool.casesOn (Cs.fits (Cs.grow (Cs.nil st) n) n) none (Cs.stn n l (Cs.grow (Cs.nil st) n) 0)
/-- a new block of a list's n cells -/
def newL (st e : Nat) (fz : Fz) (ex : Bool) (n : Nat) (l : V) (h : H) (k : Nat → H → Bool) : Bool :=
  Option.casesOn (mkCs st n l) false fun cs => H.new h (.c e fz ex n cs) k

def lStore (agg : Bool) (sz : Nat) (ga gx : Tm → V) : L1 := fun _ T h k =>
  qPt (fun id off => Option.casesOn (cellsV agg (gx T)) false fun l => H.sts h id off sz l fun h' => k undV h') (ga T)
def lAlloc (e : Nat) (sz : Nat) (l : V) : L1 := fun _ _ h k => newL 1 e .no true sz l h fun id h' => k (.r (.pt id 0)) h'
def lBox (e : Nat) (agg : Bool) (sz : Nat) (gx : Tm → V) : L1 := fun _ T h k =>
  Option.casesOn (cellsV agg (gx T)) false fun l => newL 1 e .no true sz l h fun id h' => k (.r (.pt id 0)) h'

/-- the cells of a value, whatever it is -/
def vCells (v : V) : Option V := V.casesOn v none (fun x => some (.c (.b x) .n)) (fun k x => some (.c (.i k x) .n)) (fun c => some (.c (.s c) .n)) (fun r => some (.c (.r r) .n))
  (fun f a b => some (.c (.f f a b) .n)) (fun t x => some (.c (.w t x) .n)) (fun l => some l) (fun _ => none) none (fun _ _ => none)
/-- parts laid into a list of cells: where, how many cells, what -/
def fParts (ps : List (Nat × Nat × (Tm → V))) (T : Tm) (l : V) : Option V :=
  match ps with
  | [] => some l
  | (off, sz, g) :: ps => Option.casesOn (vCells (g T)) none fun x => Option.casesOn (V.over off x l sz) none fun m => fParts ps T m
def withParts {γ : Type} (d : γ) (place : Nat → Option (Nat × Nat)) (ps : List (Nat × Operand)) (k : List (Nat × Nat × (Tm → V)) → γ) : γ :=
  match ps with
  | [] => k []
  | (i, x) :: ps => (match place i with
    | some (off, sz) => withO x fun g => withParts d place ps fun l => k ((off, sz, g) :: l)
    | none => d)
def repV (n sz : Nat) (z : V) : Option V := Nat.rec (motive := fun _ => Option V) (some .n) (fun _ ih => Option.casesOn ih none fun l => V.app sz z l) n
def lBuildSl (e n sz : Nat) (z : V) (ps : List (Nat × Nat × (Tm → V))) : L1 := fun _ T h k =>
  Option.casesOn (fParts ps T z) false fun l => newL sz e .no true (Nat.mul n sz) l h fun id h' => k (.r (.sl id 0 n n)) h'

/-- what is appended or copied: how many elements, and their cells -/
def withNew (sz : Nat) (h : H) (x : V) (g : Nat → V → Bool) : Bool :=
  V.casesOn x false (fun _ => false) (fun _ _ => false) (fun c => Bool.casesOn (Nat.beq sz 1) false (g (slen c) (listN (slen c) c 0 .n)))
    (fun r => Ref.casesOn r false (fun _ _ => false) (g 0 .n)
      (fun id off len _ => Option.casesOn (H.lds h id off (Nat.mul len sz)) false fun l => g len l)
      (fun id _ off len => Option.casesOn (H.lds h id off (Nat.mul len sz)) false fun l => g len l)
      (g 0 .n) false (fun _ => false) false false (fun _ => false))
    (fun _ _ _ => false) (fun _ _ => false) (fun _ => false) (fun _ => false) false (fun _ _ => false)
/-- a new array for m old elements and n new ones -/
def apNew (e sz m n : Nat) (old l : V) (h : H) (k : K1) : Bool :=
  Bool.casesOn (Nat.ble (Nat.add m n) 65536) false
    (Option.casesOn (V.app (Nat.mul m sz) old l) false fun z => newL sz e .no false (Nat.mul (Nat.add m n) sz) z h fun id h' => k (.r (.so id sz 0 (Nat.add m n))) h')
/-- one that may have stood in its room or not: the elder block is left -/
def apGrow (e sz id len n N : Nat) (fz : Fz) (cs : Cs) (l : V) (h : H) (k : K1) : Bool :=
  Bool.casesOn (Nat.ble (Nat.mul len sz) N) false (Bool.casesOn (Nat.ble (Nat.add len n) 65536) false (Bool.casesOn (Cs.fits (Cs.grow cs (Nat.mul (Nat.add len n) sz)) (Nat.mul (Nat.add len n) sz)) false (Bool.casesOn (H.thaw fz (Nat.mul len sz)) false
    (Option.casesOn (Cs.stn (Nat.mul n sz) l (Cs.grow cs (Nat.mul (Nat.add len n) sz)) (Nat.mul len sz)) false fun cs' =>
      H.new (H.put h id .x) (.c e fz false (Nat.mul (Nat.add len n) sz) cs') fun id' h' => k (.r (.so id' sz 0 (Nat.add len n))) h'))))
def lAppend (e sz : Nat) (gs gx : Tm → V) : L1 := fun _ T h k =>
  withNew sz h (gx T) fun n l => qR (fun r => Ref.casesOn r false (fun _ _ => false)
    (Bool.casesOn (Nat.beq n 0) (apNew e sz 0 n .n l h k) (k (.r .ns) h))
    (fun id off len cap => Bool.casesOn (Nat.ble (Nat.add len n) cap)
      (Option.casesOn (H.lds h id off (Nat.mul len sz)) false fun old => apNew e sz len n old l h k)
      (H.sts h id (Nat.add off (Nat.mul len sz)) (Nat.mul n sz) l fun h' => k (.r (.sl id off (Nat.add len n) cap)) h'))
    (fun id z off len => Bool.casesOn (Nat.beq z sz) false (qbC (fun e' fz _ N cs => Bool.casesOn (Nat.beq e e') false
      (Bool.casesOn (Nat.ble (Nat.add off (Nat.mul (Nat.add len n) sz)) N)
        (Bool.casesOn (Nat.beq off 0) false (apGrow e sz id len n N fz cs l h k))
        (H.sts h id (Nat.add off (Nat.mul len sz)) (Nat.mul n sz) l fun h' => k (.r (.so id z off (Nat.add len n))) h'))) (H.get h id)))
    (Bool.casesOn (Nat.beq n 0) false (k (.r .se) h)) false (fun _ => false) false false (fun _ => false)) (gs T)
def lCopy (sz : Nat) (gd gx : Tm → V) : L1 := fun _ T h k =>
  withNew sz h (gx T) fun m l => qSl (k (goI 0) h) (fun id off len =>
    let n := Nat.min m len
    Option.casesOn (V.take (Nat.mul n sz) l) false fun l' => H.sts h id off (Nat.mul n sz) l' fun h' => k (goI n) h') (gd T)
def lBytes (e : Nat) (gx : Tm → V) : L1 := fun _ T h k =>
  qS (fun c => newL 1 e .st false (slen c) (listN (slen c) c 0 .n) h fun id h' => k (.r (.so id 1 0 (slen c))) h') (gx T)
/-- a slice of bytes that a constant text laid -/
def lMark (gx : Tm → V) : L1 := fun _ T h k =>
  qR (fun r => Ref.casesOn r false (fun _ _ => false) false
    (fun id off len cap => qbC (fun e fz ex N cs => Fz.casesOn fz (k (.r (.sl id off len cap)) (H.put h id (.c e .st ex N cs))) (fun _ => false) false) (H.get h id))
    (fun _ _ _ _ => false) false false (fun _ => false) false false (fun _ => false)) (gx T)
def frz (fz : Fz) (m : Nat) : Option Fz := Fz.casesOn fz (some (.to m)) (fun k => some (.to (Nat.max k m))) none
def lUnsStr (e : Nat) (gp gn : Tm → V) : L1 := fun _ T h k =>
  qNat (fun n => Bool.casesOn (Nat.beq n 0)
    (qPt (fun id off => qbC (fun e' fz ex N cs => Bool.casesOn (Nat.beq e e') false
      (Option.casesOn (H.lds h id off n) false fun l => Option.casesOn (bytesN n l) false fun c => Option.casesOn (frz fz (Nat.add off n)) false fun fz' =>
        k (.s c) (H.put h id (.c e fz' ex N cs)))) (H.get h id)) (gp T))
    (qR (fun r => Ref.casesOn r (k (.s 1) h) (fun _ _ => k (.s 1) h) false (fun _ _ _ _ => false) (fun _ _ _ _ => false) false false (fun _ => false) false false (fun _ => false)) (gp T))) (gn T)
def lMap : L1 := fun _ _ h k => H.new h (.m .n) fun id h' => k (.r (.mp id)) h'
def lMapPut (str : Bool) (gm gk gv : Tm → V) : L1 := fun _ T h k =>
  qR (fun r => Ref.casesOn r false (fun _ _ => false) false (fun _ _ _ _ => false) (fun _ _ _ _ => false) false false
    (fun id => qbM (fun es => Bool.casesOn (isKeyK str (gk T)) false (Option.casesOn (mPut (gk T) (gv T) mFuel es) false fun es' => k undV (H.put h id (.m es')))) (H.get h id))
    false false (fun _ => false)) (gm T)
def lMake (e sz : Nat) (z : V) (gl gc : Tm → V) : L1 := fun _ T h k =>
  qNat (fun len => qNat (fun cap => Bool.casesOn (Nat.ble len cap) false (Bool.casesOn (Nat.ble cap 65536) false
    (Option.casesOn (repV cap sz z) false fun l => newL sz e .no true (Nat.mul cap sz) l h fun id h' => k (.r (.sl id 0 len cap)) h'))) (gc T)) (gl T)
def lMkz (e : Nat) (ga : Tm → V) : L1 := fun _ T h k =>
  qC (fun a r => Bool.casesOn (qN true r) false (qI (fun kd x => Bool.casesOn (Nat.beq (kno kd) 3) false (Int.casesOn x (fun n => Bool.casesOn (Nat.ble n 4096) false (H.new h (.c e .no false n (Cs.c4 8 t4V)) fun id h' => k (.r (.so id 1 0 n)) h')) (fun _ => false))) a)) (ga T)
def lRange (gx : Tm → V) : L1 := fun _ T h k => qS (fun c => H.new h (.it c 0) fun id h' => k (.r (.pt id 0)) h') (gx T)
def lNext (gx : Tm → V) : L1 := fun _ T h k =>
  qPt (fun id off => Bool.casesOn (Nat.beq off 0) false (qbIt (fun c pos =>
    Bool.casesOn (Nat.ble (Nat.succ pos) (slen c)) (k (.t (.c (.b false) .n)) h)
      (Bool.casesOn (Nat.ble (sat c pos) 127) false
        (k (.t (.c (.b true) (.c (goI pos) (.c (.i .i32 (Int.ofNat (sat c pos))) .n)))) (H.put h id (.it c (Nat.succ pos)))))) (H.get h id))) (gx T)

def lCall (f : Nat) (ga : Tm → V) : L1 := fun call T h k => call false f (ga T) h k
def lPure (g : V → H → Option V) (ga : Tm → V) : L1 := fun _ T h k => Option.casesOn (g (ga T) h) false fun v => k v h
def argFuel : Nat := 64
/-- a function value is called -/
def lCallV (gf ga : Tm → V) : L1 := fun call T h k =>
  V.casesOn (gf T) false (fun _ => false) (fun _ _ => false) (fun _ => false)
    (fun r => Ref.casesOn r false (fun _ _ => false) false (fun _ _ _ _ => false) (fun _ _ _ _ => false) false false (fun _ => false) false false (fun id => Bool.casesOn (Nat.ble id 32767) false (call true id (ga T) h k)))
    (fun f fst caps => Option.casesOn (V.cat argFuel (ga T) caps) false fun a => Option.casesOn (V.cat argFuel fst a) false fun a' => call false f a' h k)
    (fun _ _ => false) (fun _ => false) (fun _ => false) false (fun _ _ => false)

/-- a method of a type, its receiver reached through parts of structs held by value -/
def mSteps (E : Env) (l : List FieldStep) (k : (V → Option V) → Option (Nat × (V → Option V))) : Option (Nat × (V → Option V)) :=
  match l with
  | [] => k some
  | s :: l => (match s.deref, E.und s.struct with
    | false, some (.struct fs) => (match fs[s.index]? with
      | some f => (match E.und f.type with
        | some _ => mSteps E l fun g => k fun v => Option.casesOn (fField (E.isAg f.type) f.offset (E.szOf f.type) v) none g
        | none => none)
      | none => none)
    | _, _ => none)
/-- the type at the path's end -/
def mType (E : Env) (l : List FieldStep) (t : Nat) : Option Nat :=
  match l with
  | [] => some t
  | s :: l => (match E.und s.struct with
    | some (.struct fs) => (match fs[s.index]? with | some f => mType E l f.type | none => none)
    | _ => none)
def mth (E : Env) (t : Nat) (name : String) : Option (Nat × (V → Option V)) :=
  match E.tt t with
  | some i => (match i.methods.find? (·.name == name) with
    | some m => (match m.func, mType E m.path.toList t with
      | some (f, ptr), some xt => (match E.und xt, ptr with
        | some (.pointer _), true => mSteps E m.path.toList fun g => some (f, g)
        | some (.pointer _), false => none
        | some _, false => mSteps E m.path.toList fun g => some (f, g)
        | _, _ => none)
      | _, _ => none)
    | none => none)
  | none => none
def lInvoke (E : Env) (name : String) (gr ga : Tm → V) : L1 := fun call T h k =>
  qW (fun t v => match mth E t name with
    | some (f, g) => Option.casesOn (g v) false fun x => call false f (.c x (ga T)) h k
    | none => false) (gr T)

def fFn (f : Nat) (g1 g2 : Tm → V) : Tm → H → Option V := fun T _ => some (.f f (g1 T) (g2 T))
/-- a deferred call: its arguments behind those that it had -/
def fDefer (gf ga : Tm → V) : Tm → Option V := fun T =>
  oF (fun f fst caps => Option.casesOn (V.cat argFuel fst (ga T)) none fun a => some (.f f a caps)) (gf T)

def optO {γ : Type} (x : Option Operand) (k : (Tm → Option V) → γ) : γ :=
  match x with
  | none => k fun _ => none
  | some x => withO x fun g => k fun T => some (g T)

/-- a call of a function that is named -/
def cFun (E : Env) (f : Nat) (ga : Tm → V) : L1 :=
  match E.sm f with
  | .no => lCall f ga
  | .pure g => lPure g ga
  | .mkz e => lMkz e ga
  | .seg _ => lCall f ga

/-- may such elements be appended: some cells, so many bytes, a zero of so many cells -/
def apOk (E : Env) (e : Nat) : Bool := match Nat.ble 1 (E.szOf e), Nat.ble (E.byOf e) 65536, E.zer e with
  | true, true, some z => (match vCells z with | some l => V.isLen (E.szOf e) l | none => false)
  | _, _, _ => false
def cBuiltin (E : Env) (ops : Ops) (o : Oper) (b : Builtin) (args : List Operand) (ts : List Nat) : IOp :=
  match b, args, ts with
  | .len, [x], [t] => withO x fun g => (match E.und t with
    | some .string => finQ ops o (q1 g fLenStr)
    | some (.slice _) => finQ ops o (q1 g fLenSl)
    | some (.map _ _) => finQ ops o fun T h => fMLen (g T) h
    | some (.array n _) => finQ ops o fun _ _ => some (goI n)
    | some (.pointer a) => (match E.und a with | some (.array n _) => finQ ops o fun _ _ => some (goI n) | _ => .bad)
    | _ => .bad)
  | .cap, [x], [t] => withO x fun g => (match E.und t with | some (.slice _) => finQ ops o (q1 g fCapSl) | _ => .bad)
  | .min, [x, y], _ => withO x fun g => withO y fun g' => finQ ops o (q2 g g' fMin)
  | .max, [x, y], _ => withO x fun g => withO y fun g' => finQ ops o (q2 g g' fMax)
  | .append, [x, y], [t, t'] => withO x fun g => withO y fun g' => (match E.und t, E.und t' with
    | some (.slice e), some (.slice _) => (match apOk E e with | true => finL ops o (lAppend e (E.szOf e) g g') | false => .bad)
    | some (.slice e), some .string => (match apOk E e with | true => finL ops o (lAppend e (E.szOf e) g g') | false => .bad)
    | _, _ => .bad)
  | .copy, [x, y], t :: _ => withO x fun g => withO y fun g' => (match E.und t with
    | some (.slice e) => (match E.kn e with | true => finL ops o (lCopy (E.szOf e) g g') | false => .bad)
    | _ => .bad)
  | .unsafeSliceData, [x], _ => withO x fun g => finQ ops o (q1 g fData)
  | .unsafeString, [x, y], t :: _ => withO x fun g => withO y fun g' => (match E.und t with
    | some (.pointer e) => (match E.szOf e with | 1 => finL ops o (lUnsStr e g g') | _ => .bad)
    | _ => .bad)
  | _, _, _ => .bad

def cCall (E : Env) (ops : Ops) (o : Oper) (c : Call) : IOp :=
  match c.callee with
  | .builtin b => cBuiltin E ops o b c.args.toList c.argTypes.toList
  | .value (.func f) => withL c.args.toList fun ga => finL ops o (cFun E f ga)
  | .value x => withO x fun gf => withL c.args.toList fun ga => finL ops o (lCallV gf ga)
  | .invoke x name => withO x fun gr => withL c.args.toList fun ga => finL ops o (lInvoke E name gr ga)

def fLoadAt (agg : Bool) (sz : Nat) (g : Tm → V) (T : Tm) (h : H) : Option V := fLoad agg sz (g T) h
def fIface (t : Nat) (v : V) : Option V := some (.w t v)
def c_move (x : Operand) (_ : Env) (ops : Ops) (o : Oper) : IOp := withO x fun g => finQ ops o (q1 g some)
def c_assign (x : Operand) (_ : Env) (ops : Ops) (o : Oper) : IOp := withO x fun g => finQ ops o (q1 g some)
def c_pick (c x y : Operand) (_ : Env) (ops : Ops) (o : Oper) : IOp := withO c fun gc => withO x fun gx => withO y fun gy => finQ ops o fun T _ => fPick (gc T) (gx T) (gy T)
def c_alloc (t : Nat) (E : Env) (ops : Ops) (o : Oper) : IOp := match E.zer t with
    | some z => (match cellsV (E.isAg t) z with | some l => finL ops o (lAlloc t (E.szOf t) l) | none => .bad)
    | none => .bad
def c_box (t : Nat) (x : Operand) (E : Env) (ops : Ops) (o : Oper) : IOp := withO x fun g => finL ops o (lBox t (E.isAg t) (E.szOf t) g)
def c_build (t : Nat) (ps : Array (Nat × Operand)) (E : Env) (ops : Ops) (o : Oper) : IOp := match E.und t, E.zer t with
    | some (.struct fs), some (.a z) => (match fs.toList.all fun f => E.kn f.type with
      | true => withParts .bad (fun i => match fs[i]? with | some f => some (f.offset, E.szOf f.type) | none => none) ps.toList fun l =>
        finQ ops o fun T _ => Option.casesOn (fParts l T z) none fun m => some (.a m)
      | false => .bad)
    | some (.array _ e), some (.a z) => (match E.kn e with
      | true => withParts .bad (fun i => some (Nat.mul i (E.szOf e), E.szOf e)) ps.toList fun l =>
        finQ ops o fun T _ => Option.casesOn (fParts l T z) none fun m => some (.a m)
      | false => .bad)
    | _, _ => .bad
def c_buildSlice (t n : Nat) (ps : Array (Nat × Operand)) (E : Env) (ops : Ops) (o : Oper) : IOp := match E.und t with
    | some (.slice e) => (match E.zer e with
      | some z => (match cellsV (E.isAg e) z with
        | some l => (match repV n (E.szOf e) l, Nat.ble (Nat.mul n (E.szOf e)) 4096 with
          | some zs, true => withParts .bad (fun i => some (Nat.mul i (E.szOf e), E.szOf e)) ps.toList fun pl => finL ops o (lBuildSl e n (E.szOf e) zs pl)
          | _, _ => .bad)
        | none => .bad)
      | none => .bad)
    | _ => .bad
/-- are a map's keys texts, or else whole numbers? -/
def keyK (E : Env) (t : Nat) : Option Bool := match E.und t with | some (.int _) => some false | some .string => some true | _ => none
def c_mapPut (t : Nat) (x y z : Operand) (E : Env) (ops : Ops) (o : Oper) : IOp := match E.und t with
    | some (.map kt _) => (match keyK E kt with
      | some str => withO x fun g => withO y fun g' => withO z fun g'' => finL ops o (lMapPut str g g' g'')
      | none => .bad)
    | _ => .bad
def c_insert := c_mapPut
def c_load (t : Nat) (x : Operand) (E : Env) (ops : Ops) (o : Oper) : IOp := match E.und t with
    | some _ => withO x fun g => finQ ops o (fLoadAt (E.isAg t) (E.szOf t) g)
    | none => .bad
def c_store (t : Nat) (x y : Operand) (E : Env) (ops : Ops) (o : Oper) : IOp := match E.und t with
    | some _ => withO x fun g => withO y fun g' => finL ops o (lStore (E.isAg t) (E.szOf t) g g')
    | none => .bad
def c_ready (_ : Nat) (_ : Env) (_ : Ops) (_ : Oper) : IOp := .bad
def c_waits (_ : Nat) (_ : Env) (_ : Ops) (_ : Oper) : IOp := .bad
def c_nilCheck (x : Operand) (_ : Env) (ops : Ops) (o : Oper) : IOp := withO x fun g => finQ ops o (q1 g fNilCheck)
/-- and what is known of numbers and texts that are not known -/
def hook (E : Env) (op : BinOp) (t : Nat) (gx gy : Tm → V) (f : Tm → H → Option V) (T : Tm) (h : H) : Option V := Option.rec (motive := fun _ => Option V) (E.un op t (gx T) (gy T)) some (f T h)
def c_binOp (op : BinOp) (t : Nat) (x y : Operand) (_ : Nat) (E : Env) (ops : Ops) (o : Oper) : IOp := withO x fun gx => withO y fun gy => (match cBin E op t x y gx gy with | some f => finQ ops o (hook E op t gx gy f) | none => .bad)
def c_unOp (op : UnOp) (_ : Nat) (x : Operand) (_ : Env) (ops : Ops) (o : Oper) : IOp := withO x fun g => (match op with | .not => finQ ops o (q1 g fNot) | .neg => finQ ops o (q1 g fNeg) | .xor => finQ ops o (q1 g fCompl) | _ => .bad)
def c_convert (src dst : Nat) (x : Operand) (E : Env) (ops : Ops) (o : Oper) : IOp := withO x fun g => (match E.und src, E.und dst with
    | some .string, some (.slice e) => (match E.und e with | some (.int .u8) => finL ops o (lBytes e g) | _ => .bad)
    | some (.slice _), some (.slice e) => (match Nat.beq src dst, E.und e with | true, some (.int .u8) => finL ops o (lMark g) | _, _ => .bad)
    | _, _ => (match cConv E src dst g with | some f => finQ ops o f | none => .bad))
def c_sliceToArrayPointer (_ : Nat) (_ : Operand) (_ : Env) (_ : Ops) (_ : Oper) : IOp := .bad
def c_makeInterface (t : Nat) (x : Operand) (E : Env) (ops : Ops) (o : Oper) : IOp := match E.und t with
    | some (.interface _) => .bad
    | some _ => withO x fun g => finQ ops o (q1 g (fIface t))
    | none => .bad
def c_makeFunc (fn : Fn) (a b : Array Operand) (_ : Env) (ops : Ops) (o : Oper) : IOp := match fn with
    | .func f => withL a.toList fun g1 => withL b.toList fun g2 => finQ ops o (fFn f g1 g2)
    | _ => .bad
def c_makeMap (_ : Nat) (r : Option Operand) (_ : Env) (ops : Ops) (o : Oper) : IOp := match r with | none => finL ops o lMap | some _ => .bad
def c_makeChan (_ : Nat) (_ : Operand) (_ : Env) (_ : Ops) (_ : Oper) : IOp := .bad
def c_makeSlice (t : Nat) (x y : Operand) (E : Env) (ops : Ops) (o : Oper) : IOp := match E.und t with
    | some (.slice e) => (match E.zer e, Nat.ble (E.byOf e) 65536 with
      | some z, true => (match cellsV (E.isAg e) z with | some l => withO x fun g => withO y fun g' => finL ops o (lMake e (E.szOf e) l g g') | none => .bad)
      | _, _ => .bad)
    | _ => .bad
def c_slice (t : Nat) (x : Operand) (lo hi mx : Option Operand) (E : Env) (ops : Ops) (o : Oper) : IOp := match mx with
    | some _ => .bad
    | none => withO x fun g => optO lo fun gl => optO hi fun gh => (match E.und t with
      | some .string => finQ ops o fun T _ => fSliceStr (gl T) (gh T) (g T)
      | some (.slice e) => (match E.kn e with | true => finQ ops o fun T _ => fSliceSl (E.szOf e) (gl T) (gh T) (g T) | false => .bad)
      | some (.array n e) => (match E.kn e with | true => finQ ops o fun T _ => fSliceArr n (E.szOf e) (gl T) (gh T) (g T) | false => .bad)
      | _ => .bad)
def c_fieldAddr (t : Nat) (x : Operand) (i : Nat) (E : Env) (ops : Ops) (o : Oper) : IOp := match E.und t with
    | some (.struct fs) => (match fs[i]? with
      | some f => (match E.szOf f.type with | 0 => .bad | _ => withO x fun g => finQ ops o (q1 g (fFieldAddr f.offset)))
      | none => .bad)
    | _ => .bad
def c_field (t : Nat) (x : Operand) (i : Nat) (E : Env) (ops : Ops) (o : Oper) : IOp := match E.und t with
    | some (.struct fs) => (match fs[i]? with
      | some f => (match E.und f.type with | some _ => withO x fun g => finQ ops o (q1 g (fField (E.isAg f.type) f.offset (E.szOf f.type))) | none => .bad)
      | none => .bad)
    | _ => .bad
def c_indexAddr (t : Nat) (x y : Operand) (E : Env) (ops : Ops) (o : Oper) : IOp := withO x fun g => withO y fun g' => (match E.und t with
    | some (.slice e) => (match E.kn e with | true => finQ ops o (q2 g g' (fIndexAddr (E.szOf e))) | false => .bad)
    | some (.array n e) => (match E.kn e with | true => finQ ops o (q2 g g' (fIndexArr n (E.szOf e))) | false => .bad)
    | _ => .bad)
def c_index (t : Nat) (x y : Operand) (E : Env) (ops : Ops) (o : Oper) : IOp := withO x fun g => withO y fun g' => (match E.und t with
    | some .string => finQ ops o (q2 g g' fIndexStr)
    | some (.array n e) => (match E.und e with | some _ => finQ ops o (q2 g g' (fIndexAgg (E.isAg e) n (E.szOf e))) | none => .bad)
    | _ => .bad)
def c_lookup (t : Nat) (x y : Operand) (ok : Bool) (E : Env) (ops : Ops) (o : Oper) : IOp := withO x fun g => withO y fun g' => (match E.und t with
    | some (.map kt e) => (match E.zer e, keyK E kt with | some z, some str => finQ ops o fun T h => fLookup str z ok (g T) (g' T) h | _, _ => .bad)
    | _ => .bad)
def c_mapUpdate := c_mapPut
def c_mapEntry (_ : Nat) (_ _ : Operand) (_ : Env) (_ : Ops) (_ : Oper) : IOp := .bad
def c_entryStore (_ : Nat) (_ _ _ : Operand) (_ : Env) (_ : Ops) (_ : Oper) : IOp := .bad
def c_range (t : Nat) (x : Operand) (E : Env) (ops : Ops) (o : Oper) : IOp := match E.und t with | some .string => withO x fun g => finL ops o (lRange g) | _ => .bad
def c_next (x : Operand) (str : Bool) (_ : Env) (ops : Ops) (o : Oper) : IOp := match str with | true => withO x fun g => finL ops o (lNext g) | false => .bad
def c_entry (_ : Operand) (_ : Env) (_ : Ops) (_ : Oper) : IOp := .bad
/-- has a type the methods? -/
def hasAll (want : Array (String × TypeId)) (got : Array Method) : Bool := (want.toList.filter fun (name, sig) => !got.any fun m => m.name == name && m.sig == sig).isEmpty
/-- is a value of an interface one of another interface? -/
def fAssertI (E : Env) (ms : Array (String × TypeId)) (z v : V) : Option V :=
  V.casesOn v none (fun _ => none) (fun _ _ => none) (fun _ => none) (fun r => Ref.casesOn r none (fun _ _ => none) none (fun _ _ _ _ => none) (fun _ _ _ _ => none) none none (fun _ => none) none (some (.t (.c z (.c (.b false) .n)))) (fun _ => none))
    (fun _ _ _ => none) (fun d x => Option.casesOn (E.tt d) none fun i => some (Bool.casesOn (hasAll ms i.methods) (.t (.c z (.c (.b false) .n))) (.t (.c (.w d x) (.c (.b true) .n))))) (fun _ => none) (fun _ => none) none (fun _ _ => none)
def c_typeAssert (x : Operand) (_ t : Nat) (ok : Bool) (E : Env) (ops : Ops) (o : Oper) : IOp := match E.und t, ok, E.zer t with
    | some (.interface ms), true, some z => withO x fun g => finQ ops o (q1 g (fAssertI E ms z))
    | some (.interface _), _, _ => .bad
    | some _, true, some z => withO x fun g => finQ ops o (q1 g (fAssert t (some z)))
    | some _, false, _ => withO x fun g => finQ ops o (q1 g (fAssert t none))
    | _, _, _ => .bad
def c_extract (x : Operand) (i : Nat) (_ : Env) (ops : Ops) (o : Oper) : IOp := withO x fun g => finQ ops o (q1 g (fExtract i))
def c_call (c : Call) (E : Env) (ops : Ops) (o : Oper) : IOp := cCall E ops o c
def c_go (_ : Call) (_ : Env) (_ : Ops) (_ : Oper) : IOp := .bad
def c_defer (c : Call) (_ : Env) (_ : Ops) (o : Oper) : IOp := match c.callee, o.dst, o.guard with
    | .value x, none, none => withO x fun gf => withL c.args.toList fun ga => .df (fDefer gf ga)
    | _, _, _ => .bad
def c_panic (_ : Operand) (_ : Env) (_ : Ops) (_ : Oper) : IOp := .bad
def c_send (_ _ : Operand) (_ : Env) (_ : Ops) (_ : Oper) : IOp := .bad
def c_recv (_ : Nat) (_ : Operand) (_ : Bool) (_ : Env) (_ : Ops) (_ : Oper) : IOp := .bad
def c_select (_ : Array SelectCase) (_ : Bool) (_ : Env) (_ : Ops) (_ : Oper) : IOp := .bad
/-- an operation made ready -/
def cOp (E : Env) (ops : Ops) (o : Oper) : IOp := Op.casesOn (motive := fun _ => Env → Ops → Oper → IOp) o.op c_move c_assign c_pick c_alloc c_box c_build c_buildSlice c_insert c_load c_store c_ready c_waits c_nilCheck c_binOp c_unOp c_convert c_sliceToArrayPointer c_makeInterface c_makeFunc c_makeMap c_makeChan c_makeSlice c_slice c_fieldAddr c_field c_indexAddr c_index c_lookup c_mapUpdate c_mapEntry c_entryStore c_range c_next c_entry c_typeAssert c_extract c_call c_go c_defer c_panic c_send c_recv c_select E ops o

/-! ### regions -/
abbrev K2 := Tm → H → V → Bool   -- D, the deferred calls, is a list of .f; a loop's mark is .r (.y block)
abbrev Rn := C → Tm → H → V → K2 → Bool
def oQ (p : V → Tm → Tm) (f : Tm → H → Option V) (ih : Rn) (call : C) (T : Tm) (h : H) (D : V) (k : K2) : Bool :=
  Option.rec (motive := fun _ => Bool) false (fun v => ih call (p v T) h D k) (f T h)
def oL (p : V → Tm → Tm) (f : L1) (ih : Rn) (call : C) (T : Tm) (h : H) (D : V) (k : K2) : Bool :=
  f call T h fun v h' => ih call (p v T) h' D k
/-- a guard: wanted, or not; else nothing is known -/
def onGuard (v : V) (want : Bool) (yes no : Bool) : Bool :=
  V.rec (motive := fun _ => Bool → Bool → Bool → Bool) (fun _ _ _ => false) (fun x want yes no => Bool.rec (motive := fun _ => Bool) no yes (beqB x want)) (fun _ _ _ _ _ => false) (fun _ _ _ _ => false) (fun _ _ _ _ => false) (fun _ _ _ _ _ _ _ _ => false) (fun _ _ _ _ _ _ => false) (fun _ _ _ _ _ => false) (fun _ _ _ _ no => no) (fun _ _ _ => false) (fun _ _ _ _ _ _ _ => false) v want yes no
def oQG (g : Tm → V) (want : Bool) (p : V → Tm → Tm) (f : Tm → H → Option V) (ih : Rn) (call : C) (T : Tm) (h : H) (D : V) (k : K2) : Bool :=
  onGuard (g T) want (oQ p f ih call T h D k) (ih call (p undV T) h D k)
def oLG (g : Tm → V) (want : Bool) (p : V → Tm → Tm) (f : L1) (ih : Rn) (call : C) (T : Tm) (h : H) (D : V) (k : K2) : Bool :=
  onGuard (g T) want (oL p f ih call T h D k) (ih call (p undV T) h D k)
/-- is it a list (of deferred calls)? in a round it is not -/
def isL (D : V) : Bool := V.casesOn D false (fun _ => false) (fun _ _ => false) (fun _ => false) (fun _ => false) (fun _ _ _ => false) (fun _ _ => false) (fun _ => false) (fun _ => false) true (fun _ _ => true)
def oDF (f : Tm → Option V) (ih : Rn) (call : C) (T : Tm) (h : H) (D : V) (k : K2) : Bool :=
  Bool.rec (motive := fun _ => Bool) false (Option.rec (motive := fun _ => Bool) false (fun d => ih call T h (.c d D) k) (f T)) (isL D)
def oBad (_ : Rn) (_ : C) (_ : Tm) (_ : H) (_ : V) (_ : K2) : Bool := false
def oNil (_ : C) (T : Tm) (h : H) (D : V) (k : K2) : Bool := k T h D
def oCons (io : IOp) (_ : List IOp) (ih : Rn) (call : C) (T : Tm) (h : H) (D : V) (k : K2) : Bool :=
  IOp.rec (motive := fun _ => Rn → Rn) oQ oL oQG oLG oDF oBad io ih call T h D k
def evOps (l : List IOp) (call : C) (T : Tm) (h : H) (D : V) (k : K2) : Bool := List.rec (motive := fun _ => Rn) oNil oCons l call T h D k

/-- are two values known to be the same? -/
def vSame (fuel : Nat) : V → V → Bool := Nat.rec (motive := fun _ => V → V → Bool) (fun _ _ => false)
  (fun _ ih a b => V.casesOn a false
    (fun x => qB (beqB x) b)
    (fun k x => qI (fun k' y => Bool.casesOn (Nat.beq (kno k) (kno k')) false (iEq x y)) b)
    (fun c => qS (Nat.beq c) b)
    (fun r => qR (fun q => Ref.casesOn r (Ref.casesOn q true (fun _ _ => false) false (fun _ _ _ _ => false) (fun _ _ _ _ => false) false false (fun _ => false) false false (fun _ => false))
        (fun i m => Ref.casesOn q false (fun j n => Bool.casesOn (Nat.beq i j) false (Nat.beq m n)) false (fun _ _ _ _ => false) (fun _ _ _ _ => false) false false (fun _ => false) false false (fun _ => false))
        (Ref.casesOn q false (fun _ _ => false) true (fun _ _ _ _ => false) (fun _ _ _ _ => false) false false (fun _ => false) false false (fun _ => false))
        (fun i m n c => Ref.casesOn q false (fun _ _ => false) false (fun i' m' n' c' => Bool.casesOn (Nat.beq i i') false (Bool.casesOn (Nat.beq m m') false (Bool.casesOn (Nat.beq n n') false (Nat.beq c c')))) (fun _ _ _ _ => false) false false (fun _ => false) false false (fun _ => false))
        (fun i m n c => Ref.casesOn q false (fun _ _ => false) false (fun _ _ _ _ => false) (fun i' m' n' c' => Bool.casesOn (Nat.beq i i') false (Bool.casesOn (Nat.beq m m') false (Bool.casesOn (Nat.beq n n') false (Bool.casesOn (Nat.beq c c') false (Nat.ble 1 m))))) false false (fun _ => false) false false (fun _ => false))
        false
        (Ref.casesOn q false (fun _ _ => false) false (fun _ _ _ _ => false) (fun _ _ _ _ => false) false true (fun _ => false) false false (fun _ => false))
        (fun i => Ref.casesOn q false (fun _ _ => false) false (fun _ _ _ _ => false) (fun _ _ _ _ => false) false false (fun j => Nat.beq i j) false false (fun _ => false))
        (Ref.casesOn q false (fun _ _ => false) false (fun _ _ _ _ => false) (fun _ _ _ _ => false) false false (fun _ => false) true false (fun _ => false))
        (Ref.casesOn q false (fun _ _ => false) false (fun _ _ _ _ => false) (fun _ _ _ _ => false) false false (fun _ => false) false true (fun _ => false))
        (fun i => Ref.casesOn q false (fun _ _ => false) false (fun _ _ _ _ => false) (fun _ _ _ _ => false) false false (fun _ => false) false false (fun j => Nat.beq i j))) b)
    (fun f x y => qF (fun f' x' y' => Bool.casesOn (Nat.beq f f') false (Bool.casesOn (ih x x') false (ih y y'))) b)
    (fun t x => qW (fun t' x' => Bool.casesOn (Nat.beq t t') false (ih x x')) b)
    (fun l => qA (fun l' => ih l l') b)
    (fun l => qT (fun l' => ih l l') b)
    (qN true b)
    (fun x y => qC (fun x' y' => Bool.casesOn (ih x x') false (ih y y')) b)) fuel

/-- an operation of a region that draws its order, and what is looked at again behind it: readers, each with the place of its value -/
inductive DOp where | mk (o : IOp) (again : List ((Tm → H → Option V) × (Tm → V)))
/-- do the readers still tell what they told? -/
def evAgain (l : List ((Tm → H → Option V) × (Tm → V))) (T : Tm) (h : H) : Bool :=
  match l with
  | [] => true
  | (f, g) :: l => Option.casesOn (f T h) false fun v => Bool.casesOn (vSame 100000 (g T) v) false (evAgain l T h)
abbrev Ag := List ((Tm → H → Option V) × (Tm → V))
def dL (ag : Ag) (p : V → Tm → Tm) (f : L1) (ih : Rn) (call : C) (T : Tm) (h : H) (D : V) (k : K2) : Bool :=
  f call T h fun v h' => Bool.rec (motive := fun _ => Bool) false (ih call (p v T) h' D k) (evAgain ag T h')
def dLG (ag : Ag) (g : Tm → V) (want : Bool) (p : V → Tm → Tm) (f : L1) (ih : Rn) (call : C) (T : Tm) (h : H) (D : V) (k : K2) : Bool :=
  onGuard (g T) want (dL ag p f ih call T h D k) (ih call (p undV T) h D k)
def dQ (_ : Ag) := oQ
def dQG (_ : Ag) := oQG
def dDF (_ : Ag) (_ : Tm → Option V) := oBad
def dBad (_ : Ag) := oBad
def dOp (io : IOp) (ag : Ag) (ih : Rn) (call : C) (T : Tm) (h : H) (D : V) (k : K2) : Bool :=
  IOp.rec (motive := fun _ => Ag → Rn → Rn) (fun p f ag => dQ ag p f) (fun p f ag => dL ag p f) (fun g w p f ag => dQG ag g w p f) (fun g w p f ag => dLG ag g w p f) (fun f ag => dDF ag f) dBad io ag ih call T h D k
def dCons (d : DOp) (_ : List DOp) (ih : Rn) (call : C) (T : Tm) (h : H) (D : V) (k : K2) : Bool :=
  DOp.rec (motive := fun _ => Rn → Rn) dOp d ih call T h D k
def evDOps (l : List DOp) (call : C) (T : Tm) (h : H) (D : V) (k : K2) : Bool := List.rec (motive := fun _ => Rn) oNil dCons l call T h D k

/-! #### the plan of a region that draws -/
def isLoud (io : IOp) : Bool := match io with | .l _ _ => true | .lg _ _ _ _ => true | _ => false
def isGood (io : IOp) : Bool := match io with | .bad => false | .df _ => false | _ => true
/-- does an operation look at memory? -/
def looks (o : Oper) : Bool :=
  match o.op with
  | .load _ _ => true
  | .convert _ _ _ => true
  | .lookup _ _ _ _ => true
  | .call _ => true
  | _ => false
def tmpsOf (l : List Operand) : List Nat := match l with | [] => [] | .tmp t :: l => t :: tmpsOf l | _ :: l => tmpsOf l
def namesOf (ops : Array Oper) (o : Oper) : List Nat :=
  tmpsOf o.op.operands.toList ++ (match o.guard with | some (j, _) => (match guardOf ops j with | some t => [t] | none => []) | none => [])
def memN (t : Nat) (l : List Nat) : Bool := match l with | [] => false | x :: l => Bool.casesOn (Nat.beq t x) (memN t l) true
/-- what stands ahead of each operation, by steps: a mask for each -/
def befN (es : List Edge) (m : List Nat) : Nat :=
  match es with
  | [] => 0
  | e :: es => Bool.casesOn (Region.binds .any e) (befN es m) (Nat.lor (Nat.lor (Nat.shiftLeft 1 e.on) (m.getD e.on 0)) (befN es m))
def befs (l : List Oper) (m : List Nat) : List Nat := match l with | [] => m | o :: l => befs l (m ++ [befN o.after.toList m])
def bit (m i : Nat) : Bool := Nat.beq (Nat.mod (Nat.shiftRight m i) 2) 1
/-- edges lead backwards -/
def edgesOk (es : List Edge) (i : Nat) : Bool := match es with | [] => true | e :: es => Bool.casesOn (Region.binds .any e) (edgesOk es i) (Bool.casesOn (Nat.ble (Nat.succ e.on) i) false (edgesOk es i))
/-- does a later operation leave alone what an earlier one names and where it puts its value? -/
def back (ops : Array Oper) (a b : Oper) : Bool := match b.dst with | none => true | some d => (match memN d (namesOf ops a), a.dst with | true, _ => false | false, none => true | false, some d' => not (Nat.beq d d'))
/-- does it not name its own place? -/
def selfOk (ops : Array Oper) (a : Oper) : Bool := match a.dst with | none => true | some d => not (memN d (namesOf ops a))
/-- and does it not name where the earlier one puts its value? -/
def indep (ops : Array Oper) (a b : Oper) : Bool := match a.dst with | none => true | some d => not (memN d (namesOf ops b))
/-- row of region: index, operation, ready form, mask -/
abbrev Row := Nat × Oper × IOp × Nat
def rows (E : Env) (ops : Ops) (l : List Oper) (m : List Nat) (i : Nat) : List Row :=
  match l with | [] => [] | o :: l => (i, o, cOp E ops o, m.getD i 0) :: rows E ops l m (i + 1)
/-- an allocation: the order of these and of other loud operations need not be fixed -/
def flt (o : Oper) (io : IOp) : Bool :=
  match o.guard, io with
  | none, .l _ _ => (match o.op with
    | .alloc _ => true
    | .box _ _ => true
    | .makeSlice _ _ _ => true
    | .makeMap _ none => true
    | .buildSlice _ _ _ => true
    | _ => false)
  | _, _ => false
/-- the mask of an allocation that comes behind all the loud ones that it need not come ahead of -/
def virtF (i mi : Nat) (l : List Row) (m v : List Nat) : Nat :=
  match l with
  | [] => mi
  | (j, o, io, _) :: l => match isLoud io && !(Nat.beq i j) && !(bit mi j) && !(bit (m.getD j 0) i), flt o io, Nat.ble (Nat.succ j) i with
    | true, false, _ => Nat.lor (Nat.lor (Nat.shiftLeft 1 j) (m.getD j 0)) (virtF i mi l m v)
    | true, true, true => Nat.lor (Nat.lor (Nat.shiftLeft 1 j) (v.getD j 0)) (virtF i mi l m v)
    | _, _, _ => virtF i mi l m v
def virts (all l : List Row) (m v : List Nat) : List Nat :=
  match l with
  | [] => v
  | (i, o, io, _) :: l => virts all l m (v ++ [match flt o io with | true => virtF i (m.getD i 0) all m v | false => m.getD i 0])
def sub (a b : Nat) : Bool := Nat.beq (Nat.lor a b) b
/-- two operations, the first of which stands ahead in the text: masks of the one and the other, as they bind and as they are done -/
def okPair (ops : Array Oper) (i j : Nat) (o o' : Oper) (io io' : IOp) (mj vi vj : Nat) : Bool :=
  back ops o o' && (bit mj i || indep ops o o') && (!(isLoud io && isLoud io') || bit vj i || bit vi j)
/-- what an operation's mask says of another one's -/
def okMask (n mi vi : Nat) (l : List Row) : Bool :=
  match l with
  | [] => true
  | (j, o, io, vj) :: l => (!(bit vi j) || sub vj vi) && (!(bit mi j && flt o io) || sub vj mi) && okMask n mi vi l
def okRow (ops : Array Oper) (m : List Nat) (all : List Row) (i : Nat) (o : Oper) (io : IOp) (vi : Nat) : Bool :=
  isGood io && selfOk ops o && edgesOk o.after.toList i && sub (m.getD i 0) vi && !(bit vi i) && Nat.beq (Nat.shiftRight vi ops.size) 0 && (flt o io || Nat.beq (m.getD i 0) vi) && okMask ops.size (m.getD i 0) vi all
def okRows (ops : Array Oper) (m : List Nat) (all l : List Row) : Bool :=
  match l with
  | [] => true
  | (i, o, io, vi) :: l => okRow ops m all i o io vi && l.all (fun (j, o', io', vj) => okPair ops i j o o' io io' (m.getD j 0) vi vj) && okRows ops m all l
/-- how many loud ones stand ahead -/
def phase (l : List Row) (m : Nat) : Nat := match l with | [] => 0 | (i, _, io, _) :: l => (if isLoud io && bit m i then 1 else 0) + phase l m
def ioRead (io : IOp) : Option (Tm → H → Option V) := match io with | .q _ f => some f | .qg g want _ f => some (fun T h => V.casesOn (g T) none (fun x => Bool.casesOn (beqB x want) (some undV) (f T h)) (fun _ _ => none) (fun _ => none) (fun _ => none) (fun _ _ _ => none) (fun _ _ => none) (fun _ => none) (fun _ => some undV) none (fun _ _ => none)) | _ => none
/-- the readers of phases up to n that do not stand ahead of a loud one -/
def again (all : List Row) (l : List Row) (n m : Nat) : List ((Tm → H → Option V) × (Tm → V)) :=
  match l with
  | [] => []
  | (i, o, io, mi) :: l =>
    match isLoud io || !looks o || bit m i || !(Nat.ble (phase all mi) n), o.dst, ioRead io with
    | true, _, _ => again all l n m
    | false, some d, some f => withR d fun g => (f, g) :: again all l n m
    | false, _, _ => (fun _ _ => none, fun _ => .u) :: again all l n m
def planAt (all : List Row) (l : List Row) (n : Nat) : List DOp × List DOp :=
  match l with
  | [] => ([], [])
  | (_, _, io, m) :: l =>
    match planAt all l n, Nat.beq (phase all m) n, isLoud io with
    | (qs, ls), true, true => (qs, .mk io (again all all n m) :: ls)
    | (qs, ls), true, false => (.mk io [] :: qs, ls)
    | x, false, _ => x
/-- an allocation will do: that is seen as soon as what it names is there -/
def noCall : C := fun _ _ _ _ _ => false
def fChk (f : L1) (T : Tm) (_ : H) : Option V := Bool.casesOn (f noCall T H.none fun _ _ => true) none (some undV)
def chks (m : List Nat) (all l : List Row) (n : Nat) : List DOp :=
  match l with
  | [] => []
  | (i, o, io, _) :: l => match flt o io, Nat.beq (phase all (m.getD i 0)) n, io with
    | true, true, .l _ f => .mk (.q (fun _ T => T) (fChk f)) [] :: chks m all l n
    | _, _, _ => chks m all l n
/-- what stands ahead of a loud one of a phase ahead of n -/
def maskB (all l : List Row) (n : Nat) : Nat := match l with | [] => 0 | (_, _, io, m) :: l => Nat.lor (Bool.casesOn (isLoud io && Nat.ble (Nat.succ (phase all m)) n) 0 m) (maskB all l n)
def nLd (l : List Row) : Nat := match l with | [] => 0 | (_, _, io, _) :: l => (if isLoud io then 1 else 0) + nLd l
def hasF (l : List Row) : Bool := match l with | [] => false | (_, o, io, _) :: l => flt o io || hasF l
/-- where an allocation may come: the readers that are not done look again -/
def fAgc (ag : Ag) (T : Tm) (h : H) : Option V := Bool.casesOn (evAgain ag T h) none (some undV)
def agc (all : List Row) (n : Nat) : List DOp :=
  match hasF all, Nat.ble (Nat.succ n) (nLd all) with
  | true, true => [.mk (.q (fun _ T => T) (fAgc (again all all n (maskB all all n)))) []]
  | _, _ => []
def plan (m : List Nat) (all : List Row) (n fuel : Nat) : List DOp :=
  match fuel with
  | 0 => []
  | fuel + 1 => let (qs, ls) := planAt all all n; qs ++ (chks m all all n ++ (agc all n ++ (ls ++ plan m all (n + 1) fuel)))

inductive Rg where | p (l : List IOp) | d (l : List DOp) | bad
def cRows (E : Env) (ops : Ops) (l : List Oper) : List IOp := match l with | [] => [] | o :: l => cOp E ops o :: cRows E ops l
/-- the masks of a region's rows, as they are done -/
def vms (E : Env) (nt : Nat) (ops : Array Oper) : List Nat := virts (rows E (nt, ops) ops.toList (befs ops.toList []) 0) (rows E (nt, ops) ops.toList (befs ops.toList []) 0) (befs ops.toList []) []
def cDraw (E : Env) (nt : Nat) (ops : Array Oper) : Option (List DOp) :=
  match okRows ops (befs ops.toList []) (rows E (nt, ops) ops.toList (vms E nt ops) 0) (rows E (nt, ops) ops.toList (vms E nt ops) 0) with
  | true => some (plan (befs ops.toList []) (rows E (nt, ops) ops.toList (vms E nt ops) 0) 0 (ops.size + 1))
  | false => none
/-- a region whose last operation comes behind all others -/
def cTail (E : Env) (nt : Nat) (ops : Array Oper) : Rg :=
  match ops.back? with
  | none => .bad
  | some o => match isGood (cOp E (nt, ops) o) && edgesOk o.after.toList ops.pop.size && sub (Nat.pred (Nat.shiftLeft 1 ops.pop.size)) ((befs ops.toList []).getD ops.pop.size 0), cDraw E nt ops.pop with
    | true, some l => .d (l ++ [.mk (cOp E (nt, ops) o) []])
    | _, _ => .bad
def cReg (E : Env) (nt : Nat) (ops : Array Oper) (draw : Bool) : Rg :=
  match draw with
  | false => .p (cRows E (nt, ops) ops.toList)
  | true => match cDraw E nt ops with
    | some l => .d l
    | none => cTail E nt ops

/-! ### code -/
abbrev KX := Ex → Tm → H → V → Bool
def loopFuel : Nat := 1000000
/-- where code is done: calls, what a goto leads to, in a round? -/
inductive Q where | mk (call : C) (far : Code → Tm → H → V → K2 → KX → Bool) (rnd : Bool)
def Q.call (q : Q) : C := Q.rec (motive := fun _ => C) (fun c _ _ => c) q
def Q.far (q : Q) : Code → Tm → H → V → K2 → KX → Bool := Q.rec (motive := fun _ => Code → Tm → H → V → K2 → KX → Bool) (fun _ f _ => f) q
def Q.rnd (q : Q) : Bool := Q.rec (motive := fun _ => Bool) (fun _ _ r => r) q
abbrev DT := Q → Tm → H → V → K2 → KX → Bool
abbrev ET := Env → Nat → DT
def evLoop (body : DT) (q : Q) (kx : KX) (n : Nat) (T : Tm) (h : H) (D : V) : Bool :=
  Nat.rec (motive := fun _ => Tm → H → V → Bool) (fun _ _ _ => false) (fun _ ih T h D => body q T h D ih kx) n T h D
/-- an exit within a scope -/
def scExit (c : Code) (ih : Code → Tm → H → V → Bool) (kx : KX) (e : Ex) (T : Tm) (h : H) (D : V) : Bool :=
  Ex.rec (motive := fun _ => Bool) (fun id => kx (.exit id) T h D) (fun l => Option.rec (motive := fun _ => Bool) (kx (.goto l) T h D) (fun rest => ih rest T h D) (findLabel c l)) (kx .ret T h D) e
def evFar (c : Code) (q : Q) (kn : K2) (kx : KX) (n : Nat) (x : Code) (T : Tm) (h : H) (D : V) : Bool :=
  Nat.rec (motive := fun _ => Code → Tm → H → V → Bool) (fun _ _ _ _ => false) (fun _ ih x T h D => Q.far q x T h D kn (scExit c ih kx)) n x T h D
def blkExit (id : Nat) (kn : K2) (kx : KX) (e : Ex) (T : Tm) (h : H) (D : V) : Bool :=
  Ex.rec (motive := fun _ => Bool) (fun id' => Bool.rec (motive := fun _ => Bool) (kx e T h D) (kn T h D) (Nat.beq id' id)) (fun _ => kx e T h D) (kx e T h D) e

/-- a write to a place that the frame has -/
def wrN (nt t : Nat) (v : V) (T : Tm) : Tm := Bool.casesOn (Nat.ble (Nat.succ t) nt) T (wr t v T)
def putL (nt : Nat) (ps : List Nat) (l : V) (T : Tm) : Option Tm :=
  match ps with
  | [] => Bool.casesOn (qN true l) none (some T)
  | p :: ps => V.casesOn l none (fun _ => none) (fun _ _ => none) (fun _ => none) (fun _ => none) (fun _ _ _ => none) (fun _ _ => none) (fun _ => none) (fun _ => none) none (fun x l => putL nt ps l (wrN nt p x T))

def oNo : Rn := fun _ _ _ _ _ => false
def dnSkip (_ : Env) (_ : Nat) (_ : Q) (T : Tm) (h : H) (D : V) (kn : K2) (_ : KX) : Bool := kn T h D
def dnRg (r : Rg) (call : C) (T : Tm) (h : H) (D : V) (kn : K2) : Bool :=
  Rg.rec (motive := fun _ => Rn) evOps evDOps oNo r call T h D kn
def dnRegion (_ : Nat) (ops : Array Oper) (draw : Bool) (E : Env) (nt : Nat) (q : Q) (T : Tm) (h : H) (D : V) (kn : K2) (_ : KX) : Bool :=
  dnRg (cReg E nt ops draw) (Q.call q) T h D kn
def dnSeq (_ _ : Code) (a b : ET) (E : Env) (nt : Nat) (q : Q) (T : Tm) (h : H) (D : V) (kn : K2) (kx : KX) : Bool := a E nt q T h D (fun T h D => b E nt q T h D kn kx) kx
/-- what a test reads -/
def getO (x : Operand) : Tm → V := withO x id
def dnCond (x : Operand) (_ _ : Code) (a b : ET) (E : Env) (nt : Nat) (q : Q) (T : Tm) (h : H) (D : V) (kn : K2) (kx : KX) : Bool :=
  qB (fun t => Bool.rec (motive := fun _ => Bool) (b E nt q T h D kn kx) (a E nt q T h D kn kx) t) (getO x T)
def dnBlock (id : Nat) (_ : Code) (a : ET) (E : Env) (nt : Nat) (q : Q) (T : Tm) (h : H) (D : V) (kn : K2) (kx : KX) : Bool := a E nt q T h D kn (blkExit id kn kx)
def dnLoop (_ : Code) (a : ET) (E : Env) (nt : Nat) (q : Q) (T : Tm) (h : H) (D : V) (_ : K2) (kx : KX) : Bool := evLoop (a E nt) q kx loopFuel T h D
def dnExit (id : Nat) (_ : Env) (_ : Nat) (_ : Q) (T : Tm) (h : H) (D : V) (_ : K2) (kx : KX) : Bool := kx (.exit id) T h D
def dnScope (c : Code) (a : ET) (E : Env) (nt : Nat) (q : Q) (T : Tm) (h : H) (D : V) (kn : K2) (kx : KX) : Bool :=
  a E nt q T h D kn (scExit c (evFar c q kn kx loopFuel) kx)
def dnGoto (l : Nat) (_ : Env) (_ : Nat) (_ : Q) (T : Tm) (h : H) (D : V) (_ : K2) (kx : KX) : Bool := kx (.goto l) T h D
def dnLabel (_ : Nat) := dnSkip
def dnRet (_ : Env) (_ : Nat) (_ : Q) (T : Tm) (h : H) (D : V) (_ : K2) (kx : KX) : Bool := kx .ret T h D
def dnRefuse (_ : String) (_ : Env) (_ : Nat) (_ : Q) (_ : Tm) (_ : H) (_ : V) (_ : K2) (_ : KX) : Bool := false
def rfEnd (T : Tm) (D : V) (kn : K2) (kx : KX) (d l : Nat) (h : H) : Bool :=
  qbLp (fun st pj _ _ _ _ _ _ => Bool.casesOn (Nat.beq st 1) (Option.casesOn pj
    (kn T (H.put h l .x) (.c (.r (.y d)) D)) (fun e => kx e T (H.put h l .x) (.c (.r (.y d)) D))) false) (H.get h l)
/-- a function that has a body? -/
def hasBody (E : Env) (f : Nat) : Bool := match E.sm f, E.ft f with
  | .no, some fn => (match fn.body with | some _ => true | none => false)
  | _, _ => false
def isFn (E : Env) (v : V) : Bool := V.casesOn v false (fun _ => false) (fun _ _ => false) (fun _ => false) (fun _ => false) (fun f _ _ => hasBody E f) (fun _ _ => false) (fun _ => false) (fun _ => false) false (fun _ _ => false)
def dnRangeFunc (g : Operand) (ps : Array Tmp) (asn body : Code) (_ _ : ET) (E : Env) (nt : Nat) (q : Q) (T : Tm) (h : H) (D : V) (kn : K2) (kx : KX) : Bool :=
  Bool.casesOn (Q.rnd q)
    (Bool.casesOn (isFn E (getO g T)) false
    (H.new h .df fun d h => H.new h (.lp 0 none nt T ps.toList asn body d) fun l h =>
      lCallV (getO g) (fun _ => .c (.r (.y l)) .n) (Q.call q) T h fun _ h => rfEnd T D kn kx d l h)) false
/-- code -/
def den (c : Code) (E : Env) (nt : Nat) (q : Q) (T : Tm) (h : H) (D : V) (kn : K2) (kx : KX) : Bool :=
  Code.rec (motive := fun _ => ET) dnSkip dnRegion dnSeq dnCond dnBlock dnLoop dnRangeFunc dnExit dnScope dnLabel dnGoto dnRet dnRefuse c E nt q T h D kn kx
/-- code with scopes in scopes whose gotos are followed up to n deep -/
def denN (E : Env) (nt : Nat) (call : C) (rnd : Bool) (n : Nat) : Code → Tm → H → V → K2 → KX → Bool :=
  Nat.rec (motive := fun _ => Code → Tm → H → V → K2 → KX → Bool) (fun _ _ _ _ _ _ => false) (fun _ ih c T h D kn kx => den c E nt (.mk call ih rnd) T h D kn kx) n
def dn (E : Env) (nt : Nat) (call : C) (rnd : Bool) : Code → Tm → H → V → K2 → KX → Bool := denN E nt call rnd 4

/-- a round: the loop's record, its left sides, its body -/
def evRound (E : Env) (call : C) (l : Nat) (args : V) (h : H) (k : K1) : Bool :=
  qbLp (fun st _ fn tm ps asn body d => Bool.casesOn (Nat.beq st 0) false
    (Option.casesOn (putL fn ps args tm) false fun T =>
      dn E fn call true asn T h .u (fun T h _ => qbLp (fun st pj2 fn2 tm2 ps2 asn2 body2 d2 => Bool.casesOn (Nat.beq st 0) false
        (dn E fn call true body T (H.put h l (.lp 1 pj2 fn2 tm2 ps2 asn2 body2 d2)) .u
          (fun _ h _ => qbLp (fun st _ fn3 tm3 ps3 asn3 body3 d3 => Bool.casesOn (Nat.beq st 1) false (k (.b true) (H.put h l (.lp 0 none fn3 tm3 ps3 asn3 body3 d3)))) (H.get h l))
          (fun e _ h _ => qbLp (fun st _ fn3 tm3 ps3 asn3 body3 d3 => Bool.casesOn (Nat.beq st 1) false (k (.b false) (H.put h l (.lp 2 (some e) fn3 tm3 ps3 asn3 body3 d3)))) (H.get h l)))) (H.get h l))
        (fun _ _ _ _ => false))) (H.get h l)

/-! ### calls -/
def resOne (E : Env) (r : ResultVar) (k : (Tm → H → Option V) → (Tm → H → Option V)) : Tm → H → Option V :=
  match r with
  | .tmp t => withR t fun g => k fun T _ => some (g T)
  | .cell a t => withR a fun g => (match E.und t with | some _ => k fun T h => fLoad (E.isAg t) (E.szOf t) (g T) h | none => fun _ _ => none)
def resL (E : Env) (l : List ResultVar) : Tm → H → Option V :=
  match l with
  | [] => fun _ _ => some .n
  | r :: l => resOne E r fun f T h => Option.casesOn (f T h) none fun v => Option.casesOn (resL E l T h) none fun m => some (.c v m)
def resV (E : Env) (l : List ResultVar) : Tm → H → Option V :=
  match l with
  | [r] => resOne E r id
  | l => fun T h => Option.casesOn (resL E l T h) none fun m => some (.t m)

/-- the deferred calls of a function that returns: of functions that then do nothing, and loops' marks -/
def evDefers (E : Env) (n : Nat) (D : V) (h : H) (k : H → Bool) : Bool :=
  Nat.rec (motive := fun _ => V → H → Bool) (fun _ _ => false)
    (fun _ ih D h => V.casesOn D false (fun _ => false) (fun _ _ => false) (fun _ => false) (fun _ => false) (fun _ _ _ => false) (fun _ _ => false) (fun _ => false) (fun _ => false) (k h)
      (fun d D => V.casesOn d false (fun _ => false) (fun _ _ => false) (fun _ => false)
        (fun r => Ref.casesOn r false (fun _ _ => false) false (fun _ _ _ _ => false) (fun _ _ _ _ => false) false false (fun _ => false) false false
          (fun b => qbDf (ih D (H.put h b .x)) (H.get h b)))
        (fun f _ _ => Bool.casesOn (E.ds f) false (ih D h)) (fun _ _ => false) (fun _ => false) (fun _ => false) false (fun _ _ => false))) n D h

def putArgs (nt n : Nat) : Nat → V → Tm → Option Tm := Nat.rec (motive := fun _ => Nat → V → Tm → Option Tm) (fun _ _ _ => none)
  (fun _ ih i l T => V.casesOn l none (fun _ => none) (fun _ _ => none) (fun _ => none) (fun _ => none) (fun _ _ _ => none) (fun _ _ => none) (fun _ => none) (fun _ => none) (some T) (fun x l => ih (Nat.succ i) l (wrN nt i x T))) n
def evDef (E : Env) (D : V) (h : H) (k : H → Bool) : Bool := V.casesOn D false (fun _ => false) (fun _ _ => false) (fun _ => false) (fun _ => false) (fun _ _ _ => false) (fun _ _ => false) (fun _ => false) (fun _ => false) (k h) (fun _ _ => evDefers E 1000 D h k)
def retF (E : Env) (rs : List ResultVar) (k : K1) (T : Tm) (h : H) (D : V) : Bool :=
  evDef E D h fun h => Option.rec (motive := fun _ => Bool) false (fun v => k v h) (resV E rs T h)
def retX (E : Env) (rs : List ResultVar) (k : K1) (e : Ex) (T : Tm) (h : H) (D : V) : Bool :=
  Ex.rec (motive := fun _ => Bool) (fun _ => false) (fun _ => false) (retF E rs k T h D) e
/-- a function as it is called: its code and results -/
inductive Fd where | no | pure (g : V → H → Option V) | fn (c : Code) (rs : List ResultVar) (nt : Nat) | seg (g : V → H → Option (V × H)) (c : Code) (rs : List ResultVar) (nt : Nat)
def fdOf (E : Env) (f : Nat) : Fd :=
  match E.sm f with
  | .pure g => .pure g
  | .mkz _ => .no
  | .no => (match E.ft f with
    | some fn => (match fn.body with | some c => .fn c fn.results.toList fn.ntmps | none => .no)
    | none => .no)
  | .seg g => (match E.ft f with
    | some fn => (match fn.body with | some c => .seg g c fn.results.toList fn.ntmps | none => .no)
    | none => .no)
def cNo (_ : Env) (_ : C) (_ : V) (_ : H) (_ : K1) : Bool := false
def cPure (g : V → H → Option V) (_ : Env) (_ : C) (args : V) (h : H) (k : K1) : Bool := Option.rec (motive := fun _ => Bool) false (fun v => k v h) (g args h)
def cFn (c : Code) (rs : List ResultVar) (nt : Nat) (E : Env) (call : C) (args : V) (h : H) (k : K1) : Bool :=
  Option.rec (motive := fun _ => Bool) false (fun T => dn E nt call false c T h .n (retF E rs k) (retX E rs k)) (putArgs nt 64 0 args t3V)
def kPair (k : K1) (p : V × H) : Bool := Prod.rec (motive := fun _ => Bool) (fun v h => k v h) p
def cSeg (g : V → H → Option (V × H)) (c : Code) (rs : List ResultVar) (nt : Nat) (E : Env) (call : C) (args : V) (h : H) (k : K1) : Bool :=
  Option.rec (motive := fun _ => Bool) (cFn c rs nt E call args h k) (fun p => kPair k p) (g args h)
def callB (E : Env) (call : C) (yield : Bool) (f : Nat) (args : V) (h : H) (k : K1) : Bool :=
  Bool.rec (motive := fun _ => Bool) (Fd.rec (motive := fun _ => Env → C → V → H → K1 → Bool) cNo cPure cFn cSeg (fdOf E f) E call args h k) (evRound E call f args h k) yield
/-- a function is called, or a loop's yield -/
def callF (E : Env) (n : Nat) : C := Nat.rec (motive := fun _ => C) (fun _ _ _ _ _ => false) (fun _ ih yield f args h k => callB E ih yield f args h k) n

end
end Go.Ev
