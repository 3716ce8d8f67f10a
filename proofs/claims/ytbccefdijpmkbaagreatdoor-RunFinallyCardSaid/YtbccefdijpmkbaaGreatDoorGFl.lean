/-
  Part of a proof: a call of RunFinally, whatever its two numbers are, answers true; no conditions.
-/
import Derived.Test.YtbccefdijpmkbaaGreatDoorGFn
import Derived.Test.YtbccefdijpmkbaaGreatDoorGF00
import Derived.Test.YtbccefdijpmkbaaGreatDoorGF01
import Derived.Test.YtbccefdijpmkbaaGreatDoorGF02
import Derived.Test.YtbccefdijpmkbaaGreatDoorGF03
import Derived.Test.YtbccefdijpmkbaaGreatDoorGF10
import Derived.Test.YtbccefdijpmkbaaGreatDoorGF11
import Derived.Test.YtbccefdijpmkbaaGreatDoorGF12
import Derived.Test.YtbccefdijpmkbaaGreatDoorGF13
import Derived.Test.YtbccefdijpmkbaaGreatDoorGF20
import Derived.Test.YtbccefdijpmkbaaGreatDoorGF21
import Derived.Test.YtbccefdijpmkbaaGreatDoorGF22
import Derived.Test.YtbccefdijpmkbaaGreatDoorGF23
import Derived.Test.YtbccefdijpmkbaaGreatDoorGF30
import Derived.Test.YtbccefdijpmkbaaGreatDoorGF31
import Derived.Test.YtbccefdijpmkbaaGreatDoorGF32
import Derived.Test.YtbccefdijpmkbaaGreatDoorGF33
import Derived.Test.YtbccefdijpmkbaaGreatDoorGF40
import Derived.Test.YtbccefdijpmkbaaGreatDoorGF41
import Derived.Test.YtbccefdijpmkbaaGreatDoorGF42
import Derived.Test.YtbccefdijpmkbaaGreatDoorGF43
set_option linter.constructorNameAsVariable false
set_option linter.unusedVariables false
set_option linter.unusedSimpArgs false
set_option linter.unusedSectionVars false
set_option linter.unusedVariables false
set_option linter.unusedSectionVars false
set_option maxRecDepth 100000
namespace Go.Proofs.YtbccefdijpmkbaaGreatDoor
open Go Go.Ev Go.RowKit
@[reducible] noncomputable def unF (m n : Int) : Un where
  val x := if x = 32768 then .int .i64 m else if x = 32769 then .int .i64 n else .bool false
  one x := by
    by_cases h : x = 32768
    · simp only [h, if_true]; exact ⟨rfl, rfl⟩
    · by_cases h2 : x = 32769
      · simp only [h2, if_true]; exact ⟨rfl, rfl⟩
      · simp only [h, h2, if_false]; exact ⟨rfl, rfl⟩
theorem unF_0 (m n : Int) : (unF m n).val 32768 = .int .i64 m := rfl
theorem unF_1 (m n : Int) : (unF m n).val 32769 = .int .i64 n := rfl
theorem args_rel (m n : Int) : @RL (unF m n) mu0 un2 [.int .i64 m, .int .i64 n] :=
  ⟨.int .i64 m, [.int .i64 n], rfl, .inr ⟨by decide, (unF_0 m n).symm⟩, .int .i64 n, [], rfl, .inr ⟨by decide, (unF_1 m n).symm⟩, rfl⟩
section
variable {m n : Int} {W : World}
abbrev Good (m n : Int) (W : World) : Prop := Calls Tryz.prog 3 #[.int .i64 m, .int .i64 n] W fun e W' => e = .returned (.bool true) ∧ Below W.heap.size W W'
theorem finK (hm : ∃ x, W.cell? ⟨0, 0, none⟩ = some (.int .i64 x)) {fw fo : V} (h1 : ∀ μ, @RV (unF m n) μ fw (.int .i64 (m.tmod 5))) (h2 : ∀ μ, @RV (unF m n) μ fo (.int .i64 (n.tmod 4)))
    (e : callF (EK (unFin fw fo)) 300 false 3 un2 (h0N 0) isT = true) : Good m n W := by
  let inst : Un := unF m n
  exact law_of (envK (unFin_sound (unF_0 m n) (unF_1 m n) h1 h2)) sumK Tryz.func3 (by kernel_rfl) rfl e (wr0N (by decide) hm) (noWr0N 0 (by decide)) (args_rel m n)
theorem finG (hm : ∃ x, W.cell? ⟨0, 0, none⟩ = some (.int .i64 x)) {fw fo : V} (h1 : ∀ μ, @RV (unF m n) μ fw (.int .i64 (m.tmod 5))) (h2 : ∀ μ, @RV (unF m n) μ fo (.int .i64 (n.tmod 4))) {s : Seg}
    (g : callF E0 300 false 10 s.a (ofL s.n0 s.l0) s.fin = true) (k : s.ok = true)
    (e : callF (EG (unFin fw fo) 10 [s]) 300 false 3 un2 (h0N 0) isT = true) : Good m n W := by
  let inst : Un := unF m n
  refine law_of (envG (unFin_sound (unF_0 m n) (unF_1 m n) h1 h2) 10 [s]) (sumG fun t ht => ?_) Tryz.func3 (by kernel_rfl) rfl e (wr0N (by decide) hm) (noWr0N 0 (by decide)) (args_rel m n)
  obtain rfl : t = s := by simpa using ht
  exact ⟨seg_of g, k⟩
theorem rI {k : Nat} {x : Int} (h : x = (k : Int)) : ∀ μ, @RV (unF m n) μ (I k) (.int .i64 x) := fun μ => by subst h; rfl
theorem rN {k : Nat} {x : Int} (h : x = Int.negSucc k) : ∀ μ, @RV (unF m n) μ (.i .i64 (Int.negSucc k)) (.int .i64 x) := fun μ => by subst h; rfl
theorem rU {x : Int} : ∀ μ, @RV (unF m n) μ .u (.int .i64 x) := fun μ => trivial
end
theorem fin (m n : Int) {W : World} (hm : ∃ x, W.cell? ⟨0, 0, none⟩ = some (.int .i64 x)) : Good m n W := by
  have hi : (m.tmod 5).natAbs = m.natAbs % 5 := by rw [Int.natAbs_tmod]; rfl
  have hk : (n.tmod 4).natAbs = n.natAbs % 4 := by rw [Int.natAbs_tmod]; rfl
  have hi2 : m.tmod 5 = 0 ∨ m.tmod 5 = 1 ∨ m.tmod 5 = 2 ∨ m.tmod 5 = 3 ∨ m.tmod 5 = 4 ∨ m.tmod 5 = -1 ∨ m.tmod 5 = -2 ∨ m.tmod 5 = -3 ∨ m.tmod 5 = -4 := by omega
  have hk2 : n.tmod 4 = 0 ∨ n.tmod 4 = 1 ∨ n.tmod 4 = 2 ∨ n.tmod 4 = 3 ∨ n.tmod 4 = -1 ∨ n.tmod 4 = -2 ∨ n.tmod 4 = -3 := by omega
  rcases hi2 with i | i | i | i | i | i | i | i | i
  · rcases hk2 with k | k | k | k | k | k | k
    · exact finG hm (rI i) (rI k) g00 rfl m00
    · exact finG hm (rI i) (rI k) g01 rfl m01
    · exact finG hm (rI i) (rI k) g02 rfl m02
    · exact finG hm (rI i) (rI k) g03 rfl m03
    · exact finK hm (rI i) (rN k) n0_1
    · exact finK hm (rI i) (rN k) n0_2
    · exact finK hm (rI i) (rN k) n0_3
  · rcases hk2 with k | k | k | k | k | k | k
    · exact finG hm (rI i) (rI k) g10 rfl m10
    · exact finG hm (rI i) (rI k) g11 rfl m11
    · exact finG hm (rI i) (rI k) g12 rfl m12
    · exact finG hm (rI i) (rI k) g13 rfl m13
    · exact finK hm (rI i) (rN k) n1_1
    · exact finK hm (rI i) (rN k) n1_2
    · exact finK hm (rI i) (rN k) n1_3
  · rcases hk2 with k | k | k | k | k | k | k
    · exact finG hm (rI i) (rI k) g20 rfl m20
    · exact finG hm (rI i) (rI k) g21 rfl m21
    · exact finG hm (rI i) (rI k) g22 rfl m22
    · exact finG hm (rI i) (rI k) g23 rfl m23
    · exact finK hm (rI i) (rN k) n2_1
    · exact finK hm (rI i) (rN k) n2_2
    · exact finK hm (rI i) (rN k) n2_3
  · rcases hk2 with k | k | k | k | k | k | k
    · exact finG hm (rI i) (rI k) g30 rfl m30
    · exact finG hm (rI i) (rI k) g31 rfl m31
    · exact finG hm (rI i) (rI k) g32 rfl m32
    · exact finG hm (rI i) (rI k) g33 rfl m33
    · exact finK hm (rI i) (rN k) n3_1
    · exact finK hm (rI i) (rN k) n3_2
    · exact finK hm (rI i) (rN k) n3_3
  · rcases hk2 with k | k | k | k | k | k | k
    · exact finG hm (rI i) (rI k) g40 rfl m40
    · exact finG hm (rI i) (rI k) g41 rfl m41
    · exact finG hm (rI i) (rI k) g42 rfl m42
    · exact finG hm (rI i) (rI k) g43 rfl m43
    · exact finK hm (rI i) (rN k) n4_1
    · exact finK hm (rI i) (rN k) n4_2
    · exact finK hm (rI i) (rN k) n4_3
  · exact finK hm (rN i) rU n_1
  · exact finK hm (rN i) rU n_2
  · exact finK hm (rN i) rU n_3
  · exact finK hm (rN i) rU n_4
end Go.Proofs.YtbccefdijpmkbaaGreatDoor
