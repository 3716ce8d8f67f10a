/-
  Part of a proof: what a call of RunFinally does, whatever its arguments; no conditions.
-/
import Derived.Test.YtbccefdijpmkbaaGreatDoorGFl
import Derived.Test.YtbccefdijpmkbaaGreatDoorGWt
import Derived.Test.YtbccefdijpmkbaaGreatDoorCards
import Derived.ProofKit
import Derived.LaidMore
import Derived.OpenShut
import Derived.Stop.Joined
import Derived.SevenTiedAt
import Derived.Lay
set_option linter.constructorNameAsVariable false
set_option linter.unusedVariables false
set_option linter.unusedSimpArgs false
set_option linter.unusedSectionVars false
set_option linter.unusedVariables false
set_option linter.unusedSectionVars false
set_option maxRecDepth 100000
namespace Go.Proofs.YtbccefdijpmkbaaGreatDoor
open Go Go.Ev Go.ChangeShapes Go.WideShapes Go.ChangeAt Go.RowKit
theorem open_int {W : World} {base : Nat} {v : Value} (h : Value.okWide Tryz.prog W .any base 3 v) : ∃ n, v = .int .i64 n := by
  unfold Value.okWide at h
  rw [Tryz.underlying3] at h
  simp only at h
  unfold Cell.okWide at h
  rw [Tryz.underlying3] at h
  simp only at h
  unfold Cell.ok at h
  rw [Tryz.underlying3] at h
  cases v <;> simp at h
  obtain ⟨rfl, _⟩ := h
  exact ⟨_, rfl⟩
theorem own : ownKnob Tryz.prog.godebug = none := by kernel_rfl
theorem lifted (os : Os) (started : os.Started) (H : Type) (enc : TypeId × Value → H) :
    ReturnsInHanded {} Tryz.checked os 3 .any (fun w args => (Rows.runFinallySpec.pre enc Tryz.prog Tryz.f3 [] false w args ∧ laidMetH Tryz.prog Rows.runFinallyRow.laid w) ∧ sizedMet enc Tryz.prog Tryz.f3 (OpenSpec.ofChange Rows.runFinallySpec) false w args)
      (Rows.runFinallySpec.post enc Tryz.prog Tryz.f3 false true false false) := by
  refine returns_both (C := Tryz.checked) (X := fun w _ => laidMetH Tryz.prog Rows.runFinallyRow.laid w) (fun _ _ _ hh h => h.of_heap hh) own started (by kernel_rfl) Tryz.func3
    (ChangeSpec.witness_shaped (enc := enc) (C := Tryz.checked) (os := os) (X := fun w _ => laidMetH Tryz.prog Rows.runFinallyRow.laid w) false (World.laidAll Tryz.prog os Rows.runFinallyRow.laid) #[.int .i64 0, .int .i64 0] 8 (World.laidAll_os _ _ _) (World.shaped_of_ZipB (by kernel_rfl) (by kernel_rfl)) (by kernel_rfl) (by kernel_rfl) (by kernel_rfl)
      (by rw [MakeChecks.laidMetH_plain _ _ _ (by kernel_rfl)]; exact laidMet_laidAll _ (by kernel_rfl) (by kernel_rfl))) ?_
  intro W base args ds gs before hval hW hL hsh
  have hW' := hW
  obtain ⟨p, q, hA, hV, e, hz, hnd⟩ := hW'
  rw [Tryz.params3] at hA hval
  obtain ⟨v0, v1, d0, d1, p0, q0, rfl, rfl, e', h0, h1⟩ := trodAll_two hA
  obtain ⟨rfl, rfl⟩ := trodVars_none hV
  obtain ⟨a, rfl⟩ := open_int (hval 0 3 v0 rfl rfl)
  obtain ⟨b, rfl⟩ := open_int (hval 1 3 v1 rfl rfl)
  refine (fin a b (maxLen_cell hsh)).mono fun e W' ⟨he, hB⟩ => ?_
  exact ⟨_, he, post_true Tryz.underlying4 rfl (by kernel_rfl) (by kernel_rfl) rfl hW rfl rfl rfl hB⟩
end Go.Proofs.YtbccefdijpmkbaaGreatDoor
