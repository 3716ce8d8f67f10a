/-
  Part of a proof: what a call of RunZones does; no conditions.
-/
import Derived.Test.YtbccefdijpmkbaaGreatDoorZb
import Derived.Test.YtbccefdijpmkbaaGreatDoorZc
import Derived.Test.YtbccefdijpmkbaaGreatDoorZd
import Derived.Test.YtbccefdijpmkbaaGreatDoorCards
import Derived.ProofKit
import Derived.LaidMore
import Derived.OpenShut
import Derived.Stop.Joined
import Derived.SevenTiedAt
import Derived.Lay
set_option linter.constructorNameAsVariable false
set_option linter.unusedVariables false
set_option linter.unusedSimpArgs false
set_option linter.unusedSectionVars false
set_option linter.unusedVariables false
set_option linter.unusedSectionVars false
set_option maxRecDepth 100000
namespace Go.Proofs.YtbccefdijpmkbaaGreatDoor
open Go Go.Ev Go.ChangeShapes Go.WideShapes Go.ChangeAt Go.RowKit
@[reducible] noncomputable def un0 : Un where
  val _ := .bool false
  one _ := ⟨rfl, rfl⟩
theorem zones (b : Bool) {W : World} (hm : ∃ m, W.cell? ⟨0, 0, none⟩ = some (.int .i64 m)) : Calls Tryz.prog 5 #[.bool b] W fun e W' => e = .returned (.bool true) ∧ Below W.heap.size W W' := by
  let inst : Un := un0
  have wr : WR mu0 (h0N 0) W := wr0N (by decide) hm
  have nw : noWr (h0N 0) := noWr0N 0 (by decide)
  cases b with
  | true => exact law_of env2 sum2 Tryz.func5 (by kernel_rfl) rfl ev_true wr nw ⟨.bool true, [], rfl, rfl, rfl⟩
  | false => exact law_of env2 sum2 Tryz.func5 (by kernel_rfl) rfl ev_false wr nw ⟨.bool false, [], rfl, rfl, rfl⟩
theorem open_bool {W : World} {base : Nat} {v : Value} (h : Value.okWide Tryz.prog W .any base 4 v) : ∃ b, v = .bool b := by
  unfold Value.okWide at h
  rw [Tryz.underlying4] at h
  simp only at h
  unfold Cell.okWide at h
  rw [Tryz.underlying4] at h
  simp only at h
  unfold Cell.ok at h
  rw [Tryz.underlying4] at h
  cases v <;> simp at h
  exact ⟨_, rfl⟩
theorem own : ownKnob Tryz.prog.godebug = none := by kernel_rfl
theorem lifted (os : Os) (started : os.Started) (H : Type) (enc : TypeId × Value → H) :
    ReturnsInHanded {} Tryz.checked os 5 .any (fun w args => (Rows.runZonesSpec.pre enc Tryz.prog Tryz.f5 [] false w args ∧ laidMetH Tryz.prog Rows.runZonesRow.laid w) ∧ sizedMet enc Tryz.prog Tryz.f5 (OpenSpec.ofChange Rows.runZonesSpec) false w args)
      (Rows.runZonesSpec.post enc Tryz.prog Tryz.f5 false true false false) := by
  refine returns_both (C := Tryz.checked) (X := fun w _ => laidMetH Tryz.prog Rows.runZonesRow.laid w) (fun _ _ _ hh h => h.of_heap hh) own started (by kernel_rfl) Tryz.func5
    (ChangeSpec.witness_shaped (enc := enc) (C := Tryz.checked) (os := os) (X := fun w _ => laidMetH Tryz.prog Rows.runZonesRow.laid w) false (World.laidAll Tryz.prog os Rows.runZonesRow.laid) #[.bool false] 8 (World.laidAll_os _ _ _) (World.shaped_of_ZipB (by kernel_rfl) (by kernel_rfl)) (by kernel_rfl) (by kernel_rfl) (by kernel_rfl)
      (by rw [MakeChecks.laidMetH_plain _ _ _ (by kernel_rfl)]; exact laidMet_laidAll _ (by kernel_rfl) (by kernel_rfl))) ?_
  intro W base args ds gs before hval hW hL hsh
  have hW' := hW
  obtain ⟨p, q, hA, hV, e, hz, hnd⟩ := hW'
  rw [Tryz.params5] at hA hval
  obtain ⟨v0, d0, rfl, rfl, h0⟩ := trodAll_one hA
  obtain ⟨rfl, rfl⟩ := trodVars_none hV
  obtain ⟨b, rfl⟩ := open_bool (hval 0 4 v0 rfl rfl)
  refine (zones b (maxLen_cell hsh)).mono fun e W' ⟨he, hB⟩ => ?_
  exact ⟨_, he, post_true Tryz.underlying4 rfl (by kernel_rfl) (by kernel_rfl) rfl hW rfl rfl rfl hB⟩

end Go.Proofs.YtbccefdijpmkbaaGreatDoor
