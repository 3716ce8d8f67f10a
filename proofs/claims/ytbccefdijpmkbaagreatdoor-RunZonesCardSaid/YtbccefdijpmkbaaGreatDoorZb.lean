/-
  Part of a proof: an evaluator of the model's code over abstract memory, and that it is sound against the model's weakest preconditions; no conditions.
-/
import Derived.Test.YtbccefdijpmkbaaGreatDoorZa
set_option linter.constructorNameAsVariable false
set_option linter.unusedVariables false
set_option linter.unusedSimpArgs false
set_option linter.unusedSectionVars false
set_option linter.unusedVariables false
set_option linter.unusedSectionVars false
set_option maxRecDepth 100000
namespace Go.Proofs.YtbccefdijpmkbaaGreatDoor
open Go Go.Ev
noncomputable section
noncomputable def SM2 (f : Nat) : Sm := Bool.casesOn (Nat.beq f 6) (smS f) (.pure (gKN 0))
noncomputable def E2 : Env := { ES with sm := SM2 }
theorem env2 [Un] : EnvOK E2 Tryz.prog :=
  ⟨(envOK un_none).ft, (envOK un_none).tt, rfl, (envOK un_none).mixed, un_none⟩
theorem sum2 [Un] : SumOK E2 Tryz.prog where
  pure f g h := by
    have h : SM2 f = .pure g := h
    unfold SM2 at h
    cases h11 : Nat.beq f 6 with
    | true =>
      rw [h11] at h
      rw [Nat.beq_eq] at h11
      subst h11
      obtain rfl := Sm.pure.inj h
      exact pure_knownN (envOK un_none) sumOK (by decide) Tryz.func6 (by kernel_rfl) rfl kn
    | false => rw [h11] at h; exact (sumOK (un := fun _ _ _ _ => none)).pure f g h
  mkz f e h := by
    have h : SM2 f = .mkz e := h
    unfold SM2 at h
    cases h11 : Nat.beq f 6 with
    | true => rw [h11] at h; cases h
    | false => rw [h11] at h; exact (sumOK (un := fun _ _ _ _ => none)).mkz f e h
  ds f h := (sumOK (un := fun _ _ _ _ => none)).ds f h
end
end Go.Proofs.YtbccefdijpmkbaaGreatDoor

set_option maxRecDepth 100000
namespace Go.Proofs.YtbccefdijpmkbaaGreatDoor
open Go Go.Ev
theorem ev_true : callF E2 200 false 5 (.c (.b true) .n) (h0N 0) isT = true := by decide +kernel
end Go.Proofs.YtbccefdijpmkbaaGreatDoor
