/-
  Part of a proof: no function of this seat's program starts a goroutine; no conditions.
-/
import Derived.Test.YtbccefdijpmkbaaGreatDoorCards
import GoSem.ClaimGoes
set_option linter.constructorNameAsVariable false
set_option linter.unusedVariables false
set_option linter.unusedSimpArgs false
set_option linter.unusedSectionVars false
set_option maxRecDepth 100000
namespace Go.Proofs.YtbccefdijpmkbaaGreatDoor
open Go
theorem goes_none {P : Program} (h : P.funcs.any Func.goes = false) (f : FuncId) : P.goes f = false := by
  unfold Program.goes
  rw [h, Bool.and_false, Bool.or_false]
  have key : ∀ g : Nat, (P.funcs[g]?).any Func.goes = false := by
    intro g
    cases hg : P.funcs[g]? with
    | none => rfl
    | some fn =>
      cases hf : fn.goes with
      | false => simp [hf]
      | true =>
        have hm : fn ∈ P.funcs := Array.mem_of_getElem? hg
        have : P.funcs.any Func.goes = true := by
          rw [Array.any_eq_true']
          exact ⟨fn, hm, hf⟩
        rw [h] at this; cases this
  simp [key]
theorem no_goes : Tryz.pinned.checked.prog.funcs.any Func.goes = false := by kernel_rfl
theorem zg_goes : false = Rows.runClosesRow.goesBy Tryz.pinned.checked.prog := by
  have h1 : Rows.runClosesRow.goesBy Tryz.pinned.checked.prog = ((Tryz.pinned.checked.prog.funcNamed Rows.runClosesRow.func).any Tryz.pinned.checked.prog.goes || false) := rfl
  rw [h1]
  cases Tryz.pinned.checked.prog.funcNamed Rows.runClosesRow.func with
  | none => rfl
  | some f => simp [goes_none no_goes f]
end Go.Proofs.YtbccefdijpmkbaaGreatDoor
