/-
  Part of a proof: an evaluator of the model's code over abstract memory, and that it is sound against the model's weakest preconditions; no conditions.
-/
import Derived.Test.YtnklobeoneogdaaGreatDoorTa
set_option linter.constructorNameAsVariable false
set_option linter.unusedVariables false
set_option linter.unusedSimpArgs false
set_option linter.unusedSectionVars false
set_option linter.unusedVariables false
set_option linter.unusedSectionVars false
set_option maxRecDepth 100000
namespace Go.Proofs.YtnklobeoneogdaaGreatDoor
open Go Go.Ev
noncomputable section
theorem kn : callF ES 200 false 11 .n (h0S 0 2) isT = true := by decide +kernel

noncomputable def SM2 (f : Nat) : Sm := Bool.casesOn (Nat.beq f 11) (smS f) (.pure (gK 0 2))
noncomputable def E2 (un : BinOp → Nat → V → V → Option V) : Env := { ESu un with sm := SM2 }
theorem env2 [Un] {un : BinOp → Nat → V → V → Option V} (hu : UnS Tryz.prog un) : EnvOK (E2 un) Tryz.prog :=
  ⟨(envOK hu).ft, (envOK hu).tt, rfl, (envOK hu).mixed, hu⟩
theorem sum2 [Un] {un : BinOp → Nat → V → V → Option V} : SumOK (E2 un) Tryz.prog where
  pure f g h := by
    have h : SM2 f = .pure g := h
    unfold SM2 at h
    cases h11 : Nat.beq f 11 with
    | true =>
      rw [h11] at h
      rw [Nat.beq_eq] at h11
      subst h11
      obtain rfl := Sm.pure.inj h
      exact pure_known (envOK un_none) sumOK (by decide) (by decide) (by decide) Tryz.func11 (by kernel_rfl) rfl kn
    | false => rw [h11] at h; exact (sumOK (un := un)).pure f g h
  mkz f e h := by
    have h : SM2 f = .mkz e := h
    unfold SM2 at h
    cases h11 : Nat.beq f 11 with
    | true => rw [h11] at h; cases h
    | false => rw [h11] at h; exact (sumOK (un := un)).mkz f e h
  ds f h := (sumOK (un := un)).ds f h

/-- a node: its kind, its text, the rest unknown -/
def nodeV (k t : V) : V := .c (.a (.c k (.c t (.c (.r (.y 32770)) (.c (.r (.y 32771)) (.c (.r (.y 32772)) .n)))))) .n
def uK : V := .r (.y 32768)
def uT : V := .r (.y 32769)
/-- the signs -/
def signs : List (List UInt8) := [[124, 124], [38, 38], [124], [94], [38], [61, 61, 61], [33, 61, 61], [60], [60, 61], [62], [62, 61], [105, 110], [60, 60], [62, 62], [62, 62, 62], [43], [45], [42], [37]]
def codes : List Nat := signs.map enc
theorem ev_kinds : ((List.range 25).all fun i => Nat.beq i 14 || callF (E2 fun _ _ _ _ => none) 200 false 3 (nodeV (.i .i64 (Int.ofNat (10 + i))) uT) (h0S 0 2) isT) = true := by decide +kernel
theorem ev_lo : callF (E2 (unK (kLo 10))) 200 false 3 (nodeV uK uT) (h0S 0 2) isT = true := by decide +kernel
theorem ev_hi : callF (E2 (unK (kHi 34))) 200 false 3 (nodeV uK uT) (h0S 0 2) isT = true := by decide +kernel
end
end Go.Proofs.YtnklobeoneogdaaGreatDoor
