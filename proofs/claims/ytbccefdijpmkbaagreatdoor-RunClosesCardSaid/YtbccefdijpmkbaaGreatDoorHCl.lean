/-
  Part of a proof: a call of RunCloses, whatever its number is, answers true; no conditions.
-/
import Derived.Test.YtbccefdijpmkbaaGreatDoorHCn
import Derived.Test.YtbccefdijpmkbaaGreatDoorHC1
import Derived.Test.YtbccefdijpmkbaaGreatDoorHC2
import Derived.Test.YtbccefdijpmkbaaGreatDoorHC3
import Derived.Test.YtbccefdijpmkbaaGreatDoorHC4
import Derived.Test.YtbccefdijpmkbaaGreatDoorHC5
import Derived.Test.YtbccefdijpmkbaaGreatDoorHC6
import Derived.Test.YtbccefdijpmkbaaGreatDoorHC7
import Derived.Test.YtbccefdijpmkbaaGreatDoorHC8
import Derived.Test.YtbccefdijpmkbaaGreatDoorHC9
set_option linter.constructorNameAsVariable false
set_option linter.unusedVariables false
set_option linter.unusedSimpArgs false
set_option linter.unusedSectionVars false
set_option linter.unusedVariables false
set_option linter.unusedSectionVars false
set_option maxRecDepth 100000
namespace Go.Proofs.YtbccefdijpmkbaaGreatDoor
open Go Go.Ev Go.RowKit
@[reducible] noncomputable def unC (m : Int) : Un where
  val x := if x = 32768 then .int .i64 m else .bool false
  one x := by
    by_cases h : x = 32768
    · simp only [h, if_true]; exact ⟨rfl, rfl⟩
    · simp only [h, if_false]; exact ⟨rfl, rfl⟩
theorem unC_0 (m : Int) : (unC m).val 32768 = .int .i64 m := rfl
section
variable {W : World}
abbrev Good (m : Int) (W : World) : Prop := Calls Tryz.prog 4 #[.int .i64 m] W fun e W' => e = .returned (.bool true) ∧ Below W.heap.size W W'
theorem cloK {m : Int} (hm : ∃ x, W.cell? ⟨0, 0, none⟩ = some (.int .i64 x)) {f : BinOp → Nat → Option Bool} (hf : ∀ op c r, f op c = some r → cmpI op m (c : Int) r)
    (e : callF (EK (unK f)) 300 false 4 (vl [.r (.y 32768)]) (h0N 0) isT = true) : Good m W := by
  let inst : Un := unC m
  exact law_of (envK (unK_sound (unC_0 m) hf)) sumK Tryz.func4 (by kernel_rfl) rfl e (wr0N (by decide) hm) (noWr0N 0 (by decide)) ⟨.int .i64 m, [], rfl, .inr ⟨by decide, (unC_0 m).symm⟩, rfl⟩
theorem cloG {n : Nat} (hm : ∃ x, W.cell? ⟨0, 0, none⟩ = some (.int .i64 x)) {a b : Seg}
    (ga : callF E0 300 false 10 a.a (ofL a.n0 a.l0) a.fin = true) (gb : callF E0 300 false 13 b.a (ofL b.n0 b.l0) b.fin = true) (ka : a.ok = true) (kb : b.ok = true)
    (e : callF (withSeg (withSeg E0 10 (segG [a])) 13 (segG [b])) 300 false 4 (vl [I n]) (h0N 0) isT = true) : Good (n : Int) W := by
  let inst : Un := unC 0
  have ha : SegS Tryz.prog 10 (segG [a]) := by
    refine segS_of fun t ht => ?_
    have e : t = a := by simpa using ht
    rw [e]
    exact ⟨seg_of ga, ka⟩
  have hb : SegS Tryz.prog 13 (segG [b]) := by
    refine segS_of fun t ht => ?_
    have e : t = b := by simpa using ht
    rw [e]
    exact ⟨seg_of gb, kb⟩
  exact law_of (env_seg (env_seg (envK un_none) 10 (segG [a])) 13 (segG [b])) (sum_seg (sum_seg sumK ha) hb) Tryz.func4 (by kernel_rfl) rfl e (wr0N (by decide) hm) (noWr0N 0 (by decide)) ⟨.int .i64 n, [], rfl, rfl, rfl⟩
end
theorem clo_lo {m : Int} {W : World} (hm : ∃ x, W.cell? ⟨0, 0, none⟩ = some (.int .i64 x)) (h : m < (1 : Nat)) : Good m W := by
  let inst : Un := unC m
  exact cloK hm (kLo_ok h) c_lo
theorem clo_hi {m : Int} {W : World} (hm : ∃ x, W.cell? ⟨0, 0, none⟩ = some (.int .i64 x)) (h : (9 : Nat) < m) : Good m W := by
  let inst : Un := unC m
  exact cloK hm (kHi_ok h) c_hi
theorem clo (m : Int) {W : World} (hm : ∃ x, W.cell? ⟨0, 0, none⟩ = some (.int .i64 x)) : Good m W := by
  rcases (show m < (1 : Nat) ∨ (9 : Nat) < m ∨ m = (1 : Nat) ∨ m = (2 : Nat) ∨ m = (3 : Nat) ∨ m = (4 : Nat) ∨ m = (5 : Nat) ∨ m = (6 : Nat) ∨ m = (7 : Nat) ∨ m = (8 : Nat) ∨ m = (9 : Nat) by omega) with h | h | h | h | h | h | h | h | h | h | h
  · exact clo_lo hm h
  · exact clo_hi hm h
  · subst h; exact cloG hm gA1 gB1 rfl rfl m1
  · subst h; exact cloG hm gA2 gB2 rfl rfl m2
  · subst h; exact cloG hm gA3 gB3 rfl rfl m3
  · subst h; exact cloG hm gA4 gB4 rfl rfl m4
  · subst h; exact cloG hm gA5 gB5 rfl rfl m5
  · subst h; exact cloG hm gA6 gB6 rfl rfl m6
  · subst h; exact cloG hm gA7 gB7 rfl rfl m7
  · subst h; exact cloG hm gA8 gB8 rfl rfl m8
  · subst h; exact cloG hm gA9 gB9 rfl rfl m9
end Go.Proofs.YtbccefdijpmkbaaGreatDoor
