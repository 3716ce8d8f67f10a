/-
  Part of a proof: what is known when RunFinally is evaluated: its two numbers are known by their remainders alone; and the known run, once evaluated; no conditions.
-/
import Derived.Test.YtbccefdijpmkbaaGreatDoorHTa
import Derived.Test.YtbccefdijpmkbaaGreatDoorHvF
set_option linter.constructorNameAsVariable false
set_option linter.unusedVariables false
set_option linter.unusedSimpArgs false
set_option linter.unusedSectionVars false
set_option linter.unusedVariables false
set_option linter.unusedSectionVars false
set_option maxRecDepth 100000
namespace Go.Proofs.YtbccefdijpmkbaaGreatDoor
open Go Go.Ev
noncomputable section
theorem kn : callF ES 200 false 6 .n (h0N 0) isT = true := by decide +kernel
/-- the remainders of two numbers that are not known: the first by 5, the second by 4 -/
def unFin (fw fo : V) (op : BinOp) (_ : Nat) (x y : V) : Option V :=
  match op with
  | .rem => Bool.rec (motive := fun _ => Option V)
      (Bool.rec (motive := fun _ => Option V) none (oI64 (fun c => Bool.rec (motive := fun _ => Option V) none (some fo) (Nat.beq c 4)) y) (isUn 32769 x))
      (oI64 (fun c => Bool.rec (motive := fun _ => Option V) none (some fw) (Nat.beq c 5)) y) (isUn 32768 x)
  | _ => none
section
variable [Un]
theorem rem_run {P : Program} {t : Nat} (a : Int) (b : Nat) (hb : b ≠ 0) (X Y : Operand) (w : World) : (do eqGuard .rem t X Y (.int .i64 a) (.int .i64 (Int.ofNat b)); binOp .rem t (.int .i64 a) (.int .i64 (Int.ofNat b)) : Sem Value).run P w = .ok (.int .i64 (a.tmod (b : Int))) w := by
  have hg := eqGuard_ok (P := P) (op := .rem) (t := t) (x := X) (y := Y) (a := .int .i64 a) (b := .int .i64 (Int.ofNat b)) (by simp) (fun h => by cases h) w
  simp only [Sem.run_bind, hg, Result.andThen_ok]
  have : ¬ (Int.ofNat b = 0) := by simpa using hb
  simp [binOp, Op.intDiv, hb]
theorem unFin_sound {P : Program} {fw fo : V} {m n : Int} (hm : Un.val 32768 = .int .i64 m) (hn : Un.val 32769 = .int .i64 n) (h1 : ∀ μ, RV μ fw (.int .i64 (m.tmod 5))) (h2 : ∀ μ, RV μ fo (.int .i64 (n.tmod 4))) : UnS P (unFin fw fo) := by
  intro op t x y v e μ a b ha hb
  cases op <;> first | (cases e; done) | skip
  have e : Bool.rec (motive := fun _ => Option V)
      (Bool.rec (motive := fun _ => Option V) none (oI64 (fun c => Bool.rec (motive := fun _ => Option V) none (some fo) (Nat.beq c 4)) y) (isUn 32769 x))
      (oI64 (fun c => Bool.rec (motive := fun _ => Option V) none (some fw) (Nat.beq c 5)) y) (isUn 32768 x) = some v := e
  cases hx : isUn 32768 x with
  | true =>
    rw [hx] at e
    obtain ⟨c, rfl, e1⟩ := oI64_inv e
    obtain ⟨e2, e3⟩ := bool_inv e1
    obtain rfl := Option.some.inj e3
    obtain rfl := Nat.eq_of_beq_eq_true e2
    have hA := isUn_rel (by decide) hx ha
    rw [hm] at hA
    subst hA
    obtain rfl := rv_i hb
    exact ⟨_, h1 μ, fun X Y w => rem_run m 5 (by decide) X Y w⟩
  | false =>
    rw [hx] at e
    obtain ⟨e0, e⟩ := bool_inv e
    obtain ⟨c, rfl, e1⟩ := oI64_inv e
    obtain ⟨e2, e3⟩ := bool_inv e1
    obtain rfl := Option.some.inj e3
    obtain rfl := Nat.eq_of_beq_eq_true e2
    have hA := isUn_rel (by decide) e0 ha
    rw [hn] at hA
    subst hA
    obtain rfl := rv_i hb
    exact ⟨_, h2 μ, fun X Y w => rem_run n 4 (by decide) X Y w⟩
end
/-- the program as it is evaluated, the known run in one step -/
noncomputable def EK (un : BinOp → Nat → V → V → Option V) : Env := withPure (ESu un) 6 (gKN 0)
theorem envK [Un] {un : BinOp → Nat → V → V → Option V} (hu : UnS Tryz.prog un) : EnvOK (EK un) Tryz.prog := env_pure (envOK hu) 6 (gKN 0)
theorem pureK [Un] : PureS Tryz.prog 6 (gKN 0) := pure_knownN (envOK un_none) sumOK (by decide) Tryz.func6 (by kernel_rfl) rfl kn
theorem sumK [Un] {un : BinOp → Nat → V → V → Option V} : SumOK (EK un) Tryz.prog := sum_pure sumOK pureK
/-- and a call of function f at what is written -/
noncomputable def EG (un : BinOp → Nat → V → V → Option V) (f : Nat) (S : List Seg) : Env := withSeg (EK un) f (segG S)
theorem envG [Un] {un : BinOp → Nat → V → V → Option V} (hu : UnS Tryz.prog un) (f : Nat) (S : List Seg) : EnvOK (EG un f S) Tryz.prog := env_seg (envK hu) f (segG S)
theorem sumG [Un] {un : BinOp → Nat → V → V → Option V} {f : Nat} {S : List Seg} (h : ∀ s ∈ S, SegP Tryz.prog f s ∧ s.ok = true) : SumOK (EG un f S) Tryz.prog := sum_seg sumK (segS_of h)
noncomputable def E0 : Env := EK fun _ _ _ _ => none
theorem seg_of [Un] {n f : Nat} {s : Seg} (e : callF E0 n false f s.a (ofL s.n0 s.l0) s.fin = true) : SegP Tryz.prog f s := seg_run (envK un_none) sumK e
def un2 : V := vl [.r (.y 32768), .r (.y 32769)]
end
end Go.Proofs.YtbccefdijpmkbaaGreatDoor
