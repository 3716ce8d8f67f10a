/-
  Part of a proof: an evaluator of the model's code over abstract memory, and that it is sound against the model's weakest preconditions; no conditions.
-/
import Derived.Test.YtbccefdijpmkbaaGreatDoorHvB
import Derived.Laws.BytesString
import Derived.Lib.UnsafeStr
import Derived.Laws.Sem
set_option linter.constructorNameAsVariable false
set_option linter.unusedVariables false
set_option linter.unusedSimpArgs false
set_option linter.unusedSectionVars false
set_option linter.constructorNameAsVariable false
set_option linter.unusedVariables false
set_option linter.unusedSimpArgs false
set_option linter.unusedSectionVars false
namespace Go.Ev
open Go
noncomputable section
variable [Un]
variable {P : Program} {E : Env} {ops : Ops} {o : Oper}

theorem is_binOp0 (ok : EnvOK E P) (op : BinOp) (t : Nat) (x y : Operand) (q : Nat) (ho : o.op = .binOp op t x y q) : IS P ops o (match cBin E op t x y (gO x) (gO y) with | some f => finQ ops o f | none => .bad) := by
  have base : (isBase (.i .u8 0)) := .inl ⟨_, _, rfl⟩
  have bInt : ∀ (f : V → V → Option V) (g : IntKind → Int → Int → Option V), f = bi2 g → ∀ u v r, f u v = some r → isBase u := fun f g e u v r h => by subst e; exact bi2_base u v r h
  have bShift : ∀ (g : IntKind → Int → V → Option V) (u v r), oI (fun k a => g k a v) u = some r → isBase u := fun g u v r h => by
    obtain ⟨k, a, e, _⟩ := oI_inv h; exact .inl ⟨k, a, e⟩
  have bStr : ∀ (g : Nat → V → Option V) (u v r), oS (fun c => g c v) u = some r → isBase u := fun g u v r h => by
    obtain ⟨c, e, _⟩ := oS_inv h; exact .inr (.inl ⟨c, e⟩)
  have bBool : ∀ (g : Bool → V → Option V) (u v r), oB (fun c => g c v) u = some r → isBase u := fun g u v r h => by
    obtain ⟨c, e, _⟩ := oB_inv h; exact .inr (.inr ⟨c, e⟩)
  unfold cBin
  have hEq : ∀ d, E.und t = some d → ∀ f, cEq E false t x y (gO x) (gO y) = some f → op = .eql → IS P ops o (finQ ops o f) := by
    intro d hd f hf hop
    subst hop
    have hu := und_ok ok hd
    unfold cEq at hf
    rw [hd] at hf
    have ho' : o.op = .binOp (if false = true then .neq else .eql) t x y q := ho
    cases d <;> simp only at hf <;> first | (cases hf; done) | skip
    case pointer e =>
      cases hn : nilEq false isNilP fNilP x y (gO x) (gO y) with
      | some g => rw [hn] at hf; obtain rfl := Option.some.inj hf; exact nilEqS ho' isNilP_inv (fun v b μ a h => nilP_inv h) (eqP hu) hn
      | none =>
        rw [hn] at hf
        cases hs : E.szOf e with
        | zero => rw [hs] at hf; cases hf
        | succ k =>
          rw [hs] at hf
          obtain rfl := Option.some.inj hf
          cases hi : E.tt e with
          | none => simp [Env.szOf, hi] at hs
          | some i =>
            have hz : i.size ≠ 0 := by simp [Env.szOf, hi] at hs; omega
            refine finQ_is (by simp [ho]) <| QSW.qx fun μ T h a v gm rt e' => ?_
            obtain ⟨z, h1, h2⟩ := fPEqS (neg := false) hu (ok.tt _ _ hi) hz μ _ _ v _ _ e' (eval_rel gm rt x) (eval_rel gm rt y)
            refine ⟨z, fun w => ?_, h2⟩
            have ha : ∃ p, a.eval x = .pointer p := by
              have hx := eval_rel gm rt x
              obtain ⟨m, h3, _⟩ := opt_inv e'
              rcases nilP_inv h3 hx with ⟨_, e⟩ | ⟨_, c, e⟩ <;> exact ⟨_, e⟩
            obtain ⟨p, hp⟩ := ha
            simp only [execOp, ho]
            refine exv ?_
            have := eqGuard_ok (P := P) (op := .eql) (t := t) (x := x) (y := y) (a := a.eval x) (b := a.eval y) (by rw [hp]; simp) (fun h => by rw [hp] at h; cases h) w
            simp only [Sem.run_bind, this, Result.andThen_ok]
            exact h1 w
    case struct fs =>
      cases hl : eqFs E fs.toList with
      | none => rw [hl] at hf; cases hf
      | some l =>
        rw [hl] at hf
        cases hs : E.pg.stoodInHeld t with
        | true => rw [hs] at hf; cases hf
        | false =>
          rw [hs] at hf
          cases hg : E.pg.eqGuardType E.pg.depth t with
          | true => rw [hg] at hf; cases hf
          | false =>
            rw [hg] at hf
            obtain rfl := Option.some.inj hf
            rw [ok.pg] at hs hg
            refine finQ_is (by simp [ho]) <| QSW.qx fun μ T h a v gm rt e' => ?_
            obtain ⟨⟨xs, ys, q1, q2⟩, z, h1, h2⟩ := fStEqS (neg := false) ok hu hl hs e' (eval_rel gm rt x) (eval_rel gm rt y)
            refine ⟨z, fun w => ?_, h1⟩
            simp only [execOp, ho]
            refine exv ?_
            have hgu := run_eqGuard_agg w .eql t x y xs ys hg
            have h2 := h2 w
            rw [q1, q2] at h2 ⊢
            simp only [Sem.run_bind, hgu, Result.andThen_ok]
            exact h2
    case interface ms => exact nilEqS ho' isNilI_inv (fun v b μ a h => nilI_inv h) (eqI hu) hf
    case slice e => exact nilEqS ho' isNilS_inv (fun v b μ a h => nilS_inv h) (eqSl hu) hf
    case map k e => exact nilEqS ho' isNilM_inv (fun v b μ a h => nilM_inv h) (eqM hu) hf
    case func ps rs va => exact nilEqS ho' isNilF_inv (fun v b μ a h => nilF_inv h) (eqF hu) hf
  have hNe : ∀ d, E.und t = some d → ∀ f, cEq E true t x y (gO x) (gO y) = some f → op = .neq → IS P ops o (finQ ops o f) := by
    intro d hd f hf hop
    subst hop
    have hu := und_ok ok hd
    unfold cEq at hf
    rw [hd] at hf
    have ho' : o.op = .binOp (if true = true then .neq else .eql) t x y q := ho
    cases d <;> simp only at hf <;> first | (cases hf; done) | skip
    case pointer e =>
      cases hn : nilEq true isNilP fNilP x y (gO x) (gO y) with
      | some g => rw [hn] at hf; obtain rfl := Option.some.inj hf; exact nilEqS ho' isNilP_inv (fun v b μ a h => nilP_inv h) (eqP hu) hn
      | none =>
        rw [hn] at hf
        cases hs : E.szOf e with
        | zero => rw [hs] at hf; cases hf
        | succ k =>
          rw [hs] at hf
          obtain rfl := Option.some.inj hf
          cases hi : E.tt e with
          | none => simp [Env.szOf, hi] at hs
          | some i =>
            have hz : i.size ≠ 0 := by simp [Env.szOf, hi] at hs; omega
            refine finQ_is (by simp [ho]) <| QSW.qx fun μ T h a v gm rt e' => ?_
            obtain ⟨z, h1, h2⟩ := fPEqS (neg := true) hu (ok.tt _ _ hi) hz μ _ _ v _ _ e' (eval_rel gm rt x) (eval_rel gm rt y)
            refine ⟨z, fun w => ?_, h2⟩
            have ha : ∃ p, a.eval x = .pointer p := by
              have hx := eval_rel gm rt x
              obtain ⟨m, h3, _⟩ := opt_inv e'
              rcases nilP_inv h3 hx with ⟨_, e⟩ | ⟨_, c, e⟩ <;> exact ⟨_, e⟩
            obtain ⟨p, hp⟩ := ha
            simp only [execOp, ho]
            refine exv ?_
            have := eqGuard_ok (P := P) (op := .neq) (t := t) (x := x) (y := y) (a := a.eval x) (b := a.eval y) (by rw [hp]; simp) (fun h => by rw [hp] at h; cases h) w
            simp only [Sem.run_bind, this, Result.andThen_ok]
            exact h1 w
    case struct fs =>
      cases hl : eqFs E fs.toList with
      | none => rw [hl] at hf; cases hf
      | some l =>
        rw [hl] at hf
        cases hs : E.pg.stoodInHeld t with
        | true => rw [hs] at hf; cases hf
        | false =>
          rw [hs] at hf
          cases hg : E.pg.eqGuardType E.pg.depth t with
          | true => rw [hg] at hf; cases hf
          | false =>
            rw [hg] at hf
            obtain rfl := Option.some.inj hf
            rw [ok.pg] at hs hg
            refine finQ_is (by simp [ho]) <| QSW.qx fun μ T h a v gm rt e' => ?_
            obtain ⟨⟨xs, ys, q1, q2⟩, z, h1, h2⟩ := fStEqS (neg := true) ok hu hl hs e' (eval_rel gm rt x) (eval_rel gm rt y)
            refine ⟨z, fun w => ?_, h1⟩
            simp only [execOp, ho]
            refine exv ?_
            have hgu := run_eqGuard_agg w .neq t x y xs ys hg
            have h2 := h2 w
            rw [q1, q2] at h2 ⊢
            simp only [Sem.run_bind, hgu, Result.andThen_ok]
            exact h2
    case interface ms => exact nilEqS ho' isNilI_inv (fun v b μ a h => nilI_inv h) (eqI hu) hf
    case slice e => exact nilEqS ho' isNilS_inv (fun v b μ a h => nilS_inv h) (eqSl hu) hf
    case map k e => exact nilEqS ho' isNilM_inv (fun v b μ a h => nilM_inv h) (eqM hu) hf
    case func ps rs va => exact nilEqS ho' isNilF_inv (fun v b μ a h => nilF_inv h) (eqF hu) hf
  have other : ∀ r : Option (Tm → H → Option V), (∀ f, r = some f → IS P ops o (finQ ops o f)) → IS P ops o (match r with | some f => finQ ops o f | none => .bad) := fun r h => by
    cases r with
    | none => exact trivial
    | some f => exact h f rfl
  cases hd : E.und t with
  | none =>
    have : ∀ neg, cEq E neg t x y (gO x) (gO y) = none := fun neg => by unfold cEq; rw [hd]
    cases op <;> simp only [this] <;> exact trivial
  | some d =>
    have hu := und_ok ok hd
    cases d
    case int k =>
      cases op
      case add => exact binS ho (bInt _ _ rfl) (pAdd t)
      case sub => exact binS ho (bInt _ _ rfl) (pSub t)
      case mul => exact binS ho (bInt _ _ rfl) (pMul t)
      case quo => exact binS ho (bInt _ _ rfl) (pQuo t)
      case rem => exact binS ho (bInt _ _ rfl) (pRem t)
      case and => exact binS ho (bInt _ _ rfl) (pAnd t)
      case or => exact binS ho (bInt _ _ rfl) (pOr t)
      case xor => exact binS ho (bInt _ _ rfl) (pXor t)
      case andNot => exact binS ho (bInt _ _ rfl) (pAndNot t)
      case shl => exact binS ho (bShift _) (pShl t)
      case shr => exact binS ho (bShift _) (pShr t)
      case eql => exact binS ho (bInt _ _ rfl) (pEq t)
      case neq => exact binS ho (bInt _ _ rfl) (pNe t)
      case lss => exact binS ho (bInt _ _ rfl) (pLt t)
      case leq => exact binS ho (bInt _ _ rfl) (pLe t)
      case gtr => exact binS ho (bInt _ _ rfl) (pGt t)
      case geq => exact binS ho (bInt _ _ rfl) (pGe t)
    case string =>
      cases op
      case add => exact binS ho (bStr _) (pCat t)
      case eql => exact binS ho (bStr _) (pSEq t)
      case neq => exact binS ho (bStr _) (pSNe t)
      all_goals exact trivial
    case bool =>
      cases op
      case eql => exact binS ho (bBool _) (pBEq hu)
      case neq => exact binS ho (bBool _) (pBNe hu)
      all_goals exact trivial
    all_goals
      cases op <;> first
        | exact trivial
        | exact other _ (fun f hf => hEq _ hd f hf rfl)
        | exact other _ (fun f hf => hNe _ hd f hf rfl)

theorem hook_is (ok : EnvOK E P) {op : BinOp} {t : Nat} {x y : Operand} {q : Nat} (ho : o.op = .binOp op t x y q) {f : Tm → H → Option V} (h : IS P ops o (finQ ops o f)) : IS P ops o (finQ ops o (hook E op t (gO x) (gO y) f)) := by
  have hun : QSW P ops.1 o (fun T _ => E.un op t (gO x T) (gO y T)) := fun μ T hh a v gm rt e => by
    obtain ⟨z, h1, h2⟩ := ok.un op t _ _ v e μ _ _ (eval_rel gm rt x) (eval_rel gm rt y)
    exact ⟨z, fun w => by simp only [execOp, ho]; exact exv (h2 x y w), h1⟩
  have key : QX P ops.1 o f → QX P ops.1 o (hook E op t (gO x) (gO y) f) := fun hq =>
    ⟨fun μ T hh w a v gm rt wr e => by
      unfold hook at e
      cases hf : f T hh with
      | some u => rw [hf] at e; obtain rfl := Option.some.inj e; exact hq.qs μ T hh w a _ gm rt wr hf
      | none => rw [hf] at e; obtain ⟨z, h1, h2⟩ := hun μ T hh a v gm rt e; exact ⟨z, h1 w, h2⟩,
    fun hl μ T hh a v gm rt e => by
      unfold hook at e
      cases hf : f T hh with
      | some u => rw [hf] at e; obtain rfl := Option.some.inj e; exact hq.w hl μ T hh a _ gm rt hf
      | none => rw [hf] at e; exact hun μ T hh a v gm rt e⟩
  unfold finQ at h ⊢
  rw [withP_eq] at h ⊢
  cases hg : o.guard with
  | none => rw [hg] at h; exact ⟨h.1, h.2.1, key h.2.2.1, h.2.2.2⟩
  | some p =>
    obtain ⟨j, want⟩ := p
    rw [hg] at h
    simp only at h ⊢
    cases ht : guardOf ops.2 j with
    | none => exact trivial
    | some t => rw [ht] at h; simp only [withR_eq] at h ⊢; exact ⟨h.1, h.2.1, key h.2.2.1, h.2.2.2⟩
theorem is_binOp (ok : EnvOK E P) (op : BinOp) (t : Nat) (x y : Operand) (q : Nat) (ho : o.op = .binOp op t x y q) : IS P ops o (c_binOp op t x y q E ops o) := by
  have h := is_binOp0 (ops := ops) ok op t x y q ho
  unfold c_binOp
  rw [withO_eq, withO_eq]
  cases hc : cBin E op t x y (gO x) (gO y) with
  | none => exact trivial
  | some f => rw [hc] at h; exact hook_is ok ho h

theorem is_unOp (op : UnOp) (t : Nat) (x : Operand) (ho : o.op = .unOp op t x) : IS P ops o (c_unOp op t x E ops o) := by
  unfold c_unOp
  rw [withO_eq]
  cases op
  case not =>
    refine finQ_is (by simp [ho]) (qop1 (g := Op.unary .not) (fun ρ => by simp only [execOp, ho]) fun μ y v r hr e => ?_)
    obtain ⟨b, rfl, e⟩ := oB_inv e
    obtain rfl := Option.some.inj e
    rw [rv_b hr]
    exact ⟨.bool (!b), fun w => rfl, by rw [not_eq]; rfl⟩
  case neg =>
    refine finQ_is (by simp [ho]) (qop1 (g := Op.unary .neg) (fun ρ => by simp only [execOp, ho]) fun μ y v r hr e => ?_)
    obtain ⟨k, n, rfl, e⟩ := oI_inv e
    obtain rfl := Option.some.inj e
    rw [rv_i hr]
    exact ⟨.int k (k.wrap (0 - n)), fun w => rfl, by rw [iSub_eq]; rfl⟩
  case xor =>
    refine finQ_is (by simp [ho]) (qop1 (g := Op.unary .xor) (fun ρ => by simp only [execOp, ho]) fun μ y v r hr e => ?_)
    obtain ⟨k, a, rfl, e⟩ := oI_inv e
    cases a with
    | negSucc m => cases e
    | ofNat n =>
      obtain ⟨h1, e⟩ := bool_inv e
      obtain ⟨h2, e⟩ := bool_inv e
      obtain rfl := Option.some.inj e
      rw [rv_i hr]
      have h1 := le_of_ble h1
      have h2 := le_of_ble h2
      refine ⟨.int k (Int.negSucc n), fun w => ?_, rfl⟩
      have hs : k.signed = true := by cases k <;> first | rfl | (simp [kno] at h1)
      have key : k.wrap (((BitVec.ofInt k.bits (-1) ^^^ BitVec.ofInt k.bits (Int.ofNat n)).toNat : Nat) : Int) = Int.negSucc n := by
        have hall : BitVec.ofInt k.bits (-1) = BitVec.allOnes k.bits := by cases k <;> decide
        have hx : (BitVec.allOnes k.bits ^^^ BitVec.ofInt k.bits (Int.ofNat n)).toNat = 2 ^ k.bits - 1 - n := by
          rw [BitVec.allOnes_xor, BitVec.toNat_not, bv_nat k h2]
        rw [hall, hx]
        cases k <;> first | (cases hs; done) | skip
        all_goals
          simp only [kmax] at h2
          simp only [IntKind.wrap, IntKind.bits, IntKind.signed, Bool.true_and]
          rw [Int.negSucc_eq]
          split <;> rename_i hc <;> simp at hc ⊢ <;> omega
      show (Op.intBits .xor k (if k.signed then -1 else k.max) (Int.ofNat n)).run P w = _
      rw [hs]
      show Result.ok (Value.int k (k.wrap _)) w = _
      exact congrArg (fun z => Result.ok (Value.int k z) w) key
  all_goals exact trivial
end
end Go.Ev

set_option linter.constructorNameAsVariable false
set_option linter.unusedVariables false
set_option linter.unusedSimpArgs false
set_option linter.unusedSectionVars false
namespace Go.Ev
open Go
noncomputable section
variable [Un]
variable {P : Program} {E : Env} {ops : Ops} {o : Oper}

/-! ### lists of values -/
theorem rl_cons {μ : Mu} {h t : V} {l : List Value} (r : RL μ (.c h t) l) : ∃ x xs, l = x :: xs ∧ RV μ h x ∧ RL μ t xs := r
theorem nth_rel {μ : Mu} (n : Nat) : ∀ {l r : V} {xs : List Value}, V.nth n l = some r → RL μ l xs → ∃ x, xs[n]? = some x ∧ RV μ r x := by
  induction n with
  | zero =>
    intro l r xs h hr
    obtain ⟨a, t, rfl, h⟩ := oC_inv h
    obtain ⟨x, xs, rfl, hx, _⟩ := hr
    exact ⟨x, rfl, by rw [← Option.some.inj h]; exact hx⟩
  | succ n ih =>
    intro l r xs h hr
    obtain ⟨a, t, rfl, h⟩ := oC_inv h
    obtain ⟨x, xs, rfl, _, ht⟩ := hr
    simpa using ih h ht
theorem drop_rel {μ : Mu} (n : Nat) : ∀ {l r : V} {xs : List Value}, V.drop n l = some r → RL μ l xs → RL μ r (xs.drop n) ∧ n ≤ xs.length := by
  induction n with
  | zero => intro l r xs h hr; obtain rfl := Option.some.inj h; exact ⟨hr, Nat.zero_le _⟩
  | succ n ih =>
    intro l r xs h hr
    obtain ⟨a, t, rfl, h⟩ := oC_inv h
    obtain ⟨x, xs, rfl, _, ht⟩ := hr
    have := ih h ht
    exact ⟨by simpa using this.1, by simpa using this.2⟩
theorem take_rel {μ : Mu} (n : Nat) : ∀ {l r : V} {xs : List Value}, V.take n l = some r → RL μ l xs → RL μ r (xs.take n) ∧ n ≤ xs.length := by
  induction n with
  | zero => intro l r xs h hr; obtain rfl := Option.some.inj h; exact ⟨by simp [RL], Nat.zero_le _⟩
  | succ n ih =>
    intro l r xs h hr
    obtain ⟨a, t, rfl, h⟩ := oC_inv h
    obtain ⟨x, xs, rfl, hx, ht⟩ := hr
    obtain ⟨m, h1, h⟩ := opt_inv h
    obtain rfl := Option.some.inj h
    have := ih h1 ht
    exact ⟨⟨x, _, by simp, hx, this.1⟩, by simpa using this.2⟩
theorem app_rel {μ : Mu} (n : Nat) : ∀ {l m r : V} {xs ys : List Value}, V.app n l m = some r → RL μ l xs → RL μ m ys → RL μ r (xs ++ ys) ∧ xs.length = n := by
  induction n with
  | zero =>
    intro l m r xs ys h hx hy
    obtain ⟨rfl, h⟩ := oN_inv h
    obtain rfl := Option.some.inj h
    have : xs = [] := hx
    subst this
    exact ⟨hy, rfl⟩
  | succ n ih =>
    intro l m r xs ys h hx hy
    obtain ⟨a, t, rfl, h⟩ := oC_inv h
    obtain ⟨x, xs, rfl, hx, ht⟩ := hx
    obtain ⟨z, h1, h⟩ := opt_inv h
    obtain rfl := Option.some.inj h
    have := ih h1 ht hy
    exact ⟨⟨x, _, by simp, hx, this.1⟩, by simpa using this.2⟩
theorem cat_rel {μ : Mu} (n : Nat) : ∀ {l m r : V} {xs ys : List Value}, V.cat n l m = some r → RL μ l xs → RL μ m ys → RL μ r (xs ++ ys) := by
  induction n with
  | zero =>
    intro l m r xs ys h hx hy
    obtain ⟨rfl, h⟩ := oN_inv h
    obtain rfl := Option.some.inj h
    have : xs = [] := hx
    subst this
    exact hy
  | succ n ih =>
    intro l m r xs ys h hx hy
    cases l with
    | n => obtain rfl := Option.some.inj h; have : xs = [] := hx; subst this; exact hy
    | c a t =>
      obtain ⟨x, xs, rfl, hx, ht⟩ := hx
      obtain ⟨z, h1, h⟩ := opt_inv h
      obtain rfl := Option.some.inj h
      exact ⟨x, _, by simp, hx, ih h1 ht hy⟩
    | _ => cases h
theorem over_rel {μ : Mu} {off n : Nat} {x l r : V} {xs ls : List Value} (h : V.over off x l n = some r) (hx : RL μ x xs) (hl : RL μ l ls) : RL μ r (ls.take off ++ (xs ++ ls.drop (off + n))) ∧ xs.length = n ∧ off + n ≤ ls.length := by
  unfold V.over at h
  obtain ⟨a, h1, h⟩ := opt_inv h
  obtain ⟨z, h2, h⟩ := opt_inv h
  obtain ⟨m, h3, h⟩ := opt_inv h
  have r1 := take_rel _ h1 hl
  have r2 := drop_rel _ h2 hl
  have r3 := app_rel _ h3 hx r2.1
  have r4 := app_rel _ h r1.1 r3.1
  exact ⟨r4.1, r3.2, r2.2⟩

theorem arr_map {α β : Type} (f : α → β) (x : Array α) : (x.toList.map f).toArray = x.map f := by apply Array.ext'; simp

/-! ### parts -/
theorem run_part (ok : EnvOK E P) {t : Nat} {d : TypeDesc} (ht : E.und t = some d) {off : Nat} {v r : V} {μ : Mu} {cs : List Value} (h : fField (E.isAg t) off (E.szOf t) (.a v) = some r) (hr : RL μ v cs) :
    ∃ x, (∀ w, (part t cs.toArray off).run P w = .ok x w) ∧ RV μ r x := by
  unfold fField at h
  obtain ⟨l, e, h⟩ := oA_inv h
  obtain rfl : v = l := by injection e
  unfold part
  cases ha : E.isAg t with
  | true =>
    rw [ha] at h
    obtain ⟨m, h1, h⟩ := opt_inv h
    obtain ⟨k, h2, h⟩ := opt_inv h
    obtain rfl := Option.some.inj h
    have r1 := drop_rel _ h1 hr
    have r2 := take_rel _ h2 r1.1
    refine ⟨.agg ((cs.drop off).take (E.szOf t)).toArray, fun w => ?_, ⟨_, rfl, r2.1⟩⟩
    have := run_isAgg ok ht w
    rw [ha] at this
    simp only [Sem.run_bind, this, Result.andThen_ok, if_true, run_sizeU ok ht w]
    simp [List.extract_eq_take_drop]
  | false =>
    rw [ha] at h
    obtain ⟨x, h1, h2⟩ := nth_rel off h hr
    refine ⟨x, fun w => ?_, h2⟩
    have := run_isAgg ok ht w
    rw [ha] at this
    have hx : cs.toArray[off]? = some x := by simpa using h1
    simp only [Sem.run_bind, this, Result.andThen_ok, Bool.false_eq_true, if_false, hx]
    rfl

theorem is_makeInterface (ok : EnvOK E P) (t : Nat) (x : Operand) (ho : o.op = .makeInterface t x) : IS P ops o (c_makeInterface t x E ops o) := by
  unfold c_makeInterface
  cases hd : E.und t with
  | none => exact trivial
  | some d =>
    have hu := und_ok ok hd
    have main : (∀ ms, d ≠ .interface ms) → IS P ops o (withO x fun g => finQ ops o (q1 g (fIface t))) := fun hne => by
      rw [withO_eq]
      refine finQ_is (by simp [ho]) (qop1 (g := Instr.makeInterface t) (fun ρ => by simp only [execOp, ho]) fun μ y v r hr e => ?_)
      obtain rfl := Option.some.inj e
      refine ⟨.iface t y, fun w => ?_, ⟨y, rfl, hr⟩⟩
      unfold Instr.makeInterface
      simp only [Sem.run_bind, run_und ok hd, Result.andThen_ok]
      cases d <;> first | rfl | exact absurd rfl (hne _)
    cases d <;> first | exact trivial | exact main (by simp)

theorem is_makeFunc (fn : Fn) (x y : Array Operand) (ho : o.op = .makeFunc fn x y) : IS P ops o (c_makeFunc fn x y E ops o) := by
  unfold c_makeFunc
  cases fn <;> try exact trivial
  simp only [withL_eq]
  refine finQ_is (by simp [ho]) <| QSW.qx fun μ T h a v gm rt e => ?_
  obtain rfl := Option.some.inj e
  refine ⟨_, fun w => by simp only [execOp, ho]; exact exv rfl, ⟨(x.toList.map a.eval), (y.toList.map a.eval), by rw [arr_map, arr_map], gL_rel gm rt _, gL_rel gm rt _⟩⟩

theorem is_extract (x : Operand) (i : Nat) (ho : o.op = .extract x i) : IS P ops o (c_extract x i E ops o) := by
  unfold c_extract
  rw [withO_eq]
  refine finQ_is (by simp [ho]) (qop1 (g := fun y => Instr.extract y i) (fun ρ => by simp only [execOp, ho]) fun μ y v r hr e => ?_)
  obtain ⟨l, rfl, h⟩ := oT_inv e
  obtain ⟨xs, rfl, hl⟩ := hr
  obtain ⟨z, h1, h2⟩ := nth_rel _ h hl
  refine ⟨z, fun w => ?_, h2⟩
  have hx : xs.toArray[i]? = some z := by simpa using h1
  simp only [Instr.extract, hx]
  rfl

theorem is_field (ok : EnvOK E P) (t : Nat) (x : Operand) (i : Nat) (ho : o.op = .field t x i) : IS P ops o (c_field t x i E ops o) := by
  unfold c_field
  cases hd : E.und t with
  | none => exact trivial
  | some d =>
    have hu := und_ok ok hd
    cases d <;> try exact trivial
    rename_i fs
    simp only
    cases hf : fs[i]? with
    | none => exact trivial
    | some f =>
      simp only
      cases he : E.und f.type with
      | none => exact trivial
      | some d' =>
        simp only [withO_eq]
        refine finQ_is (by simp [ho]) (qop1 (g := fun y => Instr.field t y i) (fun ρ => by simp only [execOp, ho]) fun μ y v r hr e => ?_)
        have e' := e
        unfold fField at e'
        obtain ⟨l, rfl, _⟩ := oA_inv e'
        obtain ⟨xs, rfl, hl⟩ := hr
        obtain ⟨z, h1, h2⟩ := run_part ok he e hl
        refine ⟨z, fun w => ?_, h2⟩
        unfold Instr.field
        simp only [Sem.run_bind, run_und ok hd, Result.andThen_ok, hf, asAgg]
        exact h1 w

theorem oPt_rr {μ : Mu} {id off : Nat} {a : Value} (h : RV μ (.r (.pt id off)) a) : ∃ c n, μ id = some (c, n) ∧ a = .pointer (some ⟨c, off, none⟩) := h

theorem szOf_pos {t k : Nat} (h : E.szOf t = k + 1) : ∃ i, E.tt t = some i := by
  unfold Env.szOf at h
  cases hi : E.tt t with
  | none => rw [hi] at h; cases h
  | some i => exact ⟨i, rfl⟩

theorem is_fieldAddr (ok : EnvOK E P) (t : Nat) (x : Operand) (i : Nat) (ho : o.op = .fieldAddr t x i) : IS P ops o (c_fieldAddr t x i E ops o) := by
  unfold c_fieldAddr
  cases hd : E.und t with
  | none => exact trivial
  | some d =>
    cases d <;> try exact trivial
    rename_i fs
    simp only
    cases hf : fs[i]? with
    | none => exact trivial
    | some f =>
      simp only
      cases hz : E.szOf f.type with
      | zero => exact trivial
      | succ k =>
        simp only [withO_eq]
        obtain ⟨inf, hi⟩ := szOf_pos hz
        refine finQ_is (by simp [ho]) (qop1 (g := fun y => Instr.fieldAt t y i) (fun ρ => by simp only [execOp, ho]) fun μ y v r hr e => ?_)
        obtain ⟨id, off, rfl, e⟩ := oPt_inv e
        obtain rfl := Option.some.inj e
        obtain ⟨c, n, hm, rfl⟩ := oPt_rr hr
        refine ⟨.pointer (some ⟨c, off + f.offset, none⟩), fun w => ?_, ⟨c, n, hm, rfl⟩⟩
        unfold Instr.fieldAt
        simp only [Sem.run_bind, run_und ok hd, Result.andThen_ok, hf, Instr.sureAddr, fieldPlace, run_size ok hi]
        simp [hz, add_off]
end
end Go.Ev

set_option linter.constructorNameAsVariable false
set_option linter.unusedVariables false
set_option linter.unusedSimpArgs false
set_option linter.unusedSectionVars false
namespace Go.Ev
open Go
noncomputable section
variable [Un]
variable {P : Program} {E : Env} {ops : Ops} {o : Oper}

theorem kn_tt {t : Nat} (h : E.kn t = true) : ∃ i, E.tt t = some i := by
  unfold Env.kn at h
  cases hi : E.tt t with
  | none => rw [hi] at h; cases h
  | some i => exact ⟨i, rfl⟩

/-- what a slice with elements, or nil, is in memory -/
theorem sl_rr {μ : Mu} {id off len : Nat} {a : Value} {v : V} (hv : (∃ cap, v = .r (.sl id off len cap)) ∨ ∃ sz, v = .r (.so id sz off len)) (h : RV μ v a) :
    ∃ c n cap, μ id = some (c, n) ∧ a = .slice (some ⟨c, off, none⟩) len cap ∧ len ≤ cap := by
  rcases hv with ⟨cap, rfl⟩ | ⟨sz, rfl⟩
  · obtain ⟨c, n, h1, h2, h3⟩ := h; exact ⟨c, n, cap, h1, h2, h3⟩
  · obtain ⟨c, n, cap, h1, h2, h3, _⟩ := h; exact ⟨c, n, cap, h1, h2, h3⟩

theorem ofNat_bounds {i n : Nat} (h : i < n) : (0 : Int) ≤ Int.ofNat i ∧ Int.ofNat i < n := ⟨Int.natCast_nonneg i, by show (i : Int) < n; omega⟩

theorem run_indexAt_slice (ok : EnvOK E P) {t e : Nat} (hd : E.und t = some (.slice e)) (hk : E.kn e = true) {c off i len cap : Nat} {k : IntKind} (h : i < len) (w : World) :
    (Instr.indexAt t (.slice (some ⟨c, off, none⟩) len cap) (.int k (Int.ofNat i))).run P w = .ok (.pointer (some ⟨c, off + i * E.szOf e, none⟩)) w := by
  obtain ⟨inf, hi⟩ := kn_tt hk
  unfold Instr.indexAt
  have hb := ofNat_bounds h
  simp only [Sem.run_bind, asIntOf, Sem.run_pure, Result.andThen_ok, run_und ok hd, hb, and_self, if_true, run_size ok hi]
  simp [add_off, run_size ok hi, hb]
  try rfl
theorem run_indexAt_array (ok : EnvOK E P) {t e n : Nat} (hd : E.und t = some (.array n e)) (hk : E.kn e = true) {c off i : Nat} {k : IntKind} (h : i < n) (w : World) :
    (Instr.indexAt t (.pointer (some ⟨c, off, none⟩)) (.int k (Int.ofNat i))).run P w = .ok (.pointer (some ⟨c, off + i * E.szOf e, none⟩)) w := by
  obtain ⟨inf, hi⟩ := kn_tt hk
  unfold Instr.indexAt
  have hb := ofNat_bounds h
  simp only [Sem.run_bind, asIntOf, Sem.run_pure, Result.andThen_ok, run_und ok hd, Instr.sureAddr, hb, and_self, if_true, run_size ok hi]
  simp [add_off, run_size ok hi, hb]
  try rfl

theorem is_indexAddr (ok : EnvOK E P) (t : Nat) (x y : Operand) (ho : o.op = .indexAddr t x y) : IS P ops o (c_indexAddr t x y E ops o) := by
  unfold c_indexAddr
  rw [withO_eq, withO_eq]
  cases hd : E.und t with
  | none => exact trivial
  | some d =>
    cases d <;> try exact trivial
    case slice e =>
      cases hk : E.kn e with
      | false => simp only [hk]; exact trivial
      | true =>
      simp only [hk]
      refine finQ_is (by simp [ho]) (qop2 (g := Instr.indexAt t) (fun ρ => by simp only [execOp, ho]) fun μ u v r a b e' hx hy => ?_)
      unfold fIndexAddr at e'
      obtain ⟨k, i, rfl, e1⟩ := oNat_inv e'
      rw [rv_i hy]
      have main : ∀ id off len, (∃ c n cap, μ id = some (c, n) ∧ a = .slice (some ⟨c, off, none⟩) len cap ∧ len ≤ cap) →
          (Bool.casesOn (Nat.ble (Nat.succ i) len) none (some (.r (.pt id (Nat.add off (Nat.mul i (E.szOf e)))))) : Option V) = some r → ∃ v, (∀ w, (Instr.indexAt t a (.int k (Int.ofNat i))).run P w = .ok v w) ∧ RV μ r v := by
        rintro id off len ⟨c, n, cap, hm, rfl, _⟩ h
        obtain ⟨hb, h⟩ := bool_inv h
        obtain rfl := Option.some.inj h
        exact ⟨_, fun w => run_indexAt_slice ok hd hk (le_of_ble hb) w, ⟨c, n, hm, rfl⟩⟩
      rcases oSl_inv e1 with ⟨rfl, h⟩ | ⟨id, off, len, cap, rfl, h⟩ | ⟨id, sz, off, len, rfl, h⟩
      · cases h
      · exact main id off len (sl_rr (.inl ⟨cap, rfl⟩) hx) h
      · exact main id off len (sl_rr (.inr ⟨sz, rfl⟩) hx) h
    case array n e =>
      cases hk : E.kn e with
      | false => simp only [hk]; exact trivial
      | true =>
      simp only [hk]
      refine finQ_is (by simp [ho]) (qop2 (g := Instr.indexAt t) (fun ρ => by simp only [execOp, ho]) fun μ u v r a b e' hx hy => ?_)
      unfold fIndexArr at e'
      obtain ⟨k, i, rfl, e1⟩ := oNat_inv e'
      rw [rv_i hy]
      obtain ⟨id, off, rfl, h⟩ := oPt_inv e1
      obtain ⟨hb, h⟩ := bool_inv h
      obtain rfl := Option.some.inj h
      obtain ⟨c, m, hm, rfl⟩ := oPt_rr hx
      exact ⟨_, fun w => run_indexAt_array ok hd hk (le_of_ble hb) w, ⟨c, m, hm, rfl⟩⟩

theorem is_load (ok : EnvOK E P) (t : Nat) (x : Operand) (ho : o.op = .load t x) : IS P ops o (c_load t x E ops o) := by
  unfold c_load
  cases hd : E.und t with
  | none => exact trivial
  | some d =>
    simp only [withO_eq]
    refine finQ_is (by simp [ho]) <| QS.qx (by simp [looks, ho]) fun μ T h w a v gm rt wr e => ?_
    have hx := eval_rel gm rt x
    unfold fLoadAt fLoad at e
    obtain ⟨id, off, e1, e2⟩ := oPt_inv e
    rw [e1] at hx
    obtain ⟨c, n, hm, hp⟩ := oPt_rr hx
    have hrun : ∀ z, (loadVar t ⟨c, off, none⟩).run P w = .ok z w → (execOp a.eval o).run P w = .ok (.value z) w := fun z hz => by
      simp only [execOp, ho, hp]
      refine exv ?_
      simp only [Instr.loadAt, Instr.sureAddr, Sem.run_bind, Sem.run_pure, Result.andThen_ok]
      exact hz
    have hag := run_isAgg ok hd w
    cases ha : E.isAg t with
    | false =>
      rw [ha] at e2 hag
      obtain ⟨z, h1, h2⟩ := ld_sound wr e2 hm
      refine ⟨z, hrun z ?_, h2⟩
      unfold loadVar
      simp only [Sem.run_bind, hag, Result.andThen_ok, Bool.false_eq_true, if_false]
      exact run_load_cell h1 _
    | true =>
      rw [ha] at e2 hag
      obtain ⟨l, h1, e3⟩ := opt_inv e2
      obtain rfl := Option.some.inj e3
      obtain ⟨arr, el, fr, hh, hle, hsz, hr⟩ := lds_sound wr h1 hm
      refine ⟨.agg ((arr.toList.drop off).take (E.szOf t)).toArray, hrun _ ?_, ⟨_, rfl, hr⟩⟩
      unfold loadVar
      simp only [Sem.run_bind, hag, Result.andThen_ok, if_true, run_sizeU ok hd w, run_loadCells hh off _ hle]
      rfl

end
end Go.Ev

set_option linter.constructorNameAsVariable false
set_option linter.unusedVariables false
set_option linter.unusedSimpArgs false
set_option linter.unusedSectionVars false
namespace Go.Ev
open Go
noncomputable section
variable [Un]
variable {P : Program} {E : Env} {ops : Ops} {o : Oper}

/-! ### bounds -/
theorem run_sliceBound {k : IntKind} {n y : Nat} (code : BoundsCode) (h : n ≤ y) (w : World) : (Instr.sliceBound (.int k (Int.ofNat n)) y code).run P w = .ok n w := by
  unfold Instr.sliceBound
  have hb : (0 : Int) ≤ Int.ofNat n ∧ Int.ofNat n ≤ (y : Int) := ⟨Int.natCast_nonneg n, by show (n : Int) ≤ y; omega⟩
  simp only [Sem.run_bind, asIntOf, Sem.run_pure, Result.andThen_ok, hb, and_self, if_true]
  rfl

/-- a bound that may be there -/
def RO (μ : Mu) (v : Option V) (x : Option Value) : Prop := match v, x with | none, none => True | some v, some x => RV μ v x | _, _ => False

theorem natO_inv {v : V} {n : Nat} (h : natO v = some n) : ∃ k, v = .i k (Int.ofNat n) := by
  cases v with
  | i k x => cases x with
    | ofNat m => obtain rfl := Option.some.inj h; exact ⟨k, rfl⟩
    | negSucc m => cases h
  | _ => cases h
theorem fBounds_inv {lo hi : Option V} {len top : Nat} {g : Nat → Nat → Option V} {r : V} (h : fBounds lo hi len top g = some r) {μ : Mu} {xl xh : Option Value} (hl : RO μ lo xl) (hh : RO μ hi xh) (b : Bool) (top' : Nat) (ht : top ≤ top') :
    ∃ l m, l ≤ m ∧ m ≤ top ∧ g l m = some r ∧ ∀ w, (Instr.sliceBounds b len top' xl xh none).run P w = .ok (l, m, top') w := by
  unfold fBounds at h
  obtain ⟨l, h1, h⟩ := opt_inv h
  obtain ⟨m, h2, h⟩ := opt_inv h
  obtain ⟨b1, h⟩ := bool_inv h
  obtain ⟨b2, h⟩ := bool_inv h
  have b1 := le_of_ble b1
  have b2 := le_of_ble b2
  refine ⟨l, m, b1, b2, h, fun w => ?_⟩
  have b3 : m ≤ top' := Nat.le_trans b2 ht
  unfold Instr.sliceBounds
  cases hi with
  | none =>
    cases xh with
    | some v => exact hh.elim
    | none =>
      obtain rfl := Option.some.inj h2
      cases lo with
      | none => cases xl with
        | some v => exact hl.elim
        | none => obtain rfl := Option.some.inj h1; rfl
      | some v => cases xl with
        | none => exact hl.elim
        | some y =>
          obtain ⟨k, rfl⟩ := natO_inv h1
          obtain rfl := rv_i (μ := μ) hl
          simp only [Sem.run_bind, Sem.run_pure, Result.andThen_ok, run_sliceBound _ b1]
  | some v =>
    cases xh with
    | none => exact hh.elim
    | some y =>
      obtain ⟨k, rfl⟩ := natO_inv h2
      obtain rfl := rv_i (μ := μ) hh
      cases lo with
      | none => cases xl with
        | some v => exact hl.elim
        | none =>
          obtain rfl := Option.some.inj h1
          simp only [Sem.run_bind, Sem.run_pure, Result.andThen_ok, run_sliceBound _ b3]
      | some v => cases xl with
        | none => exact hl.elim
        | some y =>
          obtain ⟨k, rfl⟩ := natO_inv h1
          obtain rfl := rv_i (μ := μ) hl
          simp only [Sem.run_bind, Sem.run_pure, Result.andThen_ok, run_sliceBound _ b3, run_sliceBound _ b1]

theorem optO_eq {γ : Type} (x : Option Operand) (k : (Tm → Option V) → γ) : optO x k = k (fun T => x.map fun x => gO x T) := by
  cases x with
  | none => rfl
  | some x => show withO x _ = _; rw [withO_eq]; rfl
theorem ro_rel {μ : Mu} {nt : Nat} {T : Tm} {a : Act} (gm : GM μ) (rt : RT μ nt T a.tmps) (x : Option Operand) : RO μ (x.map fun x => gO x T) (x.map a.eval) := by
  cases x with
  | none => exact trivial
  | some x => exact eval_rel gm rt x

theorem enc_ssub {s : ByteArray} {c l h : Nat} (hc : enc s.data.toList = c) (h1 : l ≤ h) (h2 : h ≤ slen c) : enc (s.extract l h).data.toList = ssub c l h := by
  subst hc
  rw [slen_enc] at h2
  rw [ssub_enc _ _ _ h1 h2]
  congr 1
  simp [ByteArray.data_extract, List.extract_eq_take_drop]

theorem is_slice (ok : EnvOK E P) (t : Nat) (x : Operand) (lo hi mx : Option Operand) (ho : o.op = .slice t x lo hi mx) : IS P ops o (c_slice t x lo hi mx E ops o) := by
  unfold c_slice
  cases mx with
  | some m => exact trivial
  | none =>
  simp only [withO_eq, optO_eq]
  cases hd : E.und t with
  | none => exact trivial
  | some d =>
    cases d <;> try exact trivial
    case string =>
      refine finQ_is (by simp [ho]) <| QSW.qx fun μ T h a v gm rt e => ?_
      have hx := eval_rel gm rt x
      unfold fSliceStr at e
      obtain ⟨c, e1, e2⟩ := oS_inv e
      rw [e1] at hx
      obtain ⟨s, hs, hc⟩ := rv_s hx
      have hsz := size_enc hc
      rw [hsz] at e2
      obtain ⟨l, m, b1, b2, hr, hrun⟩ := fBounds_inv (P := P) e2 (ro_rel gm rt lo) (ro_rel gm rt hi) false _ (Nat.le_refl _)
      obtain rfl := Option.some.inj hr
      refine ⟨.string (s.extract l m), fun w => ?_, ⟨_, rfl, enc_ssub hc b1 (by rw [hsz]; exact b2)⟩⟩
      simp only [execOp, ho, hs]
      refine exv ?_
      unfold Instr.sliceAt
      simp only [Sem.run_bind, run_und ok hd, Result.andThen_ok]
      unfold Instr.slice
      simp only [Sem.run_bind, run_und ok hd, Result.andThen_ok, Option.map_none, Option.isSome_none, Bool.false_eq_true, if_false, Sem.run_pure, hrun]
    case slice e =>
      cases hk : E.kn e with
      | false => simp only [hk]; exact trivial
      | true =>
      simp only [hk]
      obtain ⟨inf, hi'⟩ := kn_tt hk
      refine finQ_is (by simp [ho]) <| QSW.qx fun μ T h a v gm rt e' => ?_
      have hx := eval_rel gm rt x
      unfold fSliceSl at e'
      obtain ⟨r, e1, e2⟩ := oR_inv e'
      rw [e1] at hx
      have hrun : ∀ (A : Option Addr) (len cap l m : Nat), a.eval x = .slice A len cap → (∀ w, (Instr.sliceBounds true len cap (lo.map a.eval) (hi.map a.eval) none).run P w = .ok (l, m, cap) w) →
          ∀ w, (execOp a.eval o).run P w = .ok (.value (.slice (if cap = l then A else A.map (·.add (l * E.szOf e))) (m - l) (cap - l))) w := fun A len cap l m hA hb w => by
        simp only [execOp, ho, hA]
        refine exv ?_
        unfold Instr.sliceAt
        simp only [Sem.run_bind, run_und ok hd, Result.andThen_ok]
        unfold Instr.slice
        simp only [Sem.run_bind, run_und ok hd, Result.andThen_ok, Option.map_none, hb, run_size ok hi']
        rfl
      cases r with
      | ns =>
        have hA : a.eval x = .slice none 0 0 := hx
        obtain ⟨l, m, b1, b2, hr, hb⟩ := fBounds_inv (P := P) e2 (ro_rel gm rt lo) (ro_rel gm rt hi) true _ (Nat.le_refl _)
        obtain rfl := Option.some.inj hr
        refine ⟨_, hrun none 0 0 l m hA hb, ?_⟩
        have h0 : m - l = 0 := by omega
        have h1 : 0 - l = 0 := by omega
        rw [h0, h1]
        show _ = _
        split <;> rfl
      | sl id off len cap =>
        obtain ⟨c, n, hm, hA, hle⟩ := hx
        obtain ⟨l, m, b1, b2, hr, hb⟩ := fBounds_inv (P := P) e2 (ro_rel gm rt lo) (ro_rel gm rt hi) true _ (Nat.le_refl _)
        obtain rfl := Option.some.inj hr
        refine ⟨_, hrun _ len cap l m hA hb, ?_⟩
        by_cases hcl : cap = l
        · have hbq : Nat.beq cap l = true := by subst hcl; simp
          rw [hbq, if_pos hcl]
          exact ⟨c, n, hm, rfl, by show m - l ≤ cap - l; omega⟩
        · have hbq : Nat.beq cap l = false := by
            cases hq : Nat.beq cap l with
            | false => rfl
            | true => exact absurd (Nat.eq_of_beq_eq_true hq) hcl
          rw [hbq, if_neg hcl]
          exact ⟨c, n, hm, by simp only [Option.map_some, add_off]; rfl, by show m - l ≤ cap - l; omega⟩
      | so id z off len =>
        obtain ⟨c, n, cap, hm, hA, hle, hroom⟩ := hx
        obtain ⟨l, m, b1, b2, hr, hb⟩ := fBounds_inv (P := P) e2 (ro_rel gm rt lo) (ro_rel gm rt hi) true cap hle
        obtain ⟨hz, hr⟩ := bool_inv hr
        obtain rfl := Nat.eq_of_beq_eq_true hz
        refine ⟨_, hrun _ len cap l m hA hb, ?_⟩
        have hcase : (if cap = l then some (⟨c, off, none⟩ : Addr) else (some (⟨c, off, none⟩ : Addr)).map (·.add (l * E.szOf e))) = some ⟨c, if cap = l then off else off + l * E.szOf e, none⟩ := by
          split <;> simp [add_off]
        rw [hcase]
        by_cases hl0 : l = 0
        · subst hl0
          obtain rfl := Option.some.inj hr
          refine ⟨c, n, cap, hm, ?_, by omega, hroom⟩
          have : (if cap = 0 then off else off + 0 * E.szOf e) = off := by split <;> simp
          rw [this]; rfl
        · have q0 : Nat.beq l 0 = false := by
            cases hq : Nat.beq l 0 with
            | false => rfl
            | true => exact absurd (Nat.eq_of_beq_eq_true hq) hl0
          rw [q0] at hr
          by_cases hll : l = len
          · subst hll
            have q1 : Nat.beq l l = true := by simp
            rw [q1] at hr
            obtain rfl := Option.some.inj hr
            have : m - l = 0 := by omega
            rw [this]
            exact ⟨_, _, rfl⟩
          · have q1 : Nat.beq l len = false := by
              cases hq : Nat.beq l len with
              | false => rfl
              | true => exact absurd (Nat.eq_of_beq_eq_true hq) hll
            rw [q1] at hr
            obtain rfl := Option.some.inj hr
            have : cap ≠ l := by omega
            rw [if_neg this]
            refine ⟨c, n, cap - l, hm, rfl, by show m - l ≤ cap - l; omega, ?_⟩
            show off + l * E.szOf e + (cap - l) * E.szOf e = n
            rw [← hroom, Nat.add_assoc, ← Nat.add_mul]
            congr 2
            omega
      | _ => cases e2
    case array n e =>
      cases hk : E.kn e with
      | false => simp only [hk]; exact trivial
      | true =>
      simp only [hk]
      obtain ⟨inf, hi'⟩ := kn_tt hk
      refine finQ_is (by simp [ho]) <| QSW.qx fun μ T h a v gm rt e' => ?_
      have hx := eval_rel gm rt x
      unfold fSliceArr at e'
      obtain ⟨id, off, e1, e2⟩ := oPt_inv e'
      rw [e1] at hx
      obtain ⟨c, k, hm, hA⟩ := oPt_rr hx
      obtain ⟨l, m, b1, b2, hr, hb⟩ := fBounds_inv (P := P) e2 (ro_rel gm rt lo) (ro_rel gm rt hi) false _ (Nat.le_refl _)
      obtain rfl := Option.some.inj hr
      have hrun : ∀ w, (execOp a.eval o).run P w = .ok (.value (.slice (some (if n = l then ⟨c, off, none⟩ else (⟨c, off, none⟩ : Addr).add (l * E.szOf e))) (m - l) (n - l))) w := fun w => by
        simp only [execOp, ho, hA]
        refine exv ?_
        unfold Instr.sliceAt
        simp only [Sem.run_bind, run_und ok hd, Result.andThen_ok, Instr.sureAddr, Sem.run_pure, Option.map_none, hb, run_size ok hi']
      refine ⟨_, hrun, ?_⟩
      by_cases hcl : n = l
      · have hbq : Nat.beq n l = true := by subst hcl; simp
        rw [hbq, if_pos hcl]
        exact ⟨c, k, hm, rfl, by show m - l ≤ n - l; omega⟩
      · have hbq : Nat.beq n l = false := by
          cases hq : Nat.beq n l with
          | false => rfl
          | true => exact absurd (Nat.eq_of_beq_eq_true hq) hcl
        rw [hbq, if_neg hcl, add_off]
        exact ⟨c, k, hm, rfl, by show m - l ≤ n - l; omega⟩
end
end Go.Ev

set_option linter.constructorNameAsVariable false
set_option linter.unusedVariables false
set_option linter.unusedSimpArgs false
set_option linter.unusedSectionVars false
namespace Go.Ev
open Go
noncomputable section
variable [Un]
variable {P : Program} {E : Env} {ops : Ops} {o : Oper}

theorem byte_at {s : ByteArray} {c i : Nat} (hc : enc s.data.toList = c) (h : i < slen c) : ∃ b, s[i]? = some b ∧ b.toNat = sat c i := by
  subst hc
  rw [slen_enc] at h
  have hlt : i < s.size := by simpa using h
  refine ⟨s[i], by simp [hlt], ?_⟩
  rw [sat_enc _ _ h]
  simp [ByteArray.getElem_eq_getElem_data]

theorem is_index (ok : EnvOK E P) (t : Nat) (x y : Operand) (ho : o.op = .index t x y) : IS P ops o (c_index t x y E ops o) := by
  unfold c_index
  rw [withO_eq, withO_eq]
  cases hd : E.und t with
  | none => exact trivial
  | some d =>
    cases d <;> try exact trivial
    case string =>
      refine finQ_is (by simp [ho]) (qop2 (g := Instr.index t) (fun ρ => by simp only [execOp, ho]) fun μ u v r a b e' hx hy => ?_)
      unfold fIndexStr at e'
      obtain ⟨k, i, rfl, e1⟩ := oNat_inv e'
      obtain ⟨c, rfl, e2⟩ := oS_inv e1
      obtain ⟨hb, e3⟩ := bool_inv e2
      obtain rfl := Option.some.inj e3
      obtain rfl := rv_i hy
      obtain ⟨s, rfl, hc⟩ := rv_s hx
      obtain ⟨by', h1, h2⟩ := byte_at hc (le_of_ble hb)
      refine ⟨.int .u8 (sat c i : Nat), fun w => ?_, rfl⟩
      unfold Instr.index
      have h0 : (0 : Int) ≤ Int.ofNat i := Int.natCast_nonneg i
      simp only [Sem.run_bind, asIntOf, Sem.run_pure, Result.andThen_ok, run_und ok hd, h0, if_true]
      have : (Int.ofNat i).toNat = i := rfl
      rw [this, h1, ← h2]
      rfl
    case array n e =>
      simp only
      cases he : E.und e with
      | none => exact trivial
      | some d' =>
      refine finQ_is (by simp [ho]) (qop2 (g := Instr.index t) (fun ρ => by simp only [execOp, ho]) fun μ u v r a b e' hx hy => ?_)
      unfold fIndexAgg at e'
      obtain ⟨k, i, rfl, e1⟩ := oNat_inv e'
      obtain ⟨hb, e2⟩ := bool_inv e1
      obtain rfl := rv_i hy
      have e3 := e2
      unfold fField at e3
      obtain ⟨l, rfl, _⟩ := oA_inv e3
      obtain ⟨xs, rfl, hl⟩ := hx
      obtain ⟨z, h1, h2⟩ := run_part ok he e2 hl
      refine ⟨z, fun w => ?_, h2⟩
      unfold Instr.index
      have hb' := ofNat_bounds (le_of_ble hb)
      simp only [Sem.run_bind, asIntOf, Sem.run_pure, Result.andThen_ok, run_und ok hd]
      rw [if_pos hb']
      simp only [Sem.run_bind, Result.andThen_ok, run_sizeU ok he w]
      exact h1 w

theorem zer_ok (ok : EnvOK E P) {t : Nat} {z : V} (h : E.zer t = some z) : ∃ v, (∀ w, (zeroValue t).run P w = .ok v w) ∧ z = vOf v ∧ ∃ i, E.tt t = some i := by
  unfold Env.zer at h
  cases hi : E.tt t with
  | none => rw [hi] at h; cases h
  | some i =>
    rw [hi] at h
    simp only at h
    cases hz : i.zero with
    | none => rw [hz] at h; cases h
    | some v =>
      rw [hz] at h
      obtain rfl := Option.some.inj h
      exact ⟨v, fun w => by simp [zeroValue, run_info ok hi, hz], rfl, i, rfl⟩
theorem zer_rel (ok : EnvOK E P) {t : Nat} {z : V} (h : E.zer t = some z) : ∃ v, (∀ w, (zeroValue t).run P w = .ok v w) ∧ ∀ μ, RV μ z v := by
  obtain ⟨v, h1, rfl, _⟩ := zer_ok ok h
  exact ⟨v, h1, fun μ => vOf_rel μ v⟩

/-! ### methods -/
theorem least_some : ∀ l : List String, l ≠ [] → ∃ m, Instr.least l = some m := by
  intro l h
  cases l with
  | nil => exact absurd rfl h
  | cons x l => exact ⟨_, rfl⟩
theorem hasAll_none {want : Array (String × TypeId)} {got : Array Method} (h : hasAll want got = true) : Instr.missingMethod want got = none := by
  unfold hasAll at h
  rw [List.isEmpty_iff] at h
  unfold Instr.missingMethod
  rw [h]
  rfl
theorem miss_some (q : String → Bool) (f : String → String) (ms : List String) (h : ms ≠ []) : ∃ m, (match ms.partition q with | (u, e) => Instr.least e <|> Instr.least (u.map f)) = some m := by
  rw [List.partition_eq_filter_filter]
  simp only
  cases he : ms.filter (Bool.not ∘ q) with
  | cons x ex =>
    obtain ⟨m, hm⟩ := least_some (x :: ex) (by simp)
    exact ⟨m, by rw [hm]; rfl⟩
  | nil =>
    have hun : ms.filter q ≠ [] := by
      intro hu
      cases ms with
      | nil => exact h rfl
      | cons y ys =>
        have h1 := List.filter_eq_nil_iff.1 he y List.mem_cons_self
        have h2 := List.filter_eq_nil_iff.1 hu y List.mem_cons_self
        cases hy : q y with
        | true => exact h2 hy
        | false => exact h1 (by simp [hy])
    obtain ⟨m, hm⟩ := least_some ((ms.filter q).map f) (by simpa using hun)
    exact ⟨m, by rw [hm]; rfl⟩
theorem hasAll_some {want : Array (String × TypeId)} {got : Array Method} (h : hasAll want got = false) : ∃ m, Instr.missingMethod want got = some m := by
  unfold hasAll at h
  unfold Instr.missingMethod
  generalize (want.toList.filter fun (name, sig) => !got.any fun m => m.name == name && m.sig == sig) = l at h
  have hl : l.map (·.1) ≠ [] := by
    cases l with
    | nil => cases h
    | cons x l => simp
  exact miss_some _ _ _ hl

theorem is_typeAssert (ok : EnvOK E P) (x : Operand) (u t : Nat) (cok : Bool) (ho : o.op = .typeAssert x u t cok) : IS P ops o (c_typeAssert x u t cok E ops o) := by
  unfold c_typeAssert
  have main : ∀ d, E.und t = some d → (∀ ms, d ≠ .interface ms) → ∀ zero : Option V, (∀ z, zero = some z → E.zer t = some z ∧ cok = true) → (zero = none → cok = false) →
      IS P ops o (withO x fun g => finQ ops o (q1 g (fAssert t zero))) := by
    intro d hd hne zero hz hz'
    rw [withO_eq]
    refine finQ_is (by simp [ho]) (qop1 (g := fun y => Instr.typeAssert y u t cok) (fun ρ => by simp only [execOp, ho]) fun μ y v r hr e => ?_)
    have hmiss : ∀ r, (Option.casesOn zero none fun z => some (.t (.c z (.c (.b false) .n))) : Option V) = some r → ∃ z zv, zero = some z ∧ r = .t (.c z (.c (.b false) .n)) ∧ (∀ w, (zeroValue t).run P w = .ok zv w) ∧ RV μ z zv ∧ cok = true := fun r h => by
      obtain ⟨z, e1, e2⟩ := opt_inv h
      obtain ⟨g1, g2⟩ := hz z e1
      obtain ⟨zv, g3, g4⟩ := zer_rel ok g1
      exact ⟨z, zv, e1, (Option.some.inj e2).symm, g3, g4 μ, g2⟩
    unfold fAssert at e
    cases v with
    | r x =>
      cases x with
      | ni =>
        obtain ⟨z, zv, e1, rfl, g3, g4, rfl⟩ := hmiss _ e
        obtain rfl : y = .nilIface := hr
        refine ⟨.tuple #[zv, .bool false], fun w => ?_, ⟨[zv, .bool false], rfl, zv, _, rfl, g4, _, _, rfl, rfl, rfl⟩⟩
        unfold Instr.typeAssert
        simp only [Sem.run_bind, run_und ok hd, Result.andThen_ok]
        cases d <;> first | exact absurd rfl (hne _) | simp [g3]
      | _ => cases e
    | w d' x' =>
      obtain ⟨yv, rfl, hy⟩ := hr
      cases hq : Nat.beq d' t with
      | true =>
        obtain rfl := Nat.eq_of_beq_eq_true hq
        have e' : (some (Option.casesOn zero x' fun _ => .t (.c x' (.c (.b true) .n))) : Option V) = some r := by
          have := e; simp only [hq] at this; exact this
        obtain rfl := Option.some.inj e'
        cases zero with
        | none =>
          obtain rfl := hz' rfl
          refine ⟨yv, fun w => ?_, hy⟩
          unfold Instr.typeAssert
          simp only [Sem.run_bind, run_und ok hd, Result.andThen_ok]
          cases d <;> first | exact absurd rfl (hne _) | simp
        | some z =>
          obtain ⟨_, rfl⟩ := hz z rfl
          refine ⟨.tuple #[yv, .bool true], fun w => ?_, ⟨[yv, .bool true], rfl, yv, _, rfl, hy, _, _, rfl, rfl, rfl⟩⟩
          unfold Instr.typeAssert
          simp only [Sem.run_bind, run_und ok hd, Result.andThen_ok]
          cases d <;> first | exact absurd rfl (hne _) | simp
      | false =>
        have hne' : d' ≠ t := fun h => by subst h; simp at hq
        have e' : (Option.casesOn zero none fun z => some (.t (.c z (.c (.b false) .n))) : Option V) = some r := by
          have := e; simp only [hq] at this; exact this
        obtain ⟨z, zv, e1, rfl, g3, g4, rfl⟩ := hmiss _ e'
        refine ⟨.tuple #[zv, .bool false], fun w => ?_, ⟨[zv, .bool false], rfl, zv, _, rfl, g4, _, _, rfl, rfl, rfl⟩⟩
        unfold Instr.typeAssert
        simp only [Sem.run_bind, run_und ok hd, Result.andThen_ok]
        cases d <;> first | exact absurd rfl (hne _) | simp [g3, hne']
    | _ => cases e
  have mainI : ∀ ms, E.und t = some (.interface ms) → ∀ z, E.zer t = some z → cok = true → IS P ops o (withO x fun g => finQ ops o (q1 g (fAssertI E ms z))) := by
    rintro ms hd z hz rfl
    rw [withO_eq]
    refine finQ_is (by simp [ho]) (qop1 (g := fun y => Instr.typeAssert y u t true) (fun ρ => by simp only [execOp, ho]) fun μ y v r hr e => ?_)
    obtain ⟨zv, g3, g4⟩ := zer_rel ok hz
    unfold fAssertI at e
    cases v with
    | r x =>
      cases x with
      | ni =>
        obtain rfl : y = .nilIface := hr
        have e : some (.t (.c z (.c (.b false) .n))) = some r := e
        obtain rfl := Option.some.inj e
        refine ⟨.tuple #[zv, .bool false], fun w => ?_, ⟨[zv, .bool false], rfl, zv, _, rfl, g4 μ, _, _, rfl, rfl, rfl⟩⟩
        unfold Instr.typeAssert
        simp only [Sem.run_bind, run_und ok hd, Result.andThen_ok]
        simp [g3]
      | _ => cases e
    | w d' x' =>
      have hr0 := hr
      obtain ⟨yv, rfl, hy⟩ := hr
      have e : (Option.casesOn (E.tt d') none fun i => some (Bool.casesOn (hasAll ms i.methods) (.t (.c z (.c (.b false) .n))) (.t (.c (.w d' x') (.c (.b true) .n)))) : Option V) = some r := e
      obtain ⟨i, hi, e2⟩ := opt_inv e
      obtain rfl := Option.some.inj e2
      have hi0 : ∀ w, (typeInfo d').run P w = .ok i w := run_info ok hi
      cases hh : hasAll ms i.methods with
      | true =>
        refine ⟨.tuple #[.iface d' yv, .bool true], fun w => ?_, ⟨[.iface d' yv, .bool true], rfl, _, _, rfl, hr0, _, _, rfl, rfl, rfl⟩⟩
        unfold Instr.typeAssert
        simp only [Sem.run_bind, run_und ok hd, Result.andThen_ok, hi0, hasAll_none hh]
        simp
      | false =>
        obtain ⟨m, hm⟩ := hasAll_some hh
        refine ⟨.tuple #[zv, .bool false], fun w => ?_, ⟨[zv, .bool false], rfl, zv, _, rfl, g4 μ, _, _, rfl, rfl, rfl⟩⟩
        unfold Instr.typeAssert
        simp only [Sem.run_bind, run_und ok hd, Result.andThen_ok, hi0, hm]
        simp [g3]
    | _ => cases e
  cases hd : E.und t with
  | none => exact trivial
  | some d =>
    have hm := main d hd
    cases d with
    | interface ms =>
      cases cok with
      | false => exact trivial
      | true =>
        cases hz : E.zer t with
        | none => exact trivial
        | some z => exact mainI ms hd z hz rfl
    | _ =>
      cases cok <;> first
      | exact hm (by simp) none (by simp) (by simp)
      | (cases hz : E.zer t with
         | none => exact trivial
         | some z => exact hm (by simp) (some z) (fun z' h => by rw [← Option.some.inj h]; exact ⟨hz, rfl⟩) (by simp))
end
end Go.Ev

set_option linter.constructorNameAsVariable false
set_option linter.unusedVariables false
set_option linter.unusedSimpArgs false
set_option linter.unusedSectionVars false
namespace Go.Ev
open Go
noncomputable section
variable [Un]
variable {P : Program} {E : Env} {ops : Ops} {o : Oper}

/-! ### maps -/
def KD (str : Bool) (d : TypeDesc) : Prop := (str = true ∧ d = .string) ∨ (str = false ∧ ∃ k, d = .int k)
theorem keyK_inv {t : Nat} {str : Bool} (h : keyK E t = some str) : ∃ d, E.und t = some d ∧ KD str d := by
  unfold keyK at h
  cases hd : E.und t with
  | none => rw [hd] at h; cases h
  | some d =>
    rw [hd] at h
    cases d <;> first
      | (cases h; done)
      | exact ⟨_, rfl, .inr ⟨(Option.some.inj h).symm, _, rfl⟩⟩
      | exact ⟨_, rfl, .inl ⟨(Option.some.inj h).symm, rfl⟩⟩
theorem same_sound {str : Bool} {d : TypeDesc} (hd : KD str d) {μ : Mu} {a b : V} {r : Bool} {x y : Value} (hk : isKeyK str a = true) (h : fKey a b = some r) (hx : RV μ a x) (hy : RV μ b y) : Instr.sameNow d x y = some r := by
  cases a with
  | i k m =>
    cases b with
    | i k' n =>
      obtain ⟨e1, e2⟩ := bool_inv h
      obtain rfl := kno_inj e1
      obtain rfl := Option.some.inj e2
      obtain rfl := rv_i hx
      obtain rfl := rv_i hy
      rcases hd with ⟨rfl, rfl⟩ | ⟨rfl, k0, rfl⟩
      · exact absurd hk (by simp [isKeyK, Ev.not])
      · simp only [Instr.sameNow, if_true]
        rw [iEq_eq]
    | _ => cases h
  | s c =>
    cases b with
    | s c' =>
      obtain rfl := Option.some.inj h
      obtain ⟨sx, rfl, h1⟩ := rv_s hx
      obtain ⟨sy, rfl, h2⟩ := rv_s hy
      rcases hd with ⟨rfl, rfl⟩ | ⟨rfl, k0, rfl⟩
      · simp only [Instr.sameNow]
        congr 1
        have : (sx == sy) = (sx.data == sy.data) := by cases sx; cases sy; rfl
        rw [this, Bool.eq_iff_iff, beq_iff_eq, Nat.beq_eq, ← h1, ← h2]
        exact ⟨fun e => by rw [e], fun e => by apply Array.ext'; exact enc_inj e⟩
      · exact absurd hk (by simp [isKeyK])
    | _ => cases h
  | _ => cases h

theorem mFind_sound {str : Bool} {d : TypeDesc} (hd : KD str d) {μ : Mu} {k : V} {y : Value} (hk : isKeyK str k = true) (hy : RV μ k y) (fuel : Nat) : ∀ (es : V) (l : List MapEntry) (r : Option V), RM μ es l → mFind k fuel es = some r → ∀ i,
    (r = none ∧ Instr.findNow d y l i = some none) ∨ ∃ v j x, r = some v ∧ Instr.findNow d y l i = some (some (j, x)) ∧ RV μ v x := by
  induction fuel with
  | zero => intro es l r _ h; cases h
  | succ fuel ih =>
    intro es l r hr h i
    cases l with
    | nil =>
      obtain rfl : es = .n := hr
      obtain rfl := Option.some.inj h
      exact .inl ⟨rfl, rfl⟩
    | cons e l =>
      obtain ⟨kv, v, es', rfl, _, h2, h3, h4⟩ := hr
      obtain ⟨b, e1, e2⟩ := opt_inv h
      have hs := same_sound hd hk e1 hy h2
      cases b with
      | true =>
        obtain rfl := Option.some.inj e2
        exact .inr ⟨v, i, e.val, rfl, by simp [Instr.findNow, hs], h3⟩
      | false =>
        have := ih es' l r h4 e2 (i + 1)
        simpa [Instr.findNow, hs] using this

theorem run_checkKey' {d : TypeDesc} {t : Nat} {str : Bool} (ht : P.underlying t = some d) (hd : KD str d) (b : Bool) (n : Nat) (v : Value) (w : World) : (Instr.checkKey b (n + 1) t v).run P w = .ok () w := by
  unfold Instr.checkKey
  rcases hd with ⟨rfl, rfl⟩ | ⟨rfl, k, rfl⟩ <;> simp [underlying, ht]

theorem oMp_rr {μ : Mu} {id : Nat} {a : Value} (h : RV μ (.r (.mp id)) a) : ∃ c n, μ id = some (c, n) ∧ a = .map (some c) := h

theorem map_at {μ : Mu} {h : H} {w : World} (wr : WR μ h w) {id c n : Nat} {es : V} (hm : μ id = some (c, n)) (hb : h.get id = .m es) : ∃ ents clock, w.heap[c]? = some (.map ents clock) ∧ RM μ es ents.toList := by
  obtain ⟨c', n', o, h1, h2, h3⟩ := wr.blk id (wr.lt hm) (by rw [hb]; simp)
  rw [hm] at h1; obtain ⟨rfl, rfl⟩ := Prod.mk.inj (Option.some.inj h1)
  rw [hb] at h3
  obtain ⟨ents, clock, rfl, hr⟩ := h3
  exact ⟨ents, clock, h2, hr⟩

theorem is_lookup (ok : EnvOK E P) (t : Nat) (x y : Operand) (cok : Bool) (ho : o.op = .lookup t x y cok) : IS P ops o (c_lookup t x y cok E ops o) := by
  unfold c_lookup
  rw [withO_eq, withO_eq]
  cases hd : E.und t with
  | none => exact trivial
  | some d =>
    cases d <;> try exact trivial
    rename_i kt e
    simp only
    cases hz : E.zer e with
    | none => exact trivial
    | some z =>
      cases hkk : keyK E kt with
      | none => exact trivial
      | some str =>
        simp only
        obtain ⟨kd, hkd, hK⟩ := keyK_inv hkk
        have hku := und_ok ok hkd
        obtain ⟨zv, hz1, hz2⟩ := zer_rel ok hz
        refine finQ_is (by simp [ho]) <| QS.qx (by simp [looks, ho]) fun μ T h w a v gm rt wr e' => ?_
        have hx := eval_rel gm rt x
        have hy := eval_rel gm rt y
        unfold fLookup at e'
        obtain ⟨r, e1, e2⟩ := oR_inv e'
        rw [e1] at hx
        cases r with
        | nm =>
          obtain ⟨hik, e3⟩ := bool_inv e2
          obtain rfl := Option.some.inj e3
          have hA : a.eval x = .map none := hx
          refine ⟨if cok then .tuple #[zv, .bool false] else zv, ?_, ?_⟩
          · simp only [execOp, ho, hA]
            refine exv ?_
            unfold Instr.lookup
            simp only [Sem.run_bind, run_und ok hd, Result.andThen_ok, Sem.run_pure]
            rw [run_checkKey' hku hK]
            simp only [Result.andThen_ok]
            unfold Instr.findKey
            simp only [Sem.run_bind, run_und ok hkd, Result.andThen_ok, Instr.findNow, Sem.run_pure, hz1]
          · cases cok with
            | false => exact hz2 μ
            | true => exact ⟨[zv, .bool false], rfl, zv, _, rfl, hz2 μ, _, _, rfl, rfl, rfl⟩
        | mp id =>
          obtain ⟨es, hb, e3⟩ := obM_inv e2
          obtain ⟨q, e4, e5⟩ := opt_inv e3
          obtain ⟨hik, e6⟩ := bool_inv e5
          obtain rfl := Option.some.inj e6
          obtain ⟨c, n, hm, hA⟩ := oMp_rr hx
          obtain ⟨ents, clock, hh, hrm⟩ := map_at wr hm hb
          have hfind := mFind_sound hK hik hy _ _ _ _ hrm e4 0
          have hrun : ∀ (fv : Value) (fb : Bool), (∀ w, (match (Instr.findNow kd (a.eval y) ents.toList 0) with | some (some (_, v)) => (pure (v, true) : Sem (Value × Bool)) | some none => do pure (← zeroValue e, false) | none => stuck "").run P w = .ok (fv, fb) w) → Instr.findNow kd (a.eval y) ents.toList 0 ≠ none →
              (execOp a.eval o).run P w = .ok (.value (if cok then .tuple #[fv, .bool fb] else fv)) w := fun fv fb hf hn => by
            simp only [execOp, ho, hA]
            refine exv ?_
            unfold Instr.lookup
            have hg : (getObj c).run P w = .ok (.map ents clock) w := by simp [getObj, Sem.run, hh]
            simp only [Sem.run_bind, run_und ok hd, Result.andThen_ok, hg, Sem.run_pure]
            rw [run_checkKey' hku hK]
            simp only [Result.andThen_ok]
            unfold Instr.findKey
            simp only [Sem.run_bind, run_und ok hkd, Result.andThen_ok]
            cases hfn : Instr.findNow kd (a.eval y) ents.toList 0 with
            | none => exact absurd hfn hn
            | some q =>
              have := hf w
              rw [hfn] at this
              cases q with
              | none => simp only [Sem.run_bind, Sem.run_pure, Result.andThen_ok, hz1] at this ⊢; cases this; rfl
              | some jx => obtain ⟨j, xx⟩ := jx; simp only [Sem.run_pure] at this; cases this; rfl
          rcases hfind with ⟨rfl, hfn⟩ | ⟨v, j, xx, rfl, hfn, hrv⟩
          · refine ⟨_, hrun zv false (fun w => by rw [hfn]; simp [hz1]) (by rw [hfn]; simp), ?_⟩
            cases cok with
            | false => exact hz2 μ
            | true => exact ⟨[zv, .bool false], rfl, zv, _, rfl, hz2 μ, _, _, rfl, rfl, rfl⟩
          · refine ⟨_, hrun xx true (fun w => by rw [hfn]; rfl) (by rw [hfn]; simp), ?_⟩
            cases cok with
            | false => exact hrv
            | true => exact ⟨[xx, .bool true], rfl, xx, _, rfl, hrv, _, _, rfl, rfl, rfl⟩
        | _ => cases e2
end
end Go.Ev

set_option linter.constructorNameAsVariable false
set_option linter.unusedVariables false
set_option linter.unusedSimpArgs false
set_option linter.unusedSectionVars false
namespace Go.Ev
open Go
noncomputable section
variable [Un]
variable {P : Program} {E : Env} {ops : Ops} {o : Oper}

/-! ### lists of bytes -/
theorem byteO_inv {v : V} {b : Nat} (h : byteO v = some b) : v = .i .u8 (Int.ofNat b) ∧ b ≤ 255 := by
  cases v with
  | i k x =>
    cases x with
    | negSucc m => exfalso; cases k <;> cases h
    | ofNat m =>
      cases k <;> first
        | (exfalso; cases h; done)
        | (cases hm : Nat.ble m 255 with
           | false =>
             have h' : (Bool.casesOn (Nat.ble m 255) none (some m) : Option Nat) = some b := h
             rw [hm] at h'; cases h'
           | true =>
             have h' : (Bool.casesOn (Nat.ble m 255) none (some m) : Option Nat) = some b := h
             rw [hm] at h'
             obtain rfl := Option.some.inj h'
             exact ⟨rfl, le_of_ble hm⟩)
  | _ => cases h
theorem optn_inv {α β : Type} {x : Option α} {f : α → Option β} {r : β} (h : Option.rec (motive := fun _ => Option β) none f x = some r) : ∃ y, x = some y ∧ f y = some r := opt_inv h
theorem bytesN_sound {μ : Mu} (n : Nat) : ∀ (l : V) (c : Nat) (xs : List Value), bytesN n l = some c → RL μ l xs → ∃ bs : List UInt8, bs.length = n ∧ xs = bs.map (fun b => Value.int .u8 b.toNat) ∧ enc bs = c := by
  induction n with
  | zero =>
    intro l c xs h hr
    have h' : (Bool.rec (motive := fun _ => Option Nat) none (some 1) (qN true l)) = some c := h
    obtain ⟨h1, h2⟩ := bool_inv h'
    obtain ⟨rfl, _⟩ := qN_inv h1
    obtain rfl := Option.some.inj h2
    obtain rfl : xs = [] := hr
    exact ⟨[], rfl, rfl, enc_nil⟩
  | succ n ih =>
    intro l c xs h hr
    cases l with
    | c hd t =>
      obtain ⟨x, xs, rfl, hx, ht⟩ := hr
      obtain ⟨b, h1, h2⟩ := opt_inv h
      obtain ⟨c', h3, h4⟩ := opt_inv h2
      obtain ⟨rfl, hb⟩ := byteO_inv h1
      obtain ⟨bs, e1, e2, e3⟩ := ih t c' xs h3 ht
      obtain rfl := Option.some.inj h4
      refine ⟨UInt8.ofNat b :: bs, by simp [e1], ?_, ?_⟩
      · have : (UInt8.ofNat b).toNat = b := by simp; omega
        simp only [List.map_cons, this, ← e2]
        rw [rv_i hx]; rfl
      · rw [enc_cons, e3]
        have : (UInt8.ofNat b).toNat = b := by simp; omega
        rw [this]; rfl
    | _ => cases h
theorem foldl_push (bs : List UInt8) : ∀ acc : ByteArray, (bs.foldl (fun r b => r.push (UInt8.ofNat ((b.toNat : Int).toNat))) acc).data.toList = acc.data.toList ++ bs := by
  induction bs with
  | nil => intro acc; simp
  | cons b bs ih => intro acc; rw [List.foldl_cons, ih]; simp [ByteArray.push]

theorem cells_map (bs : List UInt8) : bs.map (fun b => Value.int .u8 b.toNat) = (bs.map fun b => (b.toNat : Int)).map (Value.int .u8) := by simp

theorem fBytes_sound {μ : Mu} {h : H} {w : World} (wr : WR μ h w) {v r : V} {a : Value} (e : fBytes v h = some r) (hv : RV μ v a) : ∃ z, (Conv.bytesToString a).run P w = .ok z w ∧ RV μ r z := by
  unfold fBytes at e
  have main : ∀ id off len, (∃ c n cap, μ id = some (c, n) ∧ a = .slice (some ⟨c, off, none⟩) len cap ∧ len ≤ cap) →
      (Option.casesOn (H.lds h id off len) none fun l => Option.casesOn (bytesN len l) none fun c => some (.s c) : Option V) = some r → ∃ z, (Conv.bytesToString a).run P w = .ok z w ∧ RV μ r z := by
    rintro id off len ⟨c, n, cap, hm, rfl, _⟩ h1
    obtain ⟨l, h2, h3⟩ := opt_inv h1
    obtain ⟨cc, h4, h5⟩ := opt_inv h3
    obtain rfl := Option.some.inj h5
    obtain ⟨arr, el, fr, hh, hle, hsz, hr⟩ := lds_sound wr h2 hm
    obtain ⟨bs, e1, e2, e3⟩ := bytesN_sound _ _ _ _ h4 hr
    refine ⟨_, run_bytesToString w _ len cap (bs.map fun b => (b.toNat : Int)) (by rw [run_loadCells hh off len hle, e2, cells_map]), ⟨_, rfl, ?_⟩⟩
    rw [List.foldl_map, foldl_push, ← e3]
    rfl
  rcases oSl_inv e with ⟨rfl, h1⟩ | ⟨id, off, len, cap, rfl, h1⟩ | ⟨id, sz, off, len, rfl, h1⟩
  · obtain rfl := Option.some.inj h1
    obtain rfl : a = .slice none 0 0 := hv
    exact ⟨.string .empty, rfl, ⟨_, rfl, enc_nil⟩⟩
  · exact main id off len (sl_rr (.inl ⟨cap, rfl⟩) hv) h1
  · exact main id off len (sl_rr (.inr ⟨sz, rfl⟩) hv) h1

/-- a block of cells, and what is known of it -/
theorem cells_at {μ : Mu} {h : H} {w : World} (wr : WR μ h w) {id c n e m : Nat} {fz : Fz} {ex : Bool} {cs : Cs} (hm : μ id = some (c, n)) (hb : h.get id = .c e fz ex m cs) :
    ∃ arr lo hi, w.heap[c]? = some (.cells arr e (lo, hi)) ∧ arr.size = n ∧ (ex = true → m = n) ∧ RC μ m cs arr ∧ FzR fz lo hi n := by
  obtain ⟨c', n', o, h1, h2, h3⟩ := wr.blk id (wr.lt hm) (by rw [hb]; simp)
  rw [hm] at h1; obtain ⟨rfl, rfl⟩ := Prod.mk.inj (Option.some.inj h1)
  rw [hb] at h3
  obtain ⟨arr, lo, hi, rfl, h3, h4, h5, h6⟩ := h3
  exact ⟨arr, lo, hi, h2, h3, h4, h5, h6⟩

theorem run_shape {P : Program} {w : World} {c : Nat} {arr : Array Value} {e : TypeId} {fr : Nat × Nat} (h : w.heap[c]? = some (.cells arr e fr)) : (shape c).run P w = .ok (some (e, arr.size)) w := by
  simp [shape, Sem.run, World.shape?, h]
theorem run_viewAt {P : Program} {w : World} {c : Nat} {arr : Array Value} {e : TypeId} {fr : Nat × Nat} (h : w.heap[c]? = some (.cells arr e fr)) : (viewAt c).run P w = .ok none w := by
  simp [viewAt, run_shape h]
theorem run_cellsIn {P : Program} {w : World} {c : Nat} {arr : Array Value} {e : TypeId} {fr : Nat × Nat} (h : w.heap[c]? = some (.cells arr e fr)) : (cellsIn c).run P w = .ok (some arr.size) w := by
  simp [cellsIn, run_shape h]
theorem run_seenAt {P : Program} {w : World} {c off : Nat} {arr : Array Value} {e : TypeId} {fr : Nat × Nat} (h : w.heap[c]? = some (.cells arr e fr)) : (Conv.seenAt ⟨c, off, none⟩).run P w = .ok ⟨c, off, none⟩ w := by
  simp [Conv.seenAt, run_viewAt h]
theorem run_variablesAt {P : Program} {w : World} {c off u k : Nat} {arr : Array Value} {e : TypeId} {fr : Nat × Nat} (h : w.heap[c]? = some (.cells arr e fr)) : (variablesAt ⟨c, off, none⟩ u k).run P w = .ok (liesAt P P.depth e (arr.size / P.cellsOf e) off u k) w := by
  simp [variablesAt, run_shape h, World.shape?, h]

theorem fUns_sound (ok : EnvOK E P) {src dst t : Nat} (hs : E.und src = some (.pointer t)) (hd : E.und dst = some .unsafePointer) {k : Nat} (hz : E.szOf t = k + 1) {μ : Mu} {h : H} {w : World} (wr : WR μ h w) {v r : V} {a : Value} (e : fUns v h = some r) (hv : RV μ v a) :
    ∃ z, (convert src dst a).run P w = .ok z w ∧ RV μ r z := by
  unfold fUns at e
  obtain ⟨x, rfl, e1⟩ := oR_inv e
  have conv : ∀ p, (convert src dst (.pointer p)).run P w = (Conv.unsafePointer src dst (.pointer p)).run P w := fun p => by
    unfold convert
    simp only [Sem.run_bind, run_und ok hs, run_und ok hd, Result.andThen_ok]
  cases x with
  | np =>
    obtain rfl := Option.some.inj e1
    obtain rfl : a = .pointer none := hv
    refine ⟨.pointer none, ?_, rfl⟩
    rw [conv]
    unfold Conv.unsafePointer
    simp only [Sem.run_bind, run_und ok hs, run_und ok hd, Result.andThen_ok, Sem.run_pure]
  | pt id off =>
    obtain ⟨e', fz, ex, m, cs, hb, e2⟩ := obC_inv e1
    obtain ⟨hlt, e3⟩ := bool_inv e2
    obtain rfl := Option.some.inj e3
    obtain ⟨c, n, hm, rfl⟩ := oPt_rr hv
    obtain ⟨arr, lo, hi, hh, hsz, _, hc, _⟩ := cells_at wr hm hb
    refine ⟨_, ?_, ⟨c, n, hm, rfl⟩⟩
    rw [conv]
    obtain ⟨inf, hi'⟩ := szOf_pos hz
    have h0 : off < arr.size := Nat.lt_of_lt_of_le (le_of_ble hlt) hc.2.1
    have h1 : ¬ arr.size ≤ off := by omega
    unfold Conv.unsafePointer
    simp only [Sem.run_bind, run_und ok hs, run_und ok hd, Result.andThen_ok, run_seenAt hh, run_cellsIn hh, run_size ok hi', hz]
    simp [h1]
  | _ => cases e1
theorem fBack_sound (ok : EnvOK E P) {src dst u : Nat} (hs : E.und src = some .unsafePointer) (hd : E.und dst = some (.pointer u)) {k : Nat} (hz : E.szOf u = k + 1) {μ : Mu} {h : H} {w : World} (wr : WR μ h w) {v r : V} {a : Value} (e : fBack E u v h = some r) (hv : RV μ v a) :
    ∃ z, (convert src dst a).run P w = .ok z w ∧ RV μ r z := by
  unfold fBack at e
  obtain ⟨x, rfl, e1⟩ := oR_inv e
  have conv : ∀ p, (convert src dst (.pointer p)).run P w = (Conv.unsafePointer src dst (.pointer p)).run P w := fun p => by
    unfold convert
    simp only [Sem.run_bind, run_und ok hs, run_und ok hd, Result.andThen_ok]
  cases x with
  | np =>
    obtain rfl := Option.some.inj e1
    obtain rfl : a = .pointer none := hv
    refine ⟨.pointer none, ?_, rfl⟩
    rw [conv]
    unfold Conv.unsafePointer
    simp only [Sem.run_bind, run_und ok hs, run_und ok hd, Result.andThen_ok, Sem.run_pure]
  | pt id off =>
    obtain ⟨e', fz, ex, m, cs, hb, e2⟩ := obC_inv e1
    obtain ⟨hex, e3⟩ := bool_inv e2
    obtain ⟨hl, e4⟩ := bool_inv e3
    obtain rfl := Option.some.inj e4
    obtain ⟨c, n, hm, rfl⟩ := oPt_rr hv
    obtain ⟨arr, lo, hi, hh, hsz, hxx, hc, _⟩ := cells_at wr hm hb
    refine ⟨_, ?_, ⟨c, n, hm, rfl⟩⟩
    rw [conv]
    obtain ⟨inf, hi'⟩ := szOf_pos hz
    have hva := run_variablesAt (P := P) (off := off) (u := u) (k := 1) hh
    rw [ok.pg] at hl
    rw [hsz, ← hxx hex, hl] at hva
    unfold Conv.unsafePointer
    simp only [Sem.run_bind, run_und ok hs, run_und ok hd, Result.andThen_ok, run_seenAt hh, run_size ok hi', hz, hva]
    simp
  | _ => cases e1
end
end Go.Ev

set_option linter.constructorNameAsVariable false
set_option linter.unusedVariables false
set_option linter.unusedSimpArgs false
set_option linter.unusedSectionVars false
namespace Go.Ev
open Go
noncomputable section
variable [Un]
variable {P : Program} {E : Env} {ops : Ops} {o : Oper}

theorem qopW {nt : Nat} {x : Operand} {f : V → H → Option V} {g : Value → Sem Value} (hl : looks o = true) (hx : ∀ ρ, execOp ρ o = (do pure (.value (← g (ρ x))))) (h : ∀ μ h w y v r, WR μ h w → RV μ v y → f v h = some r → ∃ z, (g y).run P w = .ok z w ∧ RV μ r z) :
    QX P nt o (fun T h => f (gO x T) h) := QS.qx hl fun μ T h' w a v gm rt wr e => by
  obtain ⟨z, h1, h2⟩ := h μ h' w _ _ v wr (eval_rel gm rt x) e
  exact ⟨z, by rw [hx]; exact exv h1, h2⟩

theorem conv_q (ok : EnvOK E P) (src dst : Nat) (x : Operand) (ho : o.op = .convert src dst x) : IS P ops o (match cConv E src dst (gO x) with | some f => finQ ops o f | none => .bad) := by
  have hex : ∀ ρ, execOp ρ o = (do pure (.value (← convert src dst (ρ x)))) := fun ρ => by simp only [execOp, ho]
  have hnd : ∀ c, o.op ≠ .defer c := by simp [ho]
  unfold cConv
  cases hs : E.und src with
  | none => exact trivial
  | some ds =>
    cases hd : E.und dst with
    | none => cases ds <;> exact trivial
    | some dd =>
      cases ds <;> cases dd <;> try exact trivial
      case int.int k k' =>
        refine finQ_is hnd (qop1 (g := convert src dst) hex fun μ y v r hr e => ?_)
        obtain ⟨k0, n, rfl, e1⟩ := oI_inv e
        obtain rfl := Option.some.inj e1
        obtain rfl := rv_i hr
        refine ⟨.int k' (k'.wrap n), fun w => ?_, ?_⟩
        · unfold convert
          simp only [Sem.run_bind, run_und ok hs, run_und ok hd, Result.andThen_ok]
          rfl
        · show Value.int k' (k'.wrap n) = .int k' (Int.casesOn n (kwrap k') (fun _ => k'.wrap n))
          cases n with
          | ofNat m => rw [← kwrap_eq]
          | negSucc m => rfl
      case int.string k =>
        refine finQ_is hnd (qop1 (g := convert src dst) hex fun μ y v r hr e => ?_)
        obtain ⟨k0, n, rfl, e1⟩ := oNat_inv e
        obtain ⟨hb, e2⟩ := bool_inv e1
        obtain rfl := Option.some.inj e2
        obtain rfl := rv_i hr
        have hb := le_of_ble hb
        have henc : Utf8.encode (Int.ofNat n) = ⟨#[UInt8.ofNat n]⟩ := by
          unfold Utf8.encode
          have hv : Utf8.valid (Int.ofNat n) = true := by
            unfold Utf8.valid
            have h0 : (0 : Int) ≤ Int.ofNat n := Int.natCast_nonneg n
            have h1 : Int.ofNat n < 0xD800 := by show (n : Int) < 55296; omega
            simp
            left
            omega
          have hc : n < 0x80 := by omega
          simp only [hv, if_true]
          show (if n < 0x80 then _ else _) = _
          rw [if_pos hc]
          rfl
        refine ⟨.string (Utf8.encode (Int.ofNat n)), fun w => ?_, ?_⟩
        · unfold convert
          simp only [Sem.run_bind, run_und ok hs, run_und ok hd, Result.andThen_ok]
          rfl
        · refine ⟨_, rfl, ?_⟩
          rw [henc]
          show enc [UInt8.ofNat n] = n + 256
          rw [enc_cons, enc_nil]
          have : (UInt8.ofNat n).toNat = n := by simp; omega
          rw [this]
      case string.string =>
        refine finQ_is hnd (qop1 (g := convert src dst) hex fun μ y v r hr e => ?_)
        obtain ⟨c, rfl, e1⟩ := oS_inv e
        obtain rfl := Option.some.inj e1
        obtain ⟨s, rfl, hc⟩ := rv_s hr
        refine ⟨.string s, fun w => ?_, ⟨s, rfl, hc⟩⟩
        unfold convert
        simp only [Sem.run_bind, run_und ok hs, run_und ok hd, Result.andThen_ok]
        rfl
      case slice.string e =>
        simp only
        cases he : E.und e with
        | none => exact trivial
        | some de =>
          cases de <;> try exact trivial
          rename_i kk
          cases kk <;> try exact trivial
          refine finQ_is hnd (qopW (f := fBytes) (g := convert src dst) (by simp [looks, ho]) hex fun μ h w y v r wr hr e' => ?_)
          obtain ⟨z, h1, h2⟩ := fBytes_sound wr e' hr
          refine ⟨z, ?_, h2⟩
          have hy : ∃ p l c, y = .slice p l c := by
            unfold fBytes at e'
            rcases oSl_inv e' with ⟨rfl, _⟩ | ⟨id, off, len, cap, rfl, _⟩ | ⟨id, sz, off, len, rfl, _⟩
            · exact ⟨_, _, _, hr⟩
            · obtain ⟨c, n, _, e, _⟩ := hr; exact ⟨_, _, _, e⟩
            · obtain ⟨c, n, cap, _, e, _⟩ := hr; exact ⟨_, _, _, e⟩
          obtain ⟨p, l, c, rfl⟩ := hy
          unfold convert
          simp only [Sem.run_bind, run_und ok hs, run_und ok hd, Result.andThen_ok, run_und ok he]
          exact h1
      case pointer.unsafePointer t =>
        simp only
        cases hz : E.szOf t with
        | zero => exact trivial
        | succ k => exact finQ_is hnd (qopW (f := fUns) (g := convert src dst) (by simp [looks, ho]) hex fun μ h w y v r wr hr e' => fUns_sound ok hs hd hz wr e' hr)
      case unsafePointer.pointer u =>
        simp only
        cases hz : E.szOf u with
        | zero => exact trivial
        | succ k => exact finQ_is hnd (qopW (f := fBack E u) (g := convert src dst) (by simp [looks, ho]) hex fun μ h w y v r wr hr e' => fBack_sound ok hs hd hz wr e' hr)

/-! ### builtins that only read -/
theorem run_callB {P : Program} {a : Act} {c : Call} {b : Builtin} (ho : o.op = .call c) (hc : c.callee = .builtin b) (w : World) :
    (execOp a.eval o).run P w = (builtin b c.argTypes o.type (c.args.map fun | .const _ => true | _ => false) (c.args.map a.eval)).run P w := by
  simp only [execOp, ho, resolve, hc]
  rfl

theorem args_of {α : Type} {xs : Array α} {l : List α} (h : xs.toList = l) : xs = l.toArray := by apply Array.ext'; simpa using h

theorem mLen_rel {μ : Mu} (fuel : Nat) : ∀ (es : V) (l : List MapEntry) (n : Nat), RM μ es l → mLen fuel es = some n → l.length = n := by
  induction fuel with
  | zero => intro es l n _ h; cases h
  | succ fuel ih =>
    intro es l n hr h
    cases l with
    | nil => obtain rfl : es = .n := hr; exact Option.some.inj h
    | cons e l =>
      obtain ⟨k, v, es', rfl, _, _, _, h4⟩ := hr
      obtain ⟨m, h1, h2⟩ := opt_inv h
      rw [← Option.some.inj h2, List.length_cons, ih es' l m h4 h1]
end
end Go.Ev

set_option linter.constructorNameAsVariable false
set_option linter.unusedVariables false
set_option linter.unusedSimpArgs false
set_option linter.unusedSectionVars false
namespace Go.Ev
open Go
noncomputable section
variable [Un]
variable {P : Program} {E : Env} {ops : Ops} {o : Oper}

theorem bq1 {c : Call} {b : Builtin} {x : Operand} {f : V → H → Option V} (ho : o.op = .call c) (hc : c.callee = .builtin b) (hx : c.args.toList = [x])
    (h : ∀ μ h w y v r cs, WR μ h w → RV μ v y → f v h = some r → ∃ z, (builtin b c.argTypes o.type cs #[y]).run P w = .ok (.value z) w ∧ RV μ r z) : IS P ops o (finQ ops o (fun T h => f (gO x T) h)) :=
  finQ_is (by simp [ho]) <| QS.qx (by simp [looks, ho]) fun μ T h' w a v gm rt wr e => by
    obtain ⟨z, h1, h2⟩ := h μ h' w _ _ v (c.args.map fun | .const _ => true | _ => false) wr (eval_rel gm rt x) e
    refine ⟨z, ?_, h2⟩
    rw [run_callB ho hc]
    have : c.args.map a.eval = #[a.eval x] := by rw [args_of hx]; simp
    rw [this]
    exact h1
theorem bq2 {c : Call} {b : Builtin} {x y : Operand} {f : V → V → Option V} (ho : o.op = .call c) (hc : c.callee = .builtin b) (hx : c.args.toList = [x, y])
    (h : ∀ μ w x' y' u v r cs, RV μ u x' → RV μ v y' → f u v = some r → ∃ z, (builtin b c.argTypes o.type cs #[x', y']).run P w = .ok (.value z) w ∧ RV μ r z) : IS P ops o (finQ ops o (q2 (gO x) (gO y) f)) :=
  finQ_is (by simp [ho]) <| QS.qx (by simp [looks, ho]) fun μ T h' w a v gm rt wr e => by
    obtain ⟨z, h1, h2⟩ := h μ w _ _ _ _ v (c.args.map fun | .const _ => true | _ => false) (eval_rel gm rt x) (eval_rel gm rt y) e
    refine ⟨z, ?_, h2⟩
    rw [run_callB ho hc]
    have : c.args.map a.eval = #[a.eval x, a.eval y] := by rw [args_of hx]; simp
    rw [this]
    exact h1

/-- the quiet builtins -/
theorem is_len (ok : EnvOK E P) {c : Call} {x : Operand} {t : Nat} (ho : o.op = .call c) (hc : c.callee = .builtin .len) (hx : c.args.toList = [x]) (ht : c.argTypes.toList = [t]) :
    IS P ops o (cBuiltin E ops o .len [x] [t]) := by
  unfold cBuiltin
  simp only [withO_eq]
  have hts := args_of ht
  have hrun : ∀ (cs : Array Bool) (y z : Value) (w : World), (Builtin.len_ #[t] o.type #[y]).run P w = .ok z w → (builtin .len c.argTypes o.type cs #[y]).run P w = .ok (.value z) w := fun cs y z w h => by
    rw [hts]
    show (do pure (.value (← Builtin.len_ #[t] o.type #[y])) : Sem Next).run P w = _
    exact exv h
  cases hd : E.und t with
  | none => exact trivial
  | some d =>
    cases d <;> try exact trivial
    case string =>
      refine bq1 (f := fun v _ => fLenStr v) ho hc hx fun μ h w y v r cs wr hr e => ?_
      obtain ⟨c', rfl, e1⟩ := oS_inv e
      obtain rfl := Option.some.inj e1
      obtain ⟨s, rfl, hs⟩ := rv_s hr
      refine ⟨goInt s.size, hrun _ _ _ _ ?_, by rw [← size_enc hs]; rfl⟩
      simp [Builtin.len_, run_und ok hd]
    case slice e =>
      refine bq1 (f := fun v _ => fLenSl v) ho hc hx fun μ h w y v r cs wr hr e => ?_
      have hl : ∀ p n k, y = .slice p n k → (builtin .len c.argTypes o.type cs #[y]).run P w = .ok (.value (goInt n)) w := fun p n k h => by
        subst h
        refine hrun _ _ _ _ ?_
        simp [Builtin.len_, run_und ok hd]
      unfold fLenSl at e
      obtain ⟨q, rfl, e1⟩ := oR_inv e
      cases q with
      | ns => obtain rfl := Option.some.inj e1; exact ⟨_, hl _ _ _ hr, rfl⟩
      | sl id off len cap => obtain rfl := Option.some.inj e1; obtain ⟨_, _, _, h1, _⟩ := hr; exact ⟨_, hl _ _ _ h1, rfl⟩
      | so id sz off len => obtain rfl := Option.some.inj e1; obtain ⟨_, _, _, _, h1, _⟩ := hr; exact ⟨_, hl _ _ _ h1, rfl⟩
      | se => obtain rfl := Option.some.inj e1; obtain ⟨_, _, h1⟩ := hr; exact ⟨_, hl _ _ _ h1, rfl⟩
      | _ => cases e1
    case map k e =>
      refine bq1 (f := fMLen) ho hc hx fun μ h w y v r cs wr hr e => ?_
      unfold fMLen at e
      obtain ⟨q, rfl, e1⟩ := oR_inv e
      cases q with
      | nm =>
        obtain rfl := Option.some.inj e1
        obtain rfl : y = .map none := hr
        refine ⟨goInt 0, hrun _ _ _ _ ?_, rfl⟩
        simp [Builtin.len_, run_und ok hd]
      | mp id =>
        obtain ⟨es, hb, e3⟩ := obM_inv e1
        obtain ⟨n, e4, e5⟩ := opt_inv e3
        obtain rfl := Option.some.inj e5
        obtain ⟨c', n', hm, rfl⟩ := oMp_rr hr
        obtain ⟨ents, clock, hh, hrm⟩ := map_at wr hm hb
        refine ⟨goInt ents.size, hrun _ _ _ _ ?_, ?_⟩
        · have hg : (getObj c').run P w = .ok (.map ents clock) w := by simp [getObj, Sem.run, hh]
          simp [Builtin.len_, run_und ok hd, hg]
        · have := mLen_rel _ _ _ _ hrm e4
          rw [← this]; rfl
      | _ => cases e1
    case array n e =>
      refine bq1 (f := fun _ _ => some (goI n)) ho hc hx fun μ h w y v r cs wr hr e => ?_
      obtain rfl := Option.some.inj e
      refine ⟨goInt n, hrun _ _ _ _ ?_, rfl⟩
      simp [Builtin.len_, run_und ok hd]
    case pointer ar =>
      simp only
      cases hd2 : E.und ar with
      | none => exact trivial
      | some d2 =>
        cases d2 <;> try exact trivial
        rename_i n e
        refine bq1 (f := fun _ _ => some (goI n)) ho hc hx fun μ h w y v r cs wr hr e => ?_
        obtain rfl := Option.some.inj e
        refine ⟨goInt n, hrun _ _ _ _ ?_, rfl⟩
        simp [Builtin.len_, run_und ok hd, run_und ok hd2]

theorem is_cap (ok : EnvOK E P) {c : Call} {x : Operand} {t : Nat} (ho : o.op = .call c) (hc : c.callee = .builtin .cap) (hx : c.args.toList = [x]) (ht : c.argTypes.toList = [t]) :
    IS P ops o (cBuiltin E ops o .cap [x] [t]) := by
  unfold cBuiltin
  simp only [withO_eq]
  have hts := args_of ht
  cases hd : E.und t with
  | none => exact trivial
  | some d =>
    cases d <;> try exact trivial
    refine bq1 (f := fun v _ => fCapSl v) ho hc hx fun μ h w y v r cs wr hr e => ?_
    have hl : ∀ p n k, y = .slice p n k → (builtin .cap c.argTypes o.type cs #[y]).run P w = .ok (.value (goInt k)) w := fun p n k h => by
      subst h
      rw [hts]
      show (do pure (.value (← Builtin.cap_ #[t] o.type #[.slice p n k])) : Sem Next).run P w = _
      exact exv (by simp [Builtin.cap_, run_und ok hd])
    unfold fCapSl at e
    obtain ⟨q, rfl, e1⟩ := oR_inv e
    cases q with
    | ns => obtain rfl := Option.some.inj e1; exact ⟨_, hl _ _ _ hr, rfl⟩
    | sl id off len cap => obtain rfl := Option.some.inj e1; obtain ⟨_, _, _, h1, _⟩ := hr; exact ⟨_, hl _ _ _ h1, rfl⟩
    | _ => cases e1

theorem is_min {c : Call} {x y : Operand} {ts : List Nat} (ho : o.op = .call c) (hc : c.callee = .builtin .min) (hx : c.args.toList = [x, y]) :
    IS P ops o (cBuiltin E ops o .min [x, y] ts) := by
  have : cBuiltin E ops o .min [x, y] ts = withO x fun g => withO y fun g' => finQ ops o (q2 g g' fMin) := by unfold cBuiltin; cases ts <;> rfl
  rw [this]
  simp only [withO_eq]
  refine bq2 ho hc hx fun μ w x' y' u v r cs hu hv e => ?_
  obtain ⟨k, a, b, rfl, rfl, e1⟩ := bi2_inv e
  obtain rfl := Option.some.inj e1
  obtain rfl := rv_i hu
  obtain rfl := rv_i hv
  refine ⟨.int k (if b < a then b else a), ?_, ?_⟩
  · show (do pure (.value (← Builtin.min_ _ _ #[.int k a, .int k b])) : Sem Next).run P w = _
    exact exv (by simp [Builtin.min_, Builtin.min2])
  · rw [iLt_eq]; by_cases h : b < a <;> simp [h] <;> rfl
theorem is_max {c : Call} {x y : Operand} {ts : List Nat} (ho : o.op = .call c) (hc : c.callee = .builtin .max) (hx : c.args.toList = [x, y]) :
    IS P ops o (cBuiltin E ops o .max [x, y] ts) := by
  have : cBuiltin E ops o .max [x, y] ts = withO x fun g => withO y fun g' => finQ ops o (q2 g g' fMax) := by unfold cBuiltin; cases ts <;> rfl
  rw [this]
  simp only [withO_eq]
  refine bq2 ho hc hx fun μ w x' y' u v r cs hu hv e => ?_
  obtain ⟨k, a, b, rfl, rfl, e1⟩ := bi2_inv e
  obtain rfl := Option.some.inj e1
  obtain rfl := rv_i hu
  obtain rfl := rv_i hv
  refine ⟨.int k (if b > a then b else a), ?_, ?_⟩
  · show (do pure (.value (← Builtin.max_ _ _ #[.int k a, .int k b])) : Sem Next).run P w = _
    exact exv (by simp [Builtin.max_, Builtin.max2])
  · rw [iLt_eq]; by_cases h : a < b <;> simp [h] <;> rfl
theorem is_data {c : Call} {x : Operand} {ts : List Nat} (ho : o.op = .call c) (hc : c.callee = .builtin .unsafeSliceData) (hx : c.args.toList = [x]) :
    IS P ops o (cBuiltin E ops o .unsafeSliceData [x] ts) := by
  have : cBuiltin E ops o .unsafeSliceData [x] ts = withO x fun g => finQ ops o (q1 g fData) := by unfold cBuiltin; cases ts <;> rfl
  rw [this]
  simp only [withO_eq]
  refine bq1 (f := fun v _ => fData v) ho hc hx fun μ h w y v r cs wr hr e => ?_
  have hl : ∀ z, (Builtin.unsafeSliceData_ c.argTypes o.type #[y]).run P w = .ok z w → (builtin .unsafeSliceData c.argTypes o.type cs #[y]).run P w = .ok (.value z) w := fun z h => exv h
  have main : ∀ id off len, (∃ c n cap, μ id = some (c, n) ∧ y = .slice (some ⟨c, off, none⟩) len cap ∧ len ≤ cap) →
      (Bool.casesOn (Nat.beq len 0) (some (.r (.pt id off))) none : Option V) = some r → ∃ z, (builtin .unsafeSliceData c.argTypes o.type cs #[y]).run P w = .ok (.value z) w ∧ RV μ r z := by
    rintro id off len ⟨c', n, cap, hm, rfl, hle⟩ h1
    obtain ⟨h2, h3⟩ := booln_inv h1
    obtain rfl := Option.some.inj h3
    have : len ≠ 0 := fun h => by subst h; simp at h2
    exact ⟨_, hl _ (Lib.run_unsafeSliceData_row w _ _ _ _ _ (by omega)), ⟨c', n, hm, rfl⟩⟩
  unfold fData at e
  rcases oSl_inv e with ⟨rfl, h1⟩ | ⟨id, off, len, cap, rfl, h1⟩ | ⟨id, sz, off, len, rfl, h1⟩
  · obtain rfl := Option.some.inj h1
    obtain rfl : y = .slice none 0 0 := hr
    exact ⟨_, hl _ rfl, rfl⟩
  · exact main id off len (sl_rr (.inl ⟨cap, rfl⟩) hr) h1
  · exact main id off len (sl_rr (.inr ⟨sz, rfl⟩) hr) h1
end
end Go.Ev

set_option linter.constructorNameAsVariable false
set_option linter.unusedVariables false
set_option linter.unusedSimpArgs false
set_option linter.unusedSectionVars false
namespace Go.Ev
open Go
noncomputable section
variable [Un]
variable {P : Program} {E : Env} {ops : Ops} {o : Oper}

theorem vCells_rel {μ : Mu} {v l : V} {a : Value} (h : vCells v = some l) (hr : RV μ v a) : RL μ l a.cells.toList := by
  have single : ∀ (v : V) (a : Value), RV μ v a → a.cells = #[a] → RL μ (.c v .n) a.cells.toList := fun v a h1 h2 => by
    rw [h2]; exact ⟨a, [], rfl, h1, rfl⟩
  cases v with
  | u => cases h
  | b x => obtain rfl := Option.some.inj h; obtain rfl := rv_b hr; exact single _ _ hr rfl
  | i k n => obtain rfl := Option.some.inj h; obtain rfl := rv_i hr; exact single _ _ hr rfl
  | s c => obtain rfl := Option.some.inj h; obtain ⟨s, rfl, _⟩ := rv_s hr; exact single _ _ hr rfl
  | r x =>
    obtain rfl := Option.some.inj h
    refine single _ _ hr ?_
    cases x <;> first
      | (obtain rfl := hr; rfl)
      | (obtain ⟨c, n, _, rfl⟩ := hr; rfl; done)
      | (obtain ⟨c, n, _, rfl, _⟩ := hr; rfl; done)
      | (obtain ⟨c, n, cap, _, rfl, _⟩ := hr; rfl; done)
      | (obtain ⟨c, n, rfl⟩ := hr; rfl; done)
      | (rcases hr with ⟨_, c, n, _, rfl⟩ | ⟨_, rfl⟩; rfl; exact (Un.one _).2)
  | f f x y => obtain rfl := Option.some.inj h; obtain ⟨xs, ys, rfl, _⟩ := id hr; exact single _ _ hr rfl
  | w t x => obtain rfl := Option.some.inj h; obtain ⟨y, rfl, _⟩ := id hr; exact single _ _ hr rfl
  | a l' => obtain rfl := Option.some.inj h; obtain ⟨xs, rfl, hl⟩ := hr; exact hl
  | t l => cases h
  | n => cases h
  | c x y => cases h

theorem foldl_set (l : List Value) : ∀ (k off : Nat) (cells : Array Value), off + k + l.length ≤ cells.size →
    ((l.zipIdx k).foldl (fun cs (p : Value × Nat) => cs.setIfInBounds (off + p.2) p.1) cells).toList = cells.toList.take (off + k) ++ (l ++ cells.toList.drop (off + k + l.length)) := by
  induction l with
  | nil => intro k off cells h; simp
  | cons x l ih =>
    intro k off cells h
    simp only [List.length_cons] at h
    have hlt : off + k < cells.size := by omega
    rw [List.zipIdx_cons, List.foldl_cons, ih (k + 1) off _ (by simp; omega)]
    simp only [Array.toList_setIfInBounds, List.length_cons]
    have h1 : (cells.toList.set (off + k) x).take (off + (k + 1)) = cells.toList.take (off + k) ++ [x] := by
      rw [show off + (k + 1) = off + k + 1 by omega, List.take_add_one, List.take_set_of_le (by omega)]
      simp [hlt]
    have h2 : (cells.toList.set (off + k) x).drop (off + (k + 1) + l.length) = cells.toList.drop (off + k + (l.length + 1)) := by
      rw [List.drop_set_of_lt (by omega)]
      congr 1
      omega
    rw [h1, h2]
    simp

def partsOf (place : Nat → Option (Nat × Nat)) (ps : List (Nat × Operand)) : Option (List (Nat × Nat × (Tm → V))) :=
  match ps with
  | [] => some []
  | (i, x) :: ps => match place i, partsOf place ps with | some (off, sz), some l => some ((off, sz, gO x) :: l) | _, _ => none
theorem withParts_eq {γ : Type} (d : γ) (place : Nat → Option (Nat × Nat)) (ps : List (Nat × Operand)) : ∀ (k : List (Nat × Nat × (Tm → V)) → γ), withParts d place ps k = match partsOf place ps with | some l => k l | none => d := by
  induction ps with
  | nil => intro k; rfl
  | cons p ps ih =>
    intro k
    obtain ⟨i, x⟩ := p
    unfold withParts partsOf
    cases place i with
    | none => rfl
    | some q =>
      obtain ⟨off, sz⟩ := q
      simp only [withO_eq, ih]
      cases partsOf place ps <;> rfl

theorem fill_sound {μ : Mu} {nt : Nat} {T : Tm} {a : Act} (gm : GM μ) (rt : RT μ nt T a.tmps) (place : Nat → Option (Nat × Nat)) (ps : List (Nat × Operand)) : ∀ (pl : List (Nat × Nat × (Tm → V))) (l r : V) (cells : Array Value),
    partsOf place ps = some pl → fParts pl T l = some r → RL μ l cells.toList → ∃ cells', Instr.fill place cells (ps.map fun (i, x) => (i, a.eval x)) = some cells' ∧ RL μ r cells'.toList := by
  induction ps with
  | nil =>
    intro pl l r cells h1 h2 h3
    obtain rfl := Option.some.inj h1
    obtain rfl := Option.some.inj h2
    exact ⟨cells, rfl, h3⟩
  | cons p ps ih =>
    intro pl l r cells h1 h2 h3
    obtain ⟨i, x⟩ := p
    unfold partsOf at h1
    cases hp : place i with
    | none => rw [hp] at h1; cases h1
    | some q =>
      obtain ⟨off, sz⟩ := q
      rw [hp] at h1
      cases hq : partsOf place ps with
      | none => rw [hq] at h1; cases h1
      | some pl' =>
        rw [hq] at h1
        obtain rfl := Option.some.inj h1
        unfold fParts at h2
        obtain ⟨v, g1, h2⟩ := opt_inv h2
        obtain ⟨m, g2, h2⟩ := opt_inv h2
        have hv := vCells_rel g1 (eval_rel gm rt x)
        obtain ⟨r1, r2, r3⟩ := over_rel g2 hv h3
        have hsz : (a.eval x).cells.size = sz := by simpa using r2
        have hle : off + (a.eval x).cells.size ≤ cells.size := by rw [hsz]; simpa using r3
        have hfold : ((a.eval x).cells.zipIdx.foldl (fun cs (p : Value × Nat) => cs.setIfInBounds (off + p.2) p.1) cells).toList = cells.toList.take off ++ ((a.eval x).cells.toList ++ cells.toList.drop (off + sz)) := by
          rw [← Array.foldl_toList, Array.toList_zipIdx]
          have := foldl_set (a.eval x).cells.toList 0 off cells (by simpa using hle)
          simpa [hsz] using this
        obtain ⟨cells', e1, e2⟩ := ih pl' m r _ hq h2 (by rw [hfold]; exact r1)
        refine ⟨cells', ?_, e2⟩
        show Instr.fill place cells ((i, a.eval x) :: ps.map fun (i, x) => (i, a.eval x)) = _
        unfold Instr.fill
        rw [hp]
        simp only
        rw [if_neg (by simp [hsz]; omega)]
        exact e1

theorem run_mapM {α β : Type} (f : α → Sem β) (g : α → β) (w : World) (l : List α) (h : ∀ x ∈ l, (f x).run P w = .ok (g x) w) : (l.mapM f).run P w = .ok (l.map g) w := by
  induction l with
  | nil => rfl
  | cons x l ih =>
    rw [List.mapM_cons]
    simp only [Sem.run_bind, h x (by simp), Result.andThen_ok, ih (fun y hy => h y (by simp [hy])), Sem.run_pure, List.map_cons]
theorem run_amapM {α β : Type} (f : α → Sem β) (g : α → β) (w : World) (l : Array α) (h : ∀ x ∈ l.toList, (f x).run P w = .ok (g x) w) : (l.mapM f).run P w = .ok (l.map g) w := by
  rw [Array.mapM_eq_mapM_toList]
  simp only [map_eq_pure_bind, Sem.run_bind, run_mapM f g w l.toList h, Result.andThen_ok, Sem.run_pure]
  rw [arr_map]

theorem parts_map (ps : Array (Nat × Operand)) (ρ : Operand → Value) : (ps.map fun (i, x) => (i, ρ x)).toList = ps.toList.map fun (i, x) => (i, ρ x) := by simp

theorem is_build (ok : EnvOK E P) (t : Nat) (ps : Array (Nat × Operand)) (ho : o.op = .build t ps) : IS P ops o (c_build t ps E ops o) := by
  unfold c_build
  cases hd : E.und t with
  | none => exact trivial
  | some d =>
    cases hz : E.zer t with
    | none => cases d <;> exact trivial
    | some zz =>
      obtain ⟨zv, z1, z2⟩ := zer_rel ok hz
      cases d <;> cases zz <;> try exact trivial
      case struct.a fs z =>
        simp only
        cases hall : fs.toList.all fun f => E.kn f.type with
        | false => exact trivial
        | true =>
          simp only [withParts_eq]
          cases hpl : partsOf (fun i => match fs[i]? with | some f => some (f.offset, E.szOf f.type) | none => none) ps.toList with
          | none => exact trivial
          | some pl =>
            refine finQ_is (by simp [ho]) <| QSW.qx fun μ T h a v gm rt e => ?_
            obtain ⟨m, e1, e2⟩ := opt_inv e
            obtain rfl := Option.some.inj e2
            obtain ⟨zs, rfl, hzs⟩ := z2 μ
            obtain ⟨cells', f1, f2⟩ := fill_sound gm rt _ ps.toList pl z m zs.toArray hpl e1 (by simpa using hzs)
            refine ⟨.agg cells', fun w => ?_, ⟨cells'.toList, by simp, f2⟩⟩
            simp only [execOp, ho]
            refine exv ?_
            unfold Instr.build
            simp only [Sem.run_bind, z1, Result.andThen_ok, run_und ok hd]
            rw [run_amapM (g := fun f : Field => (f.offset, E.szOf f.type))]
            · simp only [Result.andThen_ok, Value.cells]
              have hplace : (fun i : Nat => (fs.map fun f : Field => (f.offset, E.szOf f.type))[i]?) = (fun i : Nat => match fs[i]? with | some f => some (f.offset, E.szOf f.type) | none => none) := by
                funext i
                rw [Array.getElem?_map]
                cases fs[i]? <;> rfl
              rw [hplace, parts_map, f1]
              rfl
            · intro f hf
              have := List.all_eq_true.1 hall f hf
              obtain ⟨inf, hi⟩ := kn_tt this
              simp [run_size ok hi]
      case array.a n e z =>
        simp only
        cases hk : E.kn e with
        | false => exact trivial
        | true =>
          obtain ⟨inf, hi⟩ := kn_tt hk
          simp only [withParts_eq]
          cases hpl : partsOf (fun i => some (Nat.mul i (E.szOf e), E.szOf e)) ps.toList with
          | none => exact trivial
          | some pl =>
            refine finQ_is (by simp [ho]) <| QSW.qx fun μ T h a v gm rt e' => ?_
            obtain ⟨m, e1, e2⟩ := opt_inv e'
            obtain rfl := Option.some.inj e2
            obtain ⟨zs, rfl, hzs⟩ := z2 μ
            obtain ⟨cells', f1, f2⟩ := fill_sound gm rt _ ps.toList pl z m zs.toArray hpl e1 (by simpa using hzs)
            refine ⟨.agg cells', fun w => ?_, ⟨cells'.toList, by simp, f2⟩⟩
            simp only [execOp, ho]
            refine exv ?_
            unfold Instr.build
            simp only [Sem.run_bind, z1, Result.andThen_ok, run_und ok hd, run_size ok hi, Value.cells]
            rw [parts_map]
            have : Instr.fill (fun i => some (i * E.szOf e, E.szOf e)) zs.toArray (ps.toList.map fun (i, x) => (i, a.eval x)) = some cells' := f1
            rw [this]
            rfl
end
end Go.Ev

set_option linter.constructorNameAsVariable false
set_option linter.unusedVariables false
set_option linter.unusedSimpArgs false
set_option linter.unusedSectionVars false
namespace Go.Ev
open Go
noncomputable section
variable [Un]
variable {P : Program} {E : Env} {ops : Ops} {o : Oper}

theorem one_oneCell {μ : Mu} {v : V} {a : Value} (h : V.one v = true) (hr : RV μ v a) : a.oneCell' = true ∧ a.cells = #[a] := by
  cases v with
  | u => cases h
  | b x => obtain rfl := rv_b hr; exact ⟨rfl, rfl⟩
  | i k n => obtain rfl := rv_i hr; exact ⟨rfl, rfl⟩
  | s c => obtain ⟨s, rfl, _⟩ := rv_s hr; exact ⟨rfl, rfl⟩
  | r x =>
    cases x <;> first
      | (obtain rfl := hr; exact ⟨rfl, rfl⟩; done)
      | (obtain ⟨c, n, _, rfl⟩ := hr; exact ⟨rfl, rfl⟩; done)
      | (obtain ⟨c, n, _, rfl, _⟩ := hr; exact ⟨rfl, rfl⟩; done)
      | (obtain ⟨c, n, cap, _, rfl, _⟩ := hr; exact ⟨rfl, rfl⟩; done)
      | (obtain ⟨c, n, rfl⟩ := hr; exact ⟨rfl, rfl⟩; done)
      | (rcases hr with ⟨_, c, n, _, rfl⟩ | ⟨_, rfl⟩; exact ⟨rfl, rfl⟩; exact Un.one _)
  | f f x y => obtain ⟨xs, ys, rfl, _⟩ := id hr; exact ⟨rfl, rfl⟩
  | w t x => obtain ⟨y, rfl, _⟩ := id hr; exact ⟨rfl, rfl⟩
  | a l => cases h
  | t l => cases h
  | n => cases h
  | c x y => cases h

/-- a list laid into cells -/
theorem stn_rel {μ : Mu} (m : Nat) : ∀ {l : V} {cs cs' : Cs} {off : Nat} {xs : List Value}, Cs.stn m l cs off = some cs' → RL μ l xs → off + m ≤ cs.room →
    xs.length = m ∧ cs'.room = cs.room ∧ (∀ i, i < cs.room → (i < off ∨ off + m ≤ i) → cs'.get i = cs.get i) ∧ (∀ j x, xs[j]? = some x → RV μ (cs'.get (off + j)) x) ∧ (∀ x ∈ xs, x.oneCell' = true) := by
  induction m with
  | zero =>
    intro l cs cs' off xs h hr hle
    have h' : (Bool.rec (motive := fun _ => Option Cs) none (some cs) (qN true l)) = some cs' := h
    obtain ⟨h1, h2⟩ := bool_inv h'
    obtain ⟨rfl, _⟩ := qN_inv h1
    obtain rfl := Option.some.inj h2
    obtain rfl : xs = [] := hr
    exact ⟨rfl, rfl, fun _ _ _ => rfl, fun j x hx => by simp at hx, fun x hx => by simp at hx⟩
  | succ m ih =>
    intro l cs cs' off xs h hr hle
    cases l with
    | c hd t =>
      obtain ⟨x, xs, rfl, hx, ht⟩ := hr
      have h' : (Bool.rec (motive := fun _ => Option Cs) none (Cs.stn m t (cs.put off hd) (Nat.succ off)) (V.one hd)) = some cs' := h
      obtain ⟨h1, h2⟩ := bool_inv h'
      obtain ⟨g1, g2, g3, g4, g5⟩ := ih h2 ht (by rw [cs_room_put]; omega)
      rw [cs_room_put] at g2 g3
      have hoff : off < cs.room := by omega
      refine ⟨by simp [g1], g2, fun i hi hout => ?_, fun j y hy => ?_, fun y hy => ?_⟩
      · rw [g3 i hi (by omega), cs_get_put_ne cs hi hoff (by omega)]
      · cases j with
        | zero =>
          have : x = y := by simpa using hy
          subst this
          rw [Nat.add_zero, g3 off hoff (by omega), cs_get_put_same]
          exact hx
        | succ j =>
          have := g4 j y (by simpa using hy)
          rwa [show off + (j + 1) = Nat.succ off + j by omega]
      · rcases List.mem_cons.1 hy with rfl | hy
        · exact (one_oneCell h1 hx).1
        · exact g5 y hy
    | _ => cases h

/-- a new block of a list's cells -/
theorem newL_sound {μ : Mu} {h : H} {w : World} (wr : WR μ h w) {st e n : Nat} {fz : Fz} {ex : Bool} {l : V} {k : Nat → H → Bool} (he : newL st e fz ex n l h k = true) {arr : Array Value} {N lo hi : Nat} (hl : RL μ l (arr.toList.take n)) (hN : arr.size = N) (hx : ex = true → n = N) (hf : FzR fz lo hi N)
    {w' : World} (hw : w'.heap = w.heap.push (.cells arr e (lo, hi))) (e1 : w'.os = w.os) (e2 : w'.output = w.output) (e3 : w'.tape = w.tape) :
    ∃ id h', μ id = none ∧ k id h' = true ∧ WR (muAdd μ id w.heap.size N) h' w' ∧ Ext μ h w (muAdd μ id w.heap.size N) h' w' := by
  unfold newL at he
  obtain ⟨cs, h1, h2⟩ := optq_inv he
  unfold mkCs at h1
  have h1' : (Bool.rec (motive := fun _ => Option Cs) none (Cs.stn n l (Cs.grow (Cs.nil st) n) 0) (Cs.fits (Cs.grow (Cs.nil st) n) n)) = some cs := h1
  obtain ⟨h3, h4⟩ := bool_inv h1'
  have hroom := cs_fits _ _ h3
  obtain ⟨g1, g2, g3, g4, g5⟩ := stn_rel n h4 hl (by omega)
  obtain ⟨hnx, hk⟩ := new_eq _ _ _ h2
  have hfr := wr.fresh h.nx (Nat.le_refl _)
  have hlen : n ≤ arr.size := by
    have : (arr.toList.take n).length = n := g1
    simp at this
    omega
  obtain ⟨w1, w2⟩ := wr.alloc hnx (.c e fz ex n cs) (.cells arr e (lo, hi)) N hw
    ⟨arr, lo, hi, rfl, hN, hx, ⟨by rw [g2]; exact hroom, hlen, fun i hi' => by
      have hlt : i < arr.size := by omega
      refine ⟨arr[i], by simp [hlt], ?_⟩
      have := g4 i arr[i] (by rw [List.getElem?_take_of_lt hi']; simp [hlt])
      rw [Nat.zero_add] at this
      exact this.mono (sub_add hfr)⟩, hf⟩ e1 e2 e3
  exact ⟨h.nx, h.add (.c e fz ex n cs), hfr, hk, w1, w2⟩

theorem cellsV_rel {μ : Mu} {agg : Bool} {v l : V} {a : Value} (h : cellsV agg v = some l) (hr : RV μ v a) : RL μ l a.cells.toList := by
  cases agg with
  | true =>
    obtain ⟨x, rfl, h⟩ := oA_inv h
    obtain rfl := Option.some.inj h
    obtain ⟨xs, rfl, hl⟩ := hr
    exact hl
  | false =>
    have h' : (Bool.rec (motive := fun _ => Option V) none (some (.c v .n)) (V.one v)) = some l := h
    obtain ⟨h1, h2⟩ := bool_inv h'
    obtain rfl := Option.some.inj h2
    rw [(one_oneCell h1 hr).2]
    exact ⟨a, [], rfl, hr, rfl⟩

/-! ### stores -/
theorem size_modify (w : World) (a : Addr) (v : Value) : (w.setCell a v).heap.size = w.heap.size := by simp [World.setCell]
theorem run_stc {P : Program} {c off : Nat} {e : TypeId} {lo hi : Nat} (vs : List Value) : ∀ (i : Nat) (arr : Array Value) (w : World), w.heap[c]? = some (.cells arr e (lo, hi)) → off + i + vs.length ≤ arr.size → (∀ v ∈ vs, v.oneCell' = true) → (∀ j, off + i ≤ j → j < off + i + vs.length → ¬ (lo ≤ j ∧ j < hi)) →
    ∃ w' arr', (storeCells ⟨c, off, none⟩ vs i).run P w = .ok () w' ∧ w'.heap.size = w.heap.size ∧ w'.heap[c]? = some (.cells arr' e (lo, hi)) ∧ (∀ c', c' ≠ c → w'.heap[c']? = w.heap[c']?) ∧ arr'.size = arr.size ∧
      (∀ j, (j < off + i ∨ off + i + vs.length ≤ j) → arr'[j]? = arr[j]?) ∧ (∀ j x, vs[j]? = some x → arr'[off + i + j]? = some x) ∧ w'.os = w.os ∧ w'.output = w.output ∧ w'.tape = w.tape := by
  induction vs with
  | nil => intro i arr w h _ _ _; exact ⟨w, arr, rfl, rfl, h, fun _ _ => rfl, rfl, fun _ _ => rfl, fun j x hx => by simp at hx, rfl, rfl, rfl⟩
  | cons v vs ih =>
    intro i arr w h hle h1 hfz
    simp only [List.length_cons] at hle hfz
    have hlt : off + i < arr.size := by omega
    have hc : w.cell? ((⟨c, off, none⟩ : Addr).add i) = some arr[off + i] := by rw [add_off, cell_of h]; simp [hlt]
    have hfr : w.frozen? ((⟨c, off, none⟩ : Addr).add i) = false := by
      rw [add_off]
      simp only [World.frozen?, h]
      have := hfz (off + i) (by omega) (by omega)
      simpa using this
    have hs : (store ((⟨c, off, none⟩ : Addr).add i) v).run P w = .ok () (w.setCell ((⟨c, off, none⟩ : Addr).add i) v) := by
      rw [run_store P w _ v _ (h1 v (by simp)), hc]
      simp [hfr]
    have hh : (w.setCell ((⟨c, off, none⟩ : Addr).add i) v).heap[c]? = some (.cells (arr.setIfInBounds (off + i) v) e (lo, hi)) := by
      rw [add_off]
      simp [World.setCell, Array.getElem?_modify, h]
    have ho : ∀ c', c' ≠ c → (w.setCell ((⟨c, off, none⟩ : Addr).add i) v).heap[c']? = w.heap[c']? := fun c' hne => by
      rw [add_off]
      simp [World.setCell, Array.getElem?_modify, Ne.symm hne]
    obtain ⟨w', arr', r1, r2, r3, r4, r5, r6, r7, r8, r9, r10⟩ := ih (i + 1) (arr.setIfInBounds (off + i) v) _ hh (by simp; omega) (fun u hu => h1 u (by simp [hu])) (fun j a b => hfz j (by omega) (by omega))
    refine ⟨w', arr', ?_, by rw [r2, size_modify], r3, fun c' hne => by rw [r4 c' hne, ho c' hne], by simpa using r5, fun j hj => ?_, fun j x hx => ?_, r8, r9, r10⟩
    · unfold storeCells
      simp only [Sem.run_bind, hs, Result.andThen_ok]
      exact r1
    · simp only [List.length_cons] at hj
      rw [r6 j (by omega), Array.getElem?_setIfInBounds_ne (by omega)]
    · cases j with
      | zero =>
        have : v = x := by simpa using hx
        subst this
        rw [Nat.add_zero, r6 (off + i) (by omega)]
        simp [hlt]
      | succ j =>
        have := r7 j x (by simpa using hx)
        rwa [show off + i + (j + 1) = off + (i + 1) + j by omega]

theorem thaw_ok {fz : Fz} {lo hi n off : Nat} (h : FzR fz lo hi n) (ht : H.thaw fz off = true) : ∀ j, off ≤ j → j < n → ¬ (lo ≤ j ∧ j < hi) := by
  intro j h1 h2 h3
  cases fz with
  | no => have : lo = hi := h; omega
  | to k =>
    have hk : k ≤ off := le_of_ble ht
    rcases h with h | h <;> omega
  | st => rcases h with h | h <;> omega

/-- cells are written: what the block is then -/
theorem RC_st {μ : Mu} {n off m : Nat} {cs cs' : Cs} {arr arr' : Array Value} {xs : List Value} (hc : RC μ n cs arr) (hle : off + m ≤ n) (hxs : xs.length = m) (hroom : cs'.room = cs.room) (hout : ∀ i, i < cs.room → (i < off ∨ off + m ≤ i) → cs'.get i = cs.get i)
    (hin : ∀ j x, xs[j]? = some x → RV μ (cs'.get (off + j)) x) (hsz : arr'.size = arr.size) (hout' : ∀ j, (j < off ∨ off + m ≤ j) → arr'[j]? = arr[j]?) (hin' : ∀ j x, xs[j]? = some x → arr'[off + j]? = some x) : RC μ n cs' arr' := by
  obtain ⟨h1, h2, h3⟩ := hc
  refine ⟨by omega, by omega, fun i hi => ?_⟩
  by_cases hi' : i < off ∨ off + m ≤ i
  · rw [hout' i hi', hout i (by omega) hi']
    exact h3 i hi
  · have hj : i - off < xs.length := by omega
    have e := hin' (i - off) xs[i - off] (by simp [hj])
    have e' := hin (i - off) xs[i - off] (by simp [hj])
    rw [show off + (i - off) = i by omega] at e e'
    exact ⟨_, e, e'⟩

theorem sts_sound {P : Program} {μ : Mu} {h : H} {w : World} (wr : WR μ h w) {id off m : Nat} {l : V} {k : H → Bool} (e : H.sts h id off m l k = true) {c n : Nat} (hm : μ id = some (c, n)) {xs : List Value} (hl : RL μ l xs) :
    xs.length = m ∧ (∀ x ∈ xs, x.oneCell' = true) ∧ ∃ w' h', (storeCells ⟨c, off, none⟩ xs 0).run P w = .ok () w' ∧ WR μ h' w' ∧ Ext μ h w μ h' w' ∧ k h' = true := by
  unfold H.sts at e
  obtain ⟨el, fz, ex, N, cs, hb, e1⟩ := qbC_inv e
  unfold H.sts1 at e1
  obtain ⟨b1, e2⟩ := boolq_inv e1
  obtain ⟨b2, e3⟩ := boolq_inv e2
  obtain ⟨cs', b3, e4⟩ := optq_inv e3
  have b1 := le_of_ble b1
  obtain ⟨arr, lo, hi, hh, hsz, hx, hc, hf⟩ := cells_at wr hm hb
  have b1' : off + m ≤ N := b1
  obtain ⟨g1, g2, g3, g4, g5⟩ := stn_rel m b3 hl (Nat.le_trans b1' hc.1)
  have hle : off + m ≤ n := by rw [← hsz]; exact Nat.le_trans b1' hc.2.1
  obtain ⟨w', arr', r1, r2, r3, r4, r5, r6, r7, r8, r9, r10⟩ := run_stc (P := P) (off := off) xs 0 arr w hh (by rw [g1, hsz]; omega) g5 (fun j h1 h2 => thaw_ok hf b2 j (by omega) (by omega))
  have hc' := RC_st hc b1' g1 g2 g3 g4 r5 (fun j hj => r6 j (by omega)) (fun j x hx => by have := r7 j x hx; rwa [Nat.add_zero] at this)
  obtain ⟨q1, q2⟩ := wr.write (wr.lt hm) (by rw [hb]; trivial) hm (.c el fz ex N cs') (.cells arr' el (lo, hi)) ⟨arr', lo, hi, rfl, by rw [r5, hsz], hx, hc', hf⟩ r2 r3 r4 r8 r9 r10
  exact ⟨g1, g5, w', _, r1, q1, q2, e4⟩
end
end Go.Ev
