/-
  Part of a proof: an evaluator of the model's code over abstract memory, and that it is sound against the model's weakest preconditions; no conditions.
-/
import Derived.Test.YtbccefdijpmkbaaGreatDoorHvE
import Derived.LoopNIn
set_option linter.constructorNameAsVariable false
set_option linter.unusedVariables false
set_option linter.unusedSimpArgs false
set_option linter.unusedSectionVars false
set_option linter.constructorNameAsVariable false
set_option linter.unusedVariables false
set_option linter.unusedSimpArgs false
set_option linter.unusedSectionVars false
namespace Go.Ev
open Go
noncomputable section
variable [Un]
variable {P : Program} {E : Env} {ro : Option Nat} {nt : Nat}

def exE (e : Ex) : Exit := match e with | .exit id => .exit id | .goto l => .goto l | .ret => .ret
/-- what goes on at a way out -/
def ContX (ro : Option Nat) (nt : Nat) (μ : Mu) (h : H) (w : World) (kx : KX) (Q : Exit → Act → World → Prop) : Prop := ∀ e, Cont ro nt μ h w (kx e) (Q (exE e))
theorem ContX.ext {μ μ1 : Mu} {h h1 : H} {w w1 : World} {kx : KX} {Q : Exit → Act → World → Prop} (c : ContX ro nt μ h w kx Q) (e : Ext μ h w μ1 h1 w1) : ContX ro nt μ1 h1 w1 kx Q := fun x => (c x).ext e

/-- what is asked of the evaluator of code -/
def DSo (P : Program) (ro : Option Nat) (nt : Nat) (d : Tm → H → V → K2 → KX → Bool) (c : Code) : Prop :=
  ∀ μ T h D a w kn kx Q, St ro nt μ T h D a w → d T h D kn kx = true → Cont ro nt μ h w kn (Q .normal) → ContX ro nt μ h w kx Q → c.wpIn (Fw ro) 0 P Q a w
structure QOK (P : Program) (ro : Option Nat) (nt : Nat) (q : Q) : Prop where
  cs : CallS P q.call
  rnd : q.rnd = ro.isSome
  far : ∀ c, DSo P ro nt (q.far c) c

/-! ### scopes -/
section
variable {F : Fence} {n : Nat} {b : Frame} {a : Act} {k : List Item} {cs : List Frame} {w : World}
theorem stepR_scope {c : Code} : step P (lone (b.atR a (.code (.scope c) :: k)) cs w) = .next (lone (b.atR a (.code c :: .inScope c :: k)) cs w) :=
  step_lone_go (by simp [stepG, stepG.exec, Frame.atR])
theorem stepR_inScope {c : Code} : step P (lone (b.atR a (.inScope c :: k)) cs w) = .next (lone (b.atR a k) cs w) :=
  step_lone_go (by simp [stepG, stepG.exec, Frame.atR])
/-- code within a scope -/
def ScIn (F : Fence) (n : Nat) (P : Program) (c : Code) (Q : Exit → Act → World → Prop) (x : Code) (a : Act) (w : World) : Prop :=
  ∀ (b : Frame) (k : List Item) (cs : List Frame), b.roundOf = F.round → F.fn b.fn → F.room (cs.length + 1 + n) →
    ∃ e a' w', Q e a' w' ∧ ArrivesIn (Machine.fenced P F) P (lone (b.atR a (.code x :: .inScope c :: k)) cs w) b k cs e a' w'
def scQ (F : Fence) (n : Nat) (P : Program) (c : Code) (Q : Exit → Act → World → Prop) : Exit → Act → World → Prop
  | .goto l, a, w => (match findLabel c l with | none => Q (.goto l) a w | some rest => ScIn F n P c Q rest a w)
  | e, a, w => Q e a w
theorem scIn_of {c x : Code} {Q : Exit → Act → World → Prop} (h : x.wpIn F n P (scQ F n P c Q) a w) : ScIn F n P c Q x a w := by
  intro b k cs hro hb hr
  obtain ⟨e, a₁, w₁, hq, harr⟩ := h b (.inScope c :: k) cs hro hb hr
  cases e with
  | normal => exact ⟨.normal, a₁, w₁, hq, StepsIn.trans harr (.one (fenced_calm hb hr rfl) stepR_inScope)⟩
  | exit id =>
    have hx : exitTo id (.inScope c :: k) = exitTo id k := by simp [exitTo]
    exact ⟨_, a₁, w₁, hq, fun k' hk => harr.1 k' (by rw [hx]; exact hk), fun hr' hk => let ⟨k₁, h1, h2⟩ := harr.2 hr' (by rw [hx]; exact hk); ⟨k₁, h1, h2⟩⟩
  | goto l =>
    cases hf : findLabel c l with
    | none =>
      simp only [scQ, hf] at hq
      have hx : gotoIn l (.inScope c :: k) = gotoIn l k := by simp [gotoIn, hf]
      exact ⟨_, a₁, w₁, hq, fun k' hk => harr.1 k' (by rw [hx]; exact hk), fun hr' hk => let ⟨k₁, h1, h2⟩ := harr.2 hr' (by rw [hx]; exact hk); ⟨k₁, h1, h2⟩⟩
    | some rest =>
      simp only [scQ, hf] at hq
      have hg : gotoIn l (.inScope c :: k) = some (.code rest :: .inScope c :: k) := by simp [gotoIn, hf]
      obtain ⟨e2, a2, w2, hq2, harr2⟩ := hq b k cs hro hb hr
      exact ⟨e2, a2, w2, hq2, .of_steps (harr.1 _ hg) harr2⟩
  | ret => exact ⟨_, a₁, w₁, hq, harr⟩
  | panic ch => exact ⟨_, a₁, w₁, hq, harr⟩
  | outgrown => exact ⟨_, a₁, w₁, hq, harr⟩
theorem wpIn_scope {c : Code} {Q : Exit → Act → World → Prop} (h : c.wpIn F n P (scQ F n P c Q) a w) : (Code.scope c).wpIn F n P Q a w := by
  intro b k cs hro hb hr
  obtain ⟨e, a₁, w₁, hq, harr⟩ := scIn_of h b k cs hro hb hr
  exact ⟨e, a₁, w₁, hq, .of_steps (.one (fenced_calm hb hr rfl) stepR_scope) harr⟩
end

/-- the exits within a scope -/
theorem scExit_sound {c : Code} {ih : Code → Tm → H → V → Bool} {kx : KX} {μ : Mu} {h : H} {w : World} {Q : Exit → Act → World → Prop} (hx : ContX ro nt μ h w kx Q)
    (hi : ∀ x, Cont ro nt μ h w (ih x) (ScIn (Fw ro) 0 P c Q x)) : ContX ro nt μ h w (scExit c ih kx) (scQ (Fw ro) 0 P c Q) := by
  intro e μ' h' T' D' a' w' hext st hk
  cases e with
  | exit id => exact hx (.exit id) μ' h' T' D' a' w' hext st hk
  | ret => exact hx .ret μ' h' T' D' a' w' hext st hk
  | goto l =>
    have hk : Option.rec (motive := fun _ => Bool) (kx (.goto l) T' h' D') (fun rest => ih rest T' h' D') (findLabel c l) = true := hk
    show scQ (Fw ro) 0 P c Q (.goto l) a' w'
    cases hf : findLabel c l with
    | none =>
      rw [hf] at hk
      simp only [scQ, hf]
      exact hx (.goto l) μ' h' T' D' a' w' hext st hk
    | some rest =>
      rw [hf] at hk
      simp only [scQ, hf]
      exact hi rest μ' h' T' D' a' w' hext st hk
theorem evFar_sound {q : Q} (qok : QOK P ro nt q) {c : Code} {kn : K2} {kx : KX} {Q : Exit → Act → World → Prop} (n : Nat) : ∀ {μ : Mu} {h : H} {w : World}, Cont ro nt μ h w kn (Q .normal) → ContX ro nt μ h w kx Q → ∀ x, Cont ro nt μ h w (evFar c q kn kx n x) (ScIn (Fw ro) 0 P c Q x) := by
  induction n with
  | zero => intro μ h w _ _ x μ' h' T' D' a' w' _ _ hk; cases hk
  | succ n ih =>
    intro μ h w hc hx x μ' h' T' D' a' w' hext st hk
    have hk : q.far x T' h' D' kn (scExit c (evFar c q kn kx n) kx) = true := hk
    exact scIn_of (qok.far x μ' T' h' D' a' w' kn _ _ st hk (hc.ext hext) (scExit_sound (hx.ext hext) (ih (hc.ext hext) (hx.ext hext))))

/-! ### a range over a function -/
theorem isFn_spec (ok : EnvOK E P) {v : V} (h : isFn E v = true) : ∃ f fst caps fn c, v = .f f fst caps ∧ P.funcs[f]? = some fn ∧ (fn.name == "runtime.NumGoroutine") = false ∧ fn.body = some c := by
  cases v with
  | f f fst caps =>
    have h : hasBody E f = true := h
    unfold hasBody at h
    cases hs : E.sm f with
    | no =>
      cases hf : E.ft f with
      | none => rw [hs, hf] at h; cases h
      | some fn =>
        rw [hs, hf] at h
        simp only at h
        cases hb : fn.body with
        | none => rw [hb] at h; cases h
        | some c => exact ⟨f, fst, caps, fn, c, rfl, (ok.ft f fn hf).1, (ok.ft f fn hf).2, hb⟩
    | _ => rw [hs] at h; cases h
  | _ => cases h
theorem run_enter {f : Nat} {fn : Func} {c : Code} (h1 : P.funcs[f]? = some fn) (h2 : (fn.name == "runtime.NumGoroutine") = false) (h3 : fn.body = some c) (args : Array Value) (w : World) : (callFunc f args).run P w = .ok (.enter f args) w := by
  unfold callFunc
  simp only [Sem.run_bind, run_program, Result.andThen_ok, h1, h2, h3, Option.isNone_some, Bool.false_eq_true, if_false]
  rfl

theorem rf_sound (ok : EnvOK E P) {q : Q} (cs : CallS P q.call) {g : Operand} {ps : Array Tmp} {asn body : Code} {x y : ET} (hr : q.rnd = false) : DSo P none nt (dnRangeFunc g ps asn body x y E nt q) (Code.rangeFunc g ps asn body) := by
  intro μ T h D a w kn kx Q st e hc hx
  unfold dnRangeFunc at e
  rw [hr] at e
  obtain ⟨e1, e2⟩ := boolq_inv e
  have hgo : getO g = gO g := by unfold getO; rw [withO_eq]; rfl
  rw [hgo] at e1 e2
  obtain ⟨f, fst, caps, fnn, c, hg, hf1, hf2, hf3⟩ := isFn_spec ok e1
  obtain ⟨n1, e3⟩ := new_eq _ _ _ e2
  obtain ⟨n2, e4⟩ := new_eq _ _ _ e3
  refine wpIn_rangeFunc fun fn _ => ?_
  -- the two blocks
  have wr1 := st.wr.alloc (w' := w.alloc (.deferred (some []))) n1 .df (.deferred (some [])) 0 rfl rfl rfl rfl rfl
  have rt1 : RT (muAdd μ h.nx w.heap.size 0) nt T a.tmps := st.rt.mono wr1.2.mu
  have hm1 : muAdd μ h.nx w.heap.size 0 h.nx = some (w.heap.size, 0) := muAdd_same ..
  have wr2 := wr1.1.alloc (w' := (w.alloc (.deferred (some []))).alloc (.loop { state := .ready, pending := none, fn, tmps := a.tmps, params := ps, assign := asn, body, defers := w.heap.size })) n2
    (.lp 0 none nt T ps.toList asn body h.nx) (.loop { state := .ready, pending := none, fn, tmps := a.tmps, params := ps, assign := asn, body, defers := w.heap.size }) 0 rfl
    ⟨w.heap.size, 0, a.tmps, fn, by simp, by
      rw [muAdd_ne (by rw [nx_add]; omega)]; exact hm1, rt1.mono (sub_add (wr1.1.fresh _ (Nat.le_refl _)))⟩ rfl rfl rfl
  have hsz : (w.alloc (.deferred (some []))).heap.size = w.heap.size + 1 := by show (w.heap.push _).size = _; simp
  rw [hsz] at wr2
  obtain ⟨μ2, hμ2⟩ : ∃ m, m = muAdd (muAdd μ h.nx w.heap.size 0) (h.add .df).nx (w.heap.size + 1) 0 := ⟨_, rfl⟩
  rw [← hμ2] at wr2
  have hml : μ2 (h.add .df).nx = some (w.heap.size + 1, 0) := by rw [hμ2]; exact muAdd_same ..
  have hmd : μ2 h.nx = some (w.heap.size, 0) := by rw [hμ2, muAdd_ne (by rw [nx_add]; omega)]; exact hm1
  have ext2 := wr1.2.trans wr2.2
  have sub2 : Sub μ μ2 := ext2.mu
  -- the call
  have hgv := eval_rel (st.gm.mono sub2) (st.rt.mono sub2) g
  rw [hg] at hgv
  obtain ⟨as, bs, hfv, ha, hb⟩ := hgv
  have hcall := callV_sound (P := P) cs (gf := gO g) (ga := fun _ => .c (.r (.y (h.add .df).nx)) .n) (fv := a.eval g) (xs := [.func (.yield (w.heap.size + 1)) #[] #[]]) (st.gm.mono sub2) wr2.1 ⟨_, [], rfl, .inl ⟨n2, _, _, hml, rfl⟩, rfl⟩ (eval_rel (st.gm.mono sub2) (st.rt.mono sub2) g) e4
  obtain ⟨fn', first, caps', hq1, hq2⟩ := hcall
  rw [hfv] at hq1
  injection hq1 with q1 q2 q3
  subst q1; subst q2; subst q3
  have hinv : ∀ W : World, (invoke (Deferred.mk (.fn (.func f) bs.toArray) (as.toArray ++ (#[Value.func (.yield (w.heap.size + 1)) #[] #[]] : Array Value))).target (Deferred.mk (.fn (.func f) bs.toArray) (as.toArray ++ (#[Value.func (.yield (w.heap.size + 1)) #[] #[]] : Array Value))).args).run P W = .ok (.enter f (as.toArray ++ (#[Value.func (.yield (w.heap.size + 1)) #[] #[]] : Array Value) ++ bs.toArray)) W := fun W => run_enter hf1 hf2 hf3 _ W
  refine ⟨w.heap.size + 1, [{ target := .collected w.heap.size, args := #[] }], _, Deferred.mk (.fn (.func f) bs.toArray) (as.toArray ++ (#[Value.func (.yield (w.heap.size + 1)) #[] #[]] : Array Value)), ((w.alloc (.deferred (some []))).alloc (.loop { state := .ready, pending := none, fn, tmps := a.tmps, params := ps, assign := asn, body, defers := w.heap.size })), f, as.toArray ++ (#[Value.func (.yield (w.heap.size + 1)) #[] #[]] : Array Value) ++ bs.toArray, _, run_enterLoop_outer fn a.tmps ps asn body, ?_, fun _ _ => trivial, hinv _, fun h => (by cases h), ?_⟩
  · simp only [resolve, rangeCall, hfv, Deferred.ofValue]
    rw [show Array.map a.eval #[Operand.const (Value.func (Fn.yield (w.heap.size + 1)) #[] #[])] = #[Value.func (Fn.yield (w.heap.size + 1)) #[] #[]] from by simp [Act.eval]]
    rfl
  · have hq2 : Nx P _ ((callFunc f (as.toArray ++ #[.func (.yield (w.heap.size + 1)) #[] #[]] ++ bs.toArray)).run P _) := hq2
    rw [run_enter hf1 hf2 hf3] at hq2
    refine CallsIn.mono (show CallsIn Fence.wide 0 P f _ _ _ from hq2) fun en w3 he => ?_
    cases en with
    | panicked ch => exact he.elim
    | outgrown => exact he.elim
    | returned v =>
      obtain ⟨μ3, h3, v3, x1, x2, x3, x4⟩ := he
      unfold rfEnd at x4
      obtain ⟨sst, pj, lf, tm, lps, lasn, lbody, ld, hblk, x5⟩ := qbLp_inv x4
      have hid : (h.add .df).nx < 32768 := n2
      have hml3 : μ3 (h.add .df).nx = some (w.heap.size + 1, 0) := x3.mu _ _ hml
      obtain ⟨c3, n3, o3, m3, hp3, rb⟩ := x2.blk _ hid (by rw [hblk]; simp)
      rw [hml3] at m3
      obtain ⟨rfl, rfl⟩ := Prod.mk.inj (Option.some.inj m3)
      have hwrb : wrb (h3.get (h.add .df).nx) := by rw [hblk]; trivial
      rw [hblk] at rb
      obtain ⟨cd, k3, tmps3, fn3, rfl, hmd3, rtl⟩ := rb
      have hst : sst ≠ 1 := by
        rintro rfl
        cases x5
      have hb1 : Nat.beq sst 1 = false := by
        cases hbb : Nat.beq sst 1 with
        | false => rfl
        | true => rw [Nat.beq_eq] at hbb; exact absurd hbb hst
      rw [hb1] at x5
      have hend := run_endLoop (P := P) hp3 (by
        simp only
        intro hbusy
        match sst, hst, hbusy with
        | 0, _, h => cases h
        | 1, h, _ => exact h rfl
        | n + 2, _, h => cases h)
      refine ⟨_, _, hend, ?_⟩
      have wr4 := x2.write (w' := w3.putObj (w.heap.size + 1) _) hid hwrb hml3 .x (.loop { state := .exhausted, pending := pj.map exC, fn := fn3, tmps := tmps3, params := lps.toArray, assign := lasn, body := lbody, defers := cd }) trivial World.putObj_size (World.putObj_heap_same (lt_size hp3)) (fun c' hc' => World.putObj_heap_other hc') rfl rfl rfl
      have ext4 := (ext2.trans x3).trans wr4.2
      have sub4 : Sub μ μ3 := ext4.mu
      have st4 : St none nt μ3 T (h3.put (h.add .df).nx .x) (.c (.r (.y h.nx)) D) { a with defers := [{ target := .collected w.heap.size, args := #[] }] ++ a.defers } (w3.putObj (w.heap.size + 1) (.loop { state := .exhausted, pending := pj.map exC, fn := fn3, tmps := tmps3, params := lps.toArray, assign := lasn, body := lbody, defers := cd })) :=
        ⟨st.gm.mono sub4, st.rt.mono sub4, wr4.1, ⟨_, _, rfl, ⟨w.heap.size, 0, x3.mu _ _ hmd, rfl⟩, st.dr.mono sub4⟩⟩
      cases pj with
      | none => exact hc μ3 _ T _ _ _ ext4 st4 x5
      | some e =>
        have hx' := hx e μ3 _ T _ _ _ ext4 st4 x5
        cases e with
        | exit id => exact wpIn_exit hx'
        | goto l => exact wpIn_goto hx'
        | ret => exact wpIn_ret hx'

/-! ### code -/
theorem den_sound (ok : EnvOK E P) (sok : SumOK E P) {q : Q} (qok : QOK P ro nt q) (c : Code) : DSo P ro nt (den c E nt q) c := by
  induction c with
  | skip => intro μ T h D a w kn kx Q st e hc hx; exact wpIn_skip (hc μ h T D a w (Ext.refl ..) st e)
  | label l => intro μ T h D a w kn kx Q st e hc hx; exact wpIn_label (hc μ h T D a w (Ext.refl ..) st e)
  | exit id => intro μ T h D a w kn kx Q st e hc hx; exact wpIn_exit (hx (.exit id) μ h T D a w (Ext.refl ..) st e)
  | goto l => intro μ T h D a w kn kx Q st e hc hx; exact wpIn_goto (hx (.goto l) μ h T D a w (Ext.refl ..) st e)
  | ret => intro μ T h D a w kn kx Q st e hc hx; exact wpIn_ret (hx .ret μ h T D a w (Ext.refl ..) st e)
  | refuse s => intro μ T h D a w kn kx Q st e hc hx; cases e
  | region id ops draw =>
    intro μ T h D a w kn kx Q st e hc hx
    have e : dnRg (cReg E nt ops draw) q.call T h D kn = true := e
    cases draw with
    | false => exact region_plain ok sok qok.cs st e hc
    | true =>
      unfold cReg at e
      simp only at e
      cases hd : cDraw E nt ops with
      | some l =>
        rw [hd] at e
        unfold cDraw at hd
        cases hok : okRows ops (befs ops.toList []) (AR E nt ops) (AR E nt ops) with
        | false => rw [hok] at hd; cases hd
        | true =>
          rw [hok] at hd
          obtain rfl := Option.some.inj hd
          exact region_draw ok sok qok.cs hok st e hc
      | none =>
        rw [hd] at e
        have e : dnRg (cTail E nt ops) q.call T h D kn = true := e
        unfold cTail at e
        by_cases hsz : ops.size = 0
        · obtain rfl := Array.eq_empty_of_size_eq_zero hsz
          cases e
        · obtain ⟨bs, oL, rfl⟩ := Array.eq_push_of_size_ne_zero hsz
          simp only [Array.back?_push, Array.pop_push] at e
          cases hc1 : (isGood (cOp E (nt, bs.push oL) oL) && edgesOk oL.after.toList bs.size && sub (Nat.pred (Nat.shiftLeft 1 bs.size)) ((befs (bs.push oL).toList []).getD bs.size 0)) with
          | false => rw [hc1] at e; cases e
          | true =>
            rw [hc1] at e
            simp only [Bool.and_eq_true] at hc1
            cases hd2 : cDraw E nt bs with
            | none => rw [hd2] at e; cases e
            | some l =>
              rw [hd2] at e
              unfold cDraw at hd2
              cases hok : okRows bs (befs bs.toList []) (AR E nt bs) (AR E nt bs) with
              | false => rw [hok] at hd2; cases hd2
              | true =>
                rw [hok] at hd2
                obtain rfl := Option.some.inj hd2
                exact region_tail ok sok qok.cs hok hc1.1.1 hc1.1.2 hc1.2 st e hc
  | seq x y ihx ihy =>
    intro μ T h D a w kn kx Q st e hc hx
    refine wpIn_seq (ihx μ T h D a w (fun T h D => den y E nt q T h D kn kx) kx _ st e ?_ ?_)
    · intro μ' h' T' D' a' w' hext st' hk
      exact ihy μ' T' h' D' a' w' kn kx Q st' hk (hc.ext hext) (hx.ext hext)
    · intro ex
      have := hx ex
      cases ex <;> exact this
  | cond x c1 c2 ih1 ih2 =>
    intro μ T h D a w kn kx Q st e hc hx
    have e : dnCond x c1 c2 (den c1) (den c2) E nt q T h D kn kx = true := e
    unfold dnCond at e
    have hgo : getO x = gO x := by unfold getO; rw [withO_eq]; rfl
    rw [hgo] at e
    obtain ⟨t, e1, e2⟩ := qB_inv e
    have hv := eval_rel st.gm st.rt x
    rw [e1] at hv
    refine wpIn_cond (t := t) hv ?_
    cases t with
    | true => exact ih1 μ T h D a w kn kx Q st e2 hc hx
    | false => exact ih2 μ T h D a w kn kx Q st e2 hc hx
  | block id c ih =>
    intro μ T h D a w kn kx Q st e hc hx
    refine wpIn_block (ih μ T h D a w kn (blkExit id kn kx) _ st e hc ?_)
    intro ex μ' h' T' D' a' w' hext st' hk
    cases ex with
    | exit id' =>
      have hk : Bool.rec (motive := fun _ => Bool) (kx (.exit id') T' h' D') (kn T' h' D') (Nat.beq id' id) = true := hk
      show Exit.inBlock id Q (.exit id') a' w'
      cases hb : Nat.beq id' id with
      | true =>
        rw [hb] at hk
        rw [Nat.beq_eq] at hb
        have hk' : kn T' h' D' = true := hk
        simp only [Exit.inBlock, hb, if_true]
        exact hc μ' h' T' D' a' w' hext st' hk'
      | false =>
        rw [hb] at hk
        have hne : id' ≠ id := fun he => by subst he; simp at hb
        simp only [Exit.inBlock, hne, if_false]
        exact hx (.exit id') μ' h' T' D' a' w' hext st' hk
    | goto l => exact hx (.goto l) μ' h' T' D' a' w' hext st' hk
    | ret => exact hx .ret μ' h' T' D' a' w' hext st' hk
  | loop c ih =>
    intro μ T h D a w kn kx Q st e hc hx
    have e : evLoop (den c E nt) q kx loopFuel T h D = true := e
    generalize loopFuel = m at e
    refine wpIn_loop_rounds m ?_
    clear hc
    rename_i e0
    clear e0
    induction m generalizing μ T h D a w with
    | zero => cases e
    | succ m ihm =>
      rw [roundsIn_succ]
      have e : den c E nt q T h D (evLoop (den c E nt) q kx m) kx = true := e
      refine ih μ T h D a w _ kx _ st e ?_ ?_
      · intro μ' h' T' D' a' w' hext st' hk
        exact ihm μ' T' h' D' a' w' st' (hx.ext hext) hk
      · intro ex
        have := hx ex
        cases ex <;> exact this
  | scope c ih =>
    intro μ T h D a w kn kx Q st e hc hx
    refine wpIn_scope (ih μ T h D a w kn _ _ st e hc ?_)
    exact scExit_sound hx (evFar_sound qok loopFuel hc hx)
  | rangeFunc g ps asn body ih1 ih2 =>
    cases ro with
    | none => exact rf_sound (x := den asn) (y := den body) ok qok.cs qok.rnd
    | some l =>
      intro μ T h D a w kn kx Q st e hc hx
      have e : dnRangeFunc g ps asn body (den asn) (den body) E nt q T h D kn kx = true := e
      unfold dnRangeFunc at e
      have hr : q.rnd = true := qok.rnd
      rw [hr] at e
      cases e

theorem denN_sound (ok : EnvOK E P) (sok : SumOK E P) {call : C} (cs : CallS P call) {rnd : Bool} (hr : rnd = ro.isSome) (n : Nat) : ∀ c, DSo P ro nt (denN E nt call rnd n c) c := by
  induction n with
  | zero => intro c μ T h D a w kn kx Q _ e; cases e
  | succ n ih =>
    intro c
    exact den_sound ok sok (q := .mk call (denN E nt call rnd n) rnd) ⟨cs, hr, ih⟩ c
theorem dn_sound (ok : EnvOK E P) (sok : SumOK E P) {call : C} (cs : CallS P call) {rnd : Bool} (hr : rnd = ro.isSome) (c : Code) : DSo P ro nt (dn E nt call rnd c) c := denN_sound ok sok cs hr 4 c
end
end Go.Ev

set_option linter.constructorNameAsVariable false
set_option linter.unusedVariables false
set_option linter.unusedSimpArgs false
set_option linter.unusedSectionVars false
namespace Go.Ev
open Go
noncomputable section
variable [Un]
variable {P : Program} {E : Env} {ro : Option Nat} {nt : Nat}

/-! ### a function's results -/
theorem fLoad_run (ok : EnvOK E P) {t : Nat} {d : TypeDesc} (hd : E.und t = some d) {μ : Mu} {h : H} {w : World} (wr : WR μ h w) {u v : V} {x : Value} (hx : RV μ u x) (e : fLoad (E.isAg t) (E.szOf t) u h = some v) :
    ∃ ad y, x = .pointer (some ad) ∧ (loadVar t ad).run P w = .ok y w ∧ RV μ v y := by
  unfold fLoad at e
  obtain ⟨id, off, e1, e2⟩ := oPt_inv e
  rw [e1] at hx
  obtain ⟨c, n, hm, hp⟩ := oPt_rr hx
  have hag := run_isAgg ok hd w
  cases ha : E.isAg t with
  | false =>
    rw [ha] at e2 hag
    obtain ⟨z, h1, h2⟩ := ld_sound wr e2 hm
    refine ⟨_, z, hp, ?_, h2⟩
    unfold loadVar
    simp only [Sem.run_bind, hag, Result.andThen_ok, Bool.false_eq_true, if_false]
    exact run_load_cell h1 _
  | true =>
    rw [ha] at e2 hag
    obtain ⟨l, h1, e3⟩ := opt_inv e2
    obtain rfl := Option.some.inj e3
    obtain ⟨arr, el, fr, hh, hle, hsz, hr⟩ := lds_sound wr h1 hm
    refine ⟨_, .agg ((arr.toList.drop off).take (E.szOf t)).toArray, hp, ?_, ⟨_, rfl, hr⟩⟩
    unfold loadVar
    simp only [Sem.run_bind, hag, Result.andThen_ok, if_true, run_sizeU ok hd w, run_loadCells hh off _ hle]
    rfl

def resRun (tmps : Array Value) (r : ResultVar) : Sem Value := match r with
  | .tmp t => pure (tmps.getD t undef)
  | .cell a t => do loadVar t (← asAddr (tmps.getD a undef))
theorem results_eq (fn : Func) (tmps : Array Value) : results fn tmps = (do let vs ← fn.results.mapM (resRun tmps); pure (if h : vs.size = 1 then vs[0] else .tuple vs)) := by
  unfold results
  congr 1
theorem resOne_eq (E : Env) (r : ResultVar) (k : (Tm → H → Option V) → (Tm → H → Option V)) (hk : ∀ T h, k (fun _ _ => none) T h = none) : ∀ T h v, resOne E r k T h = some v → ∃ f, k f T h = some v ∧
    ((∃ t, r = .tmp t ∧ f = fun T _ => some (rd t T)) ∨ ∃ a t d, r = .cell a t ∧ E.und t = some d ∧ f = fun T h => fLoad (E.isAg t) (E.szOf t) (rd a T) h) := by
  intro T h v e
  cases r with
  | tmp t => simp only [resOne, withR_eq] at e; exact ⟨_, e, .inl ⟨t, rfl, rfl⟩⟩
  | cell a t =>
    simp only [resOne, withR_eq] at e
    cases hd : E.und t with
    | none => rw [hd] at e; cases e
    | some d => rw [hd] at e; exact ⟨_, e, .inr ⟨a, t, d, rfl, hd, rfl⟩⟩
theorem one_run (ok : EnvOK E P) {μ : Mu} {T : Tm} {h : H} {w : World} {tmps : Array Value} (rt : RT μ nt T tmps) (wr : WR μ h w) {r : ResultVar} {f : Tm → H → Option V} {v : V}
    (hf : (∃ t, r = .tmp t ∧ f = fun T _ => some (rd t T)) ∨ ∃ a t d, r = .cell a t ∧ E.und t = some d ∧ f = fun T h => fLoad (E.isAg t) (E.szOf t) (rd a T) h) (e : f T h = some v) :
    ∃ y, (resRun tmps r).run P w = .ok y w ∧ RV μ v y := by
  rcases hf with ⟨t, rfl, rfl⟩ | ⟨a, t, d, rfl, hd, rfl⟩
  · obtain rfl := Option.some.inj e
    exact ⟨_, rfl, (rt.2 t).2⟩
  · obtain ⟨ad, y, h1, h2, h3⟩ := fLoad_run ok hd wr (rt.2 a).2 e
    refine ⟨y, ?_, h3⟩
    simp only [resRun, h1, asAddr, Sem.run_bind, Sem.run_pure, Result.andThen_ok]
    exact h2
theorem resL_run (ok : EnvOK E P) {μ : Mu} {T : Tm} {h : H} {w : World} {tmps : Array Value} (rt : RT μ nt T tmps) (wr : WR μ h w) (l : List ResultVar) : ∀ v, resL E l T h = some v →
    ∃ ys, (l.mapM (resRun tmps)).run P w = .ok ys w ∧ RL μ v ys := by
  induction l with
  | nil => intro v e; obtain rfl := Option.some.inj e; exact ⟨[], rfl, rfl⟩
  | cons r l ih =>
    intro v e
    obtain ⟨f, e1, hf⟩ := resOne_eq E r (fun (f : Tm → H → Option V) (T : Tm) (h : H) => Option.rec (motive := fun _ => Option V) none (fun v => Option.rec (motive := fun _ => Option V) none (fun m => some (V.c v m)) (resL E l T h)) (f T h)) (fun _ _ => rfl) T h v e
    obtain ⟨a, e2, e3⟩ := opt_inv e1
    obtain ⟨m, e4, e5⟩ := opt_inv e3
    obtain rfl := Option.some.inj e5
    obtain ⟨y, y1, y2⟩ := one_run ok rt wr hf e2
    obtain ⟨ys, z1, z2⟩ := ih m e4
    refine ⟨y :: ys, ?_, ⟨y, ys, rfl, y2, z2⟩⟩
    rw [List.mapM_cons]
    simp only [Sem.run_bind, y1, Result.andThen_ok, z1, Sem.run_pure]
theorem resV_run (ok : EnvOK E P) {μ : Mu} {T : Tm} {h : H} {w : World} {tmps : Array Value} (rt : RT μ nt T tmps) (wr : WR μ h w) (fn : Func) {v : V} (e : resV E fn.results.toList T h = some v) :
    ∃ y, (results fn tmps).run P w = .ok y w ∧ RV μ v y := by
  rw [results_eq]
  have harr : fn.results.mapM (resRun tmps) = (do let l ← fn.results.toList.mapM (resRun tmps); pure l.toArray) := by
    rw [Array.mapM_eq_mapM_toList]
    rfl
  rw [harr]
  generalize fn.results.toList = l at e
  have gen : ∀ v, resL E l T h = some v → l.length ≠ 1 → ∃ y, (do let vs ← (do let l ← l.mapM (resRun tmps); pure l.toArray : Sem (Array Value)); pure (if h : vs.size = 1 then vs[0] else .tuple vs) : Sem Value).run P w = .ok y w ∧ RV μ (.t v) y := fun v e hl => by
    obtain ⟨ys, z1, z2⟩ := resL_run ok rt wr l v e
    have hlen : ys.length = l.length := by
      have : ∀ (l : List ResultVar) (ys : List Value) (w w' : World), (l.mapM (resRun tmps)).run P w = .ok ys w' → ys.length = l.length := by
        intro l
        induction l with
        | nil => intro ys w w' h; cases h; rfl
        | cons r l ih =>
          intro ys w w' h
          rw [List.mapM_cons, Sem.run_bind] at h
          cases h1 : (resRun tmps r).run P w with
          | halt x w1 => rw [h1] at h; cases h
          | ok y w1 =>
            rw [h1] at h
            simp only [Result.andThen_ok, Sem.run_bind] at h
            cases h2 : (l.mapM (resRun tmps)).run P w1 with
            | halt x w2 => rw [h2] at h; cases h
            | ok zs w2 =>
              rw [h2] at h
              cases h
              simp [ih zs w1 _ h2]
      exact this l ys w w z1
    refine ⟨.tuple ys.toArray, ?_, ⟨ys, rfl, z2⟩⟩
    simp only [Sem.run_bind, z1, Result.andThen_ok, Sem.run_pure]
    rw [dif_neg (by simp; omega)]
  cases l with
  | nil =>
    have e : some (V.t .n) = some v := e
    obtain rfl := Option.some.inj e
    exact gen .n rfl (by simp)
  | cons r l =>
    cases l with
    | nil =>
      have e : resOne E r id T h = some v := e
      obtain ⟨f, e1, hf⟩ := resOne_eq E r id (fun _ _ => rfl) T h v e
      obtain ⟨y, y1, y2⟩ := one_run ok rt wr hf e1
      refine ⟨y, ?_, y2⟩
      rw [List.mapM_cons, List.mapM_nil]
      simp only [Sem.run_bind, y1, Result.andThen_ok, Sem.run_pure]
      simp
    | cons r' l =>
      have e : (Option.rec (motive := fun _ => Option V) none (fun m : V => some (V.t m)) (resL E (r :: r' :: l) T h)) = some v := e
      obtain ⟨m, e1, e2⟩ := opt_inv (α := V) (β := V) (f := fun m => some (V.t m)) e
      obtain rfl := Option.some.inj e2
      exact gen m e1 (by simp)

/-! ### deferred calls -/
theorem CallsDIn.mono' {F : Fence} {n : Nat} {f : FuncId} {args : Array Value} {u : FrameMode} {w : World} {R R' : Ending → FrameMode → World → Prop} (h : CallsDIn F n P f args u w R) (hr : ∀ e u w, R e u w → R' e u w) : CallsDIn F n P f args u w R' :=
  ⟨h.1, fun c cs hm hroom => let ⟨e, u', w', fr, r, rest⟩ := h.2 c cs hm hroom; ⟨e, u', w', fr, hr _ _ _ r, rest⟩⟩

theorem evDefers_sound (sok : SumOK E P) {fn : Func} {tmps : Array Value} {R : Ending → World → Prop} {μ : Mu} {k : H → Bool} (n : Nat) : ∀ (D : V) (h : H) (w : World) (ds : List Deferred), WR μ h w → RDL μ D ds → evDefers E n D h k = true →
    (∀ h' w', Ext μ h w μ h' w' → WR μ h' w' → k h' = true → ∃ v, (results fn tmps).run P w' = .ok v w' ∧ R (.returned v) w') → LeavesInM Fence.wide 0 P fn tmps R ds .returning w := by
  induction n with
  | zero => intro D h w ds _ _ e; cases e
  | succ n ih =>
    intro D h w ds wr hD e hk
    cases ds with
    | nil =>
      obtain rfl : D = .n := hD
      exact hk h w (Ext.refl ..) wr e
    | cons d ds =>
      obtain ⟨v, D', rfl, hd, hD'⟩ := hD
      show FrameMode.returning ≠ .run ∧ _
      refine ⟨(by intro h; cases h), ?_⟩
      cases v with
      | f f a b =>
        obtain ⟨xs, ys, rfl, _, _⟩ := hd
        obtain ⟨e1, e2⟩ : E.ds f = true ∧ evDefers E n D' h k = true := boolq_inv e
        obtain ⟨fnn, h1, h2, h3, h4⟩ := sok.ds f e1
        have hb : ∃ c, fnn.body = some c := by
          cases hb : fnn.body with
          | none => rw [hb] at h3; cases h3
          | some c => exact ⟨c, rfl⟩
        obtain ⟨c, hc⟩ := hb
        refine .inr ⟨fun h => (by cases h), .func f, ys.toArray, f, xs.toArray ++ ys.toArray, rfl, run_enter h1 h2 hc _ _, fun _ _ => trivial, ?_⟩
        refine CallsDIn.mono' (h4 _ w) fun en u w' ⟨⟨v, hv⟩, hu, hw⟩ => ?_
        subst hv; subst hu; subst hw
        exact ih D' h w' ds wr hD' e2 hk
      | r r =>
        cases r with
        | y b =>
          obtain ⟨c, m, hm, htar⟩ := hd
          obtain ⟨e1, e2⟩ := qbDf_inv (show qbDf (evDefers E n D' (H.put h b .x) k) (H.get h b) = true from e)
          have hid := wr.lt hm
          obtain ⟨c', m', o, hm', hp, rb⟩ := wr.blk b hid (by rw [e1]; simp)
          rw [hm] at hm'
          obtain ⟨rfl, rfl⟩ := Prod.mk.inj (Option.some.inj hm')
          rw [e1] at rb
          have ho : o = .deferred (some []) := rb
          subst ho
          refine .inl ⟨c, _, htar, run_takeDeferred hp, ?_⟩
          have w4 := wr.write (w' := w.putObj c (.deferred none)) hid (by rw [e1]; trivial) hm .x (.deferred none) trivial World.putObj_size (World.putObj_heap_same (lt_size hp)) (fun c' hc' => World.putObj_heap_other hc') rfl rfl rfl
          exact ih D' _ _ ds w4.1 hD' e2 fun h' w' x1 x2 x3 => hk h' w' (w4.2.trans x1) x2 x3
        | _ => exact hd.elim
      | _ => exact hd.elim
theorem evDef_sound (sok : SumOK E P) {fn : Func} {tmps : Array Value} {R : Ending → World → Prop} {μ : Mu} {k : H → Bool} {D : V} {h : H} {w : World} {ds : List Deferred} (wr : WR μ h w) (hD : RDL μ D ds) (e : evDef E D h k = true)
    (hk : ∀ h' w', Ext μ h w μ h' w' → WR μ h' w' → k h' = true → ∃ v, (results fn tmps).run P w' = .ok v w' ∧ R (.returned v) w') : LeavesInM Fence.wide 0 P fn tmps R ds .returning w := by
  cases ds with
  | nil =>
    obtain rfl : D = .n := hD
    exact hk h w (Ext.refl ..) wr e
  | cons d ds =>
    obtain ⟨v, D', hDe, h1, h2⟩ := id hD
    subst hDe
    exact evDefers_sound sok 1000 _ h w (d :: ds) wr hD e hk

/-! ### arguments -/
theorem wrN_eq (nt t : Nat) (v : V) (T : Tm) : wrN nt t v T = pD nt (some t) v T := by
  unfold wrN pD
  cases h : Nat.ble (Nat.succ t) nt with
  | true => have := le_of_ble h; simp only; rw [if_pos (by omega)]
  | false =>
    simp only
    rw [if_neg]
    intro hlt
    rw [ble_t (show t + 1 ≤ nt by omega)] at h
    cases h
theorem rd_none (t : Nat) : rd t t3V = .u := by
  by_cases h : t < 512
  · rw [rd_lt h]; unfold t3V t2V t1V; rw [T3.get_all, T2.get_all, T1.get_all]
  · rw [rd_ge h]
theorem putArgs_sound {μ : Mu} (ts : Array Value) (n : Nat) : ∀ (i : Nat) (l : V) (T T' : Tm) (xs : List Value), putArgs nt n i l T = some T' → RL μ l xs → (∀ j x, xs[j]? = some x → ts[i + j]? = some x) →
    (∀ t, (nt ≤ t → rd t T = .u) ∧ RV μ (rd t T) (ts.getD t undef)) → ∀ t, (nt ≤ t → rd t T' = .u) ∧ RV μ (rd t T') (ts.getD t undef) := by
  induction n with
  | zero => intro i l T T' xs e; cases e
  | succ n ih =>
    intro i l T T' xs e hl hx hT
    cases l with
    | n => obtain rfl := Option.some.inj e; exact hT
    | c v l =>
      obtain ⟨x, xs', rfl, h1, h2⟩ := hl
      refine ih (i + 1) l (wrN nt i v T) T' xs' e h2 (fun j y hj => ?_) fun t => ?_
      · have := hx (j + 1) y (by simpa using hj)
        rwa [show i + 1 + j = i + (j + 1) by omega]
      · rw [wrN_eq]
        unfold pD
        simp only
        by_cases hi : i < nt
        · rw [if_pos hi]
          by_cases ht : t = i
          · subst ht
            refine ⟨fun h => absurd h (by omega), ?_⟩
            by_cases h256 : t < 512
            · rw [rd_wr_same h256]
              have h0 := hx 0 x rfl
              rw [Nat.add_zero] at h0
              rw [Array.getD_eq_getD_getElem?, h0]
              exact h1
            · rw [rd_ge h256]; trivial
          · rw [rd_wr_ne ht]; exact hT t
        · rw [if_neg hi]; exact hT t
    | _ => cases e
theorem putL_sound {μ : Mu} (ps : List Nat) : ∀ (l : V) (T T' : Tm) (xs : List Value) (ts : Array Value), putL nt ps l T = some T' → RL μ l xs → RT μ nt T ts →
    ps.length = xs.length ∧ RT μ nt T' ((ps.zip xs).foldl (fun tmps (p : Nat × Value) => tmps.setIfInBounds p.1 p.2) ts) := by
  induction ps with
  | nil =>
    intro l T T' xs ts e hl rt
    obtain ⟨e1, e2⟩ : qN true l = true ∧ some T = some T' := by
      have e : Bool.rec (motive := fun _ => Option Tm) none (some T) (qN true l) = some T' := e
      exact bool_inv e
    obtain ⟨rfl, _⟩ := qN_inv e1
    obtain rfl : xs = [] := hl
    obtain rfl := Option.some.inj e2
    exact ⟨rfl, rt⟩
  | cons p ps ih =>
    intro l T T' xs ts e hl rt
    cases l with
    | c v l =>
      obtain ⟨x, xs', rfl, h1, h2⟩ := hl
      have e : putL nt ps l (wrN nt p v T) = some T' := e
      rw [wrN_eq] at e
      have rt1 := rt_put (a := { tmps := ts, defers := [] }) rt h1 (some p)
      obtain ⟨g1, g2⟩ := ih l _ T' xs' _ e h2 rt1
      exact ⟨by simp [g1], g2⟩
    | _ => cases e

/-! ### rounds -/
theorem evRound_sound (ok : EnvOK E P) (sok : SumOK E P) {call : C} (cs : CallS P call) {l : Nat} {args : V} {h : H} {k : K1} (e : evRound E call l args h k = true) {μ : Mu} {w : World} {xs : List Value} {c n : Nat} (hm : μ l = some (c, n)) (gm : GM μ) (wr : WR μ h w) (hr : RL μ args xs) :
    Nx P (PK μ h w k) ((Instr.yield c xs.toArray).run P w) := by
  unfold evRound at e
  obtain ⟨sst, pj, fn, tm, ps, asn, body, d, hblk, e1⟩ := qbLp_inv e
  obtain ⟨e2, e3⟩ := boolq_inv e1
  obtain ⟨T, e4, e5⟩ := optq_inv e3
  have hid := wr.lt hm
  obtain ⟨c', n', o, hm', hp, rb⟩ := wr.blk l hid (by rw [hblk]; simp)
  rw [hm] at hm'
  obtain ⟨rfl, rfl⟩ := Prod.mk.inj (Option.some.inj hm')
  rw [hblk] at rb
  obtain ⟨cd, kd, tmps, fid, rfl, hmd, rt⟩ := rb
  obtain ⟨hlen, rt1⟩ := putL_sound ps args tm T xs tmps e4 hr rt
  rw [run_yield hp (by simp [hlen])]
  have hfold : ((ps.toArray.zip xs.toArray).foldl (fun tmps (p : Nat × Value) => tmps.setIfInBounds p.1 p.2) tmps) = (ps.zip xs).foldl (fun tmps (p : Nat × Value) => tmps.setIfInBounds p.1 p.2) tmps := by
    rw [← Array.foldl_toList, Array.toList_zip]
  show RoundIn Fence.wide 0 P c fid ((ps.toArray.zip xs.toArray).foldl (fun tmps (p : Nat × Value) => tmps.setIfInBounds p.1 p.2) tmps) asn body w _
  rw [hfold]
  refine roundIn_of_wpIn trivial ?_
  have hdn := dn_sound (E := E) (P := P) (ro := some c) (nt := fn) ok sok cs (rnd := true) rfl asn
  refine hdn μ T h .u _ w _ _ _ ⟨gm, rt1, wr, rfl⟩ e5 ?_ (fun ex μ' h' T' D' a' w' _ _ hk => by cases hk)
  intro μ1 h1 T1 D1 a1 w1 ext1 st1 hk1
  obtain ⟨sst1, pj1, fn1, tm1, ps1, asn1, body1, d1, hblk1, f1⟩ := qbLp_inv hk1
  obtain ⟨f2, f3⟩ := boolq_inv f1
  rw [Nat.beq_eq] at f2; subst f2
  have hm1 := ext1.mu _ _ hm
  obtain ⟨c', n', o, hm', hp1, rb1⟩ := st1.wr.blk l hid (by rw [hblk1]; simp)
  rw [hm1] at hm'
  obtain ⟨rfl, rfl⟩ := Prod.mk.inj (Option.some.inj hm')
  rw [hblk1] at rb1
  obtain ⟨cd1, kd1, tmps1, fid1, rfl, hmd1, rtl1⟩ := rb1
  refine ⟨_, run_beginRound hp1 rfl, ?_⟩
  have wr2 := st1.wr.write (w' := w1.putObj c _) hid (by rw [hblk1]; trivial) hm1 (.lp 1 pj1 fn1 tm1 ps1 asn1 body1 d1) (.loop { state := .busy, pending := pj1.map exC, fn := fid1, tmps := tmps1, params := ps1.toArray, assign := asn1, body := body1, defers := cd1 })
    ⟨cd1, kd1, tmps1, fid1, rfl, hmd1, rtl1⟩ World.putObj_size (World.putObj_heap_same (lt_size hp1)) (fun c' hc' => World.putObj_heap_other hc') rfl rfl rfl
  have hdn2 := dn_sound (E := E) (P := P) (ro := some c) (nt := fn) ok sok cs (rnd := true) rfl body
  -- the round's end
  have fin : ∀ (pj' : Option Ex) (st' : Nat) (b : Bool), b = pj'.isNone → (match st' with | 0 => LoopState.ready | 1 => .busy | _ => .done) = (if pj'.isNone then .ready else .done) → ∀ μ2 h2 T2 D2 a2 w2, Ext μ1 (h1.put l (.lp 1 pj1 fn1 tm1 ps1 asn1 body1 d1)) (w1.putObj c (.loop { state := .busy, pending := pj1.map exC, fn := fid1, tmps := tmps1, params := ps1.toArray, assign := asn1, body := body1, defers := cd1 })) μ2 h2 w2 → St (some c) fn μ2 T2 h2 D2 a2 w2 →
      qbLp (fun st _ fn3 tm3 ps3 asn3 body3 d3 => Bool.casesOn (Nat.beq st 1) false (k (.b b) (H.put h2 l (.lp st' pj' fn3 tm3 ps3 asn3 body3 d3)))) (H.get h2 l) = true →
      ∃ v w', (Instr.endRound c (pj'.map exC)).run P w2 = .ok v w' ∧ PK μ h w k v w' := by
    intro pj' st' b hb hst μ2 h2 T2 D2 a2 w2 ext2 st2 hk2
    obtain ⟨sst2, pj2, fn2, tm2, ps2, asn2, body2, d2, hblk2, g1⟩ := qbLp_inv hk2
    obtain ⟨g2, g3⟩ := boolq_inv g1
    have hm2 := ext2.mu _ _ hm1
    obtain ⟨c', n', o, hm', hp2, rb2⟩ := st2.wr.blk l hid (by rw [hblk2]; simp)
    rw [hm2] at hm'
    obtain ⟨rfl, rfl⟩ := Prod.mk.inj (Option.some.inj hm')
    rw [hblk2] at rb2
    obtain ⟨cd2, kd2, tmps2, fid2, rfl, hmd2, rtl2⟩ := rb2
    refine ⟨_, _, run_endRound (pj'.map exC) hp2, ?_⟩
    have hnone : (pj'.map exC).isNone = pj'.isNone := by cases pj' <;> rfl
    have wr3 := st2.wr.write (w' := w2.putObj c _) hid (by rw [hblk2]; trivial) hm2 (.lp st' pj' fn2 tm2 ps2 asn2 body2 d2) (.loop { state := if (pj'.map exC).isNone then .ready else .done, pending := pj'.map exC, fn := fid2, tmps := tmps2, params := ps2.toArray, assign := asn2, body := body2, defers := cd2 })
      ⟨cd2, kd2, tmps2, fid2, by rw [hnone, ← hst]; rfl, hmd2, rtl2⟩ World.putObj_size (World.putObj_heap_same (lt_size hp2)) (fun c' hc' => World.putObj_heap_other hc') rfl rfl rfl
    refine ⟨μ2, _, .b b, ?_, wr3.1, ((ext1.trans wr2.2).trans ext2).trans wr3.2, g3⟩
    show Value.bool _ = Value.bool b
    rw [hnone, hb]
  refine hdn2 μ1 T1 _ .u a1 _ _ _ _ ⟨st1.gm, st1.rt, wr2.1, rfl⟩ f3 ?_ ?_
  · intro μ2 h2 T2 D2 a2 w2 ext2 st2 hk2
    exact fin none 0 true rfl rfl μ2 h2 T2 D2 a2 w2 ext2 st2 hk2
  · intro ex μ2 h2 T2 D2 a2 w2 ext2 st2 hk2
    have := fin (some ex) 2 false rfl rfl μ2 h2 T2 D2 a2 w2 ext2 st2 hk2
    cases ex <;> exact this

/-! ### calls -/
theorem cFn_sound (ok : EnvOK E P) (sok : SumOK E P) {call : C} (cs : CallS P call) {f : Nat} {fn : Func} {c : Code} (h1 : P.funcs[f]? = some fn) (h2 : (fn.name == "runtime.NumGoroutine") = false) (h3 : fn.body = some c) {args : V} {h : H} {k : K1}
    (e : cFn c fn.results.toList fn.ntmps E call args h k = true) {μ : Mu} {w : World} {xs : List Value} (gm : GM μ) (wr : WR μ h w) (hr : RL μ args xs) : Nx P (PK μ h w k) ((callFunc f xs.toArray).run P w) := by
  rw [run_enter h1 h2 h3]
  obtain ⟨T, e1, e2⟩ := optq_inv e
  show CallsIn Fence.wide 0 P f xs.toArray w _
  refine callsIn_of_wp_marks h1 h3 trivial ?_
  have hrt : RT μ fn.ntmps T (xs.toArray ++ Array.replicate (fn.ntmps - xs.toArray.size) undef) := by
    refine ⟨by simp; omega, ?_⟩
    refine putArgs_sound _ 64 0 args t3V T xs e1 hr (fun j x hj => ?_) fun t => ?_
    · have : j < xs.length := (List.getElem?_eq_some_iff.1 hj).1
      rw [Nat.zero_add, Array.getElem?_append_left (by simpa using this)]
      simpa using hj
    · rw [rd_none]; exact ⟨fun _ => rfl, trivial⟩
  have fin : ∀ μ' h' T' D' a' w', Ext μ h w μ' h' w' → St none fn.ntmps μ' T' h' D' a' w' → retF E fn.results.toList k T' h' D' = true →
      LeavesInM Fence.wide 0 P fn a'.tmps (fun | .returned v, w' => PK μ h w k v w' | _, _ => False) a'.defers .returning w' := by
    intro μ' h' T' D' a' w' ext st hk
    refine evDef_sound sok st.wr st.dr hk fun h2 w2 x1 x2 x3 => ?_
    obtain ⟨v, y1, y2⟩ := optq_inv x3
    have hgm : Sub μ' μ' := fun _ _ h => h
    obtain ⟨y, z1, z2⟩ := resV_run ok st.rt x2 fn y1
    exact ⟨y, z1, μ', h2, v, z2, x2, ext.trans x1, y2⟩
  have hdn := dn_sound (E := E) (P := P) (ro := none) (nt := fn.ntmps) ok sok cs (rnd := false) rfl c
  refine hdn μ T h .n _ w _ _ _ ⟨gm, hrt, wr, rfl⟩ e2 ?_ ?_
  · intro μ' h' T' D' a' w' ext st hk
    exact fin μ' h' T' D' a' w' ext st hk
  · intro ex μ' h' T' D' a' w' ext st hk
    cases ex with
    | exit id => cases hk
    | goto l => cases hk
    | ret => exact fin μ' h' T' D' a' w' ext st hk

theorem callF_sound (ok : EnvOK E P) (sok : SumOK E P) (n : Nat) : CallS P (callF E n) := by
  induction n with
  | zero => exact ⟨fun f args h k e => (by cases e), fun id args h k e => (by cases e)⟩
  | succ n ih =>
    constructor
    · intro f args h k e μ w xs gm wr hr
      have e : Fd.rec (motive := fun _ => Env → C → V → H → K1 → Bool) cNo cPure cFn cSeg (fdOf E f) E (callF E n) args h k = true := e
      unfold fdOf at e
      cases hs : E.sm f with
      | pure g =>
        rw [hs] at e
        obtain ⟨v, e1, e2⟩ := optq_inv (show Option.rec (motive := fun _ => Bool) false (fun v => k v h) (g args h) = true from e)
        exact (sok.pure f g hs).pk gm wr hr e1 e2
      | mkz t => rw [hs] at e; cases e
      | seg g =>
        rw [hs] at e
        cases hf : E.ft f with
        | none => rw [hf] at e; cases e
        | some fn =>
          rw [hf] at e
          cases hb : fn.body with
          | none => simp only [hb] at e; cases e
          | some c =>
            simp only [hb] at e
            have e : Option.rec (motive := fun _ => Bool) (cFn c fn.results.toList fn.ntmps E (callF E n) args h k) (fun p => kPair k p) (g args h) = true := e
            cases hg : g args h with
            | none => rw [hg] at e; exact cFn_sound ok sok ih (ok.ft f fn hf).1 (ok.ft f fn hf).2 hb e gm wr hr
            | some p =>
              rw [hg] at e
              obtain ⟨v, h1⟩ := p
              exact Nx.mono (sok.seg f g hs μ h w args xs v h1 gm wr hr hg) fun x w' ⟨μ', a1, a2, a3⟩ => ⟨μ', h1, v, a3, a1, a2, e⟩
      | no =>
        rw [hs] at e
        cases hf : E.ft f with
        | none => rw [hf] at e; cases e
        | some fn =>
          rw [hf] at e
          cases hb : fn.body with
          | none => simp only [hb] at e; cases e
          | some c =>
            simp only [hb] at e
            exact cFn_sound ok sok ih (ok.ft f fn hf).1 (ok.ft f fn hf).2 hb e gm wr hr
    · intro id args h k e μ w xs c m hm gm wr hr
      exact evRound_sound ok sok ih e hm gm wr hr
end
end Go.Ev
