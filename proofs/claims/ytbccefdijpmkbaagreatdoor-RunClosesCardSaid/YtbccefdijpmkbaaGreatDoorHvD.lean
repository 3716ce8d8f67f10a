/-
  Part of a proof: an evaluator of the model's code over abstract memory, and that it is sound against the model's weakest preconditions; no conditions.
-/
import Derived.Test.YtbccefdijpmkbaaGreatDoorHvC
import Derived.RangeFuncRecord
set_option linter.constructorNameAsVariable false
set_option linter.unusedVariables false
set_option linter.unusedSimpArgs false
set_option linter.unusedSectionVars false
set_option linter.constructorNameAsVariable false
set_option linter.unusedVariables false
set_option linter.unusedSimpArgs false
set_option linter.unusedSectionVars false
namespace Go.Ev
open Go
noncomputable section
variable [Un]
variable {P : Program} {E : Env} {ops : Ops} {o : Oper}

theorem stn_len {μ : Mu} (m : Nat) : ∀ {l : V} {cs cs' : Cs} {off : Nat} {xs : List Value}, Cs.stn m l cs off = some cs' → RL μ l xs → xs.length = m := by
  induction m with
  | zero =>
    intro l cs cs' off xs h hr
    have h' : (Bool.rec (motive := fun _ => Option Cs) none (some cs) (qN true l)) = some cs' := h
    obtain ⟨h1, h2⟩ := bool_inv h'
    obtain ⟨rfl, _⟩ := qN_inv h1
    obtain rfl : xs = [] := hr
    rfl
  | succ m ih =>
    intro l cs cs' off xs h hr
    cases l with
    | c hd t =>
      obtain ⟨x, xs, rfl, hx, ht⟩ := hr
      have h' : (Bool.rec (motive := fun _ => Option Cs) none (Cs.stn m t (cs.put off hd) (Nat.succ off)) (V.one hd)) = some cs' := h
      obtain ⟨h1, h2⟩ := bool_inv h'
      simp [ih h2 ht]
    | _ => cases h
theorem newL_len {μ : Mu} {st e n : Nat} {fz : Fz} {ex : Bool} {l : V} {h : H} {k : Nat → H → Bool} (he : newL st e fz ex n l h k = true) {xs : List Value} (hl : RL μ l xs) : xs.length = n := by
  unfold newL at he
  obtain ⟨cs, h1, h2⟩ := optq_inv he
  unfold mkCs at h1
  have h1' : (Bool.rec (motive := fun _ => Option Cs) none (Cs.stn n l (Cs.grow (Cs.nil st) n) 0) (Cs.fits (Cs.grow (Cs.nil st) n) n)) = some cs := h1
  obtain ⟨h3, h4⟩ := bool_inv h1'
  exact stn_len n h4 hl
/-- a block of just these cells is laid: pointers to it are values -/
theorem newL_nx {μ : Mu} {h : H} {w w0 : World} (wr : WR μ h w) {st e n : Nat} {l : V} {k : Nat → H → Bool} (he : newL st e .no true n l h k = true) {cells : Array Value} (hl : RL μ l cells.toList)
    (h0 : w0.heap = w.heap) (e1 : w0.os = w.os) (e2 : w0.output = w.output) (e3 : w0.tape = w.tape) :
    cells.size = n ∧ ∃ id h', μ id = none ∧ k id h' = true ∧ WR (muAdd μ id w.heap.size n) h' (w0.alloc (.cells cells e)) ∧ Ext μ h w (muAdd μ id w.heap.size n) h' (w0.alloc (.cells cells e)) := by
  have hn : cells.size = n := by simpa using newL_len he hl
  refine ⟨hn, ?_⟩
  obtain ⟨id, h', g1, g2, g3, g4⟩ := newL_sound (lo := 0) (hi := 0) wr he (arr := cells) (N := n) (by rw [List.take_of_length_le (by simp [hn])]; exact hl) hn (fun _ => rfl) rfl (w' := w0.alloc (.cells cells e)) (by rw [← h0]; rfl) e1 e2 e3
  exact ⟨id, h', g1, g2, g3, g4⟩

theorem undef_rel (μ : Mu) : RV μ undV undef := ⟨[], rfl, rfl⟩

theorem is_store (ok : EnvOK E P) (t : Nat) (x y : Operand) (ho : o.op = .store t x y) : IS P ops o (c_store t x y E ops o) := by
  unfold c_store
  cases hd : E.und t with
  | none => exact trivial
  | some d =>
    simp only [withO_eq]
    refine finL_is (by simp [ho]) fun call cs μ T h w a k gm rt wr e => ?_
    unfold lStore at e
    obtain ⟨id, off, e1, e2⟩ := qPt_inv e
    obtain ⟨l, e3, e4⟩ := optq_inv e2
    have hx := eval_rel gm rt x
    have hy := eval_rel gm rt y
    rw [e1] at hx
    obtain ⟨c, n, hm, hp⟩ := oPt_rr hx
    obtain ⟨g1, g2, w', h', g3, g4, g5, g6⟩ := sts_sound (P := P) wr e4 hm (cellsV_rel e3 hy)
    have hrun : (execOp a.eval o).run P w = .ok .skip w' := by
      simp only [execOp, ho, hp]
      refine exu ?_
      simp only [Instr.storeAt, Instr.sureAddr, Sem.run_bind, Sem.run_pure, Result.andThen_ok]
      unfold storeVar
      simp only [Sem.run_bind, run_sizeU ok hd w, Result.andThen_ok]
      have : (a.eval y).cells.size = E.szOf t := by simpa using g1
      simp only [this, ne_eq, not_true, if_false]
      exact g3
    rw [hrun]
    exact ⟨μ, h', undV, undef_rel μ, g4, g5, g6⟩

theorem is_alloc (ok : EnvOK E P) (t : Nat) (ho : o.op = .alloc t) : IS P ops o (c_alloc t E ops o) := by
  unfold c_alloc
  cases hz : E.zer t with
  | none => exact trivial
  | some z =>
    simp only
    cases hl : cellsV (E.isAg t) z with
    | none => exact trivial
    | some l =>
      simp only
      obtain ⟨zv, z1, z2⟩ := zer_rel ok hz
      refine finL_is (by simp [ho]) fun call cs μ T h w a k gm rt wr e => ?_
      unfold lAlloc at e
      obtain ⟨hn, id, h', g1, g2, g3, g4⟩ := newL_nx (w0 := w) wr e (cellsV_rel hl (z2 μ)) rfl rfl rfl rfl
      have hrun : (execOp a.eval o).run P w = .ok (.value (.pointer (some ⟨w.heap.size, 0, none⟩))) (w.alloc (.cells zv.cells t)) := by
        simp only [execOp, ho]
        refine exv ?_
        simp [Instr.alloc, z1, newVar, newRow]
      rw [hrun]
      exact ⟨_, h', .r (.pt id 0), ⟨_, _, muAdd_same .., rfl⟩, g3, g4, g2⟩
theorem is_box (t : Nat) (x : Operand) (ho : o.op = .box t x) : IS P ops o (c_box t x E ops o) := by
  unfold c_box
  simp only [withO_eq]
  refine finL_is (by simp [ho]) fun call cs μ T h w a k gm rt wr e => ?_
  unfold lBox at e
  obtain ⟨l, e3, e4⟩ := optq_inv e
  obtain ⟨hn, id, h', g1, g2, g3, g4⟩ := newL_nx (w0 := w) wr e4 (cellsV_rel e3 (eval_rel gm rt x)) rfl rfl rfl rfl
  have hrun : (execOp a.eval o).run P w = .ok (.value (.pointer (some ⟨w.heap.size, 0, none⟩))) (w.alloc (.cells (a.eval x).cells t)) := by
    simp only [execOp, ho]
    refine exv ?_
    simp [Instr.box, newVar, newRow]
  rw [hrun]
  exact ⟨_, h', .r (.pt id 0), ⟨_, _, muAdd_same .., rfl⟩, g3, g4, g2⟩

theorem is_makeMap (t : Nat) (r : Option Operand) (ho : o.op = .makeMap t r) : IS P ops o (c_makeMap t r E ops o) := by
  unfold c_makeMap
  cases r with
  | some x => exact trivial
  | none =>
    refine finL_is (by simp [ho]) fun call cs μ T h w a k gm rt wr e => ?_
    unfold lMap at e
    obtain ⟨hnx, hk⟩ := new_eq _ _ _ e
    obtain ⟨w1, w2⟩ := wr.alloc (w' := w.alloc (.map #[] 0)) hnx (.m .n) (.map #[] 0) 0 rfl ⟨#[], 0, rfl, rfl⟩ rfl rfl rfl
    have hrun : (execOp a.eval o).run P w = .ok (.value (.map (some w.heap.size))) (w.alloc (.map #[] 0)) := by
      simp only [execOp, ho]
      exact exv rfl
    rw [hrun]
    exact ⟨_, _, .r (.mp h.nx), ⟨_, _, muAdd_same .., rfl⟩, w1, w2, hk⟩
theorem is_range (ok : EnvOK E P) (t : Nat) (x : Operand) (ho : o.op = .range t x) : IS P ops o (c_range t x E ops o) := by
  unfold c_range
  cases hd : E.und t with
  | none => exact trivial
  | some d =>
    cases d <;> try exact trivial
    simp only [withO_eq]
    refine finL_is (by simp [ho]) fun call cs μ T h w a k gm rt wr e => ?_
    unfold lRange at e
    obtain ⟨c, e1, e2⟩ := qS_inv e
    have hx := eval_rel gm rt x
    rw [e1] at hx
    obtain ⟨s, hs, hc⟩ := rv_s hx
    obtain ⟨hnx, hk⟩ := new_eq _ _ _ e2
    obtain ⟨w1, w2⟩ := wr.alloc (w' := w.alloc (.stringIter s 0)) hnx (.it c 0) (.stringIter s 0) 0 rfl ⟨s, rfl, hc⟩ rfl rfl rfl
    have hrun : (execOp a.eval o).run P w = .ok (.value (.pointer (some ⟨w.heap.size, 0, none⟩))) (w.alloc (.stringIter s 0)) := by
      simp only [execOp, ho, hs]
      refine exv ?_
      simp [Instr.range, run_und ok hd]
    rw [hrun]
    exact ⟨_, _, .r (.pt h.nx 0), ⟨_, _, muAdd_same .., rfl⟩, w1, w2, hk⟩

theorem put_heap {w : World} {c : Nat} {o : Obj} (hc : c < w.heap.size) : (w.putObj c o).heap[c]? = some o ∧ (∀ c', c' ≠ c → (w.putObj c o).heap[c']? = w.heap[c']?) ∧ (w.putObj c o).heap.size = w.heap.size := by
  refine ⟨by simp [World.putObj, hc], fun c' h => ?_, by simp [World.putObj]⟩
  simp [World.putObj, Array.getElem?_setIfInBounds_ne (Ne.symm h)]

theorem is_next (x : Operand) (str : Bool) (ho : o.op = .next x str) : IS P ops o (c_next x str E ops o) := by
  unfold c_next
  cases str with
  | false => exact trivial
  | true =>
    simp only [withO_eq]
    refine finL_is (by simp [ho]) fun call cs μ T h w a k gm rt wr e => ?_
    unfold lNext at e
    obtain ⟨id, off, e1, e2⟩ := qPt_inv e
    obtain ⟨h1, e3⟩ := boolq_inv e2
    obtain ⟨c, pos, hb, e4⟩ := qbIt_inv e3
    obtain rfl := Nat.eq_of_beq_eq_true h1
    have hx := eval_rel gm rt x
    rw [e1] at hx
    obtain ⟨b, n, hm, hp⟩ := oPt_rr hx
    obtain ⟨c', n', ob, q1, q2, q3⟩ := wr.blk id (wr.lt hm) (by rw [hb]; simp)
    rw [hm] at q1; obtain ⟨rfl, rfl⟩ := Prod.mk.inj (Option.some.inj q1)
    rw [hb] at q3
    obtain ⟨s, rfl, hc⟩ := q3
    have hsz := size_enc hc
    have hg : (getObj b).run P w = .ok (.stringIter s pos) w := by simp [getObj, Sem.run, q2]
    cases hlt : Nat.ble (Nat.succ pos) (slen c) with
    | false =>
      rw [hlt] at e4
      have hnot : ¬ pos < s.size := fun h => by
        have : Nat.ble (Nat.succ pos) (slen c) = true := by rw [Nat.ble_eq, hsz]; exact h
        rw [this] at hlt; cases hlt
      have hrun : (execOp a.eval o).run P w = .ok (.value (.tuple #[.bool false])) w := by
        simp only [execOp, ho, hp]
        refine exv ?_
        simp [Instr.next, hg, hnot]
      rw [hrun]
      exact ⟨μ, h, .t (.c (.b false) .n), ⟨[.bool false], rfl, _, _, rfl, rfl, rfl⟩, wr, Ext.refl .., e4⟩
    | true =>
      rw [hlt] at e4
      obtain ⟨h5, e5⟩ := boolq_inv e4
      have hpos : pos < s.size := by rw [← hsz]; exact le_of_ble hlt
      obtain ⟨bt, hbt, hbv⟩ := byte_at hc (le_of_ble hlt)
      have h5 := le_of_ble h5
      have hdec : Utf8.decode s pos = (sat c pos, 1) := by
        unfold Utf8.decode
        have h0 : (s.get! (pos + 0)).toNat = sat c pos := by
          rw [← hbv]
          have : s[pos]? = some s[pos] := by simp [hpos]
          rw [this] at hbt
          have := Option.some.inj hbt
          rw [← this]
          have e : s.get! pos = s[pos] := by
            show s.data[pos]! = _
            rw [getElem!_pos s.data pos (by simpa using hpos)]
            rfl
          simp only [Nat.add_zero, e]
        simp only [h0]
        rw [if_pos (by omega)]
      have hput := put_heap (w := w) (o := .stringIter s (pos + 1)) (lt_size q2)
      have hset : (setObj b (.stringIter s (pos + 1))).run P w = .ok () (w.putObj b (.stringIter s (pos + 1))) := by simp [setObj, Sem.run, q2, World.putObj]
      obtain ⟨g1, g2⟩ := wr.write (w' := w.putObj b (.stringIter s (pos + 1))) (wr.lt hm) (by rw [hb]; trivial) hm (.it c (Nat.succ pos)) (.stringIter s (pos + 1)) ⟨s, rfl, hc⟩ hput.2.2 hput.1 hput.2.1 rfl rfl rfl
      have hrun : (execOp a.eval o).run P w = .ok (.value (.tuple #[.bool true, goInt pos, .int .i32 (sat c pos : Nat)])) (w.putObj b (.stringIter s (pos + 1))) := by
        simp only [execOp, ho, hp]
        refine exv ?_
        simp [Instr.next, hg, hpos, hdec, hset]
      rw [hrun]
      exact ⟨μ, _, .t (.c (.b true) (.c (goI pos) (.c (.i .i32 (Int.ofNat (sat c pos))) .n))), ⟨[.bool true, goInt pos, .int .i32 (sat c pos : Nat)], rfl, _, _, rfl, rfl, _, _, rfl, rfl, _, _, rfl, rfl, rfl⟩, g1, g2, e5⟩
end
end Go.Ev

set_option linter.constructorNameAsVariable false
set_option linter.unusedVariables false
set_option linter.unusedSimpArgs false
set_option linter.unusedSectionVars false
namespace Go.Ev
open Go
noncomputable section
variable [Un]
variable {P : Program} {E : Env} {ops : Ops} {o : Oper}

theorem isKeyK_isKey {str : Bool} {k : V} (h : isKeyK str k = true) : isKey k = true := by
  cases k with
  | i k n => rfl
  | s c => rfl
  | _ => cases h

theorem mPut_sound {str : Bool} {d : TypeDesc} (hd : KD str d) {μ : Mu} {k v : V} {y x : Value} (hk : isKeyK str k = true) (hy : RV μ k y) (hx : RV μ v x) (fuel : Nat) : ∀ (es es' : V) (l : List MapEntry), RM μ es l → mPut k v fuel es = some es' → ∀ i,
    (Instr.findNow d y l i = some none ∧ ∀ e : MapEntry, e.key = y → e.val = x → RM μ es' (l ++ [e])) ∨
    ∃ j val e, Instr.findNow d y l i = some (some (i + j, val)) ∧ l[j]? = some e ∧ Instr.sameNow d y e.key = some true ∧ ∀ f : MapEntry → MapEntry, (f e).key = y → (f e).val = x → RM μ es' (l.modify j f) := by
  induction fuel with
  | zero => intro es es' l _ h; cases h
  | succ fuel ih =>
    intro es es' l hr h i
    cases l with
    | nil =>
      obtain rfl : es = .n := hr
      obtain rfl := Option.some.inj h
      exact .inl ⟨rfl, fun e h1 h2 => ⟨k, v, .n, rfl, isKeyK_isKey hk, by rw [h1]; exact hy, by rw [h2]; exact hx, rfl⟩⟩
    | cons e l =>
      obtain ⟨kv, vv, es1, rfl, h1, h2, h3, h4⟩ := hr
      obtain ⟨b, e1, e2⟩ := opt_inv h
      have hs := same_sound hd hk e1 hy h2
      cases b with
      | true =>
        obtain rfl := Option.some.inj e2
        refine .inr ⟨0, e.val, e, by simp [Instr.findNow, hs], rfl, hs, fun f g1 g2 => ?_⟩
        exact ⟨k, v, es1, rfl, isKeyK_isKey hk, by rw [g1]; exact hy, by rw [g2]; exact hx, h4⟩
      | false =>
        obtain ⟨z, e3, e4⟩ := opt_inv e2
        obtain rfl := Option.some.inj e4
        rcases ih es1 z l h4 e3 (i + 1) with ⟨g1, g2⟩ | ⟨j, val, e', g1, g2, g3, g4⟩
        · exact .inl ⟨by simpa [Instr.findNow, hs] using g1, fun e' q1 q2 => ⟨kv, vv, z, rfl, h1, h2, h3, g2 e' q1 q2⟩⟩
        · exact .inr ⟨j + 1, val, e', by rw [show i + (j + 1) = i + 1 + j by omega]; simpa [Instr.findNow, hs] using g1, by simpa using g2, g3, fun f q1 q2 => ⟨kv, vv, z, rfl, h1, h2, h3, g4 f q1 q2⟩⟩

theorem same_bits {d : TypeDesc} {str : Bool} (hd : KD str d) {a b : Value} (h : Instr.sameNow d a b = some true) : Instr.sameBits 10000 b a = true := by
  rcases hd with ⟨_, rfl⟩ | ⟨_, k, rfl⟩
  · cases a <;> first | (cases h; done) | skip
    cases b <;> first | (cases h; done) | skip
    rename_i x y
    have h' : (x == y) = true := Option.some.inj h
    have e1 : (x == y) = (x.data == y.data) := by cases x; cases y; rfl
    have e2 : (y == x) = (y.data == x.data) := by cases x; cases y; rfl
    rw [e1, beq_iff_eq] at h'
    show (y == x) = true
    rw [e2, beq_iff_eq, h']
  · cases a <;> first | (cases h; done) | skip
    cases b <;> first | (cases h; done) | skip
    rename_i k1 x k2 y
    simp only [Instr.sameNow] at h
    split at h
    · rename_i hk
      subst hk
      have := Option.some.inj h
      rw [beq_iff_eq] at this
      subst this
      simp [Instr.sameBits]
    · cases h

theorem is_mapPut (ok : EnvOK E P) (t : Nat) (x y z : Operand) (ho : o.op = .mapUpdate t x y z ∨ o.op = .insert t x y z) : IS P ops o (c_mapPut t x y z E ops o) := by
  have hnd : ∀ c, o.op ≠ .defer c := by rcases ho with h | h <;> simp [h]
  unfold c_mapPut
  cases hd : E.und t with
  | none => exact trivial
  | some d =>
    cases d <;> try exact trivial
    rename_i kt et
    simp only
    cases hkk : keyK E kt with
    | none => exact trivial
    | some str =>
      simp only [withO_eq]
      obtain ⟨kd, hkd, hK⟩ := keyK_inv hkk
      have hku := und_ok ok hkd
      refine finL_is hnd fun call cs μ T h w a k gm rt wr e => ?_
      unfold lMapPut at e
      obtain ⟨r, e1, e2⟩ := qR_inv e
      have hx := eval_rel gm rt x
      have hy := eval_rel gm rt y
      have hz := eval_rel gm rt z
      rw [e1] at hx
      cases r with
      | mp id =>
        obtain ⟨es, hb, e3⟩ := qbM_inv e2
        obtain ⟨hik, e4⟩ := boolq_inv e3
        obtain ⟨es', e5, e6⟩ := optq_inv e4
        obtain ⟨c, n, hm, hA⟩ := oMp_rr hx
        obtain ⟨ents, clock, hh, hrm⟩ := map_at wr hm hb
        have hput := mPut_sound hK hik hy hz _ _ _ _ hrm e5 0
        have hg : (getObj c).run P w = .ok (.map ents clock) w := by simp [getObj, Sem.run, hh]
        have hset : ∀ ob, (setObj c ob).run P w = .ok () (w.putObj c ob) := fun ob => by simp [setObj, Sem.run, hh, World.putObj]
        have fin : ∀ (ents' : Array MapEntry) (clock' : Nat), RM μ es' ents'.toList → (Instr.mapUpdate t (a.eval x) (a.eval y) (a.eval z)).run P w = .ok () (w.putObj c (.map ents' clock')) → Nx P (PK μ h w k) ((execOp a.eval o).run P w) := fun ents' clock' h1 h2 => by
          have hp := put_heap (w := w) (o := .map ents' clock') (lt_size hh)
          obtain ⟨g1, g2⟩ := wr.write (w' := w.putObj c (.map ents' clock')) (wr.lt hm) (by rw [hb]; trivial) hm (.m es') (.map ents' clock') ⟨ents', clock', rfl, h1⟩ hp.2.2 hp.1 hp.2.1 rfl rfl rfl
          have hrun : (execOp a.eval o).run P w = .ok .skip (w.putObj c (.map ents' clock')) := by
            rcases ho with ho | ho <;> (simp only [execOp, ho]; exact exu h2)
          rw [hrun]
          exact ⟨μ, _, undV, undef_rel μ, g1, g2, e6⟩
        have step : ∀ q, Instr.findNow kd (a.eval y) ents.toList 0 = some q → (Instr.mapUpdate t (a.eval x) (a.eval y) (a.eval z)).run P w = (match q with
            | some (i, _) => do
              let key ← Instr.keyThatStays (((ents[i]?).map (·.key)).getD (a.eval y)) (a.eval y)
              setObj c (.map (ents.modify i fun e => { e with key, val := a.eval z }) clock)
            | none => setObj c (.map (ents.push { key := a.eval y, val := a.eval z, born := clock }) (clock + 1)) : Sem Unit).run P w := fun q hq => by
          unfold Instr.mapUpdate
          simp only [Sem.run_bind, run_und ok hd, Result.andThen_ok, hA, hg]
          rw [run_checkKey' hku hK]
          simp only [Result.andThen_ok]
          unfold Instr.findKey
          simp only [Sem.run_bind, run_und ok hkd, Result.andThen_ok, hq, Sem.run_pure]
          rfl
        rcases hput with ⟨g1, g2⟩ | ⟨j, val, en, g1, g2, g3, g4⟩
        · refine fin (ents.push { key := a.eval y, val := a.eval z, born := clock }) (clock + 1) ?_ ?_
          · have := g2 { key := a.eval y, val := a.eval z, born := clock } rfl rfl
            simpa using this
          · rw [step _ g1]
            exact hset _
        · rw [Nat.zero_add] at g1
          have hej : ents[j]? = some en := by simpa using g2
          have hst : (Instr.keyThatStays (((ents[j]?).map (·.key)).getD (a.eval y)) (a.eval y)).run P w = .ok (a.eval y) w := by
            simp [hej, Instr.keyThatStays, same_bits hK g3]
          refine fin (ents.modify j fun e => { e with key := a.eval y, val := a.eval z }) clock ?_ ?_
          · have := g4 (fun e => { e with key := a.eval y, val := a.eval z }) rfl rfl
            simpa using this
          · rw [step _ g1]
            simp only [Sem.run_bind, hst, Result.andThen_ok]
            exact hset _
      | _ => cases e2

/-! ### many zeros -/
theorem rep_flat {α : Type} [Inhabited α] (c : Array α) (hc : 0 < c.size) (n : Nat) : ((Array.range (n * c.size)).map (c[· % c.size]!)).toList = (List.replicate n c.toList).flatten := by
  induction n with
  | zero => simp
  | succ n ih =>
    have h1 : (Array.range ((n + 1) * c.size)).toList = (Array.range (n * c.size)).toList ++ (List.range c.size).map (n * c.size + ·) := by
      simp only [Array.toList_range]
      rw [Nat.succ_mul, List.range_add]
    have h2 : ((List.range c.size).map (n * c.size + ·)).map (c[· % c.size]!) = c.toList := by
      rw [List.map_map]
      apply List.ext_getElem
      · simp
      · intro i h1 h2
        have hi : i < c.size := by simpa using h2
        have : (n * c.size + i) % c.size = i := by
          rw [Nat.add_comm, Nat.add_mul_mod_self_right, Nat.mod_eq_of_lt hi]
        simp [this, hi]
    simp only [Array.toList_map] at ih ⊢
    rw [h1, List.map_append, ih, h2, List.replicate_succ']
    simp
theorem repV_rel {μ : Mu} {sz : Nat} {z : V} {xs : List Value} (hz : RL μ z xs) (n : Nat) : ∀ {r : V}, repV n sz z = some r → RL μ r (List.replicate n xs).flatten ∧ (0 < n → xs.length = sz) := by
  induction n with
  | zero => intro r h; obtain rfl := Option.some.inj h; exact ⟨rfl, fun h => absurd h (by omega)⟩
  | succ n ih =>
    intro r h
    obtain ⟨l, h1, h2⟩ := opt_inv h
    obtain ⟨g1, g2⟩ := app_rel _ h2 hz (ih h1).1
    exact ⟨by rw [List.replicate_succ, List.flatten_cons]; exact g1, fun _ => g2⟩
/-- the zeros of n elements, as the model lays them -/
theorem zeros_rel {μ : Mu} {n sz : Nat} {z r : V} {cells : Array Value} (hz : RL μ z cells.toList) (h : repV n sz z = some r) :
    RL μ r ((Array.range (n * sz)).map ((if n * sz = 0 then #[] else cells)[· % (if n * sz = 0 then (#[] : Array Value) else cells).size]!)).toList := by
  obtain ⟨g1, g2⟩ := repV_rel hz n h
  by_cases h0 : n * sz = 0
  · rw [if_pos h0, h0]
    have : (List.replicate n cells.toList).flatten = [] := by
      rcases Nat.eq_zero_or_pos n with h | h
      · subst h; rfl
      · have hs := g2 h
        have : sz = 0 := by
          rcases Nat.mul_eq_zero.1 h0 with h' | h'
          · omega
          · exact h'
        have : cells.toList = [] := List.length_eq_zero_iff.1 (by omega)
        simp [this]
    rw [this] at g1
    simpa using g1
  · rw [if_neg h0]
    have hn : 0 < n := Nat.pos_of_ne_zero fun h => h0 (by simp [h])
    have hs : cells.size = sz := by simpa using g2 hn
    subst hs
    have hp : 0 < cells.size := Nat.pos_of_ne_zero fun h => h0 (by simp [h])
    rw [rep_flat cells hp]
    exact g1
end
end Go.Ev

set_option linter.constructorNameAsVariable false
set_option linter.unusedVariables false
set_option linter.unusedSimpArgs false
set_option linter.unusedSectionVars false
namespace Go.Ev
open Go
noncomputable section
variable [Un]
variable {P : Program} {E : Env} {ops : Ops} {o : Oper}

theorem run_zcells (zv : Value) (e n : Nat) (hz : ∀ w, (zeroValue e).run P w = .ok zv w) (w : World) : (if n = 0 then pure #[] else do pure (← zeroValue e).cells : Sem (Array Value)).run P w = .ok (if n = 0 then #[] else zv.cells) w := by
  split
  · rfl
  · simp [hz]

theorem is_buildSlice (ok : EnvOK E P) (t n : Nat) (ps : Array (Nat × Operand)) (ho : o.op = .buildSlice t n ps) : IS P ops o (c_buildSlice t n ps E ops o) := by
  unfold c_buildSlice
  cases hd : E.und t with
  | none => exact trivial
  | some d =>
    cases d <;> try exact trivial
    rename_i e
    simp only
    cases hz : E.zer e with
    | none => exact trivial
    | some z =>
      simp only
      cases hl : cellsV (E.isAg e) z with
      | none => exact trivial
      | some l =>
        simp only
        cases hr : repV n (E.szOf e) l with
        | none => exact trivial
        | some zs =>
          cases hb : Nat.ble (Nat.mul n (E.szOf e)) 4096 with
          | false => exact trivial
          | true =>
            simp only [withParts_eq]
            cases hpl : partsOf (fun i => some (Nat.mul i (E.szOf e), E.szOf e)) ps.toList with
            | none => exact trivial
            | some pl =>
              obtain ⟨zv, z1, z2, inf, hi⟩ := zer_ok ok hz
              have hb := le_of_ble hb
              refine finL_is (by simp [ho]) fun call cs μ T h w a k gm rt wr e' => ?_
              have hzr : RV μ z zv := by rw [z2]; exact vOf_rel μ zv
              have hzs := zeros_rel (cellsV_rel hl hzr) hr
              unfold lBuildSl at e'
              obtain ⟨m, e1, e2⟩ := optq_inv e'
              obtain ⟨cells', f1, f2⟩ := fill_sound gm rt _ ps.toList pl zs m _ hpl e1 hzs
              obtain ⟨hn, id, h', g1, g2, g3, g4⟩ := newL_nx (w0 := w) wr e2 f2 rfl rfl rfl rfl
              have hrun : (execOp a.eval o).run P w = .ok (.value (.slice (some ⟨w.heap.size, 0, none⟩) n n)) (w.alloc (.cells cells' e)) := by
                simp only [execOp, ho]
                refine exv ?_
                unfold Instr.buildSlice
                have hlim : ¬ (n * E.szOf e > 2 ^ 24) := by have : n * E.szOf e ≤ 4096 := hb; omega
                simp only [Sem.run_bind, run_und ok hd, Result.andThen_ok, run_size ok hi]
                rw [if_neg hlim]
                have f1' : Instr.fill (fun i => some (i * E.szOf e, E.szOf e)) _ (ps.toList.map fun (i, x) => (i, a.eval x)) = some cells' := f1
                by_cases h0 : n * E.szOf e = 0
                · simp only [if_pos h0] at f1'
                  rw [if_pos h0]
                  simp only [Sem.run_bind, Sem.run_pure, Result.andThen_ok]
                  rw [parts_map, f1']
                  rfl
                · simp only [if_neg h0] at f1'
                  rw [if_neg h0]
                  simp only [Sem.run_bind, Sem.run_pure, Result.andThen_ok, z1]
                  rw [parts_map, f1']
                  rfl
              rw [hrun]
              exact ⟨_, h', .r (.sl id 0 n n), ⟨_, _, muAdd_same .., rfl, Nat.le_refl _⟩, g3, g4, g2⟩

theorem wrap_i64 {n : Nat} (h : n ≤ 9223372036854775807) : IntKind.i64.wrap (Int.ofNat n) = Int.ofNat n := wrap_small .i64 h

theorem is_makeSlice (ok : EnvOK E P) (t : Nat) (x y : Operand) (ho : o.op = .makeSlice t x y) : IS P ops o (c_makeSlice t x y E ops o) := by
  unfold c_makeSlice
  cases hd : E.und t with
  | none => exact trivial
  | some d =>
    cases d <;> try exact trivial
    rename_i e
    simp only
    cases hz : E.zer e with
    | none => exact trivial
    | some z =>
      cases hby : Nat.ble (E.byOf e) 65536 with
      | false => exact trivial
      | true =>
        simp only
        cases hl : cellsV (E.isAg e) z with
        | none => exact trivial
        | some l =>
          simp only [withO_eq]
          obtain ⟨zv, z1, z2, inf, hi⟩ := zer_ok ok hz
          have hbytes : inf.bytes ≤ 65536 := by have := le_of_ble hby; simpa [Env.byOf, hi] using this
          refine finL_is (by simp [ho]) fun call cs μ T h w a k gm rt wr e' => ?_
          have hzr : RV μ z zv := by rw [z2]; exact vOf_rel μ zv
          have hx := eval_rel gm rt x
          have hy := eval_rel gm rt y
          unfold lMake at e'
          obtain ⟨k1, len, e1, e2⟩ := qNat_inv e'
          obtain ⟨k2, cap, e3, e4⟩ := qNat_inv e2
          obtain ⟨b1, e5⟩ := boolq_inv e4
          obtain ⟨b2, e6⟩ := boolq_inv e5
          obtain ⟨zs, e7, e8⟩ := optq_inv e6
          have b1 := le_of_ble b1
          have b2 := le_of_ble b2
          rw [e1] at hx
          rw [e3] at hy
          have hx := rv_i hx
          have hy := rv_i hy
          have hzs := zeros_rel (cellsV_rel hl hzr) e7
          obtain ⟨hn, id, h', g1, g2, g3, g4⟩ := newL_nx (w0 := w) wr e8 hzs rfl rfl rfl rfl
          have hrun : (execOp a.eval o).run P w = .ok (.value (.slice (some ⟨w.heap.size, 0, none⟩) len cap)) (w.alloc (.cells ((Array.range (cap * E.szOf e)).map ((if cap * E.szOf e = 0 then #[] else zv.cells)[· % (if cap * E.szOf e = 0 then (#[] : Array Value) else zv.cells).size]!)) e)) := by
            simp only [execOp, ho, hx, hy]
            refine exv ?_
            unfold Instr.makeSlice
            have hL : IntKind.i64.wrap (Int.ofNat len) = Int.ofNat len := wrap_i64 (by omega)
            have hC : IntKind.i64.wrap (Int.ofNat cap) = Int.ofNat cap := wrap_i64 (by omega)
            have hi0 : (typeInfo e).run P w = .ok inf w := run_info ok hi w
            simp only [Sem.run_bind, run_und ok hd, Result.andThen_ok, asInt, asIntOf, Sem.run_pure, hi0, hL, hC]
            have t0 : ¬ (Int.ofNat cap < 0) := by have : (0 : Int) ≤ Int.ofNat cap := Int.natCast_nonneg cap; omega
            have t1 : ¬ ((inf.bytes : Int) * Int.ofNat cap > 2 ^ 48) := by
              have h1 : inf.bytes * cap ≤ 65536 * 65536 := Nat.mul_le_mul hbytes b2
              have h2 : (inf.bytes : Int) * Int.ofNat cap = ((inf.bytes * cap : Nat) : Int) := by simp
              rw [h2]
              omega
            have t2 : ¬ (Int.ofNat len < 0) := by have : (0 : Int) ≤ Int.ofNat len := Int.natCast_nonneg len; omega
            have t3 : ¬ (Int.ofNat len > Int.ofNat cap) := by show ¬ ((len : Int) > (cap : Int)); omega
            rw [if_neg (by simp only [Bool.or_eq_true, decide_eq_true_eq]; rintro ((h | h) | h) <;> first | (rcases h with h | h <;> contradiction) | contradiction)]
            simp only [Sem.run_bind, run_askRoom, Result.andThen_ok, run_size ok hi, Sem.run_pure]
            show (Sem.run P (if cap * E.szOf e = 0 then _ else _) w) = _
            by_cases h0 : cap * E.szOf e = 0
            · simp only [if_pos h0]
              rfl
            · simp only [if_neg h0, Sem.run_bind, z1, Result.andThen_ok, Sem.run_pure]
              rfl
          rw [hrun]
          exact ⟨_, h', .r (.sl id 0 len cap), ⟨_, _, muAdd_same .., rfl, b1⟩, g3, g4, g2⟩

/-! ### texts and bytes -/
theorem listN_rel {μ : Mu} {bs : List UInt8} {c : Nat} (hc : enc bs = c) (n : Nat) : ∀ (i : Nat) (z : V) (zs : List Value), i + n ≤ bs.length → RL μ z zs → RL μ (listN n c i z) (((bs.drop i).take n).map (fun b => Value.int .u8 b.toNat) ++ zs) := by
  induction n with
  | zero => intro i z zs _ hz; show RL μ z _; simpa using hz
  | succ n ih =>
    intro i z zs h hz
    have hlt : i < bs.length := by omega
    have e : ((bs.drop i).take (n + 1)).map (fun b => Value.int .u8 b.toNat) ++ zs = Value.int .u8 (bs[i].toNat : Nat) :: (((bs.drop (i + 1)).take n).map (fun b => Value.int .u8 b.toNat) ++ zs) := by
      rw [List.drop_eq_getElem_cons hlt, List.take_succ_cons, List.map_cons]
      rfl
    rw [e]
    refine ⟨_, _, rfl, ?_, ih (i + 1) z zs (by omega) hz⟩
    subst hc
    show Value.int .u8 _ = .int .u8 (Int.ofNat (sat (enc bs) i))
    rw [sat_enc bs i hlt]
    rfl
theorem listN_all {μ : Mu} {s : ByteArray} {c : Nat} (hc : enc s.data.toList = c) : RL μ (listN (slen c) c 0 .n) (s.data.toList.map fun b => Value.int .u8 b.toNat) := by
  have hs := size_enc hc
  have := listN_rel (μ := μ) hc (slen c) 0 .n [] (by rw [hs]; simp) rfl
  rw [hs] at this ⊢
  have e : (s.data.toList.drop 0).take s.size = s.data.toList := by
    rw [List.drop_zero, List.take_of_length_le]
    simp
  rw [e] at this
  simpa using this

theorem cut_append {need sCap e t : Nat} : need ≤ (Question.appendCap need sCap e).cut t := by
  show need ≤ need + t % (2 ^ 63 - need)
  omega
end
end Go.Ev

set_option linter.constructorNameAsVariable false
set_option linter.unusedVariables false
set_option linter.unusedSimpArgs false
set_option linter.unusedSectionVars false
namespace Go.Ev
open Go
noncomputable section
variable [Un]
variable {P : Program} {E : Env} {ops : Ops} {o : Oper}

theorem freeze_heap {w : World} {c off n : Nat} {arr : Array Value} {e : TypeId} {lo hi : Nat} (h : w.heap[c]? = some (.cells arr e (lo, hi))) (hn : n ≠ 0) :
    (w.freeze ⟨c, off, none⟩ n).heap[c]? = some (.cells arr e (if lo == hi then (off, off + n) else (min lo off, max hi (off + n)))) ∧ (∀ c', c' ≠ c → (w.freeze ⟨c, off, none⟩ n).heap[c']? = w.heap[c']?) ∧ (w.freeze ⟨c, off, none⟩ n).heap.size = w.heap.size ∧
    (w.freeze ⟨c, off, none⟩ n).os = w.os ∧ (w.freeze ⟨c, off, none⟩ n).output = w.output ∧ (w.freeze ⟨c, off, none⟩ n).tape = w.tape := by
  unfold World.freeze
  rw [if_neg hn]
  refine ⟨by simp [Array.getElem?_modify, h], fun c' hne => by simp [Array.getElem?_modify, Ne.symm hne], by simp, rfl, rfl, rfl⟩
theorem push_freeze {w : World} {arr : Array Value} {e : TypeId} {off n : Nat} (hn : n ≠ 0) : ((w.alloc (.cells arr e)).freeze ⟨w.heap.size, off, none⟩ n).heap = w.heap.push (.cells arr e (off, off + n)) := by
  unfold World.freeze World.alloc
  rw [if_neg hn]
  apply Array.ext_getElem?
  intro i
  simp only [Array.getElem?_modify, Array.getElem?_push]
  by_cases h : w.heap.size = i
  · subst h; simp
  · simp [h, Ne.symm h]

theorem run_markStringish {w : World} {c : Nat} {arr : Array Value} {e : TypeId} {fr : Nat × Nat} {off : Nat} (h : w.heap[c]? = some (.cells arr e fr)) : (markStringish ⟨c, off, none⟩).run P w = .ok () (w.freeze ⟨c, arr.size, none⟩ 1) := by
  simp [markStringish, run_shape h, World.shape?, h]

/-- a text's bytes, and zeros behind them -/
def bytesArr (s : ByteArray) (k : Nat) : Array Value := (s.data.map fun b => Value.int .u8 b.toNat) ++ Array.replicate k (.int .u8 0)
theorem bytesArr_size (s : ByteArray) (k : Nat) : (bytesArr s k).size = s.size + k := by simp [bytesArr]
theorem bytesArr_take (s : ByteArray) (k : Nat) : (bytesArr s k).toList.take s.size = s.data.toList.map fun b => Value.int .u8 b.toNat := by
  unfold bytesArr
  rw [Array.toList_append, Array.toList_map, List.take_left' (by simp)]

theorem is_convert (ok : EnvOK E P) (src dst : Nat) (x : Operand) (ho : o.op = .convert src dst x) : IS P ops o (c_convert src dst x E ops o) := by
  unfold c_convert
  rw [withO_eq]
  have hq := conv_q (E := E) (ops := ops) ok src dst x ho
  cases hs : E.und src with
  | none => exact hq
  | some ds =>
    cases hd : E.und dst with
    | none => cases ds <;> exact hq
    | some dd =>
      cases ds <;> cases dd <;> try exact hq
      case string.slice e =>
        simp only
        cases he : E.und e with
        | none => exact trivial
        | some de =>
          cases de <;> try exact trivial
          rename_i kk
          cases kk <;> try exact trivial
          refine finL_is (by simp [ho]) fun call cs μ T h w a k gm rt wr e' => ?_
          unfold lBytes at e'
          obtain ⟨c, e1, e2⟩ := qS_inv e'
          have hx := eval_rel gm rt x
          rw [e1] at hx
          obtain ⟨s, hs', hc⟩ := rv_s hx
          have hsz := size_enc hc
          have hcap := cut_append (need := s.size) (sCap := 0) (e := e) (t := w.tape w.drawn (.appendCap s.size 0 e))
          generalize hcapv : (Question.appendCap s.size 0 e).cut (w.tape w.drawn (.appendCap s.size 0 e)) = cap at hcap
          have harr : (bytesArr s (cap - s.size)).size = cap := by rw [bytesArr_size]; omega
          obtain ⟨id, h', g1, g2, g3, g4⟩ := newL_sound (lo := cap) (hi := cap + 1) wr e2 (arr := bytesArr s (cap - s.size)) (N := cap)
            (by
              rw [hsz, bytesArr_take, ← hsz]
              exact listN_all hc) harr (by simp) (.inr (Nat.le_refl _)) (w' := (w.drew.alloc (.cells (bytesArr s (cap - s.size)) e)).freeze ⟨w.heap.size, cap, none⟩ 1) (push_freeze (w := w.drew) (by simp)) rfl rfl rfl
          have hrun : (execOp a.eval o).run P w = .ok (.value (.slice (some ⟨w.heap.size, 0, none⟩) s.size cap)) ((w.drew.alloc (.cells (bytesArr s (cap - s.size)) e)).freeze ⟨w.heap.size, cap, none⟩ 1) := by
            simp only [execOp, ho, hs']
            refine exv ?_
            unfold convert
            simp only [Sem.run_bind, run_und ok hs, run_und ok hd, Result.andThen_ok, run_und ok he]
            unfold Conv.stringToBytes
            simp only [Sem.run_bind, run_choose, Question.forced, Bool.false_eq_true, if_false, Result.andThen_ok, hcapv, newRow, run_newObj, Sem.run_pure]
            have hm := run_markStringish (P := P) (w := w.drew.alloc (.cells (bytesArr s (cap - s.size)) e)) (c := w.heap.size) (off := 0) (arr := bytesArr s (cap - s.size)) (e := e) (fr := (0, 0)) (by show (w.heap.push _)[w.heap.size]? = _; simp)
            rw [harr] at hm
            show ((markStringish ⟨w.heap.size, 0, none⟩).run P (w.drew.alloc (.cells (bytesArr s (cap - s.size)) e))).andThen _ = _
            rw [hm]
            rfl
          rw [hrun]
          exact ⟨_, h', .r (.so id 1 0 (slen c)), ⟨_, _, cap, muAdd_same .., by rw [hsz], by rw [hsz]; exact hcap, by omega⟩, g3, g4, g2⟩
      case slice.slice e0 e =>
        simp only
        cases hb : Nat.beq src dst with
        | false => exact trivial
        | true =>
          obtain rfl := Nat.eq_of_beq_eq_true hb
          have hee : e0 = e := by rw [hs] at hd; injection hd with hd; injection hd
          subst hee
          cases he : E.und e0 with
          | none => exact trivial
          | some de =>
            cases de <;> try exact trivial
            rename_i kk
            cases kk <;> try exact trivial
            refine finL_is (by simp [ho]) fun call cs μ T h w a k gm rt wr e' => ?_
            unfold lMark at e'
            obtain ⟨r, e1, e2⟩ := qR_inv e'
            have hx := eval_rel gm rt x
            rw [e1] at hx
            cases r with
            | sl id off len cap =>
              obtain ⟨el, fz, ex, N, cs, hbk, e3⟩ := qbC_inv e2
              cases fz with
              | no =>
                obtain ⟨c, n, hm, hA, hle⟩ := hx
                obtain ⟨arr, lo, hi, hh, hsz, hxx, hc, hf⟩ := cells_at wr hm hbk
                have hlohi : lo = hi := hf
                subst hlohi
                obtain ⟨f1, f2, f3, f4, f5, f6⟩ := freeze_heap (off := arr.size) (n := 1) hh (by simp)
                rw [if_pos (by simp)] at f1
                obtain ⟨g1, g2⟩ := wr.write (w' := w.freeze ⟨c, arr.size, none⟩ 1) (wr.lt hm) (by rw [hbk]; trivial) hm (.c el .st ex N cs) (.cells arr el (arr.size, arr.size + 1)) ⟨arr, arr.size, arr.size + 1, rfl, hsz, hxx, hc, .inr (by omega)⟩ f3 f1 f2 f4 f5 f6
                have hrun : (execOp a.eval o).run P w = .ok (.value (.slice (some ⟨c, off, none⟩) len cap)) (w.freeze ⟨c, arr.size, none⟩ 1) := by
                  simp only [execOp, ho, hA]
                  refine exv ?_
                  unfold convert
                  simp only [Sem.run_bind, run_und ok hs, run_und ok hd, Result.andThen_ok, run_und ok he, beq_self_eq_true, run_markStringish hh, Sem.run_pure]
                rw [hrun]
                exact ⟨μ, _, .r (.sl id off len cap), ⟨c, n, hm, rfl, hle⟩, g1, g2, e3⟩
              | _ => cases e3
            | _ => cases e2
end
end Go.Ev

set_option linter.constructorNameAsVariable false
set_option linter.unusedVariables false
set_option linter.unusedSimpArgs false
set_option linter.unusedSectionVars false
namespace Go.Ev
open Go
noncomputable section
variable [Un]
variable {P : Program} {E : Env} {ops : Ops} {o : Oper}

theorem bl2 {c : Call} {b : Builtin} {x y : Operand} {f : (Tm → V) → (Tm → V) → L1} (ho : o.op = .call c) (hc : c.callee = .builtin b) (hx : c.args.toList = [x, y])
    (h : ∀ call μ T h w (a : Act) k nt, GM μ → RT μ nt T a.tmps → WR μ h w → RV μ (gO x T) (a.eval x) → RV μ (gO y T) (a.eval y) → f (gO x) (gO y) call T h k = true → Nx P (PK μ h w k) ((builtin b c.argTypes o.type (c.args.map fun | .const _ => true | _ => false) #[a.eval x, a.eval y]).run P w)) :
    IS P ops o (finL ops o (f (gO x) (gO y))) :=
  finL_is (by simp [ho]) fun call cs μ T h' w a k gm rt wr e => by
    rw [run_callB ho hc]
    have : c.args.map a.eval = #[a.eval x, a.eval y] := by rw [args_of hx]; simp
    rw [this]
    exact h call μ T h' w a k ops.1 gm rt wr (eval_rel gm rt x) (eval_rel gm rt y) e

theorem liesAt_bytes' {e : TypeId} (hc : P.cellsOf e = 1) (count off n : Nat) (hn : off + n ≤ count) : liesAt P P.depth e count off e n = true := by
  have hd : P.depth = (2 * (P.types.size + Made.depth) + 1) + 1 := rfl
  rw [hd]
  simp only [liesAt, Bool.or_eq_true]
  left
  rw [hd]
  simp [rowAt, hc, hn, sameLayout, Nat.mod_one]

theorem cellsOf_tt (ok : EnvOK E P) {t : Nat} {i : TypeInfo} (h : E.tt t = some i) : P.cellsOf t = E.szOf t := by simp [Program.cellsOf, ok.tt t i h, Env.szOf, h]

def unsTail (t : TypeId) (p : Option Addr) (n : Int) : Sem Value :=
  match p with
  | none =>
    if n = 0 then pure (.string .empty)
    else runtimePanic (.error "unsafe.String: ptr is nil and len is not zero")
  | some a => do
    if n = 0 then pure (.string .empty)
    else if ← variablesAt a (← elemOf t) n.toNat then do
      let s ← loadBytes a .empty n.toNat
      freeze a n.toNat
      pure (.string s)
    else unsupported (.unsafePointer "String: not so many bytes at ptr")
theorem uns_def (ts : Array TypeId) (ty : TypeId) (p : Option Addr) (v : Value) : Builtin.unsafeString_ ts ty #[.pointer p, v] = (do
    let n ← asInt v
    let some pt := ts[0]? | stuck "unsafe.String: no argument types"
    if n < 0 then runtimePanic (.error "unsafe.String: len out of range")
    if n > IntKind.i64.max then unsupported (.unsafePointer "String: a length above the largest int")
    unsTail pt p n) := by cases p <;> rfl

theorem is_unsStr (ok : EnvOK E P) {c : Call} {x y : Operand} {t : Nat} {ts : List Nat} (ho : o.op = .call c) (hc : c.callee = .builtin .unsafeString) (hx : c.args.toList = [x, y]) (ht : c.argTypes.toList = t :: ts) :
    IS P ops o (cBuiltin E ops o .unsafeString [x, y] (t :: ts)) := by
  have h0 : cBuiltin E ops o .unsafeString [x, y] (t :: ts) = withO x fun g => withO y fun g' => (match E.und t with
    | some (.pointer e) => (match E.szOf e with | 1 => finL ops o (lUnsStr e g g') | _ => .bad)
    | _ => .bad) := by unfold cBuiltin; cases ts with | nil => rfl | cons t' ts => cases ts <;> rfl
  rw [h0]
  simp only [withO_eq]
  cases hd : E.und t with
  | none => exact trivial
  | some d =>
    cases d <;> try exact trivial
    rename_i e
    simp only
    split
    case h_2 => exact trivial
    case h_1 hz =>
      obtain ⟨inf, hi⟩ := szOf_pos hz
      have hco : P.cellsOf e = 1 := by rw [cellsOf_tt ok hi, hz]
      have hts := args_of ht
      have hat : c.argTypes[0]? = some t := by rw [hts]; rfl
      refine bl2 (f := fun g g' => lUnsStr e g g') ho hc hx fun call μ T h w a k nt gm rt wr hx hy e' => ?_
      unfold lUnsStr at e'
      obtain ⟨kk, n, e1, e2⟩ := qNat_inv e'
      rw [e1] at hy
      have hy := rv_i hy
      have hrun : ∀ (p : Option Addr) (z : Value) (w' : World), a.eval x = .pointer p → n ≤ 9223372036854775807 → (unsTail t p (Int.ofNat n)).run P w = .ok z w' →
          (builtin .unsafeString c.argTypes o.type (c.args.map fun | .const _ => true | _ => false) #[a.eval x, a.eval y]).run P w = .ok (.value z) w' := fun p z w' hp hle hr => by
        refine exv ?_
        rw [hp, hy, uns_def]
        have n1 : ¬ (Int.ofNat n < 0) := by have : (0 : Int) ≤ Int.ofNat n := Int.natCast_nonneg n; omega
        have n2 : ¬ (Int.ofNat n > IntKind.i64.max) := by show ¬ ((n : Int) > 9223372036854775807); omega
        simp only [Sem.run_bind, asInt, asIntOf, Sem.run_pure, Result.andThen_ok, hat, n1, n2, if_false]
        exact hr
      cases hn : Nat.beq n 0 with
      | true =>
        rw [hn] at e2
        obtain rfl := Nat.eq_of_beq_eq_true hn
        obtain ⟨r, e3, e4⟩ := qR_inv e2
        rw [e3] at hx
        cases r with
        | np =>
          rw [hrun none (.string .empty) w hx (by omega) rfl]
          exact ⟨μ, h, .s 1, ⟨_, rfl, enc_nil⟩, wr, Ext.refl .., e4⟩
        | pt id off =>
          obtain ⟨b, m, hm, hp⟩ := oPt_rr hx
          rw [hrun _ (.string .empty) w hp (by omega) rfl]
          exact ⟨μ, h, .s 1, ⟨_, rfl, enc_nil⟩, wr, Ext.refl .., e4⟩
        | _ => cases e4
      | false =>
        rw [hn] at e2
        have hn0 : n ≠ 0 := fun h => by subst h; simp at hn
        obtain ⟨id, off, e3, e4⟩ := qPt_inv e2
        obtain ⟨el, fz, ex, N, cs, hbk, e5⟩ := qbC_inv e4
        obtain ⟨hel, e6⟩ := boolq_inv e5
        obtain rfl := Nat.eq_of_beq_eq_true hel
        obtain ⟨l, e7, e8⟩ := optq_inv e6
        obtain ⟨sc, e9, e10⟩ := optq_inv e8
        obtain ⟨fz', e11, e12⟩ := optq_inv e10
        rw [e3] at hx
        obtain ⟨b, m, hm, hp⟩ := oPt_rr hx
        obtain ⟨arr, lo, hi', hh, hsz, hxx, hc', hf⟩ := cells_at wr hm hbk
        obtain ⟨arr2, el2, fr2, hh2, hle2, hsz2, hr2⟩ := lds_sound wr e7 hm
        rw [hh] at hh2
        obtain ⟨rfl, rfl, rfl⟩ : arr = arr2 ∧ e = el2 ∧ (lo, hi') = fr2 := by
          have := Option.some.inj hh2; injection this with a b c; exact ⟨a, b, c⟩
        obtain ⟨bs, q1, q2, q3⟩ := bytesN_sound _ _ _ _ e9 hr2
        have hNle : off + n ≤ N := by
          -- the cells that were read are known ones
          unfold H.lds at e7
          rw [hbk] at e7
          exact le_of_ble (bool_inv e7).1
        have hN4 : N ≤ 4096 := Nat.le_trans hc'.1 (room_le cs)
        obtain ⟨f1, f2, f3, f4, f5, f6⟩ := freeze_heap (off := off) (n := n) hh hn0
        have hfz : FzR fz' (if lo == hi' then (off, off + n) else (min lo off, max hi' (off + n))).1 (if lo == hi' then (off, off + n) else (min lo off, max hi' (off + n))).2 m := by
          cases fz with
          | no =>
            obtain rfl := Option.some.inj e11
            have : lo = hi' := hf
            subst this
            simp only [beq_self_eq_true, if_true]
            exact .inr (Nat.le_refl _)
          | to q =>
            obtain rfl := Option.some.inj e11
            by_cases hlh : lo = hi'
            · simp only [hlh, beq_self_eq_true, if_true]
              exact .inr (by show off + n ≤ max q (off + n); omega)
            · have : (lo == hi') = false := by simp [hlh]
              simp only [this, Bool.false_eq_true, if_false]
              rcases hf with hf | hf
              · exact absurd hf hlh
              · exact .inr (by show max hi' (off + n) ≤ max q (off + n); omega)
          | st => cases e11
        obtain ⟨g1, g2⟩ := wr.write (w' := w.freeze ⟨b, off, none⟩ n) (wr.lt hm) (by rw [hbk]; trivial) hm (.c e fz' ex N cs) _ ⟨arr, _, _, rfl, hsz, hxx, hc', hfz⟩ f3 f1 f2 f4 f5 f6
        have hva := run_variablesAt (P := P) (off := off) (u := e) (k := n) hh
        rw [hco, Nat.div_one, liesAt_bytes' hco _ _ _ (Nat.le_trans hNle hc'.2.1)] at hva
        have hlb : (loadBytes ⟨b, off, none⟩ .empty n).run P w = .ok ⟨bs.toArray⟩ w := by
          have := Lib.run_loadBytes (P := P) w bs ⟨b, off, none⟩ .empty (fun j z hz => by
            rw [add_off, cell_of hh]
            have h1 : (bs.map fun b => Value.int .u8 b.toNat)[j]? = some (.int .u8 z.toNat) := by simp [hz]
            rw [← q2] at h1
            have hj : j < n := by have := (List.getElem?_eq_some_iff.1 hz).1; omega
            rw [List.getElem?_take_of_lt hj, List.getElem?_drop] at h1
            simpa using h1)
          rw [q1] at this
          rw [this]
          simp
        have hel : (elemOf t).run P w = .ok e w := by simp [elemOf, run_und ok hd]
        have hi0 : ¬ ((n : Int) = 0) := by omega
        rw [hrun _ (.string ⟨bs.toArray⟩) (w.freeze ⟨b, off, none⟩ n) hp (by omega) (by
          have ht : (Int.ofNat n).toNat = n := rfl
          unfold unsTail
          simp only [ht]
          rw [if_neg (show ¬ (Int.ofNat n = 0) from hi0)]
          simp only [Sem.run_bind, hel, Result.andThen_ok, hva, if_true, hlb, run_freeze, Sem.run_pure])]
        exact ⟨μ, _, .s sc, ⟨_, rfl, q3⟩, g1, g2, e12⟩
end
end Go.Ev

set_option linter.constructorNameAsVariable false
set_option linter.unusedVariables false
set_option linter.unusedSimpArgs false
set_option linter.unusedSectionVars false
namespace Go.Ev
open Go
noncomputable section
variable [Un]
variable {P : Program} {E : Env} {ops : Ops} {o : Oper}

theorem heap_loadCells {w w1 : World} (hw : w1.heap = w.heap) {c off n : Nat} {arr : Array Value} {e : TypeId} {fr : Nat × Nat} (h : w.heap[c]? = some (.cells arr e fr)) (hle : off + n ≤ arr.size) :
    (loadCells ⟨c, off, none⟩ n).run P w1 = .ok ((arr.toList.drop off).take n).toArray w1 := run_loadCells (by rw [hw]; exact h) off n hle

/-- what is appended or copied -/
theorem withNew_sound {μ : Mu} {h : H} {w : World} (wr : WR μ h w) {sz : Nat} {x : V} {a : Value} {g : Nat → V → Bool} (e : withNew sz h x g = true) (hx : RV μ x a) :
    ∃ n l xs, g n l = true ∧ RL μ l xs ∧ xs.length = n * sz ∧ (∀ w1, (Builtin.lenOf a).run P w1 = .ok n w1) ∧ ∀ m, m ≤ n → ∀ w1 : World, w1.heap = w.heap → (Builtin.firstCells sz m a).run P w1 = .ok (xs.take (m * sz)).toArray w1 := by
  have sl : ∀ id off len, (∃ c n cap, μ id = some (c, n) ∧ a = .slice (some ⟨c, off, none⟩) len cap ∧ len ≤ cap) → ∀ l, H.lds h id off (Nat.mul len sz) = some l → g len l = true →
      ∃ n l xs, g n l = true ∧ RL μ l xs ∧ xs.length = n * sz ∧ (∀ w1, (Builtin.lenOf a).run P w1 = .ok n w1) ∧ ∀ m, m ≤ n → ∀ w1 : World, w1.heap = w.heap → (Builtin.firstCells sz m a).run P w1 = .ok (xs.take (m * sz)).toArray w1 := by
    rintro id off len ⟨c, n, cap, hm, rfl, hle⟩ l hl hg
    obtain ⟨arr, el, fr, hh, hle', hsz, hr⟩ := lds_sound wr hl hm
    have hle' : off + len * sz ≤ arr.size := hle'
    refine ⟨len, l, _, hg, hr, by simp; omega, fun w1 => rfl, fun m hm w1 hw => ?_⟩
    have h1 : m * sz ≤ len * sz := Nat.mul_le_mul_right _ hm
    show (loadCells ⟨c, off, none⟩ (m * sz)).run P w1 = _
    rw [heap_loadCells hw hh (by omega)]
    congr 2
    rw [List.take_take]
    congr 1
    show m * sz = min (m * sz) (len * sz)
    omega
  unfold withNew at e
  cases x with
  | s c =>
    obtain ⟨h1, h2⟩ := boolq_inv e
    obtain rfl := Nat.eq_of_beq_eq_true h1
    obtain ⟨s, rfl, hc⟩ := rv_s hx
    have hs := size_enc hc
    refine ⟨slen c, _, _, h2, listN_all hc, by simp [hs], fun w1 => by rw [hs]; rfl, fun m hm w1 hw => ?_⟩
    show Sem.run P (pure ((s.extract 0 m).data.map fun b => Value.int .u8 b.toNat)) w1 = _
    rw [Sem.run_pure]
    congr 1
    apply Array.ext'
    simp [ByteArray.data_extract, List.extract_eq_take_drop, List.map_take]
  | r r =>
    cases r with
    | ns =>
      obtain rfl : a = .slice none 0 0 := hx
      refine ⟨0, .n, [], e, rfl, by simp, fun w1 => rfl, fun m hm w1 hw => ?_⟩
      have : m = 0 := by omega
      subst this
      rw [List.take_nil]
      rfl
    | se =>
      obtain ⟨ad, cap, rfl⟩ := hx
      refine ⟨0, .n, [], e, rfl, by simp, fun w1 => rfl, fun m hm w1 hw => ?_⟩
      have : m = 0 := by omega
      subst this
      show (loadCells ad (0 * sz)).run P w1 = _
      rw [List.take_nil, Nat.zero_mul]
      rfl
    | sl id off len cap =>
      obtain ⟨l, h1, h2⟩ := optq_inv e
      exact sl id off len (sl_rr (.inl ⟨cap, rfl⟩) hx) l h1 h2
    | so id z off len =>
      obtain ⟨l, h1, h2⟩ := optq_inv e
      exact sl id off len (sl_rr (.inr ⟨z, rfl⟩) hx) l h1 h2
    | _ => cases e
  | _ => cases e

theorem growBy_le (newLen : Nat) (r : Nat) : ∀ c, Builtin.growBy newLen r c ≤ 2 ^ r * (c + 192) := by
  induction r with
  | zero => intro c; simp [Builtin.growBy]
  | succ r ih =>
    intro c
    unfold Builtin.growBy
    split
    · have : 0 < 2 ^ (r + 1) := Nat.pow_pos (by decide)
      calc c ≤ 1 * (c + 192) := by omega
        _ ≤ 2 ^ (r + 1) * (c + 192) := Nat.mul_le_mul_right _ this
    · refine Nat.le_trans (ih _) ?_
      rw [Nat.pow_succ, Nat.mul_assoc]
      refine Nat.mul_le_mul_left _ ?_
      omega
theorem nextcap_le {need cap : Nat} (h : cap < need) (hn : need ≤ 65536) : Builtin.nextslicecap need cap ≤ 2 ^ 21 := by
  unfold Builtin.nextslicecap
  split
  · have : (65536 : Nat) ≤ 2 ^ 21 := by decide
    omega
  · split
    · have : (512 : Nat) ≤ 2 ^ 21 := by decide
      omega
    · have := growBy_le need 4 cap
      have h2 : (2 : Nat) ^ 4 * (cap + 192) ≤ 2 ^ 21 := by
        have : (2 : Nat) ^ 4 = 16 := rfl
        have : (2 : Nat) ^ 21 = 2097152 := rfl
        omega
      omega

/-- what is known of an element type that is appended -/
structure ApOk (E : Env) (P : Program) (e : Nat) : Prop where
  pos : 0 < E.szOf e
  tt : ∃ i, E.tt e = some i ∧ i.bytes ≤ 65536
  z : ∃ zv : Value, (∀ w, (zeroValue e).run P w = .ok zv w) ∧ zv.cells.size = E.szOf e
theorem isLen_rel {μ : Mu} (n : Nat) : ∀ (l : V) (xs : List Value), V.isLen n l = true → RL μ l xs → xs.length = n := by
  induction n with
  | zero => intro l xs h hr; obtain ⟨rfl, _⟩ := qN_inv h; obtain rfl : xs = [] := hr; rfl
  | succ n ih =>
    intro l xs h hr
    obtain ⟨a, t, rfl, h⟩ := qC_inv h
    obtain ⟨x, xs, rfl, _, ht⟩ := hr
    simp [ih t xs h ht]
theorem apOk_inv (ok : EnvOK E P) {e : Nat} (h : apOk E e = true) : ApOk E P e := by
  unfold apOk at h
  split at h
  · rename_i z h1 h2 h3
    split at h
    · rename_i l h4
      obtain ⟨zv, z1, z2, inf, hi⟩ := zer_ok ok h3
      refine ⟨le_of_ble h1, ⟨inf, hi, by have := le_of_ble h2; simpa [Env.byOf, hi] using this⟩, zv, z1, ?_⟩
      have hr : RV (fun _ => none) z zv := by rw [z2]; exact vOf_rel _ zv
      simpa using isLen_rel _ _ _ h (vCells_rel h4 hr)
    · cases h
  · cases h

/-- append, where the second operand is a slice or a text -/
theorem run_append (ok : EnvOK E P) {t t' e : Nat} (hd : E.und t = some (.slice e)) {d' : TypeDesc} (hd' : E.und t' = some d') (hni : ∀ k, d' ≠ .int k) (ap : ApOk E P e) {ty : TypeId} {base : Option Addr} {m cap n : Nat} {xv : Value} {w : World} {cs : Array Value}
    (hlen : ∀ w1, (Builtin.lenOf xv).run P w1 = .ok n w1) (hf : ∀ w1 : World, w1.heap = w.heap → (Builtin.firstCells (E.szOf e) n xv).run P w1 = .ok cs w1) :
    (m + n ≤ cap → ∀ w', (match base with | some a => storeCells (a.add (m * E.szOf e)) cs.toList | none => pure ()).run P w = .ok () w' → (Builtin.append_ #[t, t'] ty #[.slice base m cap, xv]).run P w = .ok (.slice base (m + n) cap) w') ∧
    (cap < m + n → m + n ≤ 65536 → ∀ old : Array Value, (∀ w1 : World, w1.heap = w.heap → (Builtin.firstCells (E.szOf e) m (.slice base m cap)).run P w1 = .ok old w1) → old.size = m * E.szOf e → cs.size = n * E.szOf e →
      ∃ (k : Nat) (zs : Array Value), m + n ≤ k ∧ zs.size = (k - (m + n)) * E.szOf e ∧ (Builtin.append_ #[t, t'] ty #[.slice base m cap, xv]).run P w = .ok (.slice (some ⟨w.heap.size, 0, none⟩) (m + n) k) (w.drew.alloc (.cells (old ++ cs ++ zs) e))) := by
  obtain ⟨inf, hi, hb⟩ := ap.tt
  obtain ⟨zv, z1, z2⟩ := ap.z
  have hz : (match d' with | .int _ => true | _ => false) = false := by cases d' <;> first | rfl | exact absurd rfl (hni _)
  constructor
  · intro hle w' hs
    unfold Builtin.append_
    simp only [List.getElem?_toArray, List.getElem?_cons_zero, List.getElem?_cons_succ, Sem.run_bind, run_und ok hd, Result.andThen_ok, run_size ok hi, run_und ok hd', hz, Sem.run_pure, Bool.false_eq_true, if_false, hlen, hle, if_true, Bool.not_false, hf w rfl]
    cases base with
    | none =>
      have : w' = w := by cases hs; rfl
      subst this
      rfl
    | some a =>
      simp only [Sem.run_bind, hs, Result.andThen_ok, Sem.run_pure]
  · intro hlt hn old hold ho1 ho2
    have hnle : ¬ (m + n ≤ cap) := by omega
    have c1 : ¬ (((m + n : Nat) : Int) > IntKind.i64.max ∧ (False ∨ inf.bytes = 0)) := by
      rintro ⟨h, _⟩
      have : (IntKind.i64.max : Int) = 9223372036854775807 := rfl
      omega
    have c2 : ¬ (Builtin.nextslicecap (m + n) cap * inf.bytes > 2 ^ 48) := by
      have h1 := nextcap_le hlt hn
      have h2 : Builtin.nextslicecap (m + n) cap * inf.bytes ≤ 2 ^ 21 * 65536 := Nat.mul_le_mul h1 hb
      have : (2 : Nat) ^ 21 * 65536 < 2 ^ 48 := by decide
      omega
    have hcut := cut_append (need := m + n) (sCap := cap) (e := e) (t := w.tape w.drawn (.appendCap (m + n) cap e))
    refine ⟨(Question.appendCap (m + n) cap e).cut (w.tape w.drawn (.appendCap (m + n) cap e)), Builtin.zeroCells zv.cells ((Question.appendCap (m + n) cap e).cut (w.tape w.drawn (.appendCap (m + n) cap e)) - (m + n)), hcut, by simp [Builtin.zeroCells, z2], ?_⟩
    have hi0 : ∀ w, (typeInfo e).run P w = .ok inf w := fun w => run_info ok hi w
    have hold' := hold w.drew rfl
    have hf' := hf w.drew rfl
    unfold Builtin.append_
    simp only [List.getElem?_toArray, List.getElem?_cons_zero, List.getElem?_cons_succ, Sem.run_bind, run_und ok hd, Result.andThen_ok, run_size ok hi, run_und ok hd', hz, Sem.run_pure, Bool.false_eq_true, if_false, hlen, hnle, Bool.not_false, if_true, hi0]
    rw [if_neg c1]
    simp only [Sem.run_bind, hi0, Result.andThen_ok]
    rw [if_neg c2]
    simp only [Sem.run_bind, run_choose_drew, Question.forced, Bool.false_eq_true, if_false, Result.andThen_ok, hi0, run_askRoom, hold', hf', z1, newRow, run_newObj_alloc, Sem.run_pure]
    rfl

theorem apNew_sound {μ : Mu} {h : H} {w : World} (wr : WR μ h w) {e m n : Nat} {old l : V} {k : K1} (ap : ApOk E P e) (he : apNew e (E.szOf e) m n old l h k = true) {xs ys : List Value} (ho : RL μ old xs) (hl : RL μ l ys) :
    m + n ≤ 65536 ∧ xs.length = m * E.szOf e ∧ ∀ (q : Nat) (zs : Array Value), m + n ≤ q → zs.size = (q - (m + n)) * E.szOf e → ys.length = n * E.szOf e →
      PK μ h w k (.slice (some ⟨w.heap.size, 0, none⟩) (m + n) q) (w.drew.alloc (.cells (xs.toArray ++ ys.toArray ++ zs) e)) := by
  unfold apNew at he
  obtain ⟨h1, h2⟩ := boolq_inv he
  obtain ⟨z, h3, h4⟩ := optq_inv h2
  obtain ⟨g1, g2⟩ := app_rel _ h3 ho hl
  refine ⟨le_of_ble h1, g2, fun q zs hq hz hy => ?_⟩
  have g2' : xs.length = m * E.szOf e := g2
  have hlen : (xs ++ ys).length = (m + n) * E.szOf e := by rw [List.length_append, g2', hy, Nat.add_mul]
  have hsz : (xs.toArray ++ ys.toArray ++ zs).size = q * E.szOf e := by
    have : q * E.szOf e = (m + n) * E.szOf e + (q - (m + n)) * E.szOf e := by rw [← Nat.add_mul]; congr 1; omega
    simp only [Array.size_append, List.size_toArray, hz, this]
    rw [List.length_append] at hlen
    omega
  obtain ⟨id, h', q1, q2, q3, q4⟩ := newL_sound (lo := 0) (hi := 0) wr h4 (arr := xs.toArray ++ ys.toArray ++ zs) (N := q * E.szOf e) (by
      have : (xs.toArray ++ ys.toArray ++ zs).toList.take (Nat.mul (Nat.add m n) (E.szOf e)) = xs ++ ys := by
        have h5 : (xs.toArray ++ ys.toArray ++ zs).toList = (xs ++ ys) ++ zs.toList := by simp
        rw [h5]
        exact List.take_left' hlen
      rw [this]; exact g1) hsz (by simp) rfl (w' := w.drew.alloc (.cells (xs.toArray ++ ys.toArray ++ zs) e)) rfl rfl rfl rfl
  exact ⟨_, h', .r (.so id (E.szOf e) 0 (m + n)), ⟨_, _, q, muAdd_same .., rfl, hq, by omega⟩, q3, q4, q2⟩
end
end Go.Ev

set_option linter.constructorNameAsVariable false
set_option linter.unusedVariables false
set_option linter.unusedSimpArgs false
set_option linter.unusedSectionVars false
namespace Go.Ev
open Go
noncomputable section
variable [Un]
variable {P : Program} {E : Env} {ops : Ops} {o : Oper}

/-- a block is written, and from now on known by another name -/
theorem WR.rename {μ : Mu} {h : H} {w w' : World} (r : WR μ h w) (hn : h.nx < 32768) {id c n : Nat} (hw : wrb (h.get id)) (hm : μ id = some (c, n)) (b : B) (o : Obj)
    (hb : RB (muAdd μ h.nx c n) b n o) (hsz : w'.heap.size = w.heap.size) (hc : w'.heap[c]? = some o) (ho : ∀ c', c' ≠ c → w'.heap[c']? = w.heap[c']?)
    (e1 : w'.os = w.os) (e2 : w'.output = w.output) (e3 : w'.tape = w.tape) :
    WR (muAdd μ h.nx c n) ((h.put id .x).add b) w' ∧ Ext μ h w (muAdd μ h.nx c n) ((h.put id .x).add b) w' := by
  have hid := r.lt hm
  have hf := r.fresh h.nx (Nat.le_refl _)
  have s : Sub μ (muAdd μ h.nx c n) := sub_add hf
  have hne : id ≠ h.nx := fun e => by rw [e, hf] at hm; cases hm
  have hnx : (h.put id .x).nx = h.nx := nx_put ..
  have gnx : ((h.put id .x).add b).get h.nx = b := by rw [← hnx]; exact get_add_same ..
  have gid : ((h.put id .x).add b).get id = .x := by rw [get_add_ne _ _ hid (by rw [hnx]; exact hn) (by rw [hnx]; exact hne), get_put_same]
  have goth : ∀ i, i < 32768 → i ≠ h.nx → i ≠ id → ((h.put id .x).add b).get i = h.get i := fun i hi h1 h2 => by
    rw [get_add_ne _ _ hi (by rw [hnx]; exact hn) (by rw [hnx]; exact h1), get_put_ne hi hid h2]
  have alive : ∀ i, i < 32768 → i ≠ h.nx → ((h.put id .x).add b).get i ≠ .x → i ≠ id ∧ h.get i ≠ .x := fun i hi h1 ha => by
    have h2 : i ≠ id := fun e => by subst e; exact ha gid
    exact ⟨h2, by rwa [goth i hi h1 h2] at ha⟩
  refine ⟨⟨by rw [nx_add, hnx]; omega, fun i hi => ?_, fun i hi ha => ?_, fun i j hi hj ha hb' c' n1 n2 h1 h2 => ?_⟩, ⟨s, by omega, fun c' hc' => ?_, fun c' hc' => ?_, fun c' _ hn' => ?_, e1, e2, e3⟩⟩
  · rw [nx_add, hnx] at hi; rw [muAdd_ne (by omega)]; exact r.fresh i (by omega)
  · by_cases hi' : i = h.nx
    · subst hi'
      rw [gnx]
      exact ⟨c, n, o, muAdd_same .., hc, hb⟩
    · obtain ⟨h2, h3⟩ := alive i hi hi' ha
      rw [goth i hi hi' h2]
      obtain ⟨c', m, o', g1, g2, g3⟩ := r.blk i hi h3
      have hcc : c' ≠ c := fun e => h2 (r.inj i id hi hid h3 (wrb_ne hw) c m n (by rw [g1, e]) hm)
      exact ⟨c', m, o', by rw [muAdd_ne hi']; exact g1, by rw [ho c' hcc]; exact g2, g3.mono s⟩
  · by_cases hi' : i = h.nx
    · by_cases hj' : j = h.nx
      · rw [hi', hj']
      · obtain ⟨h4, h5⟩ := alive j hj hj' hb'
        subst hi'
        rw [muAdd_same] at h1
        rw [muAdd_ne hj'] at h2
        simp at h1
        exact absurd (r.inj j id hj hid h5 (wrb_ne hw) c n2 n (by rw [h2, h1.1]) hm) h4
    · by_cases hj' : j = h.nx
      · obtain ⟨h4, h5⟩ := alive i hi hi' ha
        subst hj'
        rw [muAdd_same] at h2
        rw [muAdd_ne hi'] at h1
        simp at h2
        exact absurd (r.inj i id hi hid h5 (wrb_ne hw) c n1 n (by rw [h1, h2.1]) hm) h4
      · rw [muAdd_ne hi'] at h1
        rw [muAdd_ne hj'] at h2
        exact r.inj i j hi hj (alive i hi hi' ha).2 (alive j hj hj' hb').2 c' n1 n2 h1 h2
  · obtain ⟨i, m, hi, ha, hmm⟩ := hc'
    by_cases hi' : i = h.nx
    · subst hi'
      rw [muAdd_same] at hmm
      simp at hmm
      exact .inl ⟨id, n, hid, hw, by rw [hm, hmm.1]⟩
    · obtain ⟨h2, h3⟩ := alive i hi hi' (wrb_ne ha)
      rw [goth i hi hi' h2] at ha
      rw [muAdd_ne hi'] at hmm
      exact .inl ⟨i, m, hi, ha, hmm⟩
  · obtain ⟨i, m, hi, ha, hmm⟩ := hc'
    by_cases hi' : i = h.nx
    · subst hi'
      rw [muAdd_same] at hmm
      simp at hmm
      exact .inl ⟨id, n, hid, wrb_ne hw, by rw [hm, hmm.1]⟩
    · obtain ⟨h2, h3⟩ := alive i hi hi' ha
      rw [goth i hi hi' h2] at ha
      rw [muAdd_ne hi'] at hmm
      exact .inl ⟨i, m, hi, ha, hmm⟩
  · by_cases e : c' = c
    · exact absurd ⟨id, n, hid, hw, by rw [e]; exact hm⟩ hn'
    · exact ho c' e

theorem take_exact {α : Type} {xs : List α} {n : Nat} (h : xs.length = n) : xs.take n = xs := List.take_of_length_le (by omega)

theorem is_append (ok : EnvOK E P) {c : Call} {x y : Operand} {t t' : Nat} (ho : o.op = .call c) (hc : c.callee = .builtin .append) (hx : c.args.toList = [x, y]) (ht : c.argTypes.toList = [t, t']) :
    IS P ops o (cBuiltin E ops o .append [x, y] [t, t']) := by
  unfold cBuiltin
  simp only [withO_eq]
  have hts := args_of ht
  have main : ∀ e d', E.und t = some (.slice e) → E.und t' = some d' → (∀ k, d' ≠ .int k) → apOk E e = true → IS P ops o (finL ops o (lAppend e (E.szOf e) (gO x) (gO y))) := by
    intro e d' hd hd' hni hap
    have ap := apOk_inv ok hap
    refine bl2 (f := fun g g' => lAppend e (E.szOf e) g g') ho hc hx fun call μ T h w a k nt gm rt wr hx hy e' => ?_
    rw [hts]
    unfold lAppend at e'
    obtain ⟨n, l, ys, hg, hl, hylen, hlen, hf⟩ := withNew_sound (P := P) wr e' hy
    obtain ⟨r, e1, e2⟩ := qR_inv hg
    rw [e1] at hx
    have hf' : ∀ w1 : World, w1.heap = w.heap → (Builtin.firstCells (E.szOf e) n (a.eval y)).run P w1 = .ok ys.toArray w1 := fun w1 hw => by
      have := hf n (Nat.le_refl _) w1 hw
      rwa [take_exact hylen] at this
    have run : ∀ (z : Value) (w' : World), (Builtin.append_ #[t, t'] o.type #[a.eval x, a.eval y]).run P w = .ok z w' → PK μ h w k z w' → Nx P (PK μ h w k) ((builtin .append #[t, t'] o.type (c.args.map fun | .const _ => true | _ => false) #[a.eval x, a.eval y]).run P w) := fun z w' hr hp => by
      have : (builtin .append #[t, t'] o.type (c.args.map fun | .const _ => true | _ => false) #[a.eval x, a.eval y]).run P w = .ok (.value z) w' := exv hr
      rw [this]
      exact hp
    -- a new block
    have grow : ∀ (base : Option Addr) (m cap : Nat) (old : V) (xs : List Value), a.eval x = .slice base m cap → cap < m + n → RL μ old xs → (∀ w1 : World, w1.heap = w.heap → (Builtin.firstCells (E.szOf e) m (.slice base m cap)).run P w1 = .ok xs.toArray w1) → apNew e (E.szOf e) m n old l h k = true →
        Nx P (PK μ h w k) ((builtin .append #[t, t'] o.type (c.args.map fun | .const _ => true | _ => false) #[a.eval x, a.eval y]).run P w) := fun base m cap old xs hA hlt hro hold hn => by
      obtain ⟨q1, q2, q3⟩ := apNew_sound wr ap hn hro hl
      obtain ⟨kk, zs, r1, r2, r3⟩ := (run_append ok hd hd' hni ap (ty := o.type) (base := base) (m := m) (cap := cap) hlen hf').2 hlt q1 xs.toArray hold (by simpa using q2) (by simpa using hylen)
      refine run _ _ (by rw [hA]; exact r3) (q3 kk zs r1 r2 hylen)
    cases r with
    | ns =>
      have hA : a.eval x = .slice none 0 0 := hx
      cases hn : Nat.beq n 0 with
      | true =>
        obtain rfl := Nat.eq_of_beq_eq_true hn
        have e3 : k (.r .ns) h = true := e2
        have := (run_append ok hd hd' hni ap (ty := o.type) (base := none) (m := 0) (cap := 0) (w := w) hlen hf').1 (by omega) w rfl
        exact run _ _ (by rw [hA]; exact this) ⟨μ, h, .r .ns, rfl, wr, Ext.refl .., e3⟩
      | false =>
        have e3 : apNew e (E.szOf e) 0 n .n l h k = true := by
          have := e2
          simp only [hn] at this
          exact this
        have hn0 : n ≠ 0 := fun h => by subst h; simp at hn
        exact grow none 0 0 .n [] hA (by omega) rfl (fun w1 _ => rfl) e3
    | sl id off len cap =>
      obtain ⟨cb, nb, hm, hA, hle⟩ := hx
      cases hb : Nat.ble (Nat.add len n) cap with
      | true =>
        have e3 : H.sts h id (Nat.add off (Nat.mul len (E.szOf e))) (Nat.mul n (E.szOf e)) l (fun h' => k (.r (.sl id off (Nat.add len n) cap)) h') = true := by
          have := e2; simp only [hb] at this; exact this
        obtain ⟨g1, g2, w', h', g3, g4, g5, g6⟩ := sts_sound (P := P) wr e3 hm hl
        have := (run_append ok hd hd' hni ap (ty := o.type) (base := some ⟨cb, off, none⟩) (m := len) (cap := cap) (w := w) hlen hf').1 (le_of_ble hb) w' (by show (storeCells ((⟨cb, off, none⟩ : Addr).add (len * E.szOf e)) _).run P w = _; rw [add_off]; exact g3)
        exact run _ _ (by rw [hA]; exact this) ⟨μ, h', .r (.sl id off (len + n) cap), ⟨cb, nb, hm, rfl, le_of_ble hb⟩, g4, g5, g6⟩
      | false =>
        have e3 : (Option.rec (motive := fun _ => Bool) false (fun old => apNew e (E.szOf e) len n old l h k) (H.lds h id off (Nat.mul len (E.szOf e)))) = true := by
          have := e2; simp only [hb] at this; exact this
        obtain ⟨old, e4, e5⟩ := optq_inv e3
        obtain ⟨arr, el, fr, hh, hle', hsz, hr⟩ := lds_sound wr e4 hm
        have hlt : cap < len + n := by
          rcases Nat.lt_or_ge cap (len + n) with h | h
          · exact h
          · have : Nat.ble (Nat.add len n) cap = true := ble_t h
            rw [this] at hb; cases hb
        exact grow _ len cap old _ hA hlt hr (fun w1 hw => heap_loadCells hw hh hle') e5
    | se =>
      obtain ⟨ad, cap, hA⟩ := hx
      obtain ⟨hn, e3⟩ := boolq_inv e2
      obtain rfl := Nat.eq_of_beq_eq_true hn
      have hy0 : ys = [] := List.length_eq_zero_iff.1 (by rw [hylen]; simp)
      subst hy0
      have := (run_append ok hd hd' hni ap (ty := o.type) (base := some ad) (m := 0) (cap := cap) (w := w) hlen hf').1 (by omega) w rfl
      exact run _ _ (by rw [hA]; exact this) ⟨μ, h, .r .se, ⟨ad, cap, rfl⟩, wr, Ext.refl .., e3⟩
    | so id z off len =>
      obtain ⟨cb, nb, cap, hm, hA, hle, hroom⟩ := hx
      obtain ⟨hz, e3⟩ := boolq_inv e2
      obtain rfl := Nat.eq_of_beq_eq_true hz
      obtain ⟨el, fz, ex, N, cs, hbk, e4⟩ := qbC_inv e3
      obtain ⟨hel, e5⟩ := boolq_inv e4
      obtain rfl := Nat.eq_of_beq_eq_true hel
      obtain ⟨arr, lo, hi, hh, hsz, hxx, hrc, hfz⟩ := cells_at wr hm hbk
      have hpos := ap.pos
      cases hb : Nat.ble (Nat.add off (Nat.mul (Nat.add len n) (E.szOf e))) N with
      | true =>
        have e6 : H.sts h id (Nat.add off (Nat.mul len (E.szOf e))) (Nat.mul n (E.szOf e)) l (fun h' => k (.r (.so id (E.szOf e) off (Nat.add len n))) h') = true := by
          have := e5; simp only [hb] at this; exact this
        obtain ⟨g1, g2, w', h', g3, g4, g5, g6⟩ := sts_sound (P := P) wr e6 hm hl
        have hfit : len + n ≤ cap := by
          have h1 : off + (len + n) * E.szOf e ≤ N := le_of_ble hb
          have h2 := hrc.2.1
          have h3 : (len + n) * E.szOf e ≤ cap * E.szOf e := by omega
          exact Nat.le_of_mul_le_mul_right h3 hpos
        have := (run_append ok hd hd' hni ap (ty := o.type) (base := some ⟨cb, off, none⟩) (m := len) (cap := cap) (w := w) hlen hf').1 hfit w' (by show (storeCells ((⟨cb, off, none⟩ : Addr).add (len * E.szOf e)) _).run P w = _; rw [add_off]; exact g3)
        exact run _ _ (by rw [hA]; exact this) ⟨μ, h', .r (.so id (E.szOf e) off (len + n)), ⟨cb, nb, cap, hm, rfl, hfit, hroom⟩, g4, g5, g6⟩
      | false =>
        have e6 : (Bool.rec (motive := fun _ => Bool) false (apGrow e (E.szOf e) id len n N fz cs l h k) (Nat.beq off 0)) = true := by
          have := e5; simp only [hb] at this; exact this
        obtain ⟨hoff, e7⟩ := boolq_inv e6
        obtain rfl := Nat.eq_of_beq_eq_true hoff
        unfold apGrow at e7
        obtain ⟨b1, e8⟩ := boolq_inv e7
        obtain ⟨b2, e9⟩ := boolq_inv e8
        obtain ⟨b3, e10⟩ := boolq_inv e9
        obtain ⟨b4, e11⟩ := boolq_inv e10
        obtain ⟨cs', e12, e13⟩ := optq_inv e11
        have b1 : len * E.szOf e ≤ N := le_of_ble b1
        have b2 : len + n ≤ 65536 := le_of_ble b2
        have b3 : (len + n) * E.szOf e ≤ (cs.grow ((len + n) * E.szOf e)).room := cs_fits _ _ b3
        obtain ⟨hnx, hk⟩ := new_eq _ _ _ e13
        rw [nx_put] at hnx hk
        have gr1 := b3
        have gr2 := cs_grow_room cs ((len + n) * E.szOf e)
        have hsum : (len + n) * E.szOf e = len * E.szOf e + n * E.szOf e := Nat.add_mul ..
        obtain ⟨s1, s2, s3, s4, s5⟩ := stn_rel (Nat.mul n (E.szOf e)) e12 hl (by show len * E.szOf e + n * E.szOf e ≤ _; rw [← hsum]; exact gr1)
        have s1 : ys.length = n * E.szOf e := s1
        have hNroom := hrc.1
        -- what the cells are then
        have rc : ∀ (μ' : Mu) (arr' : Array Value), Sub μ μ' → (len + n) * E.szOf e ≤ arr'.size → (∀ i, i < len * E.szOf e → arr'[i]? = arr[i]?) → (∀ j z, ys[j]? = some z → arr'[len * E.szOf e + j]? = some z) → RC μ' ((len + n) * E.szOf e) cs' arr' := fun μ' arr' hsub h1 h2 h3 => by
          refine ⟨by rw [s2]; exact gr1, h1, fun i hi' => ?_⟩
          by_cases hil : i < len * E.szOf e
          · have hiN : i < N := by omega
            have hir : i < cs.room := by omega
            obtain ⟨z, z1, z2⟩ := hrc.2.2 i hiN
            refine ⟨z, by rw [h2 i hil]; exact z1, ?_⟩
            have : cs'.get i = cs.get i := by rw [s3 i (Nat.lt_of_lt_of_le hir gr2) (.inl hil), cs_grow_get cs _ i hir]
            rw [this]
            exact z2.mono hsub
          · have hj : i - len * E.szOf e < ys.length := by omega
            have hidx : len * E.szOf e + (i - len * E.szOf e) = i := by omega
            have p1 := h3 (i - len * E.szOf e) ys[i - len * E.szOf e] (by simp [hj])
            have p2 : RV μ (cs'.get (len * E.szOf e + (i - len * E.szOf e))) ys[i - len * E.szOf e] := s4 (i - len * E.szOf e) ys[i - len * E.szOf e] (by simp [hj])
            rw [hidx] at p1 p2
            exact ⟨_, p1, p2.mono hsub⟩
        rcases Nat.lt_or_ge cap (len + n) with hlt | hge
        · -- no room: a new block
          have hle0 : 0 + len * E.szOf e ≤ arr.size := by have := hrc.2.1; omega
          obtain ⟨kk, zs, r1, r2, r3⟩ := (run_append ok hd hd' hni ap (ty := o.type) (base := some ⟨cb, 0, none⟩) (m := len) (cap := cap) (w := w) hlen hf').2 hlt b2 ((arr.toList.drop 0).take (len * E.szOf e)).toArray (fun w1 hw => heap_loadCells hw hh hle0) (by simp; omega) (by simpa using s1)
          obtain ⟨f1, f2⟩ := wr.forget (wr.lt hm)
          have hN' : (((arr.toList.drop 0).take (len * E.szOf e)).toArray ++ ys.toArray ++ zs).size = kk * E.szOf e := by
            have : kk * E.szOf e = (len + n) * E.szOf e + (kk - (len + n)) * E.szOf e := by rw [← Nat.add_mul]; congr 1; omega
            simp only [Array.size_append, List.size_toArray, r2, this, List.length_take, List.drop_zero, Array.length_toList, s1]
            rw [hsum]
            omega
          have hsub : Sub μ (muAdd μ h.nx w.heap.size (kk * E.szOf e)) := sub_add (wr.fresh _ (Nat.le_refl _))
          obtain ⟨q1, q2⟩ := f1.alloc (w' := w.drew.alloc (.cells (((arr.toList.drop 0).take (len * E.szOf e)).toArray ++ ys.toArray ++ zs) e)) (by rw [nx_put]; exact hnx) (.c e fz false ((len + n) * E.szOf e) cs') (.cells (((arr.toList.drop 0).take (len * E.szOf e)).toArray ++ ys.toArray ++ zs) e) (kk * E.szOf e) rfl
            (by
              rw [nx_put]
              refine ⟨_, 0, 0, rfl, hN', by simp, rc _ _ hsub ?_ ?_ ?_, ?_⟩
              · rw [hN']; exact Nat.mul_le_mul_right _ r1
              · intro i hi'
                have hlen0 : ((arr.toList.drop 0).take (len * E.szOf e)).length = len * E.szOf e := by simp; omega
                rw [Array.append_assoc, Array.getElem?_append_left (by simp only [List.size_toArray, hlen0]; exact hi')]
                simp [hi', List.getElem?_take_of_lt hi']
              · intro j z hz
                have hlen0 : ((arr.toList.drop 0).take (len * E.szOf e)).length = len * E.szOf e := by simp; omega
                have hj : j < ys.length := (List.getElem?_eq_some_iff.1 hz).1
                rw [Array.append_assoc, Array.getElem?_append_right (by simp only [List.size_toArray, hlen0]; omega)]
                rw [Array.getElem?_append_left (by simp only [List.size_toArray, hlen0]; omega)]
                simp only [List.size_toArray, hlen0, Nat.add_sub_cancel_left]
                simpa using hz
              · cases fz with
                | no => rfl
                | to q => exact .inl rfl
                | st => exact .inl rfl) rfl rfl rfl
          rw [nx_put] at q1 q2
          refine run _ _ (by rw [hA]; exact r3) ⟨_, _, .r (.so h.nx (E.szOf e) 0 (len + n)), ⟨_, _, kk, muAdd_same .., rfl, r1, by omega⟩, q1, f2.trans q2, hk⟩
        · -- room: it is written where it stands
          have hnb : (len + n) * E.szOf e ≤ arr.size := by
            have : (len + n) * E.szOf e ≤ cap * E.szOf e := Nat.mul_le_mul_right _ hge
            omega
          obtain ⟨w', arr', q1, q2, q3, q4, q5, q6, q7, q8, q9, q10⟩ := run_stc (P := P) (off := len * E.szOf e) ys 0 arr w hh (by rw [s1]; omega) s5 (fun j h1 h2 => thaw_ok hfz b4 j (by show len * E.szOf e ≤ j; omega) (by omega))
          have hsub : Sub μ (muAdd μ h.nx cb nb) := sub_add (wr.fresh _ (Nat.le_refl _))
          obtain ⟨p1, p2⟩ := wr.rename (w' := w') hnx (by rw [hbk]; trivial) hm (.c e fz false ((len + n) * E.szOf e) cs') (.cells arr' e (lo, hi))
            ⟨arr', lo, hi, rfl, by rw [q5, hsz], by simp, rc _ _ hsub (by omega) (fun i hi' => q6 i (.inl (by omega))) (fun j z hz => by have := q7 j z hz; rwa [Nat.add_zero] at this), hfz⟩ q2 q3 q4 q8 q9 q10
          have := (run_append ok hd hd' hni ap (ty := o.type) (base := some ⟨cb, 0, none⟩) (m := len) (cap := cap) (w := w) hlen hf').1 hge w' (by show (storeCells ((⟨cb, 0, none⟩ : Addr).add (len * E.szOf e)) _).run P w = _; rw [add_off, Nat.zero_add]; exact q1)
          exact run _ _ (by rw [hA]; exact this) ⟨_, _, .r (.so h.nx (E.szOf e) 0 (len + n)), ⟨cb, nb, cap, muAdd_same .., rfl, hge, hroom⟩, p1, p2, hk⟩
    | _ => cases e2
  cases hd : E.und t with
  | none => exact trivial
  | some d =>
    cases hd' : E.und t' with
    | none => cases d <;> exact trivial
    | some d' =>
      cases d <;> try exact trivial
      rename_i e
      cases d' <;> try exact trivial
      case string =>
        simp only
        cases hap : apOk E e with
        | false => exact trivial
        | true => exact main e _ hd hd' (by simp) hap
      case slice e2 =>
        simp only
        cases hap : apOk E e with
        | false => exact trivial
        | true => exact main e _ hd hd' (by simp) hap
end
end Go.Ev

set_option linter.constructorNameAsVariable false
set_option linter.unusedVariables false
set_option linter.unusedSimpArgs false
set_option linter.unusedSectionVars false
namespace Go.Ev
open Go
noncomputable section
variable [Un]
variable {P : Program} {E : Env} {ops : Ops} {o : Oper}

/-- what is asked of the functions that are known in another way -/
def PureS (P : Program) (f : Nat) (g : V → H → Option V) : Prop := ∀ μ h w args xs v, GM μ → WR μ h w → RL μ args xs → g args h = some v →
  Nx P (fun x w' => WR μ h w' ∧ Ext μ h w μ h w' ∧ RV μ v x) ((callFunc f xs.toArray).run P w)
def MkzS (P : Program) (f e : Nat) : Prop := ∀ (w : World) (n : Nat), n ≤ 4096 → ∃ cap arr w1, n ≤ cap ∧ Array.size arr = cap ∧ World.heap w1 = w.heap ∧ w1.os = w.os ∧ w1.output = w.output ∧ w1.tape = w.tape ∧
  (callFunc f #[.int .i64 (Int.ofNat n)]).run P w = .ok (.value (.slice (some ⟨w.heap.size, 0, none⟩) n cap)) (w1.alloc (.cells arr e))
def DefS (P : Program) (f : Nat) : Prop := ∃ fn, P.funcs[f]? = some fn ∧ (fn.name == "runtime.NumGoroutine") = false ∧ fn.body.isNone = false ∧
  ∀ args (w : World), CallsDIn Fence.wide 0 P f args .returning w fun e u w' => (∃ v, e = .returned v) ∧ u = .returning ∧ w' = w
/-- what a function makes of some arguments and some memory -/
def SegS (P : Program) (f : Nat) (g : V → H → Option (V × H)) : Prop := ∀ μ h w args xs v h1, GM μ → WR μ h w → RL μ args xs → g args h = some (v, h1) →
  Nx P (fun x w' => ∃ μ', WR μ' h1 w' ∧ Ext μ h w μ' h1 w' ∧ RV μ' v x) ((callFunc f xs.toArray).run P w)
structure SumOK (E : Env) (P : Program) : Prop where
  pure : ∀ f g, E.sm f = .pure g → PureS P f g
  mkz : ∀ f e, E.sm f = .mkz e → MkzS P f e
  ds : ∀ f, E.ds f = true → DefS P f
  seg : ∀ f g, E.sm f = .seg g → SegS P f g

theorem is_copy (ok : EnvOK E P) {c : Call} {x y : Operand} {t : Nat} {ts : List Nat} (ho : o.op = .call c) (hc : c.callee = .builtin .copy) (hx : c.args.toList = [x, y]) (ht : c.argTypes.toList = t :: ts) :
    IS P ops o (cBuiltin E ops o .copy [x, y] (t :: ts)) := by
  have h0 : cBuiltin E ops o .copy [x, y] (t :: ts) = withO x fun g => withO y fun g' => (match E.und t with
    | some (.slice e) => (match E.kn e with | true => finL ops o (lCopy (E.szOf e) g g') | false => .bad)
    | _ => .bad) := by unfold cBuiltin; cases ts with | nil => rfl | cons t' ts => cases ts <;> rfl
  rw [h0]
  simp only [withO_eq]
  cases hd : E.und t with
  | none => exact trivial
  | some d =>
    cases d <;> try exact trivial
    rename_i e
    simp only
    cases hk : E.kn e with
    | false => exact trivial
    | true =>
      obtain ⟨inf, hi⟩ := kn_tt hk
      have hts := args_of ht
      have hat : c.argTypes[0]? = some t := by rw [hts]; rfl
      refine bl2 (f := fun g g' => lCopy (E.szOf e) g g') ho hc hx fun call μ T h w a k nt gm rt wr hx hy e' => ?_
      unfold lCopy at e'
      obtain ⟨m, l, ys, hg, hl, hylen, hlen, hf⟩ := withNew_sound (P := P) wr e' hy
      have run : ∀ (q : Array Bool) (base : Option Addr) (len cap : Nat) (w' : World), a.eval x = .slice base len cap → (match base with | some a => storeCells a (ys.take (Nat.min m len * E.szOf e)) | none => pure ()).run P w = .ok () w' → (builtin .copy c.argTypes o.type q #[a.eval x, a.eval y]).run P w = .ok (.value (goInt (Nat.min m len : Nat))) w' := fun q base len cap w' hA hs => by
        refine exv ?_
        rw [hA]
        have hf1 := hf (Nat.min m len) (Nat.min_le_left ..) w rfl
        unfold Builtin.copy_
        simp only [hat, List.getElem?_toArray, List.getElem?_cons_zero, List.getElem?_cons_succ, Sem.run_bind, run_und ok hd, Result.andThen_ok, hlen, run_size ok hi, hf1]
        cases base with
        | none => cases hs; rfl
        | some ad =>
          have hs' : (storeCells ad (ys.take (Nat.min m len * E.szOf e))).run P w = .ok () w' := hs
          simp only [Sem.run_bind, hs', Result.andThen_ok, Sem.run_pure]
      have main : ∀ id off len, (∃ c n cap, μ id = some (c, n) ∧ a.eval x = .slice (some ⟨c, off, none⟩) len cap ∧ len ≤ cap) →
          (Option.rec (motive := fun _ => Bool) false (fun l' => H.sts h id off (Nat.mul (Nat.min m len) (E.szOf e)) l' fun h' => k (goI (Nat.min m len)) h') (V.take (Nat.mul (Nat.min m len) (E.szOf e)) l)) = true →
          ∀ q, Nx P (PK μ h w k) ((builtin .copy c.argTypes o.type q #[a.eval x, a.eval y]).run P w) := by
        rintro id off len ⟨cb, nb, cap, hm, hA, hle⟩ hh q
        obtain ⟨l', e1, e2⟩ := optq_inv hh
        obtain ⟨g1, g2, w', h', g3, g4, g5, g6⟩ := sts_sound (P := P) wr e2 hm (take_rel _ e1 hl).1
        rw [run q _ len cap w' hA g3]
        exact ⟨μ, h', goI (Nat.min m len), rfl, g4, g5, g6⟩
      rcases qSl_inv hg with ⟨e1, e2⟩ | ⟨id, off, len, cap, e1, e2⟩ | ⟨id, sz, off, len, e1, e2⟩
      · rw [e1] at hx
        have hA : a.eval x = .slice none 0 0 := hx
        rw [run _ none 0 0 w hA rfl]
        exact ⟨μ, h, goI 0, by show Value.int .i64 _ = .int .i64 _; simp, wr, Ext.refl .., e2⟩
      · exact main id off len (sl_rr (.inl ⟨cap, rfl⟩) (by rw [e1] at hx; exact hx)) e2 _
      · exact main id off len (sl_rr (.inr ⟨sz, rfl⟩) (by rw [e1] at hx; exact hx)) e2 _

theorem bad_is (h : IOp) (e : h = .bad) : IS P ops o h := by subst e; exact trivial

theorem is_builtin (ok : EnvOK E P) {c : Call} {b : Builtin} (ho : o.op = .call c) (hc : c.callee = .builtin b) : IS P ops o (cBuiltin E ops o b c.args.toList c.argTypes.toList) := by
  generalize hxs : c.args.toList = xs
  generalize hts : c.argTypes.toList = ts
  unfold cBuiltin
  split
  · exact is_len (ops := ops) ok ho hc hxs hts
  · exact is_cap (ops := ops) ok ho hc hxs hts
  · have := is_min (P := P) (E := E) (ops := ops) (ts := ts) ho hc hxs; unfold cBuiltin at this; exact this
  · have := is_max (P := P) (E := E) (ops := ops) (ts := ts) ho hc hxs; unfold cBuiltin at this; exact this
  · have := is_append (ops := ops) ok ho hc hxs hts; unfold cBuiltin at this; exact this
  · have := is_copy (ops := ops) ok ho hc hxs hts; unfold cBuiltin at this; exact this
  · have := is_data (P := P) (E := E) (ops := ops) (ts := ts) ho hc hxs; unfold cBuiltin at this; exact this
  · have := is_unsStr (ops := ops) ok ho hc hxs hts; unfold cBuiltin at this; exact this
  · exact trivial

/-! ### calls -/
theorem run_callV {a : Act} {c : Call} {x : Operand} (ho : o.op = .call c) (hc : c.callee = .value x) {fn : Fn} {first caps : Array Value} (hx : a.eval x = .func fn first caps) (w : World) :
    (execOp a.eval o).run P w = (invoke (.fn fn caps) (first ++ c.args.map a.eval)).run P w := by
  simp only [execOp, ho, resolve, hc, hx, Deferred.ofValue]
  rfl
theorem PureS.pk {f : Nat} {g : V → H → Option V} (hs : PureS P f g) {μ : Mu} {h : H} {w : World} {args : V} {xs : List Value} {v : V} {k : K1} (gm : GM μ) (wr : WR μ h w) (hr : RL μ args xs) (hg : g args h = some v) (hk : k v h = true) : Nx P (PK μ h w k) ((callFunc f xs.toArray).run P w) :=
  Nx.mono (hs μ h w args xs v gm wr hr hg) fun x w' ⟨h1, h2, h3⟩ => ⟨μ, h, v, h3, h1, h2, hk⟩

theorem fun_sound (ok : EnvOK E P) (sok : SumOK E P) {call : C} (cs : CallS P call) {f : Nat} {ga : Tm → V} {μ : Mu} {T : Tm} {h : H} {w : World} {k : K1} {xs : List Value} (gm : GM μ) (wr : WR μ h w) (hr : RL μ (ga T) xs) (e : cFun E f ga call T h k = true) :
    Nx P (PK μ h w k) ((callFunc f xs.toArray).run P w) := by
  unfold cFun at e
  cases hs : E.sm f with
  | no => rw [hs] at e; exact cs.1 f _ h k e μ w xs gm wr hr
  | seg g => rw [hs] at e; exact cs.1 f _ h k e μ w xs gm wr hr
  | pure g =>
    rw [hs] at e
    obtain ⟨v, e1, e2⟩ := optq_inv e
    exact (sok.pure f g hs).pk gm wr hr e1 e2
  | mkz el =>
    rw [hs] at e
    unfold lMkz at e
    obtain ⟨a, b, e1, e2⟩ := qC_inv e
    obtain ⟨e2n, e2⟩ := boolq_inv e2
    obtain ⟨rfl, _⟩ := qN_inv e2n
    obtain ⟨kk, xn, e3, e4⟩ := qI_inv e2
    obtain ⟨e4k, e4⟩ := boolq_inv e4
    have hkk : kk = .i64 := by cases kk <;> first | rfl | cases e4k
    subst hkk
    cases xn with
    | negSucc m => cases e4
    | ofNat n =>
    obtain ⟨e5, e6⟩ := boolq_inv e4
    rw [e1] at hr
    obtain ⟨x, rest, rfl, hx, hrest⟩ := hr
    obtain rfl : rest = [] := hrest
    rw [e3] at hx
    obtain rfl := rv_i hx
    have hn : n ≤ 4096 := le_of_ble e5
    obtain ⟨cap, arr, w1, g1, g2, g3, g4, g5, g6, g7⟩ := sok.mkz f el hs w n hn
    have g7 : (callFunc f [Value.int .i64 (Int.ofNat n)].toArray).run P w = _ := g7
    rw [g7]
    obtain ⟨hnx, hk⟩ := new_eq _ _ _ e6
    have hroom : n ≤ (Cs.c4 8 t4V).room := hn
    obtain ⟨w2, w3⟩ := wr.alloc (w' := w1.alloc (.cells arr el)) hnx (.c el .no false n (Cs.c4 8 t4V)) (.cells arr el (0, 0)) cap (by show w1.heap.push _ = _; rw [g3]) ⟨arr, 0, 0, rfl, g2, by simp, ⟨hroom, by omega, fun i hi => by
      have hu : (Cs.c4 8 t4V).get i = .u := by
        show T1.get _ (T2.get _ (T3.get _ (T4.get _ (T4.all (T3.all (T2.all (T1.all .u))))))) = .u
        rw [T4.get_all, T3.get_all, T2.get_all, T1.get_all]
      have : i < arr.size := by omega
      exact ⟨arr[i], by simp [this], by rw [hu]; trivial⟩⟩, rfl⟩ g4 g5 g6
    exact ⟨_, _, .r (.so h.nx 1 0 n), ⟨_, _, cap, muAdd_same .., rfl, g1, by omega⟩, w2, w3, hk⟩

theorem callV_sound {call : C} (cs : CallS P call) {gf ga : Tm → V} {μ : Mu} {T : Tm} {h : H} {w : World} {k : K1} {xs : List Value} {fv : Value} (gm : GM μ) (wr : WR μ h w) (hr : RL μ (ga T) xs) (hf : RV μ (gf T) fv) (e : lCallV gf ga call T h k = true) :
    ∃ fn first caps, fv = .func fn first caps ∧ Nx P (PK μ h w k) ((invoke (.fn fn caps) (first ++ xs.toArray)).run P w) := by
  unfold lCallV at e
  generalize hg : gf T = v at e hf
  cases v with
  | r r =>
    cases r with
    | y id =>
      obtain ⟨hb, e⟩ := boolq_inv e
      have hb := le_of_ble hb
      rcases hf with ⟨_, c, n, hm, rfl⟩ | ⟨hge, _⟩
      case inr => omega
      refine ⟨_, _, _, rfl, ?_⟩
      have := cs.2 id _ h k e μ w xs c n hm gm wr hr
      simpa [invoke] using this
    | _ => cases e
  | f f fst caps =>
    obtain ⟨as, bs, rfl, ha, hb⟩ := hf
    obtain ⟨z1, e1, e2⟩ := optq_inv e
    obtain ⟨z2, e3, e4⟩ := optq_inv e2
    refine ⟨_, _, _, rfl, ?_⟩
    have h1 := cat_rel _ e1 hr hb
    have h2 := cat_rel _ e3 ha h1
    have := cs.1 f _ h k e4 μ w _ gm wr h2
    have e5 : ((as ++ (xs ++ bs)).toArray) = (as.toArray ++ xs.toArray) ++ bs.toArray := by simp
    rw [e5] at this
    exact this
  | _ => cases e
end
end Go.Ev

set_option linter.constructorNameAsVariable false
set_option linter.unusedVariables false
set_option linter.unusedSimpArgs false
set_option linter.unusedSectionVars false
namespace Go.Ev
open Go
noncomputable section
variable [Un]
variable {P : Program} {E : Env} {ops : Ops} {o : Oper}

theorem steps_sound (ok : EnvOK E P) (l : List FieldStep) : ∀ (k : (V → Option V) → Option (Nat × (V → Option V))) (r : Nat × (V → Option V)), mSteps E l k = some r →
    ∃ G, k G = some r ∧ ∀ (μ : Mu) (v u : V) (x : Value) (t0 : Nat) (w : World), G v = some u → RV μ v x → ∃ y xt, (follow l t0 (.val x)).run P w = .ok (xt, .val y) w ∧ RV μ u y ∧ mType E l t0 = some xt := by
  induction l with
  | nil =>
    intro k r h
    exact ⟨some, h, fun μ v u x t0 w hv hr => ⟨x, t0, rfl, by rw [← Option.some.inj hv]; exact hr, rfl⟩⟩
  | cons s l ih =>
    intro k r h
    unfold mSteps at h
    cases hdr : s.deref with
    | true => rw [hdr] at h; cases h
    | false =>
      rw [hdr] at h
      cases hu : E.und s.struct with
      | none => rw [hu] at h; cases h
      | some d =>
        rw [hu] at h
        cases d <;> first | (cases h; done) | skip
        rename_i fs
        simp only at h
        cases hf : fs[s.index]? with
        | none => rw [hf] at h; cases h
        | some f =>
          rw [hf] at h
          simp only at h
          cases hft : E.und f.type with
          | none => rw [hft] at h; cases h
          | some d' =>
            rw [hft] at h
            obtain ⟨G, hG, hall⟩ := ih _ r h
            refine ⟨_, hG, fun μ v u x t0 w hv hr => ?_⟩
            obtain ⟨v1, h1, h2⟩ := opt_inv hv
            have h1' := h1
            unfold fField at h1'
            obtain ⟨lv, rfl, _⟩ := oA_inv h1'
            obtain ⟨xs, rfl, hl⟩ := hr
            obtain ⟨z, z1, z2⟩ := run_part ok hft h1 hl
            obtain ⟨y, xt, y1, y2, y3⟩ := hall μ v1 u z f.type w h2 z2
            refine ⟨y, xt, ?_, y2, ?_⟩
            · unfold follow
              simp only [Sem.run_bind, run_und ok hu, Result.andThen_ok, hf, hdr, Bool.false_eq_true, if_false, z1]
              exact y1
            · unfold mType
              rw [hu]
              simp only [hf]
              exact y3

theorem run_method (ok : EnvOK E P) {t : Nat} {name : String} {f : Nat} {g : V → Option V} (h : mth E t name = some (f, g)) {μ : Mu} {v u : V} {x : Value} (hv : g v = some u) (hr : RV μ v x) (n : Nat) (w : World) :
    ∃ y, (method (n + 1) t x name).run P w = .ok (f, y) w ∧ RV μ u y := by
  unfold mth at h
  cases hi : E.tt t with
  | none => rw [hi] at h; cases h
  | some i =>
    rw [hi] at h
    simp only at h
    cases hm : i.methods.find? (·.name == name) with
    | none => rw [hm] at h; cases h
    | some m =>
      rw [hm] at h
      simp only at h
      cases hfn : m.func with
      | none => rw [hfn] at h; cases h
      | some fp =>
        obtain ⟨f', ptr⟩ := fp
        rw [hfn] at h
        cases hmt : mType E m.path.toList t with
        | none => rw [hmt] at h; cases h
        | some xt =>
          rw [hmt] at h
          simp only at h
          have key : ∀ (d : TypeDesc), E.und xt = some d → ((∃ e, d = .pointer e) → ptr = true) → ((∀ e, d ≠ .pointer e) → ptr = false) → mSteps E m.path.toList (fun g => some (f', g)) = some (f, g) → ∃ y, (method (n + 1) t x name).run P w = .ok (f, y) w ∧ RV μ u y := by
            intro d hd hp1 hp2 hs
            obtain ⟨G, hG, hall⟩ := steps_sound ok _ _ _ hs
            have hG' : (f', G) = (f, g) := Option.some.inj hG
            obtain ⟨rfl, rfl⟩ := Prod.mk.inj hG'
            obtain ⟨y, xt', y1, y2, y3⟩ := hall μ v u x t w hv hr
            rw [hmt] at y3
            obtain rfl := Option.some.inj y3
            refine ⟨y, ?_, y2⟩
            unfold method
            simp only [Sem.run_bind, run_info ok hi, Result.andThen_ok, hm, y1, hfn]
            unfold receiverAt
            simp only [Sem.run_bind, run_und ok hd, Result.andThen_ok]
            cases d <;> first
              | (obtain rfl := hp1 ⟨_, rfl⟩; rfl)
              | (obtain rfl := hp2 (by simp); rfl)
          cases hd : E.und xt with
          | none => rw [hd] at h; cases h
          | some d =>
            rw [hd] at h
            have key := key d hd
            cases d <;> cases ptr <;> first
              | (cases h; done)
              | exact key (fun _ => rfl) (fun h => absurd rfl (h _)) h
              | exact key (fun ⟨e, h⟩ => by cases h) (fun _ => rfl) h

theorem is_call (ok : EnvOK E P) (sok : SumOK E P) (c : Call) (ho : o.op = .call c) : IS P ops o (c_call c E ops o) := by
  unfold c_call cCall
  have hnd : ∀ c, o.op ≠ .defer c := by simp [ho]
  split
  · rename_i b hc
    exact is_builtin ok ho hc
  · rename_i f hc
    rw [withL_eq]
    refine finL_is hnd fun call cs μ T h w a k gm rt wr e => ?_
    have := run_callV (P := P) (a := a) ho hc (x := .func f) rfl w
    rw [this]
    have hr := gL_rel gm rt c.args.toList
    have h2 := fun_sound ok sok cs gm wr hr e
    have e5 : (c.args.toList.map a.eval).toArray = #[] ++ c.args.map a.eval ++ #[] := by rw [arr_map]; simp
    rw [e5] at h2
    exact h2
  · rename_i x hne hc
    simp only [withO_eq, withL_eq]
    refine finL_is hnd fun call cs μ T h w a k gm rt wr e => ?_
    have hr := gL_rel gm rt c.args.toList
    obtain ⟨fn, first, caps, h1, h2⟩ := callV_sound cs gm wr hr (eval_rel gm rt x) e
    rw [run_callV (P := P) (a := a) ho hc h1 w]
    rw [arr_map] at h2
    exact h2
  · rename_i x name hc
    simp only [withO_eq, withL_eq]
    refine finL_is hnd fun call cs μ T h w a k gm rt wr e => ?_
    have hr := gL_rel gm rt c.args.toList
    have hx := eval_rel gm rt x
    unfold lInvoke at e
    obtain ⟨t, v, e1, e2⟩ := qW_inv e
    rw [e1] at hx
    obtain ⟨xv, hxv, hxr⟩ := hx
    cases hm : mth E t name with
    | none => rw [hm] at e2; cases e2
    | some fg =>
      obtain ⟨f, g⟩ := fg
      rw [hm] at e2
      obtain ⟨u, e3, e4⟩ := optq_inv e2
      have hdep : P.types.size + Made.depth = (P.types.size + (Made.depth - 1)) + 1 := by
        have : 0 < Made.depth := by decide
        omega
      obtain ⟨y, y1, y2⟩ := run_method ok hm e3 hxr (P.types.size + (Made.depth - 1)) w
      have hcs := cs.1 f _ h k e4 μ w (y :: c.args.toList.map a.eval) gm wr ⟨y, _, rfl, y2, hr⟩
      have hrun : (execOp a.eval o).run P w = (callFunc f (y :: c.args.toList.map a.eval).toArray).run P w := by
        simp only [execOp, ho, resolve, hc, hxv]
        show (invoke (.fn (.method name) #[]) (#[.iface t xv] ++ c.args.map a.eval)).run P w = _
        unfold invoke
        have h0 : (#[Value.iface t xv] ++ c.args.map a.eval)[0]? = some (.iface t xv) := by rw [Array.getElem?_append_left (by simp)]; rfl
        have h1 : (#[Value.iface t xv] ++ c.args.map a.eval).extract 1 (#[Value.iface t xv] ++ c.args.map a.eval).size = c.args.map a.eval := by
          apply Array.ext'
          rw [Array.toList_extract]
          have h2 : (c.args.map a.eval).toList.take (c.args.map a.eval).size = (c.args.map a.eval).toList := List.take_of_length_le (by simp)
          simpa [List.extract_eq_take_drop] using h2
        simp only [h0, h1]
        unfold callMethod
        simp only [Sem.run_bind, run_program, Result.andThen_ok, hdep, y1]
        congr 2
        apply Array.ext'
        simp
      rw [hrun]
      exact hcs

theorem is_defer (c : Call) (ho : o.op = .defer c) : IS P ops o (c_defer c E ops o) := by
  unfold c_defer
  split
  · rename_i x hc hdst hg
    simp only [withO_eq, withL_eq]
    refine ⟨hg, hdst, fun μ T h w a v gm rt wr e => ?_⟩
    unfold fDefer at e
    obtain ⟨f, fst, caps, e1, e2⟩ := oF_inv e
    obtain ⟨z, e3, e4⟩ := opt_inv e2
    obtain rfl := Option.some.inj e4
    have hx := eval_rel gm rt x
    rw [e1] at hx
    obtain ⟨as, bs, hfv, ha, hb⟩ := hx
    have hr := gL_rel gm rt c.args.toList
    refine ⟨{ target := .fn (.func f) bs.toArray, args := (as ++ c.args.toList.map a.eval).toArray }, ?_, ⟨_, bs, rfl, cat_rel _ e3 ha hr, hb⟩⟩
    simp only [execOp, ho, resolve, hc, hfv, Deferred.ofValue]
    have : (as ++ c.args.toList.map a.eval).toArray = as.toArray ++ c.args.map a.eval := by rw [← arr_map]; simp
    rw [this]
    rfl
  · exact trivial

theorem cOp_sound (ok : EnvOK E P) (sok : SumOK E P) (ops : Ops) (o : Oper) : IS P ops o (cOp E ops o) := by
  unfold cOp
  cases ho : o.op with
  | move x => exact is_move x ho
  | assign x => exact is_assign x ho
  | pick c x y => exact is_pick c x y ho
  | alloc t => exact is_alloc ok t ho
  | box t x => exact is_box t x ho
  | build t ps => exact is_build ok t ps ho
  | buildSlice t n ps => exact is_buildSlice ok t n ps ho
  | insert t x y z => exact is_mapPut ok t x y z (.inr ho)
  | load t x => exact is_load ok t x ho
  | store t x y => exact is_store ok t x y ho
  | nilCheck x => exact is_nilCheck x ho
  | binOp op t x y q => exact is_binOp ok op t x y q ho
  | unOp op t x => exact is_unOp op t x ho
  | convert s d x => exact is_convert ok s d x ho
  | makeInterface t x => exact is_makeInterface ok t x ho
  | makeFunc f x y => exact is_makeFunc f x y ho
  | makeMap t r => exact is_makeMap t r ho
  | makeSlice t x y => exact is_makeSlice ok t x y ho
  | slice t x l h m => exact is_slice ok t x l h m ho
  | fieldAddr t x i => exact is_fieldAddr ok t x i ho
  | field t x i => exact is_field ok t x i ho
  | indexAddr t x y => exact is_indexAddr ok t x y ho
  | index t x y => exact is_index ok t x y ho
  | lookup t x y c => exact is_lookup ok t x y c ho
  | mapUpdate t x y z => exact is_mapPut ok t x y z (.inl ho)
  | range t x => exact is_range ok t x ho
  | next x s => exact is_next x s ho
  | typeAssert x u t c => exact is_typeAssert ok x u t c ho
  | extract x i => exact is_extract x i ho
  | call c => exact is_call ok sok c ho
  | defer c => exact is_defer c ho
  | _ => exact trivial
end
end Go.Ev

set_option linter.constructorNameAsVariable false
set_option linter.unusedVariables false
set_option linter.unusedSimpArgs false
set_option linter.unusedSectionVars false
namespace Go.Ev
open Go
noncomputable section
variable [Un]
variable {P : Program} {E : Env}

/-! ### deferred calls, by lists -/
def RDL (μ : Mu) (D : V) (ds : List Deferred) : Prop := match ds with | [] => D = .n | d :: ds => ∃ v D', D = .c v D' ∧ RD μ v d ∧ RDL μ D' ds
/-- of a function's frame a list, of a round's nothing -/
def DR (ro : Option Nat) (μ : Mu) (D : V) (ds : List Deferred) : Prop := match ro with | none => RDL μ D ds | some _ => D = .u
theorem RD.mono {μ μ' : Mu} (s : Sub μ μ') {v : V} {d : Deferred} (h : RD μ v d) : RD μ' v d := by
  cases v with
  | f f a b => obtain ⟨xs, ys, e, ha, hb⟩ := h; exact ⟨xs, ys, e, ha.mono s, hb.mono s⟩
  | r r => cases r with
    | y id => obtain ⟨c, n, h1, h2⟩ := h; exact ⟨c, n, s _ _ h1, h2⟩
    | _ => exact h.elim
  | _ => exact h.elim
theorem RDL.mono {μ μ' : Mu} (s : Sub μ μ') {D : V} {ds : List Deferred} (h : RDL μ D ds) : RDL μ' D ds := by
  induction ds generalizing D with
  | nil => exact h
  | cons d ds ih => obtain ⟨v, D', e, h1, h2⟩ := h; exact ⟨v, D', e, h1.mono s, ih h2⟩
theorem DR.mono {ro : Option Nat} {μ μ' : Mu} (s : Sub μ μ') {D : V} {ds : List Deferred} (h : DR ro μ D ds) : DR ro μ' D ds := by
  cases ro with
  | none => exact RDL.mono s h
  | some l => exact h
theorem rdl_isL {μ : Mu} {D : V} {ds : List Deferred} (h : RDL μ D ds) : isL D = true := by
  cases ds with
  | nil => obtain rfl : D = .n := h; rfl
  | cons d ds => obtain ⟨v, D', rfl, _⟩ := h; rfl

/-- where an activation stands, and what the evaluator knows of it -/
structure St (ro : Option Nat) (nt : Nat) (μ : Mu) (T : Tm) (h : H) (D : V) (a : Act) (w : World) : Prop where
  gm : GM μ
  rt : RT μ nt T a.tmps
  wr : WR μ h w
  dr : DR ro μ D a.defers
/-- what goes on in every state that the evaluator's continuation takes -/
def Cont (ro : Option Nat) (nt : Nat) (μ : Mu) (h : H) (w : World) (k : K2) (Q : Act → World → Prop) : Prop :=
  ∀ μ' h' T' D' a' w', Ext μ h w μ' h' w' → St ro nt μ' T' h' D' a' w' → k T' h' D' = true → Q a' w'
theorem Cont.ext {ro : Option Nat} {nt : Nat} {μ μ1 : Mu} {h h1 : H} {w w1 : World} {k : K2} {Q : Act → World → Prop} (c : Cont ro nt μ h w k Q) (e : Ext μ h w μ1 h1 w1) : Cont ro nt μ1 h1 w1 k Q :=
  fun μ' h' T' D' a' w' e' st hk => c μ' h' T' D' a' w' (e.trans e') st hk

/-! ### guards -/
theorem guard_yield {μ : Mu} {nt : Nat} {T : Tm} {a : Act} {arr : Array Oper} {j t : Nat} (rt : RT μ nt T a.tmps) (hg : guardOf arr j = some t) :
    (∀ x, rd t T = .b x → yielded arr a.tmps j = some x) ∧ (∀ l, rd t T = .t l → yielded arr a.tmps j = none) := by
  have h1 : ((arr[j]?).bind (·.dst)) = some t := by
    unfold guardOf at hg
    cases ha : arr[j]? with
    | none => rw [ha] at hg; cases hg
    | some o => rw [ha] at hg; exact hg
  have hr := (rt.2 t).2
  unfold yielded
  rw [h1]
  simp only [Option.bind_some]
  constructor
  · intro x hx
    rw [hx] at hr
    have hv : a.tmps.getD t undef = .bool x := hr
    rcases Nat.lt_or_ge t a.tmps.size with hlt | hge
    · have : a.tmps[t]? = some (.bool x) := by simp [hlt] at hv ⊢; exact hv
      rw [this]
    · have : a.tmps.getD t undef = undef := by simp [hge]
      rw [this] at hv; cases hv
  · intro l hl
    rw [hl] at hr
    obtain ⟨xs, hv, _⟩ := hr
    rcases Nat.lt_or_ge t a.tmps.size with hlt | hge
    · have : a.tmps[t]? = some (.tuple xs.toArray) := by simp [hlt] at hv ⊢; exact hv
      rw [this]
    · have : a.tmps[t]? = none := by simp [hge]
      rw [this]
theorem onGuard_inv {v : V} {want yes no : Bool} (h : onGuard v want yes no = true) : (∃ x, v = .b x ∧ ((x = want ∧ yes = true) ∨ (x ≠ want ∧ no = true))) ∨ ∃ l, v = .t l ∧ no = true := by
  cases v with
  | b x =>
    have h' : (Bool.rec (motive := fun _ => Bool) no yes (beqB x want)) = true := h
    rw [beqB_eq] at h'
    by_cases e : x = want
    · subst e; simp at h'; exact .inl ⟨x, rfl, .inl ⟨rfl, h'⟩⟩
    · have : (x == want) = false := by simp [e]
      rw [this] at h'
      exact .inl ⟨x, rfl, .inr ⟨e, h'⟩⟩
  | t l => exact .inr ⟨l, rfl, h⟩
  | _ => cases h

/-! ### one operation of a region -/
section
variable {ro : Option Nat} {nt : Nat} {arr : Array Oper} {i : Nat} {o : Oper} {Q : Exit → Act → World → Prop} {K : Act → World → Prop} {a : Act} {w : World}

theorem opSkip (hi : arr[i]? = some o) (hw : Region.wanted o (yielded arr a.tmps) = false) (h : K (a.put o.dst undef) w) : wpOpIn (Fw ro) 0 P arr Q i K a w := by
  unfold wpOpIn
  simp only [hi, hw, Bool.false_eq_true, if_false]
  exact ⟨fun _ _ => trivial, h⟩
theorem opQ (hi : arr[i]? = some o) (hw : Region.wanted o (yielded arr a.tmps) = true) (hd : ∀ c, o.op ≠ .defer c) {x : Value} (hr : (execOp a.eval o).run P w = .ok (.value x) w) (h : K (a.put o.dst x) w) : wpOpIn (Fw ro) 0 P arr Q i K a w := by
  unfold wpOpIn
  simp only [hi, hw, if_true]
  refine ⟨fun _ _ => trivial, ?_⟩
  rw [Oper.semAt_eq _ _ _ hd, hr]
  exact h
theorem opN (hi : arr[i]? = some o) (hw : Region.wanted o (yielded arr a.tmps) = true) (hd : ∀ c, o.op ≠ .defer c) {R : Value → World → Prop} (hr : Nx P R ((execOp a.eval o).run P w)) (h : ∀ x w', R x w' → K (a.put o.dst x) w') : wpOpIn (Fw ro) 0 P arr Q i K a w := by
  unfold wpOpIn
  simp only [hi, hw, if_true]
  refine ⟨fun _ _ => trivial, ?_⟩
  rw [Oper.semAt_eq _ _ _ hd]
  exact hr.upon h
end

theorem put_defers (a : Act) (d : Option Nat) (v : Value) : (a.put d v).defers = a.defers := by cases d <;> rfl

theorem wanted_none {o : Oper} (h : o.guard = none) (y : Nat → Option Bool) : Region.wanted o y = true := by simp [Region.wanted, h]
theorem wanted_some {o : Oper} {j : Nat} {want : Bool} (h : o.guard = some (j, want)) (y : Nat → Option Bool) : Region.wanted o y = (y j == some want) := by simp [Region.wanted, h]

theorem oCons_sound {ro : Option Nat} {nt : Nat} {arr : Array Oper} {i : Nat} {o : Oper} {Q : Exit → Act → World → Prop} {K : Act → World → Prop} {call : C} (cs : CallS P call) {io : IOp} (his : IS P (nt, arr) o io) (hi : arr[i]? = some o)
    {l : List IOp} {ih : Rn} {μ : Mu} {T : Tm} {h : H} {D : V} {a : Act} {w : World} {k : K2} (st : St ro nt μ T h D a w) (e : oCons io l ih call T h D k = true)
    (hk : ∀ μ' h' T' D' a' w', Ext μ h w μ' h' w' → St ro nt μ' T' h' D' a' w' → ih call T' h' D' k = true → K a' w') : wpOpIn (Fw ro) 0 P arr Q i K a w := by
  have hq : ∀ {p f}, p = pD nt o.dst → QX P nt o f → (∀ c, o.op ≠ .defer c) → Region.wanted o (yielded arr a.tmps) = true → oQ p f ih call T h D k = true → wpOpIn (Fw ro) 0 P arr Q i K a w := fun {p f} hp hQ hd hw e => by
    obtain ⟨v, e1, e2⟩ := optq_inv e
    obtain ⟨x, x1, x2⟩ := hQ.qs μ T h w a v st.gm st.rt st.wr e1
    subst hp
    exact opQ hi hw hd x1 (hk μ h _ D _ w (Ext.refl ..) ⟨st.gm, rt_put st.rt x2 o.dst, st.wr, by rw [put_defers]; exact st.dr⟩ e2)
  have hl : ∀ {p f}, p = pD nt o.dst → LS P nt o f → (∀ c, o.op ≠ .defer c) → Region.wanted o (yielded arr a.tmps) = true → oL p f ih call T h D k = true → wpOpIn (Fw ro) 0 P arr Q i K a w := fun {p f} hp hL hd hw e => by
    subst hp
    refine opN hi hw hd (hL call cs μ T h w a _ st.gm st.rt st.wr e) ?_
    rintro x w' ⟨μ', h', v, x1, x2, x3, x4⟩
    have hs : Sub μ μ' := x3.mu
    exact hk μ' h' _ D _ w' x3 ⟨st.gm.mono hs, rt_put (st.rt.mono hs) x1 o.dst, x2, by rw [put_defers]; exact st.dr.mono hs⟩ x4
  have hno : Region.wanted o (yielded arr a.tmps) = false → ih call (pD nt o.dst undV T) h D k = true → wpOpIn (Fw ro) 0 P arr Q i K a w := fun hw e =>
    opSkip hi hw (hk μ h _ D _ w (Ext.refl ..) ⟨st.gm, rt_put st.rt (undef_rel μ) o.dst, st.wr, by rw [put_defers]; exact st.dr⟩ e)
  cases io with
  | q p f => obtain ⟨h1, h2, h3, h4⟩ := his; exact hq h2 h3 h4 (wanted_none h1 _) e
  | l p f => obtain ⟨h1, h2, h3, h4⟩ := his; exact hl h2 h3 h4 (wanted_none h1 _) e
  | qg g want p f =>
    obtain ⟨⟨j, t, g1, g2, g3⟩, h2, h3, h4⟩ := his
    have hy := guard_yield st.rt g2
    subst g3
    rcases onGuard_inv e with ⟨x, e1, ⟨rfl, e2⟩ | ⟨hne, e2⟩⟩ | ⟨l, e1, e2⟩
    · exact hq h2 h3 h4 (by rw [wanted_some g1, hy.1 _ e1]; simp) e2
    · rw [h2] at e2; exact hno (by rw [wanted_some g1, hy.1 _ e1]; simp [hne]) e2
    · rw [h2] at e2; exact hno (by rw [wanted_some g1, hy.2 _ e1]; rfl) e2
  | lg g want p f =>
    obtain ⟨⟨j, t, g1, g2, g3⟩, h2, h3, h4⟩ := his
    have hy := guard_yield st.rt g2
    subst g3
    rcases onGuard_inv e with ⟨x, e1, ⟨rfl, e2⟩ | ⟨hne, e2⟩⟩ | ⟨l, e1, e2⟩
    · exact hl h2 h3 h4 (by rw [wanted_some g1, hy.1 _ e1]; simp) e2
    · rw [h2] at e2; exact hno (by rw [wanted_some g1, hy.1 _ e1]; simp [hne]) e2
    · rw [h2] at e2; exact hno (by rw [wanted_some g1, hy.2 _ e1]; rfl) e2
  | df f =>
    obtain ⟨h1, h2, h3⟩ := his
    obtain ⟨e1, e2⟩ := boolq_inv e
    obtain ⟨d, e3, e4⟩ := optq_inv e2
    cases ro with
    | some l => have : D = .u := st.dr; subst this; cases e1
    | none =>
      obtain ⟨dd, x1, x2⟩ := h3 μ T h w a d st.gm st.rt st.wr e3
      unfold wpOpIn
      simp only [hi, wanted_none h1, if_true]
      refine ⟨fun _ _ => trivial, ?_⟩
      show o.uponIn (Fw none) 0 P a K Q ((execOp a.eval o).run P w)
      rw [x1]
      show K ({ a with defers := dd :: a.defers }.put o.dst undef) w
      rw [h2]
      exact hk μ h T _ _ w (Ext.refl ..) ⟨st.gm, st.rt, st.wr, ⟨d, D, rfl, x2, st.dr⟩⟩ e4
  | bad => cases e

/-- a region whose operations are done as they are written -/
theorem evOps_sound (ok : EnvOK E P) (sok : SumOK E P) {ro : Option Nat} {nt : Nat} {arr : Array Oper} {Q : Exit → Act → World → Prop} {call : C} (cs : CallS P call) (l : List Oper) : ∀ (i : Nat), arr.toList.drop i = l → ∀ {μ : Mu} {T : Tm} {h : H} {D : V} {a : Act} {w : World} {k : K2}, St ro nt μ T h D a w → evOps (cRows E (nt, arr) l) call T h D k = true → Cont ro nt μ h w k (Q .normal) → wpOpsIn (Fw ro) 0 P arr Q (List.range' i l.length) a w := by
  induction l with
  | nil =>
    intro i _ μ T h D a w k st e hc
    exact hc μ h T D a w (Ext.refl ..) st e
  | cons o l ih =>
    intro i hd μ T h D a w k st e hc
    have hlt : i < arr.toList.length := by
      rcases Nat.lt_or_ge i arr.toList.length with h | h
      · exact h
      · rw [List.drop_eq_nil_iff.2 h] at hd; cases hd
    rw [List.drop_eq_getElem_cons hlt] at hd
    obtain ⟨h1, h2⟩ := List.cons.inj hd
    have hi : arr[i]? = some o := by rw [← h1]; simp [by simpa using hlt]
    rw [List.length_cons, List.range'_succ, wpOpsIn_cons]
    refine oCons_sound (l := cRows E (nt, arr) l) cs (cOp_sound ok sok (nt, arr) o) hi st e ?_
    intro μ' h' T' D' a' w' x1 x2 x3
    exact ih (i + 1) h2 x2 x3 (hc.ext x1)
theorem region_plain (ok : EnvOK E P) (sok : SumOK E P) {ro : Option Nat} {nt id : Nat} {arr : Array Oper} {Q : Exit → Act → World → Prop} {call : C} (cs : CallS P call) {μ : Mu} {T : Tm} {h : H} {D : V} {a : Act} {w : World} {k : K2} (st : St ro nt μ T h D a w)
    (e : evOps (cRows E (nt, arr) arr.toList) call T h D k = true) (hc : Cont ro nt μ h w k (Q .normal)) : (Code.region id arr false).wpIn (Fw ro) 0 P Q a w := by
  refine wpIn_region ?_
  have := evOps_sound (Q := Q) ok sok cs arr.toList 0 rfl st e hc
  rwa [List.range_eq_range', ← Array.length_toList]
end
end Go.Ev

set_option linter.constructorNameAsVariable false
set_option linter.unusedVariables false
set_option linter.unusedSimpArgs false
set_option linter.unusedSectionVars false
namespace Go.Ev
open Go
noncomputable section
variable [Un]
variable {P : Program} {E : Env} {ops : Ops} {o : Oper}

/-! ### allocations that come later than they are done -/
/-- an allocation: it lays one block, and its value tells where; what it lays and tells hangs on what it names alone -/
def FLP (P : Program) (nt : Nat) (o : Oper) (f : L1) : Prop :=
  ∀ call μ T h (A : Act) (K : V → H → Bool), GM μ → RT μ nt T A.tmps → f call T h K = true →
    ∃ (obj : Obj) (val : Nat → Value), (∀ w, (execOp A.eval o).run P w = .ok (.value (val w.heap.size)) (w.alloc obj)) ∧ h.nx < 32768 ∧
      ∃ b n v, K v (h.add b) = true ∧ ∀ c, μ h.nx = none → RB (muAdd μ h.nx c n) b n obj ∧ RV (muAdd μ h.nx c n) v (val c)
def FlS (P : Program) (ops : Ops) (o : Oper) (io : IOp) : Prop :=
  match io with
  | .l _ f => FLP P ops.1 o f
  | _ => True

theorem newL_f {μ : Mu} {h : H} {st e n : Nat} {l : V} {k : Nat → H → Bool} (he : newL st e .no true n l h k = true) {cells : Array Value} (hl : RL μ l cells.toList) :
    cells.size = n ∧ h.nx < 32768 ∧ ∃ b, k h.nx (h.add b) = true ∧ ∀ c, μ h.nx = none → RB (muAdd μ h.nx c n) b n (.cells cells e) := by
  have hn : cells.size = n := by simpa using newL_len he hl
  refine ⟨hn, ?_⟩
  unfold newL at he
  obtain ⟨cs, h1, h2⟩ := optq_inv he
  unfold mkCs at h1
  have h1' : (Bool.rec (motive := fun _ => Option Cs) none (Cs.stn n l (Cs.grow (Cs.nil st) n) 0) (Cs.fits (Cs.grow (Cs.nil st) n) n)) = some cs := h1
  obtain ⟨h3, h4⟩ := bool_inv h1'
  have hroom := cs_fits _ _ h3
  obtain ⟨g1, g2, g3, g4, g5⟩ := stn_rel n h4 hl (by omega)
  obtain ⟨hnx, hk⟩ := new_eq _ _ _ h2
  refine ⟨hnx, _, hk, fun c hfr => ?_⟩
  refine ⟨cells, 0, 0, rfl, hn, fun _ => rfl, ⟨by rw [g2]; exact hroom, by omega, fun i hi' => ?_⟩, rfl⟩
  have hlt : i < cells.size := by omega
  refine ⟨cells[i], by simp [hlt], ?_⟩
  have := g4 i cells[i] (by simp [hlt])
  rw [Nat.zero_add] at this
  exact this.mono (sub_add hfr)

theorem finL_if {f : L1} (h : FLP P ops.1 o f) : FlS P ops o (finL ops o f) := by
  unfold finL
  rw [withP_eq]
  cases hg : o.guard with
  | none => exact h
  | some p =>
    obtain ⟨j, want⟩ := p
    simp only
    cases ht : guardOf ops.2 j with
    | none => exact trivial
    | some t => simp only [withR_eq]; exact trivial

theorem if_alloc (ok : EnvOK E P) (t : Nat) (ho : o.op = .alloc t) : FlS P ops o (c_alloc t E ops o) := by
  unfold c_alloc
  cases hz : E.zer t with
  | none => exact trivial
  | some z =>
    simp only
    cases hl : cellsV (E.isAg t) z with
    | none => exact trivial
    | some l =>
      simp only
      obtain ⟨zv, z1, z2⟩ := zer_rel ok hz
      refine finL_if fun call μ T h A K gm rt e => ?_
      unfold lAlloc at e
      obtain ⟨hn, hnx, b, g1, g2⟩ := newL_f e (cellsV_rel hl (z2 μ))
      refine ⟨.cells zv.cells t, fun c => .pointer (some ⟨c, 0, none⟩), fun w => ?_, hnx, b, _, _, g1, fun c hc => ⟨g2 c hc, ⟨_, _, muAdd_same .., rfl⟩⟩⟩
      simp only [execOp, ho]
      refine exv ?_
      simp [Instr.alloc, z1, newVar, newRow]
theorem if_box (t : Nat) (x : Operand) (ho : o.op = .box t x) : FlS P ops o (c_box t x E ops o) := by
  unfold c_box
  simp only [withO_eq]
  refine finL_if fun call μ T h A K gm rt e => ?_
  unfold lBox at e
  obtain ⟨l, e3, e4⟩ := optq_inv e
  obtain ⟨hn, hnx, b, g1, g2⟩ := newL_f e4 (cellsV_rel e3 (eval_rel gm rt x))
  refine ⟨.cells (A.eval x).cells t, fun c => .pointer (some ⟨c, 0, none⟩), fun w => ?_, hnx, b, _, _, g1, fun c hc => ⟨g2 c hc, ⟨_, _, muAdd_same .., rfl⟩⟩⟩
  simp only [execOp, ho]
  refine exv ?_
  simp [Instr.box, newVar, newRow]
theorem if_makeMap (t : Nat) (r : Option Operand) (ho : o.op = .makeMap t r) : FlS P ops o (c_makeMap t r E ops o) := by
  unfold c_makeMap
  cases r with
  | some x => exact trivial
  | none =>
    refine finL_if fun call μ T h A K gm rt e => ?_
    unfold lMap at e
    obtain ⟨hnx, hk⟩ := new_eq _ _ _ e
    refine ⟨.map #[] 0, fun c => .map (some c), fun w => ?_, hnx, _, 0, _, hk, fun c hc => ⟨⟨#[], 0, rfl, rfl⟩, ⟨_, _, muAdd_same .., rfl⟩⟩⟩
    simp only [execOp, ho]
    exact exv rfl
theorem if_makeSlice (ok : EnvOK E P) (t : Nat) (x y : Operand) (ho : o.op = .makeSlice t x y) : FlS P ops o (c_makeSlice t x y E ops o) := by
  unfold c_makeSlice
  cases hd : E.und t with
  | none => exact trivial
  | some d =>
    cases d <;> try exact trivial
    rename_i e
    simp only
    cases hz : E.zer e with
    | none => exact trivial
    | some z =>
      cases hby : Nat.ble (E.byOf e) 65536 with
      | false => exact trivial
      | true =>
        simp only
        cases hl : cellsV (E.isAg e) z with
        | none => exact trivial
        | some l =>
          simp only [withO_eq]
          obtain ⟨zv, z1, z2, inf, hi⟩ := zer_ok ok hz
          have hbytes : inf.bytes ≤ 65536 := by have := le_of_ble hby; simpa [Env.byOf, hi] using this
          refine finL_if fun call μ T h A k gm rt e' => ?_
          have hzr : RV μ z zv := by rw [z2]; exact vOf_rel μ zv
          have hx := eval_rel gm rt x
          have hy := eval_rel gm rt y
          unfold lMake at e'
          obtain ⟨k1, len, e1, e2⟩ := qNat_inv e'
          obtain ⟨k2, cap, e3, e4⟩ := qNat_inv e2
          obtain ⟨b1, e5⟩ := boolq_inv e4
          obtain ⟨b2, e6⟩ := boolq_inv e5
          obtain ⟨zs, e7, e8⟩ := optq_inv e6
          have b1 := le_of_ble b1
          have b2 := le_of_ble b2
          rw [e1] at hx
          rw [e3] at hy
          have hx := rv_i hx
          have hy := rv_i hy
          have hzs := zeros_rel (cellsV_rel hl hzr) e7
          obtain ⟨hn, hnx, b, g1, g2⟩ := newL_f e8 hzs
          refine ⟨.cells ((Array.range (cap * E.szOf e)).map ((if cap * E.szOf e = 0 then #[] else zv.cells)[· % (if cap * E.szOf e = 0 then (#[] : Array Value) else zv.cells).size]!)) e, fun c => .slice (some ⟨c, 0, none⟩) len cap, fun w => ?_, hnx, b, _, _, g1, fun c hc => ⟨g2 c hc, ⟨_, _, muAdd_same .., rfl, b1⟩⟩⟩
          simp only [execOp, ho, hx, hy]
          refine exv ?_
          unfold Instr.makeSlice
          have hL : IntKind.i64.wrap (Int.ofNat len) = Int.ofNat len := wrap_i64 (by omega)
          have hC : IntKind.i64.wrap (Int.ofNat cap) = Int.ofNat cap := wrap_i64 (by omega)
          have hi0 : (typeInfo e).run P w = .ok inf w := run_info ok hi w
          simp only [Sem.run_bind, run_und ok hd, Result.andThen_ok, asInt, asIntOf, Sem.run_pure, hi0, hL, hC]
          have t0 : ¬ (Int.ofNat cap < 0) := by have : (0 : Int) ≤ Int.ofNat cap := Int.natCast_nonneg cap; omega
          have t1 : ¬ ((inf.bytes : Int) * Int.ofNat cap > 2 ^ 48) := by
            have h1 : inf.bytes * cap ≤ 65536 * 65536 := Nat.mul_le_mul hbytes b2
            have h2 : (inf.bytes : Int) * Int.ofNat cap = ((inf.bytes * cap : Nat) : Int) := by simp
            rw [h2]
            omega
          have t2 : ¬ (Int.ofNat len < 0) := by have : (0 : Int) ≤ Int.ofNat len := Int.natCast_nonneg len; omega
          have t3 : ¬ (Int.ofNat len > Int.ofNat cap) := by show ¬ ((len : Int) > (cap : Int)); omega
          rw [if_neg (by simp only [Bool.or_eq_true, decide_eq_true_eq]; rintro ((h | h) | h) <;> first | (rcases h with h | h <;> contradiction) | contradiction)]
          simp only [Sem.run_bind, run_askRoom, Result.andThen_ok, run_size ok hi, Sem.run_pure]
          show (Sem.run P (if cap * E.szOf e = 0 then _ else _) w) = _
          by_cases h0 : cap * E.szOf e = 0
          · simp only [if_pos h0]
            rfl
          · simp only [if_neg h0, Sem.run_bind, z1, Result.andThen_ok, Sem.run_pure]
            rfl

theorem if_buildSlice (ok : EnvOK E P) (t n : Nat) (ps : Array (Nat × Operand)) (ho : o.op = .buildSlice t n ps) : FlS P ops o (c_buildSlice t n ps E ops o) := by
  unfold c_buildSlice
  cases hd : E.und t with
  | none => exact trivial
  | some d =>
    cases d <;> try exact trivial
    rename_i e
    simp only
    cases hz : E.zer e with
    | none => exact trivial
    | some z =>
      simp only
      cases hl : cellsV (E.isAg e) z with
      | none => exact trivial
      | some l =>
        simp only
        cases hr : repV n (E.szOf e) l with
        | none => exact trivial
        | some zs =>
          cases hb : Nat.ble (Nat.mul n (E.szOf e)) 4096 with
          | false => exact trivial
          | true =>
            simp only [withParts_eq]
            cases hpl : partsOf (fun i => some (Nat.mul i (E.szOf e), E.szOf e)) ps.toList with
            | none => exact trivial
            | some pl =>
              obtain ⟨zv, z1, z2, inf, hi⟩ := zer_ok ok hz
              have hb := le_of_ble hb
              refine finL_if fun call μ T h A k gm rt e' => ?_
              have hzr : RV μ z zv := by rw [z2]; exact vOf_rel μ zv
              have hzs := zeros_rel (cellsV_rel hl hzr) hr
              unfold lBuildSl at e'
              obtain ⟨m, e1, e2⟩ := optq_inv e'
              obtain ⟨cells', f1, f2⟩ := fill_sound gm rt _ ps.toList pl zs m _ hpl e1 hzs
              obtain ⟨hn, hnx, b, g1, g2⟩ := newL_f e2 f2
              refine ⟨.cells cells' e, fun c => .slice (some ⟨c, 0, none⟩) n n, fun w => ?_, hnx, b, _, _, g1, fun c hc => ⟨g2 c hc, ⟨_, _, muAdd_same .., rfl, Nat.le_refl _⟩⟩⟩
              simp only [execOp, ho]
              refine exv ?_
              unfold Instr.buildSlice
              have hlim : ¬ (n * E.szOf e > 2 ^ 24) := by have : n * E.szOf e ≤ 4096 := hb; omega
              simp only [Sem.run_bind, run_und ok hd, Result.andThen_ok, run_size ok hi]
              rw [if_neg hlim]
              have f1' : Instr.fill (fun i => some (i * E.szOf e, E.szOf e)) _ (ps.toList.map fun (i, x) => (i, A.eval x)) = some cells' := f1
              by_cases h0 : n * E.szOf e = 0
              · simp only [if_pos h0] at f1'
                rw [if_pos h0]
                simp only [Sem.run_bind, Sem.run_pure, Result.andThen_ok]
                rw [parts_map, f1']
                rfl
              · simp only [if_neg h0] at f1'
                rw [if_neg h0]
                simp only [Sem.run_bind, Sem.run_pure, Result.andThen_ok, z1]
                rw [parts_map, f1']
                rfl

theorem flt_sound (ok : EnvOK E P) (h : flt o (cOp E ops o) = true) : ∃ p f, cOp E ops o = .l p f ∧ o.guard = none ∧ FLP P ops.1 o f := by
  have key : FlS P ops o (cOp E ops o) := by
    unfold flt at h
    unfold cOp
    unfold cOp at h
    cases ho : o.op with
    | alloc t => exact if_alloc ok t ho
    | box t x => exact if_box t x ho
    | makeSlice t x y => exact if_makeSlice ok t x y ho
    | makeMap t r => exact if_makeMap t r ho
    | buildSlice t n ps => exact if_buildSlice ok t n ps ho
    | _ =>
      exfalso
      rw [ho] at h
      revert h
      cases o.guard with
      | some g => intro h; cases h
      | none =>
        simp only
        split
        · intro h; cases h
        · intro h; cases h
  unfold flt at h
  revert h key
  generalize cOp E ops o = io
  intro h key
  cases hg : o.guard with
  | some g => rw [hg] at h; cases h
  | none =>
    cases io with
    | l p f => exact ⟨p, f, rfl, rfl, key⟩
    | _ => rw [hg] at h; cases h
end
end Go.Ev
