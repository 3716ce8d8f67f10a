/-
  Part of a proof: an evaluator of the model's code over abstract memory, and that it is sound against the model's weakest preconditions; no conditions.
-/
import Derived.Test.YtbccefdijpmkbaaGreatDoorHvG
import Derived.Shelf.Strings.Search3
import Derived.Lib.MakeNoZero
import Derived.Lib.IndexBytes
import Derived.Lib.IndexMore
import Derived.RecoverIn
import Derived.Handed
import Derived.Below
import Derived.Carry
import Derived.ChangeOld
import Derived.ChangeSame
import Derived.RowKit
import Derived.Lib.Space
import Derived.Lib.LaidTab
set_option linter.constructorNameAsVariable false
set_option linter.unusedVariables false
set_option linter.unusedSimpArgs false
set_option linter.unusedSectionVars false
set_option linter.constructorNameAsVariable false
set_option linter.unusedVariables false
set_option linter.unusedSimpArgs false
set_option linter.unusedSectionVars false
namespace Go.Ev
open Go
noncomputable section
variable [Un]

/-! ### functions that are known in another way: texts in texts -/
/-- the first place of p (m bytes) in c (n bytes), from i on -/
def sFind (c p n m : Nat) (fuel : Nat) : Nat → Option Nat := Nat.rec (motive := fun _ => Nat → Option Nat) (fun _ => none)
  (fun _ ih i => Bool.casesOn (Nat.ble (Nat.add i m) n) none (Bool.casesOn (Nat.beq (Nat.add (Nat.mod (Nat.shiftRight c (Nat.mul 8 i)) (Nat.pow 256 m)) (Nat.pow 256 m)) p) (ih (Nat.succ i)) (some i))) fuel
def sIndex (c p : Nat) : Option Nat := sFind c p (slen c) (slen p) (Nat.succ (slen c)) 0
def sCount (c b : Nat) (fuel : Nat) : Nat → Nat := Nat.rec (motive := fun _ => Nat → Nat) (fun _ => 0)
  (fun _ ih i => Bool.casesOn (Nat.ble (Nat.succ i) (slen c)) 0 (Nat.add (Bool.casesOn (Nat.beq (sat c i) b) 0 1) (ih (Nat.succ i)))) fuel
def a1 (g : V → Option V) (v : V) : Option V := oC (fun x r => Bool.rec (motive := fun _ => Option V) none (g x) (qN true r)) v
def a2 (g : V → V → Option V) (v : V) : Option V := oC (fun x r => oC (fun y t => Bool.rec (motive := fun _ => Option V) none (g x y) (qN true t)) r) v
def goOpt (r : Option Nat) : V := Option.casesOn r (.i .i64 (Int.negSucc 0)) goI
def oU8 (g : Nat → Option V) (v : V) : Option V := oI (fun k x => Bool.rec (motive := fun _ => Option V) none (Int.rec (motive := fun _ => Option V) (fun b => Bool.rec (motive := fun _ => Option V) none (g b) (Nat.ble b 255)) (fun _ => none) x) (Nat.beq (kno k) 4)) v
def gContains (ml : Nat) (v : V) (h : H) : Option V := obGi (a2 (fun x y => oS (fun c => oS (fun p => Bool.rec (motive := fun _ => Option V) none (some (.b (Option.casesOn (sIndex c p) false fun _ => true))) (Nat.ble (slen c) 4294967280)) y) x) v) (H.get h ml)
def gIndexByte (v : V) (_ : H) : Option V := a2 (fun x y => oS (fun c => oU8 (fun b => some (goOpt (sFind c (Nat.add b 256) (slen c) 1 (Nat.succ (slen c)) 0))) y) x) v
def gCount (v : V) (_ : H) : Option V := a2 (fun x y => oS (fun c => oU8 (fun b => some (goI (sCount c b (slen c) 0))) y) x) v
def gSame (v : V) (_ : H) : Option V := a1 some v

theorem a1_inv {g : V → Option V} {v r : V} (h : a1 g v = some r) : ∃ x, v = .c x .n ∧ g x = some r := by
  obtain ⟨x, t, rfl, h⟩ := oC_inv h
  obtain ⟨h1, h2⟩ := bool_inv h
  obtain ⟨rfl, _⟩ := qN_inv h1
  exact ⟨x, rfl, h2⟩
theorem a2_inv {g : V → V → Option V} {v r : V} (h : a2 g v = some r) : ∃ x y, v = .c x (.c y .n) ∧ g x y = some r := by
  obtain ⟨x, t1, rfl, h3⟩ := oC_inv h
  obtain ⟨y, t2, rfl, h4⟩ := oC_inv h3
  obtain ⟨h1, h2⟩ := bool_inv h4
  obtain ⟨rfl, _⟩ := qN_inv h1
  exact ⟨x, y, rfl, h2⟩
theorem oU8_inv {g : Nat → Option V} {v r : V} (h : oU8 g v = some r) : ∃ b, v = .i .u8 (Int.ofNat b) ∧ b ≤ 255 ∧ g b = some r := by
  obtain ⟨k, x, rfl, h⟩ := oI_inv h
  obtain ⟨h1, h2⟩ := bool_inv h
  have hk : k = .u8 := by cases k <;> first | rfl | cases h1
  subst hk
  cases x with
  | negSucc n => cases h2
  | ofNat b =>
    obtain ⟨h3, h4⟩ := bool_inv h2
    exact ⟨b, rfl, le_of_ble h3, h4⟩
theorem obGi_inv {g : Option V} {b : B} {r : V} (h : obGi g b = some r) : b = .gi ∧ g = some r := by
  cases b with | gi => exact ⟨rfl, h⟩ | _ => cases h

theorem occ_test (s sub : List UInt8) (i : Nat) (hi : i + sub.length ≤ s.length) :
    Nat.beq (Nat.add (Nat.mod (Nat.shiftRight (enc s) (Nat.mul 8 i)) (Nat.pow 256 sub.length)) (Nat.pow 256 sub.length)) (enc sub) = Lib.occAt s sub i := by
  have h : Nat.add (Nat.mod (Nat.shiftRight (enc s) (Nat.mul 8 i)) (Nat.pow 256 sub.length)) (Nat.pow 256 sub.length) = enc ((s.drop i).take sub.length) := by
    have := ssub_enc s i (i + sub.length) (by omega) hi
    unfold ssub at this
    rw [show i + sub.length - i = sub.length by omega] at this
    have e : Nat.sub (i + sub.length) i = sub.length := by show i + sub.length - i = _; omega
    rw [e] at this
    exact this
  rw [h, Lib.occAt_iff_take s sub i hi, Bool.eq_iff_iff, Nat.beq_eq, beq_iff_eq]
  exact ⟨enc_inj, fun e => by rw [e]⟩
theorem sFind_sound (s sub : List UInt8) (fuel : Nat) : ∀ (i : Nat), (∀ j, j < i → Lib.occAt s sub j = false) → s.length + 1 ≤ fuel + i →
    (sFind (enc s) (enc sub) s.length sub.length fuel i = none ∧ ∀ j, j ≤ s.length → Lib.occAt s sub j = false) ∨
    ∃ r, sFind (enc s) (enc sub) s.length sub.length fuel i = some r ∧ r ≤ s.length ∧ Lib.occAt s sub r = true ∧ ∀ j, j < r → Lib.occAt s sub j = false := by
  induction fuel with
  | zero => intro i h hf; exact .inl ⟨rfl, fun j hj => h j (by omega)⟩
  | succ fuel ih =>
    intro i h hf
    have st : sFind (enc s) (enc sub) s.length sub.length (fuel + 1) i = Bool.rec (motive := fun _ => Option Nat) none (Bool.rec (motive := fun _ => Option Nat) (sFind (enc s) (enc sub) s.length sub.length fuel (i + 1)) (some i) (Nat.beq (Nat.add (Nat.mod (Nat.shiftRight (enc s) (Nat.mul 8 i)) (Nat.pow 256 sub.length)) (Nat.pow 256 sub.length)) (enc sub))) (Nat.ble (i + sub.length) s.length) := rfl
    by_cases hi : i + sub.length ≤ s.length
    · rw [ble_t hi, occ_test s sub i hi] at st
      cases ho : Lib.occAt s sub i with
      | true =>
        rw [ho] at st
        exact .inr ⟨i, st, by omega, ho, h⟩
      | false =>
        rw [ho] at st
        have st : sFind (enc s) (enc sub) s.length sub.length (fuel + 1) i = sFind (enc s) (enc sub) s.length sub.length fuel (i + 1) := st
        have := ih (i + 1) (fun j hj => by
          rcases Nat.lt_or_ge j i with hlt | hge
          · exact h j hlt
          · have : j = i := by omega
            rw [this]; exact ho) (by omega)
        rw [st]
        exact this
    · rw [ble_f hi] at st
      refine .inl ⟨st, fun j hj => ?_⟩
      rcases Nat.lt_or_ge j i with hlt | hge
      · exact h j hlt
      · cases ho : Lib.occAt s sub j with
        | false => rfl
        | true =>
          rcases Lib.occAt_room ho with hr | hr
          · omega
          · subst hr; simp at hi; omega
theorem index_find {μ : Mu} (s sub : List UInt8) : RV μ (goOpt (sFind (enc s) (enc sub) s.length sub.length (s.length + 1) 0)) (.int .i64 (Lib.index s sub)) := by
  rcases sFind_sound s sub (s.length + 1) 0 (fun j hj => by omega) (by omega) with ⟨h1, h2⟩ | ⟨r, h1, h2, h3, h4⟩
  · rw [h1, Lib.index_none h2]; rfl
  · rw [h1, Lib.index_first h2 h3 h4]; rfl
theorem contains_find (s sub : List UInt8) : (Option.casesOn (motive := fun _ => Bool) (sIndex (enc s) (enc sub)) false fun _ => true) = Lib.contains s sub := by
  unfold sIndex Lib.contains
  rw [slen_enc, slen_enc]
  rcases sFind_sound s sub (s.length + 1) 0 (fun j hj => by omega) (by omega) with ⟨h1, h2⟩ | ⟨r, h1, h2, h3, h4⟩
  · rw [Lib.index_none h2]
    show (Option.casesOn (motive := fun _ => Bool) (sFind (enc s) (enc sub) s.length sub.length (s.length + 1) 0) false fun _ => true) = _
    rw [h1]; rfl
  · rw [Lib.index_first h2 h3 h4]
    show (Option.casesOn (motive := fun _ => Bool) (sFind (enc s) (enc sub) s.length sub.length (s.length + 1) 0) false fun _ => true) = _
    rw [h1]; simp
theorem sCount_sound (l : List UInt8) (b : UInt8) (fuel : Nat) : ∀ (i : Nat), l.length ≤ fuel + i → sCount (enc l) b.toNat fuel i = (l.drop i).count b := by
  induction fuel with
  | zero => intro i h; rw [List.drop_eq_nil_iff.2 (by omega)]; rfl
  | succ fuel ih =>
    intro i h
    show Bool.rec (motive := fun _ => Nat) 0 (Nat.add (Bool.rec (motive := fun _ => Nat) 0 1 (Nat.beq (sat (enc l) i) b.toNat)) (sCount (enc l) b.toNat fuel (i + 1))) (Nat.ble (i + 1) (slen (enc l))) = _
    rw [slen_enc]
    by_cases hi : i < l.length
    · rw [ble_t hi, sat_enc l i hi, ih (i + 1) (by omega), List.drop_eq_getElem_cons hi, List.count_cons]
      show Nat.add _ _ = _
      by_cases hb : l[i] = b
      · have : Nat.beq (l[i]).toNat b.toNat = true := by rw [Nat.beq_eq, hb]
        rw [this, hb]; simp; show 1 + _ = _; omega
      · have h1 : Nat.beq (l[i]).toNat b.toNat = false := by
          cases hbb : Nat.beq (l[i]).toNat b.toNat with
          | false => rfl
          | true => rw [Nat.beq_eq] at hbb; exact absurd (UInt8.toNat_inj.1 hbb) hb
        have h2 : (l[i] == b) = false := by simpa using hb
        rw [h1, h2]; simp
    · rw [ble_f (by omega), List.drop_eq_nil_iff.2 (by omega)]; rfl

variable {P : Program} {E : Env}
theorem enter_nx {f : Nat} {args : Array Value} {w : World} {R : Ending → World → Prop} {R' : Value → World → Prop} (he : (callFunc f args).run P w = .ok (.enter f args) w) (h : Calls P f args w R) (hr : ∀ e w', R e w' → ∃ v, e = .returned v ∧ R' v w') : Nx P R' ((callFunc f args).run P w) := by
  rw [he]
  refine callsIn_wide.2 (h.mono fun e w' hh => ?_)
  obtain ⟨v, rfl, hv⟩ := hr e w' hh
  exact hv
/-- the cell of a variable that holds some whole number -/
theorem gi_cell {μ : Mu} {h : H} {w : World} (gm : GM μ) (wr : WR μ h w) {g : Nat} (hg : g < 32) (hb : H.get h g = .gi) : ∃ m, w.cell? ⟨g, 0, none⟩ = some (.int .i64 m) := by
  obtain ⟨n, hm⟩ := gm g hg
  obtain ⟨c, n', o, h1, h2, h3⟩ := wr.blk g (by omega) (by rw [hb]; simp)
  rw [hm] at h1
  obtain ⟨rfl, rfl⟩ := Prod.mk.inj (Option.some.inj h1)
  rw [hb] at h3
  obtain ⟨arr, e, fr, m, rfl, hm0⟩ := h3
  exact ⟨m, by rw [cell_of h2]; exact hm0⟩
theorem pure_contains {ρ : Shelf.Ren} (L : Proofs.Lays.n144 P ρ) (hg : ρ.g 1 < 32) : PureS P (ρ.f 144) (gContains (ρ.g 1)) := by
  intro μ h w args xs v gm wr hr e
  obtain ⟨hb, e1⟩ := obGi_inv e
  obtain ⟨x, y, rfl, e2⟩ := a2_inv e1
  obtain ⟨c, rfl, e3⟩ := oS_inv e2
  obtain ⟨p, rfl, e4⟩ := oS_inv e3
  obtain ⟨e5, e6⟩ := bool_inv e4
  obtain rfl := Option.some.inj e6
  obtain ⟨x, t, rfl, hx, ht⟩ := hr
  obtain ⟨y, t, rfl, hy, ht⟩ := ht
  obtain rfl : t = [] := ht
  obtain ⟨s, rfl, hs⟩ := rv_s hx
  obtain ⟨sub, rfl, hsub⟩ := rv_s hy
  obtain ⟨m, hm⟩ := gi_cell gm wr hg hb
  have hle : s.size < 4294967281 := by have := le_of_ble e5; rw [size_enc hs] at this; omega
  have hen : ∀ args w, (callFunc (ρ.f 144) args).run P w = .ok (.enter (ρ.f 144) args) w := Proofs.enters_of L.f144 (by kernel_rfl) rfl
  refine enter_nx (hen _ w) (Proofs.Any.strings_Contains L s sub m w hle hm) fun e w' ⟨h1, h2⟩ => ?_
  subst h2
  refine ⟨_, h1, wr, Ext.refl .., ?_⟩
  show Value.bool _ = Value.bool _
  rw [← hs, ← hsub, contains_find]

/-- a function whose text is the model's own -/
structure ExtF (P : Program) (f : Nat) (e : Array Value → Sem Value) : Prop where
  run : ∀ args w, (callFunc f args).run P w = ((e args).run P w).andThen fun v w' => .ok (.value v) w'
theorem ext_of {f : Nat} {fn : Func} {e : Array Value → Sem Value} (hf : P.funcs[f]? = some fn) (hname : (fn.name == "runtime.NumGoroutine") = false) (hb : fn.body.isNone = true) (hn : Extern.findNext fn = none) (he : Extern.find fn = some e) : ExtF P f e :=
  ⟨fun args w => run_callFunc_extern hf hname hb hn he args w⟩
theorem u8_byte {b : Nat} (h : b ≤ 255) : (Int.ofNat b).toNat.toUInt8.toNat = b := by
  show (b.toUInt8).toNat = b
  simp; omega
theorem pure_indexByte {f : Nat} (x : ExtF P f Extern.BytealgIndexByte.indexByte) : PureS P f gIndexByte := by
  intro μ h w args xs v gm wr hr e
  obtain ⟨x1, y, rfl, e2⟩ := a2_inv e
  obtain ⟨c, rfl, e3⟩ := oS_inv e2
  obtain ⟨b, rfl, hb, e4⟩ := oU8_inv e3
  obtain rfl := Option.some.inj e4
  obtain ⟨x1, t, rfl, hx, ht⟩ := hr
  obtain ⟨y, t, rfl, hy, ht⟩ := ht
  obtain rfl : t = [] := ht
  obtain ⟨s, rfl, hs⟩ := rv_s hx
  obtain rfl := rv_i hy
  have e1 := x.run #[.string s, .int .u8 (Int.ofNat b)] w
  rw [Lib.run_indexByteString] at e1
  show Nx P _ ((callFunc f #[.string s, .int .u8 (Int.ofNat b)]).run P w)
  rw [e1]
  refine ⟨wr, Ext.refl .., ?_⟩
  have hb8 : enc [(Int.ofNat b).toNat.toUInt8] = b + 256 := by
    rw [enc_cons, enc_nil, u8_byte hb]
  have := index_find (μ := μ) s.data.toList [(Int.ofNat b).toNat.toUInt8]
  rw [Lib.index_one, hb8, hs] at this
  have hl : s.data.toList.length = slen c := by rw [← hs, slen_enc]
  rw [hl] at this
  exact this
theorem pure_count {f : Nat} (x : ExtF P f Extern.BytealgCount.count) : PureS P f gCount := by
  intro μ h w args xs v gm wr hr e
  obtain ⟨x1, y, rfl, e2⟩ := a2_inv e
  obtain ⟨c, rfl, e3⟩ := oS_inv e2
  obtain ⟨b, rfl, hb, e4⟩ := oU8_inv e3
  obtain rfl := Option.some.inj e4
  obtain ⟨x1, t, rfl, hx, ht⟩ := hr
  obtain ⟨y, t, rfl, hy, ht⟩ := ht
  obtain rfl : t = [] := ht
  obtain ⟨s, rfl, hs⟩ := rv_s hx
  obtain rfl := rv_i hy
  have e1 := x.run #[.string s, .int .u8 (Int.ofNat b)] w
  rw [Lib.run_countString] at e1
  show Nx P _ ((callFunc f #[.string s, .int .u8 (Int.ofNat b)]).run P w)
  rw [e1]
  refine ⟨wr, Ext.refl .., ?_⟩
  have := sCount_sound s.data.toList (Int.ofNat b).toNat.toUInt8 s.data.toList.length 0 (by omega)
  rw [u8_byte hb, hs] at this
  have hl : s.data.toList.length = slen c := by rw [← hs, slen_enc]
  rw [hl] at this
  show Value.int .i64 _ = Value.int .i64 _
  rw [this]
  rfl
theorem pure_same {f : Nat} (x : ExtF P f Extern.AbiNoEscape.same) : PureS P f gSame := by
  intro μ h w args xs v gm wr hr e
  obtain ⟨x1, rfl, e2⟩ := a1_inv e
  obtain rfl := Option.some.inj e2
  obtain ⟨y, t, rfl, hx, ht⟩ := hr
  obtain rfl : t = [] := ht
  have e1 := x.run #[y] w
  show Nx P _ ((callFunc f #[y]).run P w)
  rw [e1]
  exact ⟨wr, Ext.refl .., hx⟩
theorem mkz_of {f t e : Nat} {ps : Array TypeId} (x : ExtF P f (Extern.BytealgMakeNoZero.makeNoZero ps #[t])) (ht : P.underlying t = some (.slice e)) : MkzS P f e := by
  intro w n hn
  obtain ⟨cs, h1, h2, _⟩ := Lib.run_makeNoZero (P := P) w ps t e ht n (by omega)
  refine ⟨cs.size, cs, w.drew.drew, h2, rfl, rfl, rfl, rfl, rfl, ?_⟩
  have e1 := x.run #[.int .i64 (Int.ofNat n)] w
  have h1 : (Extern.BytealgMakeNoZero.makeNoZero ps #[t] #[.int .i64 (Int.ofNat n)]).run P w = _ := h1
  rw [h1] at e1
  exact e1

/-! ### deferred functions that find nothing to recover -/
theorem defS_of {f : Nat} {fn : Func} (hf : P.funcs[f]? = some fn) (hn : (fn.name == "runtime.NumGoroutine") = false) {i0 b i3 i4 : Nat} {o0 o3 o4 : Oper} {r c ti q : Nat} {rest : Code}
    (hb : fn.body = some ((Code.region i0 #[o0] false).seq (.block b ((Code.region i3 #[o3] false).seq (.cond (.tmp c) (Code.region i4 #[o4] false) rest)))))
    (h0 : o0.op = .call { callee := .builtin .recover, args := #[], argTypes := #[] }) (g0 : o0.guard = none) (d0 : o0.dst = some r)
    (h3 : o3.op = .binOp .eql ti (.tmp r) (.const .nilIface) q) (g3 : o3.guard = none) (d3 : o3.dst = some c) {ms : Array (String × TypeId)} (hti : P.underlying ti = some (.interface ms))
    (h4 : o4.op = .assign (.tmp r)) (g4 : o4.guard = none) (hres : fn.results = #[]) (hr : r < fn.ntmps) (hc : c < fn.ntmps) : DefS P f := by
  refine ⟨fn, hf, hn, by rw [hb]; rfl, fun args w => ?_⟩
  refine callsDIn_of_wpSIn hf hb trivial fun c₀ cs hu => ?_
  obtain ⟨a0, ha0⟩ : ∃ a : Act, a = { tmps := args ++ Array.replicate (fn.ntmps - args.size) undef, defers := [] } := ⟨_, rfl⟩
  rw [← ha0]
  have hsz : fn.ntmps ≤ a0.tmps.size := by rw [ha0]; simp; omega
  have hd0 : a0.defers = [] := by rw [ha0]
  refine wpSIn_seq (wpSIn_region ?_)
  have hrec : recoverD (c₀ :: cs) = none := by simp [recoverD, hu]
  have hex : (execOp a0.eval o0).run P w = .ok .recover w := by
    simp only [execOp, h0, resolve]
    rfl
  show wpOpsSIn Fence.wide 0 P #[o0] _ [0] a0 (c₀ :: cs) w
  unfold wpOpsSIn
  refine ⟨fun _ _ => trivial, ?_⟩
  have h00 : (#[o0][0]'(by simp)) = o0 := rfl
  simp only [h00]
  rw [wanted_none g0, if_pos rfl]
  simp only [hex, hrec]
  show wpOpsSIn Fence.wide 0 P #[o0] _ [] (a0.put o0.dst .nilIface) (c₀ :: cs) w
  unfold wpOpsSIn
  show (Code.block b _).wpSIn Fence.wide 0 P _ (a0.put o0.dst .nilIface) (c₀ :: cs) w
  refine wpSIn_of_wpIn rfl (wpIn_block (wpIn_seq (wpIn_region ?_)))
  rw [d0]
  have hev : (a0.put (some r) .nilIface).eval (.tmp r) = .nilIface := by
    show (a0.put (some r) .nilIface).tmps.getD r undef = _
    rw [Array.getD_eq_getD_getElem?, put_at, if_pos ⟨rfl, by omega⟩]; rfl
  have hx3 : (execOp (a0.put (some r) .nilIface).eval o3).run P w = .ok (.value (.bool true)) w := by
    obtain ⟨_, h2', _, h4', h5', _⟩ := eqI (P := P) hti .nilIface (.nilIface) true rfl (.inl ⟨rfl, rfl⟩)
    simp only [execOp, h3]
    refine exv ?_
    have := eqGuard_ok (P := P) (op := if false then .neq else .eql) (t := ti) (x := .tmp r) (y := .const .nilIface) (a := .nilIface) (b := .nilIface) h5' (fun _ => .inr ⟨_, rfl⟩) w
    show (do eqGuard _ ti (.tmp r) (.const .nilIface) ((a0.put (some r) .nilIface).eval (.tmp r)) .nilIface; binOp _ ti ((a0.put (some r) .nilIface).eval (.tmp r)) .nilIface : Sem Value).run P w = _
    rw [hev]
    simp only [Sem.run_bind, this, Result.andThen_ok]
    exact eq_run (neg := false) h2' h4' w
  show wpOpsIn (Fw none) 0 P #[o3] _ [0] _ w
  rw [wpOpsIn_cons]
  refine opQ (o := o3) rfl (wanted_none g3 _) (by simp [h3]) hx3 ?_
  show (Code.cond _ _ _).wpIn (Fw none) 0 P _ _ w
  rw [d3]
  have hcv : ((a0.put (some r) .nilIface).put (some c) (.bool true)).eval (.tmp c) = .bool true := by
    show ((a0.put (some r) .nilIface).put (some c) (.bool true)).tmps.getD c undef = _
    rw [Array.getD_eq_getD_getElem?, put_at, if_pos ⟨rfl, by simp [Act.put]; omega⟩]; rfl
  refine wpIn_cond_true hcv (wpIn_region ?_)
  show wpOpsIn (Fw none) 0 P #[o4] _ [0] _ w
  rw [wpOpsIn_cons]
  refine opQ (o := o4) rfl (wanted_none g4 _) (by simp [h4]) (x := ((a0.put (some r) .nilIface).put (some c) (.bool true)).eval (.tmp r)) (by simp only [execOp, h4]; rfl) ?_
  unfold wpOpsIn
  refine ⟨by rw [put_defers, put_defers, put_defers]; exact hd0, .returning, ?_, .tuple #[], results_none hres _ P w, ⟨_, rfl⟩, rfl, rfl⟩
  rw [← hu]
end
end Go.Ev

set_option linter.constructorNameAsVariable false
set_option linter.unusedVariables false
set_option linter.unusedSimpArgs false
set_option linter.unusedSectionVars false
namespace Go.Ev
open Go Go.RowKit
noncomputable section

/-! ### tables -/
def get3 {α : Type} (r : R (R (R α))) (n : Nat) : α := R.get (d0 n) (R.get (d1 n) (R.get (d2 n) r))
def toL {α : Type} (r : R α) : List α := R.rec (motive := fun _ => List α) (fun a0 a1 a2 a3 a4 a5 a6 a7 a8 a9 a10 a11 a12 a13 a14 a15 => [a0, a1, a2, a3, a4, a5, a6, a7, a8, a9, a10, a11, a12, a13, a14, a15]) r
def flat2 {α : Type} (r : R (R α)) : List α := (toL r).flatMap toL
def flat3 {α : Type} (r : R (R (R α))) : List α := (toL r).flatMap flat2
theorem toL_length {α : Type} (r : R α) : (toL r).length = 16 := by cases r; rfl
theorem toL_get {α : Type} (r : R α) (i : Ix) : (toL r)[i.no]? = some (R.get i r) := by cases r; cases i <;> rfl
theorem flatMap_get {α β : Type} {f : β → List α} {m : Nat} (hf : ∀ x, (f x).length = m) (l : List β) : ∀ (q s : Nat), s < m → (l.flatMap f)[m * q + s]? = (l[q]?).bind fun x => (f x)[s]? := by
  induction l with
  | nil => intro q s _; simp
  | cons x l ih =>
    intro q s hs
    rw [List.flatMap_cons]
    cases q with
    | zero =>
      rw [Nat.mul_zero, Nat.zero_add, List.getElem?_append_left (by rw [hf]; exact hs)]
      rfl
    | succ q =>
      rw [List.getElem?_append_right (by rw [hf, Nat.mul_succ]; omega), hf, show m * (q + 1) + s - m = m * q + s by rw [Nat.mul_succ]; omega, ih q s hs]
      simp
theorem flatMap_length {α β : Type} {f : β → List α} {m : Nat} (hf : ∀ x, (f x).length = m) (l : List β) : (l.flatMap f).length = m * l.length := by
  induction l with
  | nil => simp
  | cons x l ih => rw [List.flatMap_cons, List.length_append, hf, ih, List.length_cons, Nat.mul_succ]; omega
theorem flat2_length {α : Type} (r : R (R α)) : (flat2 r).length = 256 := by
  unfold flat2
  rw [flatMap_length toL_length, toL_length]
theorem flat2_get {α : Type} (r : R (R α)) (i j : Ix) : (flat2 r)[16 * j.no + i.no]? = some (R.get i (R.get j r)) := by
  unfold flat2
  rw [flatMap_get toL_length _ _ _ (by cases i <;> decide), toL_get]
  exact toL_get _ _
theorem flat3_get {α : Type} (r : R (R (R α))) {n : Nat} (h : n < 4096) : (flat3 r)[n]? = some (get3 r n) := by
  have e : n = 256 * (d2 n).no + (16 * (d1 n).no + (d0 n).no) := by
    show n = 256 * (toIx (n / 256 % 16)).no + (16 * (toIx (n / 16 % 16)).no + (toIx (n % 16)).no)
    rw [no_toIx _ (Nat.mod_lt _ (by decide)), no_toIx _ (Nat.mod_lt _ (by decide)), no_toIx _ (Nat.mod_lt _ (by decide))]
    show n = 256 * (n / 256 % 16) + (16 * (n / 16 % 16) + n % 16)
    omega
  have hs : 16 * (d1 n).no + (d0 n).no < 256 := by
    have h1 : (d1 n).no < 16 := by cases d1 n <;> decide
    have h2 : (d0 n).no < 16 := by cases d0 n <;> decide
    omega
  have := flatMap_get (f := flat2) flat2_length (toL r) (d2 n).no _ hs
  unfold flat3
  rw [← e] at this
  rw [this, toL_get]
  exact flat2_get _ _ _
theorem tab_ok {α : Type} {tab : R (R (R (Option α)))} {l : List α} {n : Nat} (h : (flat3 tab).take n = l.map some) (hn : n ≤ 4096) {f : Nat} {x : α} (e : (Bool.rec (motive := fun _ => Option α) none (get3 tab f) (Nat.ble (Nat.succ f) n)) = some x) : l[f]? = some x := by
  obtain ⟨e1, e2⟩ := bool_inv e
  have hf : f < n := le_of_ble e1
  have h1 : ((flat3 tab).take n)[f]? = some (some x) := by
    rw [List.getElem?_take, if_pos hf, flat3_get tab (by omega), e2]
  rw [h, List.getElem?_map] at h1
  cases hl : l[f]? with
  | none => rw [hl] at h1; cases h1
  | some y => rw [hl] at h1; simp only [Option.map_some, Option.some.injEq] at h1; rw [h1]

section
variable [Un]
/-- what is asked of what is known of numbers and texts that are not known -/
def UnS (P : Program) (un : BinOp → Nat → V → V → Option V) : Prop := ∀ op t x y v, un op t x y = some v → ∀ (μ : Mu) (a b : Value), RV μ x a → RV μ y b → ∃ z, RV μ v z ∧ ∀ (X Y : Operand) (w : World), (do eqGuard op t X Y a b; binOp op t a b : Sem Value).run P w = .ok z w
theorem env_of {P : Program} {nf nt : Nat} {ftab : R (R (R (Option Func)))} {ttab : R (R (R (Option TypeInfo)))} {un : BinOp → Nat → V → V → Option V} {sm : Nat → Sm} {ds : Nat → Bool}
    (hf : (flat3 ftab).take nf = P.funcs.toList.map some) (ht : (flat3 ttab).take nt = P.types.toList.map some) (hn : (P.funcs.toList.all fun fn => !(fn.name == "runtime.NumGoroutine")) = true)
    (hm : P.follows .mixedOrders = true) (hu : UnS P un) (h1 : nf ≤ 4096) (h2 : nt ≤ 4096) :
    EnvOK { ft := fun f => Bool.casesOn (Nat.ble (Nat.succ f) nf) none (get3 ftab f), tt := fun t => Bool.casesOn (Nat.ble (Nat.succ t) nt) none (get3 ttab t), sm := sm, ds := ds, un := un, pg := P } P where
  ft f fn h := by
    have := tab_ok hf h1 h
    refine ⟨by simpa using this, ?_⟩
    have := List.all_eq_true.1 hn fn (List.mem_of_getElem? this)
    simpa using this
  tt t i h := by
    have h3 := tab_ok ht h2 h
    have hl : P.types[t]? = some i := by simpa using h3
    have hlt := (Array.getElem?_eq_some_iff.1 hl).1
    unfold Tables.info?
    rw [if_pos hlt]
    exact hl
  pg := rfl
  mixed := hm
  un := hu

/-! ### the world that a call starts in -/
def mu0 : Mu := fun g => if g < 32 then some (g, 256) else none
theorem gm0 : GM mu0 := fun g hg => ⟨256, by simp [mu0, hg]⟩
def hN : H := H.rec (motive := fun _ => H) (fun t _ => H.mk t 32) H.none
theorem hN_nx : hN.nx = 32 := rfl
theorem hN_get (id : Nat) : hN.get id = .x := by
  show H.get0 (H5.all (H4.all (H3.all (H2.all (H1.all .x))))) id = .x
  unfold H.get0
  rw [H5.get_all, H4.get_all, H3.get_all, H2.get_all, H1.get_all]
def sz : V := .i .u8 (Int.ofNat 0)
def so : V := .i .u8 (Int.ofNat 1)
def rz : T1 := T1.all sz
def spaceT : T3 := T3.p0 (.mk rz (.mk sz so so so so so sz sz) rz rz (.mk so sz sz sz sz sz sz sz) rz rz rz) (T3.all (T2.all rz))
def spaceC : Cs := .c3 8 spaceT
def h0N (gm : Nat) : H := H.put hN gm .gi
def h0S (gs gm : Nat) : H := H.put (H.put hN gs (.g 256 spaceC)) gm .gi
def vNat (v : V) : Nat := V.rec (motive := fun _ => Nat) 0 (fun _ => 0) (fun _ x => x.toNat) (fun _ => 0) (fun _ => 0) (fun _ _ _ _ _ => 0) (fun _ _ _ => 0) (fun _ _ => 0) (fun _ _ => 0) 0 (fun _ _ _ _ => 0) v
theorem space_at : ∀ i, i < 256 → spaceC.get i = .i .u8 (Lib.asciiSpaceTab.getD i 0) := by
  have key : ∀ i, spaceC.get i = sz ∨ spaceC.get i = so := by
    intro i
    show T1.get (e0 (i % 8)) (T2.get (e0 (i / 8)) (T3.get (e1 (i / 8)) spaceT)) = sz ∨ T1.get (e0 (i % 8)) (T2.get (e0 (i / 8)) (T3.get (e1 (i / 8)) spaceT)) = so
    generalize e1 (i / 8) = a
    generalize e0 (i / 8) = b
    generalize e0 (i % 8) = c
    cases a <;> first | (left; show T1.get c (T2.get b (T2.all (T1.all sz))) = sz; rw [T2.get_all, T1.get_all]; done) | skip
    cases b <;> cases c <;> first | exact .inl rfl | exact .inr rfl
  have hall : (List.range 256).all (fun i => vNat (spaceC.get i) == (Lib.asciiSpaceTab.getD i 0).toNat && decide (0 ≤ Lib.asciiSpaceTab.getD i 0)) = true := by decide +kernel
  intro i hi
  have h1 := List.all_eq_true.1 hall i (List.mem_range.2 hi)
  simp only [Bool.and_eq_true, beq_iff_eq, decide_eq_true_eq] at h1
  obtain ⟨h1, h2⟩ := h1
  rcases key i with h | h
  · rw [h] at h1 ⊢
    have h1 : 0 = (Lib.asciiSpaceTab.getD i 0).toNat := h1
    have : Lib.asciiSpaceTab.getD i 0 = 0 := by omega
    rw [this]; rfl
  · rw [h] at h1 ⊢
    have h1 : 1 = (Lib.asciiSpaceTab.getD i 0).toNat := h1
    have : Lib.asciiSpaceTab.getD i 0 = 1 := by omega
    rw [this]; rfl
theorem wr0N {W : World} {gm : Nat} (hgm : gm < 32) (hm : ∃ m, W.cell? ⟨gm, 0, none⟩ = some (.int .i64 m)) : WR mu0 (h0N gm) W := by
  have hget : ∀ id, id < 32768 → (h0N gm).get id ≠ .x → id = gm := fun id hid h => by
    by_cases e : id = gm
    · exact e
    · rw [h0N, get_put_ne hid (by omega) e, hN_get] at h; exact absurd rfl h
  refine ⟨by rw [h0N, nx_put]; decide, fun id hid => ?_, fun id hid h => ?_, fun i j hi hj ha hb c n n' h1 h2 => ?_⟩
  · rw [h0N, nx_put, hN_nx] at hid
    simp [mu0]; omega
  · obtain rfl := hget id hid h
    obtain ⟨m, hm⟩ := hm
    rw [World.cell?] at hm
    cases ho : W.heap[id]? with
    | none => simp [ho] at hm
    | some o =>
      refine ⟨id, 256, o, by simp [mu0, hgm], ho, ?_⟩
      rw [h0N, get_put_same]
      simp only [ho] at hm
      cases o with
      | cells arr e fr => exact ⟨arr, e, fr, m, rfl, by simpa using hm⟩
      | _ => simp at hm
  · rw [hget i hi ha, hget j hj hb]
theorem wr0S {P : Program} {W : World} {gs gm : Nat} (hgm : gm < 32) (hgs : gs < 32) (hne : gs ≠ gm) (hm : ∃ m, W.cell? ⟨gm, 0, none⟩ = some (.int .i64 m)) (hg : P.globalNamed "strings.asciiSpace" = some gs)
    (ht : Lib.TabIs P W "strings.asciiSpace" .u8 Lib.asciiSpaceTab) : WR mu0 (h0S gs gm) W := by
  have hget : ∀ id, id < 32768 → (h0S gs gm).get id ≠ .x → id = gm ∨ id = gs := fun id hid h => by
    by_cases e : id = gm
    · exact .inl e
    · rw [h0S, get_put_ne hid (by omega) e] at h
      by_cases e2 : id = gs
      · exact .inr e2
      · rw [get_put_ne hid (by omega) e2, hN_get] at h; exact absurd rfl h
  refine ⟨by rw [h0S, nx_put, nx_put]; decide, fun id hid => ?_, fun id hid h => ?_, fun i j hi hj ha hb c n n' h1 h2 => ?_⟩
  · rw [h0S, nx_put, nx_put, hN_nx] at hid
    simp [mu0]; omega
  · rcases hget id hid h with rfl | rfl
    · obtain ⟨m, hm⟩ := hm
      rw [World.cell?] at hm
      cases ho : W.heap[id]? with
      | none => simp [ho] at hm
      | some o =>
        refine ⟨id, 256, o, by simp [mu0, hgm], ho, ?_⟩
        rw [h0S, get_put_same]
        simp only [ho] at hm
        cases o with
        | cells arr e fr => exact ⟨arr, e, fr, m, rfl, by simpa using hm⟩
        | _ => simp at hm
    · unfold Lib.TabIs World.var? at ht
      rw [hg] at ht
      simp only [Option.bind_some] at ht
      cases ho : W.heap[id]? with
      | none => simp [ho] at ht
      | some o =>
        refine ⟨id, 256, o, by simp [mu0, hgs], ho, ?_⟩
        rw [h0S, get_put_ne (by omega) (by omega) hne, get_put_same]
        rw [ho] at ht
        cases o with
        | cells arr e fr =>
          have ht : some arr = _ := ht
          obtain rfl := Option.some.inj ht
          refine ⟨_, e, fr, rfl, by simp [Lib.asciiSpaceTab_length], by decide, by simp [Lib.asciiSpaceTab_length], fun i hi => ?_⟩
          refine ⟨.int .u8 (Lib.asciiSpaceTab.getD i 0), ?_, by rw [space_at i hi]; rfl⟩
          have hl : i < Lib.asciiSpaceTab.length := by rw [Lib.asciiSpaceTab_length]; exact hi
          simp [List.getD, hl]
        | _ => simp at ht
  · have e : ∀ i, (i = gm ∨ i = gs) → mu0 i = some (i, 256) := fun i h => by rcases h with rfl | rfl <;> simp [mu0, *]
    rw [e i (hget i hi ha)] at h1
    rw [e j (hget j hj hb)] at h2
    have e1 := (Prod.mk.inj (Option.some.inj h1)).1
    have e2 := (Prod.mk.inj (Option.some.inj h2)).1
    rw [e1, e2]
/-- nothing that was there before the call may be written -/
def noWr (h : H) : Prop := ∀ id, id < 32768 → ¬ wrb (h.get id)
theorem noWr0N (gm : Nat) (hgm : gm < 32) : noWr (h0N gm) := fun id hid h => by
  by_cases e : id = gm
  · subst e; rw [h0N, get_put_same] at h; exact h
  · rw [h0N, get_put_ne hid (by omega) e, hN_get] at h; exact h
theorem noWr0S (gs gm : Nat) (hgs : gs < 32) (hgm : gm < 32) : noWr (h0S gs gm) := fun id hid h => by
  by_cases e : id = gm
  · subst e; rw [h0S, get_put_same] at h; exact h
  · rw [h0S, get_put_ne hid (by omega) e] at h
    by_cases e2 : id = gs
    · subst e2; rw [get_put_same] at h; exact h
    · rw [get_put_ne hid (by omega) e2, hN_get] at h; exact h
theorem below_of {μ μ' : Mu} {h h' : H} {w w' : World} (hn : noWr h) (e : Ext μ h w μ' h' w') : Below w.heap.size w w' :=
  ⟨e.os, e.tape, e.out, e.size, fun k hk => e.keep k hk fun ⟨id, n, hid, hw, _⟩ => hn id hid hw⟩

/-! ### a call, evaluated -/
theorem calls_of {P : Program} {E : Env} (ok : EnvOK E P) (sok : SumOK E P) {n f : Nat} {fn : Func} {c : Code} (hf : P.funcs[f]? = some fn) (hn : (fn.name == "runtime.NumGoroutine") = false) (hb : fn.body = some c)
    {args : V} {h : H} {k : K1} (e : callF E n false f args h k = true) {μ : Mu} {w : World} {xs : Array Value} (gm : GM μ) (wr : WR μ h w) (hr : RL μ args xs.toList) :
    Calls P f xs w fun e w' => ∃ v, e = .returned v ∧ PK μ h w k v w' := by
  have := (callF_sound ok sok n).1 f args h k e μ w xs.toList gm wr hr
  have hx : xs.toList.toArray = xs := by simp
  rw [hx, run_enter hf hn hb] at this
  exact (callsIn_wide.1 (show CallsIn Fence.wide 0 P f xs w _ from this)).mono fun e w' h => by
    cases e with
    | returned v => exact ⟨v, rfl, h⟩
    | _ => exact h.elim
/-- a law that answers true -/
def isT (v : V) (_ : H) : Bool := qB (fun b => b) v
theorem law_of {P : Program} {E : Env} (ok : EnvOK E P) (sok : SumOK E P) {n f : Nat} {fn : Func} {c : Code} (hf : P.funcs[f]? = some fn) (hn : (fn.name == "runtime.NumGoroutine") = false) (hb : fn.body = some c)
    {args : V} {h : H} (e : callF E n false f args h isT = true) {w : World} {xs : Array Value} (wr : WR mu0 h w) (hw : noWr h) (hr : RL mu0 args xs.toList) :
    Calls P f xs w fun e w' => e = .returned (.bool true) ∧ Below w.heap.size w w' :=
  (calls_of ok sok hf hn hb e gm0 wr hr).mono fun e w' ⟨v, hv, μ', h', a, h1, h2, h3, h4⟩ => by
    obtain ⟨b, rfl, hb⟩ := qB_inv h4
    have hb : b = true := hb
    subst hb
    have hv' : v = .bool true := h1
    rw [hv, hv']
    exact ⟨rfl, below_of hw h3⟩
end

/-! ### the row -/
section
variable {H : Type} {enc : TypeId × Value → H}
theorem trodAll_below {P : Program} (hl : laidOutB P = true) {W W' : World} (hB : Below W.heap.size W W') : ∀ (ts : List TypeId) (vs : List Value) (ds : List (DataW H)) (ps : List MemPlace), (ts.all fun t => P.readableRec t && decide (t < P.types.size)) = true →
    (∀ x ∈ ps, x.block < W.heap.size) → DataW.TrodAll enc P W 0 (fun _ => true) true ts vs ds ps → DataW.TrodAll enc P W' 0 (fun b => decide (b < W.heap.size)) true ts vs ds ps
  | [], [], [], _, _, _, h => h
  | [], [], _ :: _, _, _, _, h => h.elim
  | [], _ :: _, [], _, _, _, h => h.elim
  | [], _ :: _, _ :: _, _, _, _, h => h.elim
  | _ :: _, [], [], _, _, _, h => h.elim
  | _ :: _, [], _ :: _, _, _, _, h => h.elim
  | _ :: _, _ :: _, [], _, _, _, h => h.elim
  | t :: ts, v :: vs, d :: ds, ps, hr, hp, h => by
    obtain ⟨p, q, h1, h2, e⟩ := h
    rw [List.all_cons, Bool.and_eq_true, Bool.and_eq_true, decide_eq_true_eq] at hr
    exact ⟨p, q, RowKit.Below.trod hl hr.1.1 hr.1.2 h1 hB (fun x hx => hp x (by rw [e]; exact List.mem_append_left _ hx)),
      trodAll_below hl hB ts vs ds q hr.2 (fun x hx => hp x (by rw [e]; exact List.mem_append_right _ hx)) h2, e⟩
theorem post_true {P : Program} {s : ChangeSpec} {fn : Func} {tb : TypeId} (hb : P.underlying tb = some .bool) (hrt : fn.resultTypes = #[tb]) (hl : laidOutB P = true) (hpar : (fn.params.toList.all fun t => P.readableRec t && decide (t < P.types.size)) = true)
    (hvars : s.vars = []) {W W' : World} {args : Array Value} {ds gs : List (DataW H)} {before : List MemPlace} {apart fresh handsOn : Bool} (hW : DataW.Whole enc P fn.params.toList s.vars apart W args.toList ds gs before)
    (hr : (s.fn H (ds ++ gs)).results = [.lit (.bool true)]) (ha : (s.fn H (ds ++ gs)).args = ds) (hv : (s.fn H (ds ++ gs)).vars = []) (hB : Below W.heap.size W W') : s.post enc P fn apart fresh handsOn false W args (.bool true) W' := by
  have hlt := hW.lt
  obtain ⟨p, q, h1, h2, e, h3, h4⟩ := id hW
  rw [hvars] at h2
  have hq : gs = [] ∧ q = [] := by
    cases gs with
    | nil => exact ⟨rfl, h2⟩
    | cons g gs => exact h2.elim
  obtain ⟨rfl, rfl⟩ := hq
  refine ⟨ds, [], before, [], p, [], hW, ?_, ?_, ?_, hB.frame _, fun h => by cases h⟩
  · rw [hrt, hr]
    exact ChangeShapes.trodAll_mk1 (RowKit.shut_bool hb _)
  · rw [ha]
    exact trodAll_below hl hB _ _ _ _ hpar (fun x hx => hlt x (by rw [e]; simpa using hx)) h1
  · rw [hv, hvars]; exact rfl

/-- as the kit's, the world's shape kept -/
theorem returns_both {a : Assume} {C : Checked} {os : Os} {f : FuncId} {fn : Func} {s : ChangeSpec} {conds : List PathCond} {apart fresh handsOn again : Bool} {X : World → Array Value → Prop}
    (hX : ∀ (w w' : World) (args : Array Value), w.heap = w'.heap → X w args → X w' args)
    (own : ownKnob C.prog.godebug = none) (started : os.Started) (noInit : C.prog.inits.idxOf? f = none) (hfn : C.prog.funcs[f]? = some fn)
    (witness : ∃ (w : World) (tape : Tape) (i : Input), w.os = os ∧ (w.forCall tape i).Shaped C.prog ∧ i.vars = [] ∧ Input.okWide C.prog (w.forCall tape i) .any w.heap.size f i ∧
      ((s.pre enc C.prog fn conds apart (w.forCall tape i).memory i.args ∧ X (w.forCall tape i).memory i.args) ∧ sizedMet enc C.prog fn (OpenSpec.ofChange s) apart (w.forCall tape i).memory i.args) ∧ a.holds C.prog (lone (Frame.enter C.prog f i.args .normal) [] (w.forCall tape i)))
    (contract : ∀ (W : World) (base : Nat) (args : Array Value) (ds gs : List (DataW H)) (before : List MemPlace),
      (∀ (j : Nat) t v, fn.params[j]? = some t → args[j]? = some v → Value.okWide C.prog W .any base t v) →
      DataW.Whole enc C.prog fn.params.toList s.vars apart W args.toList ds gs before →
      X W args → W.ShapedOpen C.prog →
      Calls C.prog f args W fun e W' => ∃ v, e = .returned v ∧ s.post enc C.prog fn apart fresh handsOn again W args v W') :
    ReturnsInHanded a C os f .any (fun w args => (s.pre enc C.prog fn conds apart w args ∧ X w args) ∧ sizedMet enc C.prog fn (OpenSpec.ofChange s) apart w args) (s.post enc C.prog fn apart fresh handsOn again) := by
  refine returnsInHanded_of_calls own started noInit witness ?_
  intro w tape i _ hsh _ hok hpre hholds
  obtain ⟨_, _, _, fn', hfn', _, _, _, _, hval⟩ := hok
  have e : fn' = fn := Option.some.inj (hfn'.symm.trans hfn)
  subst e
  obtain ⟨⟨⟨ds, gs, before, hw, hc⟩, hx⟩, hz⟩ := hpre
  have hw' := DataW.Whole.of_heap (w' := w.forCall tape i) (by rfl) hw
  refine (contract (w.forCall tape i) w.heap.size i.args ds gs before hval hw' (hX _ _ _ (by rfl) hx) hsh).mono fun e W' ⟨v, he, hp⟩ => ?_
  subst he
  exact ChangeSpec.post_blind hp
end
end
end Go.Ev

set_option linter.constructorNameAsVariable false
set_option linter.unusedVariables false
set_option linter.unusedSimpArgs false
set_option linter.unusedSectionVars false
namespace Go.Ev
open Go Go.RowKit
noncomputable section

/-! ### a number that is below or above all that it is held against; a text that is none of some -/
def kLo (b : Nat) (op : BinOp) (c : Nat) : Option Bool := Bool.rec (motive := fun _ => Option Bool) none
  (match op with | .eql => some false | .neq => some true | .lss => some true | .leq => some true | .gtr => some false | .geq => some false | _ => none) (Nat.ble b c)
def kHi (b : Nat) (op : BinOp) (c : Nat) : Option Bool := Bool.rec (motive := fun _ => Option Bool) none
  (match op with | .eql => some false | .neq => some true | .lss => some false | .leq => some false | .gtr => some true | .geq => some true | _ => none) (Nat.ble c b)
def oI64 (g : Nat → Option V) (v : V) : Option V := oI (fun k x => Bool.rec (motive := fun _ => Option V) none (Int.rec (motive := fun _ => Option V) g (fun _ => none) x) (Nat.beq (kno k) 3)) v
def isUn (n : Nat) (v : V) : Bool := qY (Nat.beq n) v
/-- the unknown number 32768 -/
def unK (f : BinOp → Nat → Option Bool) (op : BinOp) (_ : Nat) (x y : V) : Option V :=
  Bool.rec (motive := fun _ => Option V) none (oI64 (fun c => Option.rec (motive := fun _ => Option V) none (fun b => some (.b b)) (f op c)) y) (isUn 32768 x)
/-- the unknown text 32769 -/
def unT (L : List Nat) (op : BinOp) (_ : Nat) (x y : V) : Option V :=
  match op with
  | .eql => Bool.rec (motive := fun _ => Option V)
      (Bool.rec (motive := fun _ => Option V) none (oS (fun c => Bool.rec (motive := fun _ => Option V) none (some (.b false)) (memN c L)) x) (isUn 32769 y))
      (oS (fun c => Bool.rec (motive := fun _ => Option V) none (some (.b false)) (memN c L)) y) (isUn 32769 x)
  | _ => none

section
variable [Un] {P : Program}
theorem isUn_rel {n : Nat} (hn : 32768 ≤ n) {v : V} (h : isUn n v = true) {μ : Mu} {a : Value} (hr : RV μ v a) : a = Un.val n := by
  obtain ⟨id, rfl, h1⟩ := qY_inv h
  rw [Nat.beq_eq] at h1
  subst h1
  rcases hr with ⟨h, _⟩ | ⟨_, h⟩
  · omega
  · exact h
theorem oI64_inv {g : Nat → Option V} {v r : V} (h : oI64 g v = some r) : ∃ c : Nat, v = .i .i64 (Int.ofNat c) ∧ g c = some r := by
  obtain ⟨k, x, rfl, h⟩ := oI_inv h
  obtain ⟨h1, h2⟩ := bool_inv h
  have hk : k = .i64 := by cases k <;> first | rfl | cases h1
  subst hk
  cases x with
  | negSucc n => cases h2
  | ofNat c => exact ⟨c, rfl, h2⟩
def cmpI (op : BinOp) (a b : Int) (r : Bool) : Prop := match op with | .eql => r = (a == b) | .neq => r = (a != b) | .lss => r = decide (a < b) | .leq => r = decide (a ≤ b) | .gtr => r = decide (a > b) | .geq => r = decide (a ≥ b) | _ => False
theorem unK_sound {f : BinOp → Nat → Option Bool} {kv : Int} (hk : Un.val 32768 = .int .i64 kv) (hf : ∀ op c r, f op c = some r → cmpI op kv (c : Int) r) : UnS P (unK f) := by
  intro op t x y v e μ a b ha hb
  obtain ⟨e1, e2⟩ := bool_inv e
  obtain ⟨c, rfl, e3⟩ := oI64_inv e2
  obtain ⟨r, e4, e5⟩ := opt_inv e3
  obtain rfl := Option.some.inj e5
  have hA := isUn_rel (by decide) e1 ha
  rw [hk] at hA
  subst hA
  obtain rfl := rv_i hb
  have hc := hf op c r e4
  refine ⟨.bool r, rfl, fun X Y w => ?_⟩
  have hg := eqGuard_ok (P := P) (op := op) (t := t) (x := X) (y := Y) (a := .int .i64 kv) (b := .int .i64 (Int.ofNat c)) (by simp) (fun h => by cases h) w
  simp only [Sem.run_bind, hg, Result.andThen_ok]
  cases op <;> first | exact hc.elim | skip
  all_goals
    simp only [cmpI] at hc
    subst hc
    simp [binOp, Op.intCmp]
theorem kLo_ok {b : Nat} {kv : Int} (h : kv < b) : ∀ op c r, kLo b op c = some r → cmpI op kv (c : Int) r := by
  intro op c r e
  obtain ⟨e1, e2⟩ := bool_inv e
  have := le_of_ble e1
  cases op <;> first | (cases e2; done) | skip
  all_goals
    obtain rfl := Option.some.inj e2
    simp only [cmpI]
    symm
    simp
    omega
theorem kHi_ok {b : Nat} {kv : Int} (h : (b : Int) < kv) : ∀ op c r, kHi b op c = some r → cmpI op kv (c : Int) r := by
  intro op c r e
  obtain ⟨e1, e2⟩ := bool_inv e
  have := le_of_ble e1
  cases op <;> first | (cases e2; done) | skip
  all_goals
    obtain rfl := Option.some.inj e2
    simp only [cmpI]
    symm
    simp
    omega
theorem str_eq_run {t : Nat} {s s' : ByteArray} (h : enc s.data.toList ≠ enc s'.data.toList) (X Y : Operand) (w : World) : (do eqGuard .eql t X Y (.string s) (.string s'); binOp .eql t (.string s) (.string s') : Sem Value).run P w = .ok (.bool false) w := by
  have hg := eqGuard_ok (P := P) (op := .eql) (t := t) (x := X) (y := Y) (a := .string s) (b := .string s') (by simp) (fun h => by cases h) w
  simp only [Sem.run_bind, hg, Result.andThen_ok]
  have : (s.toList == s'.toList) = false := by
    rw [beq_eq_false_iff_ne, ByteArray.toList_eq, ByteArray.toList_eq]
    intro e; exact h (by rw [e])
  simp [binOp, Op.stringOp, this]
theorem unT_sound {L : List Nat} {s : ByteArray} (hs : Un.val 32769 = .string s) (hL : ∀ c ∈ L, enc s.data.toList ≠ c) : UnS P (unT L) := by
  intro op t x y v e μ a b ha hb
  cases op <;> first | (cases e; done) | skip
  have e : Bool.rec (motive := fun _ => Option V)
      (Bool.rec (motive := fun _ => Option V) none (oS (fun c => Bool.rec (motive := fun _ => Option V) none (some (.b false)) (memN c L)) x) (isUn 32769 y))
      (oS (fun c => Bool.rec (motive := fun _ => Option V) none (some (.b false)) (memN c L)) y) (isUn 32769 x) = some v := e
  cases hx : isUn 32769 x with
  | true =>
    rw [hx] at e
    obtain ⟨c, rfl, e1⟩ := oS_inv e
    obtain ⟨e2, e3⟩ := bool_inv e1
    obtain rfl := Option.some.inj e3
    have hA := isUn_rel (by decide) hx ha
    rw [hs] at hA
    subst hA
    obtain ⟨s', rfl, hs'⟩ := rv_s hb
    exact ⟨.bool false, rfl, fun X Y w => str_eq_run (by rw [hs']; exact hL c ((memN_iff _ _).1 e2)) X Y w⟩
  | false =>
    rw [hx] at e
    obtain ⟨e0, e⟩ := bool_inv e
    obtain ⟨c, rfl, e1⟩ := oS_inv e
    obtain ⟨e2, e3⟩ := bool_inv e1
    obtain rfl := Option.some.inj e3
    have hB := isUn_rel (by decide) e0 hb
    rw [hs] at hB
    subst hB
    obtain ⟨s', rfl, hs'⟩ := rv_s ha
    exact ⟨.bool false, rfl, fun X Y w => str_eq_run (by rw [hs']; exact fun h => hL c ((memN_iff _ _).1 e2) h.symm) X Y w⟩

/-! ### a function without arguments whose answer is true from whatever memory that holds the variables -/
def eqU8 (a b : V) : Bool := qI (fun k x => qI (fun k' y => Bool.rec (motive := fun _ => Bool) false (Bool.rec (motive := fun _ => Bool) false (iEq x y) (Nat.beq (kno k') 4)) (Nat.beq (kno k) 4)) b) a
def sameL : List V → List V → Bool
  | [], [] => true
  | a :: l, b :: m => Bool.rec (motive := fun _ => Bool) false (sameL l m) (eqU8 a b)
  | _, _ => false
def isSpN (cs : Cs) (n : Nat) : Bool := Nat.rec (motive := fun _ => Bool) true (fun i ih => Bool.rec (motive := fun _ => Bool) false ih (eqU8 (cs.get i) (spaceC.get i))) n
def isSp (cs : Cs) : Bool := Bool.rec (motive := fun _ => Bool) false (isSpN cs 256) (Cs.fits cs 256)
def isGsp (b : B) : Bool := B.rec (motive := fun _ => Bool) false (fun n cs => Bool.rec (motive := fun _ => Bool) false (isSp cs) (Nat.beq n 256)) (fun _ _ _ _ _ => false) (fun _ => false) (fun _ _ => false) false (fun _ _ _ _ _ _ _ _ => false) false b
def isGi (b : B) : Bool := B.rec (motive := fun _ => Bool) false (fun _ _ => false) (fun _ _ _ _ _ => false) (fun _ => false) (fun _ _ => false) false (fun _ _ _ _ _ _ _ _ => false) true b
def gK (gs gm : Nat) (v : V) (h : H) : Option V :=
  Bool.rec (motive := fun _ => Option V) none (Bool.rec (motive := fun _ => Option V) none (Bool.rec (motive := fun _ => Option V) none (some (.b true)) (isGi (H.get h gm))) (isGsp (H.get h gs))) (qN true v)
theorem eqU8_eq {a b : V} (h : eqU8 a b = true) : a = b := by
  obtain ⟨k, x, rfl, g1⟩ := qI_inv h
  obtain ⟨k', y, rfl, g2⟩ := qI_inv g1
  obtain ⟨h1, g3⟩ := boolq_inv g2
  obtain ⟨h2, h3⟩ := boolq_inv g3
  have e1 : k = .u8 := by cases k <;> first | rfl | cases h1
  have e2 : k' = .u8 := by cases k' <;> first | rfl | cases h2
  rw [iEq_eq, beq_iff_eq] at h3
  rw [e1, e2, h3]
theorem sameL_eq : ∀ {l m : List V}, sameL l m = true → l = m
  | [], [], _ => rfl
  | a :: l, b :: m, h => by
    obtain ⟨h1, h2⟩ := boolq_inv (show Bool.rec (motive := fun _ => Bool) false (sameL l m) (eqU8 a b) = true from h)
    rw [eqU8_eq h1, sameL_eq h2]
  | [], _ :: _, h => by cases h
  | _ :: _, [], h => by cases h
theorem isSpN_inv {cs : Cs} : ∀ n, isSpN cs n = true → ∀ i, i < n → cs.get i = spaceC.get i := by
  intro n
  induction n with
  | zero => intro _ i hi; omega
  | succ n ih =>
    intro h i hi
    obtain ⟨h1, h2⟩ := boolq_inv (show Bool.rec (motive := fun _ => Bool) false (isSpN cs n) (eqU8 (cs.get n) (spaceC.get n)) = true from h)
    by_cases e : i = n
    · subst e; exact eqU8_eq h1
    · exact ih h2 i (by omega)
theorem isSp_at {cs : Cs} (h : isSp cs = true) : 256 ≤ cs.room ∧ ∀ i, i < 256 → cs.get i = spaceC.get i := by
  obtain ⟨h1, h2⟩ := boolq_inv (show Bool.rec (motive := fun _ => Bool) false (isSpN cs 256) (Cs.fits cs 256) = true from h)
  exact ⟨cs_fits _ _ h1, isSpN_inv 256 h2⟩
theorem isGsp_inv {b : B} (h : isGsp b = true) : ∃ cs, b = .g 256 cs ∧ isSp cs = true := by
  cases b with
  | g n cs =>
    obtain ⟨h1, h2⟩ := boolq_inv (show Bool.rec (motive := fun _ => Bool) false (isSp cs) (Nat.beq n 256) = true from h)
    rw [Nat.beq_eq] at h1
    subst h1
    exact ⟨cs, rfl, h2⟩
  | _ => cases h
theorem isGi_inv {b : B} (h : isGi b = true) : b = .gi := by
  cases b with
  | gi => rfl
  | _ => cases h
theorem wr_below {μ : Mu} {h : H} {w w' : World} (wr : WR μ h w) (hB : Below w.heap.size w w') : WR μ h w' ∧ Ext μ h w μ h w' := by
  refine ⟨⟨wr.nx, wr.fresh, fun id hid ha => ?_, wr.inj⟩, ⟨fun _ _ h => h, hB.size, fun c hc => .inl hc, fun c hc => .inl hc, fun c hc _ => hB.block c hc, hB.os, hB.output, hB.tape⟩⟩
  obtain ⟨c, n, o, h1, h2, h3⟩ := wr.blk id hid ha
  exact ⟨c, n, o, h1, by rw [hB.block c (lt_size h2)]; exact h2, h3⟩
theorem pure_known {E : Env} (ok : EnvOK E P) (sok : SumOK E P) {n f gs gm : Nat} (hgs : gs < 32) (hgm : gm < 32) (hne : gs ≠ gm) {fn : Func} {c : Code} (hf : P.funcs[f]? = some fn) (hn : (fn.name == "runtime.NumGoroutine") = false) (hb : fn.body = some c)
    (e : callF E n false f .n (h0S gs gm) isT = true) : PureS P f (gK gs gm) := by
  intro μ h w args xs v gmu wr hr ev
  obtain ⟨e1, ev⟩ := bool_inv ev
  obtain ⟨e2, ev⟩ := bool_inv ev
  obtain ⟨e3, ev⟩ := bool_inv ev
  obtain rfl := Option.some.inj ev
  obtain ⟨rfl, _⟩ := qN_inv e1
  obtain rfl : xs = [] := hr
  obtain ⟨cs, h1, h2⟩ := isGsp_inv e2
  have h3 := isGi_inv e3
  obtain ⟨hroom, hsp⟩ := isSp_at h2
  -- the memory of the variables alone
  obtain ⟨μr, hμr⟩ : ∃ m : Mu, m = fun g => if g < 32 then μ g else none := ⟨_, rfl⟩
  have gmr : GM μr := fun g hg => by obtain ⟨n, hn⟩ := gmu g hg; exact ⟨n, by rw [hμr]; simp [hg, hn]⟩
  have hget : ∀ id, id < 32768 → (h0S gs gm).get id ≠ .x → id = gm ∨ id = gs := fun id hid h => by
    by_cases e : id = gm
    · exact .inl e
    · rw [h0S, get_put_ne hid (by omega) e] at h
      by_cases e2 : id = gs
      · exact .inr e2
      · rw [get_put_ne hid (by omega) e2, hN_get] at h; exact absurd rfl h
  have wrr : WR μr (h0S gs gm) w := by
    refine ⟨by rw [h0S, nx_put, nx_put]; decide, fun id hid => ?_, fun id hid ha => ?_, fun i j hi hj ha hb c n n' q1 q2 => ?_⟩
    · rw [h0S, nx_put, nx_put, hN_nx] at hid
      rw [hμr]; simp; omega
    · rcases hget id hid ha with rfl | rfl
      · obtain ⟨c, n, o, b1, b2, b3⟩ := wr.blk id hid (by rw [h3]; simp)
        refine ⟨c, n, o, by rw [hμr]; simp [hgm, b1], b2, ?_⟩
        rw [h3] at b3
        rw [h0S, get_put_same]
        exact b3
      · obtain ⟨c, n, o, b1, b2, b3⟩ := wr.blk id hid (by rw [h1]; simp)
        refine ⟨c, n, o, by rw [hμr]; simp [hgs, b1], b2, ?_⟩
        rw [h1] at b3
        rw [h0S, get_put_ne hid (by omega) hne, get_put_same]
        obtain ⟨arr, el, fr, rfl, hsz, hc⟩ := b3
        refine ⟨arr, el, fr, rfl, hsz, by decide, hc.2.1, fun i hi => ?_⟩
        obtain ⟨x, x1, x2⟩ := hc.2.2 i hi
        rw [hsp i hi, space_at i hi] at x2
        exact ⟨x, x1, by rw [space_at i hi]; exact x2⟩
    · have e : ∀ i, (i = gm ∨ i = gs) → ∃ m, μr i = some (i, m) := fun i h => by
        have hi : i < 32 := by rcases h with rfl | rfl <;> assumption
        exact gmr i hi
      obtain ⟨m1, e1⟩ := e i (hget i hi ha)
      obtain ⟨m2, e2⟩ := e j (hget j hj hb)
      rw [e1] at q1
      rw [e2] at q2
      have e3 := (Prod.mk.inj (Option.some.inj q1)).1
      have e4 := (Prod.mk.inj (Option.some.inj q2)).1
      rw [e3, e4]
  refine ((callF_sound ok sok n).1 f .n (h0S gs gm) isT e μr w [] gmr wrr rfl).mono ?_
  rintro x w' ⟨μ', h', a, x1, x2, x3, x4⟩
  obtain ⟨b, rfl, hb⟩ := qB_inv x4
  have hb : b = true := hb
  subst hb
  have hB := below_of (noWr0S gs gm hgs hgm) x3
  obtain ⟨y1, y2⟩ := wr_below wr hB
  exact ⟨y1, y2, x1⟩
end
end
end Go.Ev

set_option linter.constructorNameAsVariable false
set_option linter.unusedVariables false
set_option linter.unusedSimpArgs false
set_option linter.unusedSectionVars false
namespace Go.Ev
open Go
noncomputable section
variable [Un] {P : Program}
/-- the known run of a program without asciiSpace, once evaluated: a call that answers true -/
def gKN (gm : Nat) (v : V) (h : H) : Option V :=
  Bool.rec (motive := fun _ => Option V) none (Bool.rec (motive := fun _ => Option V) none (some (.b true)) (isGi (H.get h gm))) (qN true v)
theorem pure_knownN {E : Env} (ok : EnvOK E P) (sok : SumOK E P) {n f gm : Nat} (hgm : gm < 32) {fn : Func} {c : Code} (hf : P.funcs[f]? = some fn) (hn : (fn.name == "runtime.NumGoroutine") = false) (hb : fn.body = some c)
    (e : callF E n false f .n (h0N gm) isT = true) : PureS P f (gKN gm) := by
  intro μ h w args xs v gmu wr hr ev
  obtain ⟨e1, ev⟩ := bool_inv ev
  obtain ⟨e3, ev⟩ := bool_inv ev
  obtain rfl := Option.some.inj ev
  obtain ⟨rfl, _⟩ := qN_inv e1
  obtain rfl : xs = [] := hr
  have h3 := isGi_inv e3
  obtain ⟨μr, hμr⟩ : ∃ m : Mu, m = fun g => if g < 32 then μ g else none := ⟨_, rfl⟩
  have gmr : GM μr := fun g hg => by obtain ⟨n, hn⟩ := gmu g hg; exact ⟨n, by rw [hμr]; simp [hg, hn]⟩
  have hget : ∀ id, id < 32768 → (h0N gm).get id ≠ .x → id = gm := fun id hid h => by
    by_cases e : id = gm
    · exact e
    · rw [h0N, get_put_ne hid (by omega) e, hN_get] at h; exact absurd rfl h
  have wrr : WR μr (h0N gm) w := by
    refine ⟨by rw [h0N, nx_put]; decide, fun id hid => ?_, fun id hid ha => ?_, fun i j hi hj ha hb c n n' q1 q2 => ?_⟩
    · rw [h0N, nx_put, hN_nx] at hid
      rw [hμr]; simp; omega
    · obtain rfl := hget id hid ha
      obtain ⟨c, n, o, b1, b2, b3⟩ := wr.blk id hid (by rw [h3]; simp)
      refine ⟨c, n, o, by rw [hμr]; simp [hgm, b1], b2, ?_⟩
      rw [h3] at b3
      rw [h0N, get_put_same]
      exact b3
    · rw [hget i hi ha, hget j hj hb]
  refine ((callF_sound ok sok n).1 f .n (h0N gm) isT e μr w [] gmr wrr rfl).mono ?_
  rintro x w' ⟨μ', h', a, x1, x2, x3, x4⟩
  obtain ⟨b, rfl, hb⟩ := qB_inv x4
  have hb : b = true := hb
  subst hb
  have hB := below_of (noWr0N gm hgm) x3
  obtain ⟨y1, y2⟩ := wr_below wr hB
  exact ⟨y1, y2, x1⟩
end
end Go.Ev

set_option linter.constructorNameAsVariable false
set_option linter.unusedVariables false
set_option linter.unusedSimpArgs false
set_option linter.unusedSectionVars false
namespace Go.Ev
open Go
noncomputable section
theorem eqB_eq {a b : Bool} (h : beqB a b = true) : a = b := by cases a <;> cases b <;> first | rfl | cases h
theorem iEq_inv {x y : Int} (h : iEq x y = true) : x = y := by
  cases x with
  | ofNat a =>
    cases y with
    | ofNat b => exact congrArg Int.ofNat (Nat.eq_of_beq_eq_true h)
    | negSucc b => cases h
  | negSucc a => exact of_decide_eq_true h
def eqR_np (b : Ref) : Bool := Ref.rec (motive := fun _ => Bool) true (fun _ _ => false) false (fun _ _ _ _ => false) (fun _ _ _ _ => false) false false (fun _ => false) false false (fun _ => false) b 
def eqR_pt (b : Ref) (x0 x1 : Nat) : Bool := Ref.rec (motive := fun _ => Nat → Nat → Bool) (fun _ _ => false) (fun y0 y1 x0 x1 => (Bool.rec (motive := fun _ => Bool) false (Nat.beq x1 y1) (Nat.beq x0 y0))) (fun _ _ => false) (fun _ _ _ _ _ _ => false) (fun _ _ _ _ _ _ => false) (fun _ _ => false) (fun _ _ => false) (fun _ _ _ => false) (fun _ _ => false) (fun _ _ => false) (fun _ _ _ => false) b x0 x1
def eqR_ns (b : Ref) : Bool := Ref.rec (motive := fun _ => Bool) false (fun _ _ => false) true (fun _ _ _ _ => false) (fun _ _ _ _ => false) false false (fun _ => false) false false (fun _ => false) b 
def eqR_sl (b : Ref) (x0 x1 x2 x3 : Nat) : Bool := Ref.rec (motive := fun _ => Nat → Nat → Nat → Nat → Bool) (fun _ _ _ _ => false) (fun _ _ _ _ _ _ => false) (fun _ _ _ _ => false) (fun y0 y1 y2 y3 x0 x1 x2 x3 => (Bool.rec (motive := fun _ => Bool) false (Bool.rec (motive := fun _ => Bool) false (Bool.rec (motive := fun _ => Bool) false (Nat.beq x3 y3) (Nat.beq x2 y2)) (Nat.beq x1 y1)) (Nat.beq x0 y0))) (fun _ _ _ _ _ _ _ _ => false) (fun _ _ _ _ => false) (fun _ _ _ _ => false) (fun _ _ _ _ _ => false) (fun _ _ _ _ => false) (fun _ _ _ _ => false) (fun _ _ _ _ _ => false) b x0 x1 x2 x3
def eqR_so (b : Ref) (x0 x1 x2 x3 : Nat) : Bool := Ref.rec (motive := fun _ => Nat → Nat → Nat → Nat → Bool) (fun _ _ _ _ => false) (fun _ _ _ _ _ _ => false) (fun _ _ _ _ => false) (fun _ _ _ _ _ _ _ _ => false) (fun y0 y1 y2 y3 x0 x1 x2 x3 => (Bool.rec (motive := fun _ => Bool) false (Bool.rec (motive := fun _ => Bool) false (Bool.rec (motive := fun _ => Bool) false (Nat.beq x3 y3) (Nat.beq x2 y2)) (Nat.beq x1 y1)) (Nat.beq x0 y0))) (fun _ _ _ _ => false) (fun _ _ _ _ => false) (fun _ _ _ _ _ => false) (fun _ _ _ _ => false) (fun _ _ _ _ => false) (fun _ _ _ _ _ => false) b x0 x1 x2 x3
def eqR_se (b : Ref) : Bool := Ref.rec (motive := fun _ => Bool) false (fun _ _ => false) false (fun _ _ _ _ => false) (fun _ _ _ _ => false) true false (fun _ => false) false false (fun _ => false) b 
def eqR_nm (b : Ref) : Bool := Ref.rec (motive := fun _ => Bool) false (fun _ _ => false) false (fun _ _ _ _ => false) (fun _ _ _ _ => false) false true (fun _ => false) false false (fun _ => false) b 
def eqR_mp (b : Ref) (x0 : Nat) : Bool := Ref.rec (motive := fun _ => Nat → Bool) (fun _ => false) (fun _ _ _ => false) (fun _ => false) (fun _ _ _ _ _ => false) (fun _ _ _ _ _ => false) (fun _ => false) (fun _ => false) (fun y0 x0 => (Nat.beq x0 y0)) (fun _ => false) (fun _ => false) (fun _ _ => false) b x0
def eqR_nf (b : Ref) : Bool := Ref.rec (motive := fun _ => Bool) false (fun _ _ => false) false (fun _ _ _ _ => false) (fun _ _ _ _ => false) false false (fun _ => false) true false (fun _ => false) b 
def eqR_ni (b : Ref) : Bool := Ref.rec (motive := fun _ => Bool) false (fun _ _ => false) false (fun _ _ _ _ => false) (fun _ _ _ _ => false) false false (fun _ => false) false true (fun _ => false) b 
def eqR_y (b : Ref) (x0 : Nat) : Bool := Ref.rec (motive := fun _ => Nat → Bool) (fun _ => false) (fun _ _ _ => false) (fun _ => false) (fun _ _ _ _ _ => false) (fun _ _ _ _ _ => false) (fun _ => false) (fun _ => false) (fun _ _ => false) (fun _ => false) (fun _ => false) (fun y0 x0 => (Nat.beq x0 y0)) b x0
/-- are two references the same? -/
def eqR (a b : Ref) : Bool := Ref.rec (motive := fun _ => Ref → Bool) (fun b => eqR_np b ) (fun x0 x1 b => eqR_pt b x0 x1) (fun b => eqR_ns b ) (fun x0 x1 x2 x3 b => eqR_sl b x0 x1 x2 x3) (fun x0 x1 x2 x3 b => eqR_so b x0 x1 x2 x3) (fun b => eqR_se b ) (fun b => eqR_nm b ) (fun x0 b => eqR_mp b x0) (fun b => eqR_nf b ) (fun b => eqR_ni b ) (fun x0 b => eqR_y b x0) a b
def eqK (k k' : IntKind) : Bool := Nat.beq (kno k) (kno k')
noncomputable def eqV_u (b : V) : Bool := V.rec (motive := fun _ => Bool) true (fun _ => false) (fun _ _ => false) (fun _ => false) (fun _ => false) (fun _ _ _ _ _ => false) (fun _ _ _ => false) (fun _ _ => false) (fun _ _ => false) false (fun _ _ _ _ => false) b 
noncomputable def eqV_b (b : V) (x0 : Bool) : Bool := V.rec (motive := fun _ => Bool → Bool) (fun _ => false) (fun y0 x0 => (beqB x0 y0)) (fun _ _ _ => false) (fun _ _ => false) (fun _ _ => false) (fun _ _ _ _ _ _ => false) (fun _ _ _ _ => false) (fun _ _ _ => false) (fun _ _ _ => false) (fun _ => false) (fun _ _ _ _ _ => false) b x0
noncomputable def eqV_i (b : V) (x0 : IntKind) (x1 : Int) : Bool := V.rec (motive := fun _ => IntKind → Int → Bool) (fun _ _ => false) (fun _ _ _ => false) (fun y0 y1 x0 x1 => (Bool.rec (motive := fun _ => Bool) false (iEq x1 y1) (eqK x0 y0))) (fun _ _ _ => false) (fun _ _ _ => false) (fun _ _ _ _ _ _ _ => false) (fun _ _ _ _ _ => false) (fun _ _ _ _ => false) (fun _ _ _ _ => false) (fun _ _ => false) (fun _ _ _ _ _ _ => false) b x0 x1
noncomputable def eqV_s (b : V) (x0 : Nat) : Bool := V.rec (motive := fun _ => Nat → Bool) (fun _ => false) (fun _ _ => false) (fun _ _ _ => false) (fun y0 x0 => (Nat.beq x0 y0)) (fun _ _ => false) (fun _ _ _ _ _ _ => false) (fun _ _ _ _ => false) (fun _ _ _ => false) (fun _ _ _ => false) (fun _ => false) (fun _ _ _ _ _ => false) b x0
noncomputable def eqV_r (b : V) (x0 : Ref) : Bool := V.rec (motive := fun _ => Ref → Bool) (fun _ => false) (fun _ _ => false) (fun _ _ _ => false) (fun _ _ => false) (fun y0 x0 => (eqR x0 y0)) (fun _ _ _ _ _ _ => false) (fun _ _ _ _ => false) (fun _ _ _ => false) (fun _ _ _ => false) (fun _ => false) (fun _ _ _ _ _ => false) b x0
noncomputable def eqV_f (b : V) (x0 : Nat) (x1 : V → Bool) (x2 : V → Bool) : Bool := V.rec (motive := fun _ => Nat → (V → Bool) → (V → Bool) → Bool) (fun _ _ _ => false) (fun _ _ _ _ => false) (fun _ _ _ _ _ => false) (fun _ _ _ _ => false) (fun _ _ _ _ => false) (fun y0 y1 y2 _ _ x0 x1 x2 => (Bool.rec (motive := fun _ => Bool) false (Bool.rec (motive := fun _ => Bool) false (x2 y2) (x1 y1)) (Nat.beq x0 y0))) (fun _ _ _ _ _ _ => false) (fun _ _ _ _ _ => false) (fun _ _ _ _ _ => false) (fun _ _ _ => false) (fun _ _ _ _ _ _ _ => false) b x0 x1 x2
noncomputable def eqV_w (b : V) (x0 : Nat) (x1 : V → Bool) : Bool := V.rec (motive := fun _ => Nat → (V → Bool) → Bool) (fun _ _ => false) (fun _ _ _ => false) (fun _ _ _ _ => false) (fun _ _ _ => false) (fun _ _ _ => false) (fun _ _ _ _ _ _ _ => false) (fun y0 y1 _ x0 x1 => (Bool.rec (motive := fun _ => Bool) false (x1 y1) (Nat.beq x0 y0))) (fun _ _ _ _ => false) (fun _ _ _ _ => false) (fun _ _ => false) (fun _ _ _ _ _ _ => false) b x0 x1
noncomputable def eqV_a (b : V) (x0 : V → Bool) : Bool := V.rec (motive := fun _ => (V → Bool) → Bool) (fun _ => false) (fun _ _ => false) (fun _ _ _ => false) (fun _ _ => false) (fun _ _ => false) (fun _ _ _ _ _ _ => false) (fun _ _ _ _ => false) (fun y0 _ x0 => (x0 y0)) (fun _ _ _ => false) (fun _ => false) (fun _ _ _ _ _ => false) b x0
noncomputable def eqV_t (b : V) (x0 : V → Bool) : Bool := V.rec (motive := fun _ => (V → Bool) → Bool) (fun _ => false) (fun _ _ => false) (fun _ _ _ => false) (fun _ _ => false) (fun _ _ => false) (fun _ _ _ _ _ _ => false) (fun _ _ _ _ => false) (fun _ _ _ => false) (fun y0 _ x0 => (x0 y0)) (fun _ => false) (fun _ _ _ _ _ => false) b x0
noncomputable def eqV_n (b : V) : Bool := V.rec (motive := fun _ => Bool) false (fun _ => false) (fun _ _ => false) (fun _ => false) (fun _ => false) (fun _ _ _ _ _ => false) (fun _ _ _ => false) (fun _ _ => false) (fun _ _ => false) true (fun _ _ _ _ => false) b 
noncomputable def eqV_c (b : V) (x0 : V → Bool) (x1 : V → Bool) : Bool := V.rec (motive := fun _ => (V → Bool) → (V → Bool) → Bool) (fun _ _ => false) (fun _ _ _ => false) (fun _ _ _ _ => false) (fun _ _ _ => false) (fun _ _ _ => false) (fun _ _ _ _ _ _ _ => false) (fun _ _ _ _ _ => false) (fun _ _ _ _ => false) (fun _ _ _ _ => false) (fun _ _ => false) (fun y0 y1 _ _ x0 x1 => (Bool.rec (motive := fun _ => Bool) false (x1 y1) (x0 y0))) b x0 x1
/-- are two values the same? -/
noncomputable def eqV (a b : V) : Bool := V.rec (motive := fun _ => V → Bool) (fun b => eqV_u b ) (fun x0 b => eqV_b b x0) (fun x0 x1 b => eqV_i b x0 x1) (fun x0 b => eqV_s b x0) (fun x0 b => eqV_r b x0) (fun x0 _ _ ih1 ih2 b => eqV_f b x0 ih1 ih2) (fun x0 _ ih1 b => eqV_w b x0 ih1) (fun _ ih0 b => eqV_a b ih0) (fun _ ih0 b => eqV_t b ih0) (fun b => eqV_n b ) (fun _ _ ih0 ih1 b => eqV_c b ih0 ih1) a b
theorem eqR_eq {a b : Ref} (h : eqR a b = true) : a = b := by
  cases a <;> cases b <;> first | rfl | (cases h; done) | skip
  case pt.pt x0 x1 y0 y1 =>
    have g0 : (Bool.rec (motive := fun _ => Bool) false (Nat.beq x1 y1) (Nat.beq x0 y0)) = true := h
    obtain ⟨h0, g1⟩ := boolq_inv g0
    have q0 := Nat.eq_of_beq_eq_true h0
    have q1 := Nat.eq_of_beq_eq_true g1
    rw [q0, q1]
  case sl.sl x0 x1 x2 x3 y0 y1 y2 y3 =>
    have g0 : (Bool.rec (motive := fun _ => Bool) false (Bool.rec (motive := fun _ => Bool) false (Bool.rec (motive := fun _ => Bool) false (Nat.beq x3 y3) (Nat.beq x2 y2)) (Nat.beq x1 y1)) (Nat.beq x0 y0)) = true := h
    obtain ⟨h0, g1⟩ := boolq_inv g0
    obtain ⟨h1, g2⟩ := boolq_inv g1
    obtain ⟨h2, g3⟩ := boolq_inv g2
    have q0 := Nat.eq_of_beq_eq_true h0
    have q1 := Nat.eq_of_beq_eq_true h1
    have q2 := Nat.eq_of_beq_eq_true h2
    have q3 := Nat.eq_of_beq_eq_true g3
    rw [q0, q1, q2, q3]
  case so.so x0 x1 x2 x3 y0 y1 y2 y3 =>
    have g0 : (Bool.rec (motive := fun _ => Bool) false (Bool.rec (motive := fun _ => Bool) false (Bool.rec (motive := fun _ => Bool) false (Nat.beq x3 y3) (Nat.beq x2 y2)) (Nat.beq x1 y1)) (Nat.beq x0 y0)) = true := h
    obtain ⟨h0, g1⟩ := boolq_inv g0
    obtain ⟨h1, g2⟩ := boolq_inv g1
    obtain ⟨h2, g3⟩ := boolq_inv g2
    have q0 := Nat.eq_of_beq_eq_true h0
    have q1 := Nat.eq_of_beq_eq_true h1
    have q2 := Nat.eq_of_beq_eq_true h2
    have q3 := Nat.eq_of_beq_eq_true g3
    rw [q0, q1, q2, q3]
  case mp.mp x0 y0 =>
    have g0 : (Nat.beq x0 y0) = true := h
    have q0 := Nat.eq_of_beq_eq_true g0
    rw [q0]
  case y.y x0 y0 =>
    have g0 : (Nat.beq x0 y0) = true := h
    have q0 := Nat.eq_of_beq_eq_true g0
    rw [q0]
theorem eqK_eq {k k' : IntKind} (h : eqK k k' = true) : k = k' := by cases k <;> cases k' <;> first | rfl | cases h
theorem eqV_eq {a : V} : ∀ {b : V}, eqV a b = true → a = b := by
  induction a with
  | u  =>
    intro b h
    cases b <;> first | rfl | (cases h; done) | skip
  | b x0 =>
    intro b h
    cases b <;> first | rfl | (cases h; done) | skip
    case b y0 =>
      have g0 : (beqB x0 y0) = true := h
      have q0 := eqB_eq g0
      rw [q0]
  | i x0 x1 =>
    intro b h
    cases b <;> first | rfl | (cases h; done) | skip
    case i y0 y1 =>
      have g0 : (Bool.rec (motive := fun _ => Bool) false (iEq x1 y1) (eqK x0 y0)) = true := h
      obtain ⟨h0, g1⟩ := boolq_inv g0
      have q0 := eqK_eq h0
      have q1 := iEq_inv g1
      rw [q0, q1]
  | s x0 =>
    intro b h
    cases b <;> first | rfl | (cases h; done) | skip
    case s y0 =>
      have g0 : (Nat.beq x0 y0) = true := h
      have q0 := Nat.eq_of_beq_eq_true g0
      rw [q0]
  | r x0 =>
    intro b h
    cases b <;> first | rfl | (cases h; done) | skip
    case r y0 =>
      have g0 : (eqR x0 y0) = true := h
      have q0 := eqR_eq g0
      rw [q0]
  | f x0 x1 x2 ih1 ih2 =>
    intro b h
    cases b <;> first | rfl | (cases h; done) | skip
    case f y0 y1 y2 =>
      have g0 : (Bool.rec (motive := fun _ => Bool) false (Bool.rec (motive := fun _ => Bool) false (eqV x2 y2) (eqV x1 y1)) (Nat.beq x0 y0)) = true := h
      obtain ⟨h0, g1⟩ := boolq_inv g0
      have q0 := Nat.eq_of_beq_eq_true h0
      obtain ⟨h1, g2⟩ := boolq_inv g1
      have q1 := ih1 h1
      have q2 := ih2 g2
      rw [q0, q1, q2]
  | w x0 x1 ih1 =>
    intro b h
    cases b <;> first | rfl | (cases h; done) | skip
    case w y0 y1 =>
      have g0 : (Bool.rec (motive := fun _ => Bool) false (eqV x1 y1) (Nat.beq x0 y0)) = true := h
      obtain ⟨h0, g1⟩ := boolq_inv g0
      have q0 := Nat.eq_of_beq_eq_true h0
      have q1 := ih1 g1
      rw [q0, q1]
  | a x0 ih0 =>
    intro b h
    cases b <;> first | rfl | (cases h; done) | skip
    case a y0 =>
      have g0 : (eqV x0 y0) = true := h
      have q0 := ih0 g0
      rw [q0]
  | t x0 ih0 =>
    intro b h
    cases b <;> first | rfl | (cases h; done) | skip
    case t y0 =>
      have g0 : (eqV x0 y0) = true := h
      have q0 := ih0 g0
      rw [q0]
  | n  =>
    intro b h
    cases b <;> first | rfl | (cases h; done) | skip
  | c x0 x1 ih0 ih1 =>
    intro b h
    cases b <;> first | rfl | (cases h; done) | skip
    case c y0 y1 =>
      have g0 : (Bool.rec (motive := fun _ => Bool) false (eqV x1 y1) (eqV x0 y0)) = true := h
      obtain ⟨h0, g1⟩ := boolq_inv g0
      have q0 := ih0 h0
      have q1 := ih1 g1
      rw [q0, q1]

/-! ### memory, written out -/
/-- a block that is written out: cells (element, frozen, all of them known?, how many, cells in a row, their values), a map, the monitor's, the table of spaces -/
inductive BL where | c (e : Nat) (fz : Fz) (ex : Bool) (n st : Nat) (l : V) | m (es : V) | gi | sp
def eqFz (a b : Fz) : Bool := Fz.rec (motive := fun _ => Bool) (Fz.rec (motive := fun _ => Bool) true (fun _ => false) false b) (fun k => Fz.rec (motive := fun _ => Bool) false (fun j => Nat.beq k j) false b) (Fz.rec (motive := fun _ => Bool) false (fun _ => false) true b) a
theorem eqFz_eq {a b : Fz} (h : eqFz a b = true) : a = b := by
  cases a <;> cases b <;> first | rfl | (cases h; done) | skip
  case to.to k j => have h : Nat.beq k j = true := h; rw [Nat.eq_of_beq_eq_true h]
namespace BL
/-- the block -/
def mk (x : BL) : Option B := BL.rec (motive := fun _ => Option B) (fun e fz ex n st l => Option.rec (motive := fun _ => Option B) none (fun cs => some (.c e fz ex n cs)) (mkCs st n l)) (fun es => some (.m es)) (some .gi) (some (.g 256 spaceC)) x
/-- does a block stand as written? -/
def isC (b : B) (e : Nat) (fz : Fz) (ex : Bool) (n : Nat) (l : V) : Bool :=
  qbC (fun e' fz' ex' n' cs => Bool.rec (motive := fun _ => Bool) false (Bool.rec (motive := fun _ => Bool) false (Bool.rec (motive := fun _ => Bool) false (Bool.rec (motive := fun _ => Bool) false (eqV (Cs.ldq n cs 0 .n) l) (Nat.beq n' n)) (beqB ex' ex)) (eqFz fz' fz)) (Nat.beq e' e)) b
def is (x : BL) (b : B) : Bool := BL.rec (motive := fun _ => B → Bool) (fun e fz ex n _ l b => isC b e fz ex n l) (fun es b => qbM (fun es' => eqV es' es) b) isGi isGsp x b
end BL
theorem optb_inv {α β : Type} {x : Option α} {f : α → Option β} {r : β} (h : Option.rec (motive := fun _ => Option β) none f x = some r) : ∃ a, x = some a ∧ f a = some r := by
  cases x with
  | none => cases h
  | some a => exact ⟨a, rfl, h⟩
variable [Un]
theorem BL.is_rel {x : BL} {b b' : B} (h : x.is b = true) (hm : x.mk = some b') {μ : Mu} {n : Nat} {o : Obj} (r : RB μ b n o) : RB μ b' n o := by
  cases x with
  | c e fz ex m st l =>
    obtain ⟨e', fz', ex', m', cs, rfl, h⟩ := qbC_inv (show BL.isC b e fz ex m l = true from h)
    obtain ⟨h1, h⟩ := boolq_inv h
    obtain ⟨h2, h⟩ := boolq_inv h
    obtain ⟨h3, h⟩ := boolq_inv h
    obtain ⟨h4, h5⟩ := boolq_inv h
    obtain rfl := Nat.eq_of_beq_eq_true h1
    obtain rfl := eqFz_eq h2
    obtain rfl := eqB_eq h3
    obtain rfl := Nat.eq_of_beq_eq_true h4
    obtain rfl := eqV_eq h5
    obtain ⟨cs', k1, k2⟩ := optb_inv hm
    obtain rfl := Option.some.inj k2
    obtain ⟨arr, lo, hi, rfl, r2, r3, r4, r5⟩ := r
    have k1' : (Bool.rec (motive := fun _ => Option Cs) none (Cs.stn m' (Cs.ldq m' cs 0 .n) (Cs.grow (Cs.nil st) m') 0) (Cs.fits (Cs.grow (Cs.nil st) m') m')) = some cs' := k1
    obtain ⟨k3, k4⟩ := bool_inv k1'
    have hroom := cs_fits _ _ k3
    have hl := ldn_rel r4 m' 0 (by omega) .n [] rfl
    rw [← ldq_eq] at hl
    rw [List.drop_zero, List.append_nil] at hl
    obtain ⟨g1, g2, g3, g4, g5⟩ := stn_rel m' k4 hl (by omega)
    refine ⟨arr, lo, hi, rfl, r2, r3, ⟨by rw [g2]; exact hroom, r4.2.1, fun i hi' => ?_⟩, r5⟩
    have hlt : i < arr.size := Nat.lt_of_lt_of_le hi' r4.2.1
    refine ⟨arr[i], by simp [hlt], ?_⟩
    have := g4 i arr[i] (by rw [List.getElem?_take_of_lt hi']; simp [hlt])
    rwa [Nat.zero_add] at this
  | m es =>
    obtain ⟨es', rfl, h⟩ := qbM_inv h
    obtain rfl := eqV_eq h
    obtain rfl := Option.some.inj (show some (B.m es') = some b' from hm)
    exact r
  | gi =>
    obtain rfl := isGi_inv h
    obtain rfl := Option.some.inj (show some B.gi = some b' from hm)
    exact r
  | sp =>
    obtain ⟨cs, rfl, h⟩ := isGsp_inv h
    obtain rfl := Option.some.inj (show some (B.g 256 spaceC) = some b' from hm)
    obtain ⟨arr, e, fr, rfl, r2, r3⟩ := r
    obtain ⟨s1, s2⟩ := isSp_at h
    refine ⟨arr, e, fr, rfl, r2, by show 256 ≤ 64 * 8; decide, r3.2.1, fun i hi => ?_⟩
    rw [← s2 i hi]; exact r3.2.2 i hi
theorem BL.is_kind {x : BL} {b b' : B} (h : x.is b = true) (hm : x.mk = some b') : b ≠ .x ∧ (wrb b' → wrb b) := by
  cases x with
  | c e fz ex m st l =>
    obtain ⟨e', fz', ex', m', cs, rfl, _⟩ := qbC_inv (show BL.isC b e fz ex m l = true from h)
    exact ⟨by simp, fun _ => trivial⟩
  | m es => obtain ⟨es', rfl, _⟩ := qbM_inv h; exact ⟨by simp, fun _ => trivial⟩
  | gi =>
    obtain rfl := isGi_inv h
    obtain rfl := Option.some.inj (show some B.gi = some b' from hm)
    exact ⟨by simp, fun x => x⟩
  | sp =>
    obtain ⟨cs, rfl, h⟩ := isGsp_inv h
    obtain rfl := Option.some.inj (show some (B.g 256 spaceC) = some b' from hm)
    exact ⟨by simp, fun x => x⟩

abbrev HL := List (Nat × BL)
def ofT (L : HL) : HT := List.rec (motive := fun _ => HT) (H5.all (H4.all (H3.all (H2.all (H1.all .x)))))
  (fun p _ t => Prod.rec (motive := fun _ => HT) (fun id x => Option.rec (motive := fun _ => HT) t (fun b => H.put0 t id b) x.mk) p) L
def ofL (n : Nat) (L : HL) : H := .mk (ofT L) n
/-- does memory hold what is written? -/
def holds (h : H) (L : HL) : Bool := List.rec (motive := fun _ => Bool) true
  (fun p _ ih => Prod.rec (motive := fun _ => Bool) (fun id x => Bool.rec (motive := fun _ => Bool) false (Bool.rec (motive := fun _ => Bool) false ih (x.is (H.get h id))) (Nat.ble (Nat.succ id) 32768)) p) L
theorem holds_inv {h : H} {L : HL} (e : holds h L = true) : ∀ p ∈ L, p.1 < 32768 ∧ p.2.is (H.get h p.1) = true := by
  induction L with
  | nil => intro p hp; cases hp
  | cons q L ih =>
    obtain ⟨id, x⟩ := q
    obtain ⟨h1, h2⟩ := boolq_inv (show Bool.rec (motive := fun _ => Bool) false (Bool.rec (motive := fun _ => Bool) false (holds h L) (x.is (H.get h id))) (Nat.ble (Nat.succ id) 32768) = true from e)
    obtain ⟨h3, h4⟩ := boolq_inv h2
    intro p hp
    rcases List.mem_cons.1 hp with rfl | hp
    · exact ⟨le_of_ble h1, h3⟩
    · exact ih h4 p hp
theorem ofL_get (n : Nat) : ∀ {L : HL}, (∀ p ∈ L, p.1 < 32768) → ∀ id, id < 32768 → (ofL n L).get id ≠ .x → ∃ x b', (id, x) ∈ L ∧ BL.mk x = some b' ∧ (ofL n L).get id = b' := by
  intro L
  induction L with
  | nil =>
    intro _ id _ h
    exfalso; apply h
    show H.get0 (H5.all (H4.all (H3.all (H2.all (H1.all .x))))) id = .x
    unfold H.get0
    rw [H5.get_all, H4.get_all, H3.get_all, H2.get_all, H1.get_all]
  | cons q L ih =>
    obtain ⟨i, x⟩ := q
    intro hL id hid h
    have hi : i < 32768 := hL (i, x) (List.mem_cons_self ..)
    have hL' : ∀ p ∈ L, p.1 < 32768 := fun p hp => hL p (List.mem_cons_of_mem _ hp)
    have e : ofT ((i, x) :: L) = Option.rec (motive := fun _ => HT) (ofT L) (fun b => H.put0 (ofT L) i b) x.mk := rfl
    cases hm : x.mk with
    | none =>
      rw [hm] at e
      have e2 : (ofL n ((i, x) :: L)).get id = (ofL n L).get id := by show H.get0 (ofT ((i, x) :: L)) id = _; rw [e]; rfl
      rw [e2] at h ⊢
      obtain ⟨y, b', h1, h2, h3⟩ := ih hL' id hid h
      exact ⟨y, b', List.mem_cons_of_mem _ h1, h2, h3⟩
    | some b =>
      rw [hm] at e
      have e2 : (ofL n ((i, x) :: L)).get id = H.get0 (H.put0 (ofT L) i b) id := by show H.get0 (ofT ((i, x) :: L)) id = _; rw [e]
      by_cases hne : id = i
      · subst hne
        refine ⟨x, b, List.mem_cons_self .., hm, ?_⟩
        rw [e2, get0_put0_same]
      · rw [get0_put0_ne hid hi hne] at e2
        rw [e2] at h ⊢
        obtain ⟨y, b', h1, h2, h3⟩ := ih hL' id hid h
        exact ⟨y, b', List.mem_cons_of_mem _ h1, h2, h3⟩
section
/-- what is written stands in memory: that memory may be taken for it -/
theorem holds_wr {μ : Mu} {h : H} {w : World} (r : WR μ h w) {n : Nat} {L : HL} (e : holds h L = true) (hn : h.nx ≤ n) (hn2 : n ≤ 32768) : WR μ (ofL n L) w ∧ Ext μ h w μ (ofL n L) w := by
  have hi := holds_inv e
  have hL : ∀ p ∈ L, p.1 < 32768 := fun p hp => (hi p hp).1
  have key : ∀ id, id < 32768 → (ofL n L).get id ≠ .x → ∃ x b', BL.is x (h.get id) = true ∧ BL.mk x = some b' ∧ (ofL n L).get id = b' := fun id hid ha => by
    obtain ⟨x, b', h1, h2, h3⟩ := ofL_get n hL id hid ha
    exact ⟨x, b', (hi _ h1).2, h2, h3⟩
  have alive : ∀ id, id < 32768 → (ofL n L).get id ≠ .x → h.get id ≠ .x := fun id hid ha => by
    obtain ⟨x, b', h1, h2, h3⟩ := key id hid ha
    exact (BL.is_kind h1 h2).1
  refine ⟨⟨hn2, fun id hid => r.fresh id (Nat.le_trans hn hid), fun id hid ha => ?_, fun i j hi hj ha hb => r.inj i j hi hj (alive i hi ha) (alive j hj hb)⟩, ⟨fun _ _ h => h, Nat.le_refl _, fun c hc => ?_, fun c hc => ?_, fun _ _ _ => rfl, rfl, rfl, rfl⟩⟩
  · obtain ⟨x, b', h1, h2, h3⟩ := key id hid ha
    obtain ⟨c, m, o, g1, g2, g3⟩ := r.blk id hid (BL.is_kind h1 h2).1
    exact ⟨c, m, o, g1, g2, by rw [h3]; exact BL.is_rel h1 h2 g3⟩
  · obtain ⟨id, m, hid, hw, hm⟩ := hc
    obtain ⟨x, b', h1, h2, h3⟩ := key id hid (wrb_ne hw)
    rw [h3] at hw
    exact .inl ⟨id, m, hid, (BL.is_kind h1 h2).2 hw, hm⟩
  · obtain ⟨id, m, hid, hw, hm⟩ := hc
    exact .inl ⟨id, m, hid, alive id hid hw, hm⟩

/-! ### a call at values and memory that are written out -/
structure Seg where
  a : V
  n0 : Nat
  l0 : HL
  v : V
  n1 : Nat
  l1 : HL
def hnx (h : H) : Nat := H.rec (motive := fun _ => Nat) (fun _ n => n) h
def Seg.at (s : Seg) (args : V) (h : H) : Bool := Bool.rec (motive := fun _ => Bool) false (Bool.rec (motive := fun _ => Bool) false (Bool.rec (motive := fun _ => Bool) false (holds h s.l0) (eqV args s.a)) (Nat.ble s.n0 32768)) (Nat.ble (hnx h) s.n0)
def Seg.fin (s : Seg) (v : V) (h : H) : Bool := Bool.rec (motive := fun _ => Bool) false (Bool.rec (motive := fun _ => Bool) false (Bool.rec (motive := fun _ => Bool) false (holds h s.l1) (eqV v s.v)) (Nat.ble s.n1 32768)) (Nat.ble (hnx h) s.n1)
def SegP (P : Program) (f : Nat) (s : Seg) : Prop := ∀ μ w xs, GM μ → WR μ (ofL s.n0 s.l0) w → RL μ s.a xs →
  Nx P (fun x w' => ∃ μ', WR μ' (ofL s.n1 s.l1) w' ∧ Ext μ (ofL s.n0 s.l0) w μ' (ofL s.n1 s.l1) w' ∧ RV μ' s.v x) ((callFunc f xs.toArray).run P w)
theorem hnx_eq (h : H) : hnx h = h.nx := rfl
theorem seg_run {P : Program} {E : Env} (ok : EnvOK E P) (sok : SumOK E P) {n f : Nat} {s : Seg} (e : callF E n false f s.a (ofL s.n0 s.l0) s.fin = true) : SegP P f s := by
  intro μ w xs gm wr hr
  refine ((callF_sound ok sok n).1 f s.a _ s.fin e μ w xs gm wr hr).mono ?_
  rintro x w' ⟨μ', h', a, h1, h2, h3, h4⟩
  obtain ⟨k1, k⟩ := boolq_inv h4
  obtain ⟨k2, k⟩ := boolq_inv k
  obtain ⟨k3, k4⟩ := boolq_inv k
  obtain ⟨y1, y2⟩ := holds_wr h2 k4 (le_of_ble k1) (le_of_ble k2)
  refine ⟨μ', y1, h3.trans y2, ?_⟩
  rw [← eqV_eq k3]; exact h1
/-- memory in which what was written at first is gone, and what is written at last is laid -/
def offT (L : HL) (t : HT) : HT := List.rec (motive := fun _ => HT) t (fun p _ ih => Prod.rec (motive := fun _ => HT) (fun id _ => H.put0 ih id .x) p) L
def onT (L : HL) (t : HT) : HT := List.rec (motive := fun _ => HT) t (fun p _ ih => Prod.rec (motive := fun _ => HT) (fun id x => Option.rec (motive := fun _ => HT) ih (fun b => H.put0 ih id b) x.mk) p) L
def Seg.out (s : Seg) (h : H) : H := H.rec (motive := fun _ => H) (fun t _ => .mk (onT s.l1 (offT s.l0 t)) s.n1) h
theorem offT_get : ∀ {L : HL}, (∀ p ∈ L, p.1 < 32768) → ∀ (t : HT) id, id < 32768 → H.get0 (offT L t) id ≠ .x → (∀ p ∈ L, p.1 ≠ id) ∧ H.get0 (offT L t) id = H.get0 t id := by
  intro L
  induction L with
  | nil => intro _ t id _ h; exact ⟨fun p hp => absurd hp (List.not_mem_nil), rfl⟩
  | cons q L ih =>
    obtain ⟨i, x⟩ := q
    intro hL t id hid h
    have hi : i < 32768 := hL (i, x) (List.mem_cons_self ..)
    have e : offT ((i, x) :: L) t = H.put0 (offT L t) i .x := rfl
    rw [e] at h ⊢
    by_cases hne : id = i
    · subst hne; rw [get0_put0_same] at h; exact absurd rfl h
    · rw [get0_put0_ne hid hi hne] at h ⊢
      obtain ⟨h1, h2⟩ := ih (fun p hp => hL p (List.mem_cons_of_mem _ hp)) t id hid h
      refine ⟨fun p hp => ?_, h2⟩
      rcases List.mem_cons.1 hp with rfl | hp
      · exact fun e => hne e.symm
      · exact h1 p hp
theorem onT_get (n : Nat) : ∀ {L : HL}, (∀ p ∈ L, p.1 < 32768) → ∀ (t : HT) id, id < 32768 →
    ((ofL n L).get id ≠ .x ∧ H.get0 (onT L t) id = (ofL n L).get id) ∨ ((ofL n L).get id = .x ∧ H.get0 (onT L t) id = H.get0 t id) ∨ H.get0 (onT L t) id = .x := by
  intro L
  induction L with
  | nil =>
    intro _ t id _
    right; left
    refine ⟨?_, rfl⟩
    show H.get0 (H5.all (H4.all (H3.all (H2.all (H1.all .x))))) id = .x
    unfold H.get0
    rw [H5.get_all, H4.get_all, H3.get_all, H2.get_all, H1.get_all]
  | cons q L ih =>
    obtain ⟨i, x⟩ := q
    intro hL t id hid
    have hi : i < 32768 := hL (i, x) (List.mem_cons_self ..)
    have hL' : ∀ p ∈ L, p.1 < 32768 := fun p hp => hL p (List.mem_cons_of_mem _ hp)
    have e : ofT ((i, x) :: L) = Option.rec (motive := fun _ => HT) (ofT L) (fun b => H.put0 (ofT L) i b) x.mk := rfl
    have e' : onT ((i, x) :: L) t = Option.rec (motive := fun _ => HT) (onT L t) (fun b => H.put0 (onT L t) i b) x.mk := rfl
    have g : ∀ M, (ofL n M).get id = H.get0 (ofT M) id := fun M => rfl
    have ih := ih hL' t id hid
    rw [g] at ih ⊢
    rw [e, e']
    cases hm : x.mk with
    | none => exact ih
    | some b =>
      show (H.get0 (H.put0 (ofT L) i b) id ≠ .x ∧ H.get0 (H.put0 (onT L t) i b) id = H.get0 (H.put0 (ofT L) i b) id) ∨ (H.get0 (H.put0 (ofT L) i b) id = .x ∧ H.get0 (H.put0 (onT L t) i b) id = H.get0 t id) ∨ H.get0 (H.put0 (onT L t) i b) id = .x
      by_cases hne : id = i
      · subst hne
        rw [get0_put0_same, get0_put0_same]
        by_cases hb : b = .x
        · right; right; exact hb
        · left; exact ⟨hb, rfl⟩
      · rw [get0_put0_ne hid hi hne, get0_put0_ne hid hi hne]
        exact ih
/-- the first of some that fits -/
def segG (S : List Seg) (args : V) (h : H) : Option (V × H) := List.rec (motive := fun _ => Option (V × H)) none (fun s _ ih => Bool.rec (motive := fun _ => Option (V × H)) ih (some (s.v, s.out h)) (s.at args h)) S
theorem segG_inv {S : List Seg} {args : V} {h : H} {p : V × H} (e : segG S args h = some p) : ∃ s ∈ S, s.at args h = true ∧ p = (s.v, s.out h) := by
  induction S with
  | nil => cases e
  | cons s S ih =>
    have e : Bool.rec (motive := fun _ => Option (V × H)) (segG S args h) (some (s.v, s.out h)) (s.at args h) = some p := e
    cases ha : s.at args h with
    | false =>
      rw [ha] at e
      obtain ⟨t, h1, h2, h3⟩ := ih e
      exact ⟨t, List.mem_cons_of_mem _ h1, h2, h3⟩
    | true =>
      rw [ha] at e
      exact ⟨s, List.mem_cons_self .., ha, (Option.some.inj e).symm⟩
theorem seg_frame {μ μ' : Mu} {h : H} {w w' : World} {s : Seg} (r : WR μ h w) (e0 : holds h s.l0 = true) (hn : h.nx ≤ s.n0) (hn2 : s.n0 ≤ 32768) (hl1 : ∀ p ∈ s.l1, p.1 < 32768) (r1 : WR μ' (ofL s.n1 s.l1) w') (x : Ext μ (ofL s.n0 s.l0) w μ' (ofL s.n1 s.l1) w') :
    WR μ' (s.out h) w' ∧ Ext μ h w μ' (s.out h) w' := by
  have hi := holds_inv e0
  have hL0 : ∀ p ∈ s.l0, p.1 < 32768 := fun p hp => (hi p hp).1
  obtain ⟨r0, x0⟩ := holds_wr r e0 hn hn2
  have hout : ∀ id, (s.out h).get id = H.get0 (onT s.l1 (offT s.l0 (H.rec (motive := fun _ => HT) (fun t _ => t) h))) id := fun id => by cases h; rfl
  have hold : ∀ id, h.get id = H.get0 (H.rec (motive := fun _ => HT) (fun t _ => t) h) id := fun id => by cases h; rfl
  have hnx : (s.out h).nx = s.n1 := by cases h; rfl
  -- a block of what comes out: one that is written, or one that was there and was not written of at first
  have key : ∀ id, id < 32768 → (s.out h).get id ≠ .x → ((ofL s.n1 s.l1).get id ≠ .x ∧ (s.out h).get id = (ofL s.n1 s.l1).get id) ∨ ((∀ p ∈ s.l0, p.1 ≠ id) ∧ (s.out h).get id = h.get id) := fun id hid ha => by
    rw [hout] at ha ⊢
    rcases onT_get s.n1 hl1 (offT s.l0 (H.rec (motive := fun _ => HT) (fun t _ => t) h)) id hid with ⟨a, b⟩ | ⟨a, b⟩ | b
    · exact .inl ⟨a, b⟩
    · rw [b] at ha ⊢
      obtain ⟨c, d⟩ := offT_get hL0 _ id hid ha
      exact .inr ⟨c, by rw [d, hold]⟩
    · exact absurd b ha
  -- a block of the world that one of those means is none that was written of at first
  have apart : ∀ id c n, id < 32768 → (∀ p ∈ s.l0, p.1 ≠ id) → h.get id ≠ .x → μ id = some (c, n) → ¬ ImgX μ (ofL s.n0 s.l0) c := fun id c n hid hp ha hm ⟨j, m, hj, hb, hm'⟩ => by
    obtain ⟨y, b', h1, h2, h3⟩ := ofL_get s.n0 hL0 j hj hb
    have hne : h.get j ≠ .x := (BL.is_kind (hi _ h1).2 h2).1
    have := r.inj id j hid hj ha hne c n m hm hm'
    exact hp (j, y) h1 this.symm
  have sub : Sub μ μ' := x.mu
  have oldlt : ∀ id c n, id < 32768 → h.get id ≠ .x → μ id = some (c, n) → c < w.heap.size := fun id c n hid ha hm => ImgX.lt r ⟨id, n, hid, ha, hm⟩
  refine ⟨⟨by rw [hnx]; exact r1.nx, fun id hid => r1.fresh id (by rw [hnx] at hid; exact hid), fun id hid ha => ?_, fun i j hi' hj ha hb c n n' h1 h2 => ?_⟩, ⟨x.mu, x.size, fun c hc => ?_, fun c hc => ?_, fun c hc hni => ?_, x.os, x.out, x.tape⟩⟩
  · rcases key id hid ha with ⟨a, b⟩ | ⟨a, b⟩
    · rw [b]; exact r1.blk id hid a
    · rw [b] at ha ⊢
      obtain ⟨c, n, o, g1, g2, g3⟩ := r.blk id hid ha
      refine ⟨c, n, o, sub _ _ g1, ?_, g3.mono sub⟩
      rw [x.keep c (lt_size g2) (fun hI => apart id c n hid a ha g1 hI.x)]
      exact g2
  · have mixed : ∀ i j, i < 32768 → j < 32768 → (s.out h).get j ≠ .x → (ofL s.n1 s.l1).get i ≠ .x → (∀ p ∈ s.l0, p.1 ≠ j) → (s.out h).get j = h.get j → ∀ c n n', μ' i = some (c, n) → μ' j = some (c, n') → False := fun i j hi' hj hb ai aj bj c n n' h1 h2 => by
      rw [bj] at hb
      obtain ⟨c', m, o, g1, g2, g3⟩ := r.blk j hj hb
      have e := sub _ _ g1
      rw [h2] at e
      obtain ⟨rfl, rfl⟩ := Prod.mk.inj (Option.some.inj e)
      rcases x.imgx c ⟨i, n, hi', ai, h1⟩ with q | q
      · exact apart j c n' hj aj hb g1 q
      · have := lt_size g2; omega
    rcases key i hi' ha with ⟨ai, bi⟩ | ⟨ai, bi⟩
    · rcases key j hj hb with ⟨aj, bj⟩ | ⟨aj, bj⟩
      · exact r1.inj i j hi' hj ai aj c n n' h1 h2
      · exact (mixed i j hi' hj hb ai aj bj c n n' h1 h2).elim
    · rcases key j hj hb with ⟨aj, bj⟩ | ⟨aj, bj⟩
      · exact (mixed j i hj hi' ha aj ai bi c n' n h2 h1).elim
      · rw [bi] at ha
        rw [bj] at hb
        obtain ⟨c1, m1, o1, g1, g2, _⟩ := r.blk i hi' ha
        obtain ⟨c2, m2, o2, k1, k2, _⟩ := r.blk j hj hb
        have e1 := sub _ _ g1
        have e2 := sub _ _ k1
        rw [h1] at e1
        rw [h2] at e2
        obtain ⟨rfl, rfl⟩ := Prod.mk.inj (Option.some.inj e1)
        obtain ⟨e3, rfl⟩ := Prod.mk.inj (Option.some.inj e2)
        subst e3
        exact r.inj i j hi' hj ha hb _ _ _ g1 k1
  · obtain ⟨id, n, hid, hw, hm⟩ := hc
    rcases key id hid (wrb_ne hw) with ⟨a, b⟩ | ⟨a, b⟩
    · rw [b] at hw
      rcases x.img c ⟨id, n, hid, hw, hm⟩ with q | q
      · exact x0.img c q
      · exact .inr q
    · rw [b] at hw
      obtain ⟨c', m, o, g1, g2, _⟩ := r.blk id hid (wrb_ne hw)
      have e := sub _ _ g1
      rw [hm] at e
      obtain ⟨rfl, rfl⟩ := Prod.mk.inj (Option.some.inj e)
      exact .inl ⟨id, n, hid, hw, g1⟩
  · obtain ⟨id, n, hid, hw, hm⟩ := hc
    rcases key id hid hw with ⟨a, b⟩ | ⟨a, b⟩
    · rw [b] at hw
      rcases x.imgx c ⟨id, n, hid, hw, hm⟩ with q | q
      · exact x0.imgx c q
      · exact .inr q
    · rw [b] at hw
      obtain ⟨c', m, o, g1, g2, _⟩ := r.blk id hid hw
      have e := sub _ _ g1
      rw [hm] at e
      obtain ⟨rfl, rfl⟩ := Prod.mk.inj (Option.some.inj e)
      exact .inl ⟨id, n, hid, hw, g1⟩
  · refine x.keep c hc fun hI => hni ?_
    rcases x0.img c hI with q | q
    · exact q
    · omega
/-- are the places within bounds? -/
def Seg.ok (s : Seg) : Bool := List.rec (motive := fun _ => Bool) true (fun p _ ih => Prod.rec (motive := fun _ => Bool) (fun id _ => Bool.rec (motive := fun _ => Bool) false ih (Nat.ble (Nat.succ id) 32768)) p) s.l1
theorem hl_ok {L : HL} (h : (List.rec (motive := fun _ => Bool) true (fun p _ ih => Prod.rec (motive := fun _ => Bool) (fun id _ => Bool.rec (motive := fun _ => Bool) false ih (Nat.ble (Nat.succ id) 32768)) p) L : Bool) = true) : ∀ p ∈ L, p.1 < 32768 := by
  induction L with
  | nil => intro p hp; cases hp
  | cons q L ih =>
    obtain ⟨i, x⟩ := q
    obtain ⟨h1, h2⟩ := boolq_inv (show Bool.rec (motive := fun _ => Bool) false (List.rec (motive := fun _ => Bool) true (fun p _ ih => Prod.rec (motive := fun _ => Bool) (fun id _ => Bool.rec (motive := fun _ => Bool) false ih (Nat.ble (Nat.succ id) 32768)) p) L) (Nat.ble (Nat.succ i) 32768) = true from h)
    intro p hp
    rcases List.mem_cons.1 hp with rfl | hp
    · exact le_of_ble h1
    · exact ih h2 p hp
theorem segS_of {P : Program} {f : Nat} {S : List Seg} (hS : ∀ s ∈ S, SegP P f s ∧ s.ok = true) : SegS P f (segG S) := by
  intro μ h w args xs v h1 gm wr hr e
  obtain ⟨s, hs, ha, hp⟩ := segG_inv e
  obtain ⟨rfl, rfl⟩ := Prod.mk.inj hp
  obtain ⟨k1, k⟩ := boolq_inv ha
  obtain ⟨k2, k⟩ := boolq_inv k
  obtain ⟨k3, k4⟩ := boolq_inv k
  obtain ⟨y1, y2⟩ := holds_wr wr k4 (le_of_ble k1) (le_of_ble k2)
  obtain rfl := eqV_eq k3
  obtain ⟨hP, hok⟩ := hS s hs
  refine (hP μ w xs gm y1 hr).mono fun x w' ⟨μ', a1, a2, a3⟩ => ?_
  obtain ⟨z1, z2⟩ := seg_frame wr k4 (le_of_ble k1) (le_of_ble k2) (hl_ok hok) a1 a2
  exact ⟨μ', z1, z2, a3⟩

/-! ### more is known of functions -/
def withSeg (E : Env) (f : Nat) (g : V → H → Option (V × H)) : Env := { E with sm := fun x => Bool.rec (motive := fun _ => Sm) (E.sm x) (.seg g) (Nat.beq x f) }
def withPure (E : Env) (f : Nat) (g : V → H → Option V) : Env := { E with sm := fun x => Bool.rec (motive := fun _ => Sm) (E.sm x) (.pure g) (Nat.beq x f) }
variable {P : Program} {E : Env}
theorem env_seg (ok : EnvOK E P) (f : Nat) (g : V → H → Option (V × H)) : EnvOK (withSeg E f g) P := ⟨ok.ft, ok.tt, ok.pg, ok.mixed, ok.un⟩
theorem env_pure (ok : EnvOK E P) (f : Nat) (g : V → H → Option V) : EnvOK (withPure E f g) P := ⟨ok.ft, ok.tt, ok.pg, ok.mixed, ok.un⟩
theorem sm_cases {α : Sort _} (x f : Nat) (a b : α) : (Nat.beq x f = true ∧ x = f ∧ (Bool.rec (motive := fun _ => α) a b (Nat.beq x f)) = b) ∨ (Bool.rec (motive := fun _ => α) a b (Nat.beq x f)) = a := by
  cases h : Nat.beq x f with
  | true => exact .inl ⟨rfl, Nat.eq_of_beq_eq_true h, rfl⟩
  | false => exact .inr rfl
theorem sum_seg (sok : SumOK E P) {f : Nat} {g : V → H → Option (V × H)} (hs : SegS P f g) : SumOK (withSeg E f g) P where
  pure x q h := by
    rcases sm_cases x f (E.sm x) (Sm.seg g) with ⟨_, rfl, e⟩ | e
    · cases (e.symm.trans h : Sm.seg g = Sm.pure q)
    · exact sok.pure x q (e.symm.trans h)
  mkz x q h := by
    rcases sm_cases x f (E.sm x) (Sm.seg g) with ⟨_, rfl, e⟩ | e
    · cases (e.symm.trans h : Sm.seg g = Sm.mkz q)
    · exact sok.mkz x q (e.symm.trans h)
  ds x h := sok.ds x h
  seg x q h := by
    rcases sm_cases x f (E.sm x) (Sm.seg g) with ⟨_, rfl, e⟩ | e
    · obtain rfl := Sm.seg.inj (e.symm.trans h : Sm.seg g = Sm.seg q); exact hs
    · exact sok.seg x q (e.symm.trans h)
theorem sum_pure (sok : SumOK E P) {f : Nat} {g : V → H → Option V} (hs : PureS P f g) : SumOK (withPure E f g) P where
  pure x q h := by
    rcases sm_cases x f (E.sm x) (Sm.pure g) with ⟨_, rfl, e⟩ | e
    · obtain rfl := Sm.pure.inj (e.symm.trans h : Sm.pure g = Sm.pure q); exact hs
    · exact sok.pure x q (e.symm.trans h)
  mkz x q h := by
    rcases sm_cases x f (E.sm x) (Sm.pure g) with ⟨_, rfl, e⟩ | e
    · cases (e.symm.trans h : Sm.pure g = Sm.mkz q)
    · exact sok.mkz x q (e.symm.trans h)
  ds x h := sok.ds x h
  seg x q h := by
    rcases sm_cases x f (E.sm x) (Sm.pure g) with ⟨_, rfl, e⟩ | e
    · cases (e.symm.trans h : Sm.pure g = Sm.seg q)
    · exact sok.seg x q (e.symm.trans h)
end

/-! ### lists, short -/
def vl (l : List V) : V := List.rec (motive := fun _ => V) .n (fun x _ t => .c x t) l
def I (n : Nat) : V := .i .i64 (Int.ofNat n)
/-- a text's bytes -/
def tb (c : Nat) : V := listN (slen c) c 0 .n
end
end Go.Ev
