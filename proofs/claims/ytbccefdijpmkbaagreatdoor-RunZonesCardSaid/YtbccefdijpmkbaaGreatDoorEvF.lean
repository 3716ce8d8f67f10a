/-
  Part of a proof: an evaluator of the model's code over abstract memory, and that it is sound against the model's weakest preconditions; no conditions.
-/
import Derived.Test.YtbccefdijpmkbaaGreatDoorEvG
import Derived.Shelf.Strings.Search3
import Derived.Lib.MakeNoZero
import Derived.Lib.IndexBytes
import Derived.Lib.IndexMore
import Derived.RecoverIn
import Derived.Handed
import Derived.Below
import Derived.Carry
import Derived.ChangeOld
import Derived.ChangeSame
import Derived.RowKit
import Derived.Lib.Space
import Derived.Lib.LaidTab
set_option linter.constructorNameAsVariable false
set_option linter.unusedVariables false
set_option linter.unusedSimpArgs false
set_option linter.unusedSectionVars false
set_option linter.constructorNameAsVariable false
set_option linter.unusedVariables false
set_option linter.unusedSimpArgs false
set_option linter.unusedSectionVars false
namespace Go.Ev
open Go
noncomputable section
variable [Un]

/-! ### functions that are known in another way: texts in texts -/
/-- the first place of p (m bytes) in c (n bytes), from i on -/
def sFind (c p n m : Nat) (fuel : Nat) : Nat → Option Nat := Nat.rec (motive := fun _ => Nat → Option Nat) (fun _ => none)
  (fun _ ih i => Bool.casesOn (Nat.ble (Nat.add i m) n) none (Bool.casesOn (Nat.beq (Nat.add (Nat.mod (Nat.shiftRight c (Nat.mul 8 i)) (Nat.pow 256 m)) (Nat.pow 256 m)) p) (ih (Nat.succ i)) (some i))) fuel
def sIndex (c p : Nat) : Option Nat := sFind c p (slen c) (slen p) (Nat.succ (slen c)) 0
def sCount (c b : Nat) (fuel : Nat) : Nat → Nat := Nat.rec (motive := fun _ => Nat → Nat) (fun _ => 0)
  (fun _ ih i => Bool.casesOn (Nat.ble (Nat.succ i) (slen c)) 0 (Nat.add (Bool.casesOn (Nat.beq (sat c i) b) 0 1) (ih (Nat.succ i)))) fuel
def a1 (g : V → Option V) (v : V) : Option V := oC (fun x r => Bool.rec (motive := fun _ => Option V) none (g x) (qN true r)) v
def a2 (g : V → V → Option V) (v : V) : Option V := oC (fun x r => oC (fun y t => Bool.rec (motive := fun _ => Option V) none (g x y) (qN true t)) r) v
def goOpt (r : Option Nat) : V := Option.casesOn r (.i .i64 (Int.negSucc 0)) goI
def oU8 (g : Nat → Option V) (v : V) : Option V := oI (fun k x => Bool.rec (motive := fun _ => Option V) none (Int.rec (motive := fun _ => Option V) (fun b => Bool.rec (motive := fun _ => Option V) none (g b) (Nat.ble b 255)) (fun _ => none) x) (Nat.beq (kno k) 4)) v
def gContains (ml : Nat) (v : V) (h : H) : Option V := obGi (a2 (fun x y => oS (fun c => oS (fun p => Bool.rec (motive := fun _ => Option V) none (some (.b (Option.casesOn (sIndex c p) false fun _ => true))) (Nat.ble (slen c) 4294967280)) y) x) v) (H.get h ml)
def gIndexByte (v : V) (_ : H) : Option V := a2 (fun x y => oS (fun c => oU8 (fun b => some (goOpt (sFind c (Nat.add b 256) (slen c) 1 (Nat.succ (slen c)) 0))) y) x) v
def gCount (v : V) (_ : H) : Option V := a2 (fun x y => oS (fun c => oU8 (fun b => some (goI (sCount c b (slen c) 0))) y) x) v
def gSame (v : V) (_ : H) : Option V := a1 some v

theorem a1_inv {g : V → Option V} {v r : V} (h : a1 g v = some r) : ∃ x, v = .c x .n ∧ g x = some r := by
  obtain ⟨x, t, rfl, h⟩ := oC_inv h
  obtain ⟨h1, h2⟩ := bool_inv h
  obtain ⟨rfl, _⟩ := qN_inv h1
  exact ⟨x, rfl, h2⟩
theorem a2_inv {g : V → V → Option V} {v r : V} (h : a2 g v = some r) : ∃ x y, v = .c x (.c y .n) ∧ g x y = some r := by
  obtain ⟨x, t1, rfl, h3⟩ := oC_inv h
  obtain ⟨y, t2, rfl, h4⟩ := oC_inv h3
  obtain ⟨h1, h2⟩ := bool_inv h4
  obtain ⟨rfl, _⟩ := qN_inv h1
  exact ⟨x, y, rfl, h2⟩
theorem oU8_inv {g : Nat → Option V} {v r : V} (h : oU8 g v = some r) : ∃ b, v = .i .u8 (Int.ofNat b) ∧ b ≤ 255 ∧ g b = some r := by
  obtain ⟨k, x, rfl, h⟩ := oI_inv h
  obtain ⟨h1, h2⟩ := bool_inv h
  have hk : k = .u8 := by cases k <;> first | rfl | cases h1
  subst hk
  cases x with
  | negSucc n => cases h2
  | ofNat b =>
    obtain ⟨h3, h4⟩ := bool_inv h2
    exact ⟨b, rfl, le_of_ble h3, h4⟩
theorem obGi_inv {g : Option V} {b : B} {r : V} (h : obGi g b = some r) : b = .gi ∧ g = some r := by
  cases b with | gi => exact ⟨rfl, h⟩ | _ => cases h

theorem occ_test (s sub : List UInt8) (i : Nat) (hi : i + sub.length ≤ s.length) :
    Nat.beq (Nat.add (Nat.mod (Nat.shiftRight (enc s) (Nat.mul 8 i)) (Nat.pow 256 sub.length)) (Nat.pow 256 sub.length)) (enc sub) = Lib.occAt s sub i := by
  have h : Nat.add (Nat.mod (Nat.shiftRight (enc s) (Nat.mul 8 i)) (Nat.pow 256 sub.length)) (Nat.pow 256 sub.length) = enc ((s.drop i).take sub.length) := by
    have := ssub_enc s i (i + sub.length) (by omega) hi
    unfold ssub at this
    rw [show i + sub.length - i = sub.length by omega] at this
    have e : Nat.sub (i + sub.length) i = sub.length := by show i + sub.length - i = _; omega
    rw [e] at this
    exact this
  rw [h, Lib.occAt_iff_take s sub i hi, Bool.eq_iff_iff, Nat.beq_eq, beq_iff_eq]
  exact ⟨enc_inj, fun e => by rw [e]⟩
theorem sFind_sound (s sub : List UInt8) (fuel : Nat) : ∀ (i : Nat), (∀ j, j < i → Lib.occAt s sub j = false) → s.length + 1 ≤ fuel + i →
    (sFind (enc s) (enc sub) s.length sub.length fuel i = none ∧ ∀ j, j ≤ s.length → Lib.occAt s sub j = false) ∨
    ∃ r, sFind (enc s) (enc sub) s.length sub.length fuel i = some r ∧ r ≤ s.length ∧ Lib.occAt s sub r = true ∧ ∀ j, j < r → Lib.occAt s sub j = false := by
  induction fuel with
  | zero => intro i h hf; exact .inl ⟨rfl, fun j hj => h j (by omega)⟩
  | succ fuel ih =>
    intro i h hf
    have st : sFind (enc s) (enc sub) s.length sub.length (fuel + 1) i = Bool.rec (motive := fun _ => Option Nat) none (Bool.rec (motive := fun _ => Option Nat) (sFind (enc s) (enc sub) s.length sub.length fuel (i + 1)) (some i) (Nat.beq (Nat.add (Nat.mod (Nat.shiftRight (enc s) (Nat.mul 8 i)) (Nat.pow 256 sub.length)) (Nat.pow 256 sub.length)) (enc sub))) (Nat.ble (i + sub.length) s.length) := rfl
    by_cases hi : i + sub.length ≤ s.length
    · rw [ble_t hi, occ_test s sub i hi] at st
      cases ho : Lib.occAt s sub i with
      | true =>
        rw [ho] at st
        exact .inr ⟨i, st, by omega, ho, h⟩
      | false =>
        rw [ho] at st
        have st : sFind (enc s) (enc sub) s.length sub.length (fuel + 1) i = sFind (enc s) (enc sub) s.length sub.length fuel (i + 1) := st
        have := ih (i + 1) (fun j hj => by
          rcases Nat.lt_or_ge j i with hlt | hge
          · exact h j hlt
          · have : j = i := by omega
            rw [this]; exact ho) (by omega)
        rw [st]
        exact this
    · rw [ble_f hi] at st
      refine .inl ⟨st, fun j hj => ?_⟩
      rcases Nat.lt_or_ge j i with hlt | hge
      · exact h j hlt
      · cases ho : Lib.occAt s sub j with
        | false => rfl
        | true =>
          rcases Lib.occAt_room ho with hr | hr
          · omega
          · subst hr; simp at hi; omega
theorem index_find {μ : Mu} (s sub : List UInt8) : RV μ (goOpt (sFind (enc s) (enc sub) s.length sub.length (s.length + 1) 0)) (.int .i64 (Lib.index s sub)) := by
  rcases sFind_sound s sub (s.length + 1) 0 (fun j hj => by omega) (by omega) with ⟨h1, h2⟩ | ⟨r, h1, h2, h3, h4⟩
  · rw [h1, Lib.index_none h2]; rfl
  · rw [h1, Lib.index_first h2 h3 h4]; rfl
theorem contains_find (s sub : List UInt8) : (Option.casesOn (motive := fun _ => Bool) (sIndex (enc s) (enc sub)) false fun _ => true) = Lib.contains s sub := by
  unfold sIndex Lib.contains
  rw [slen_enc, slen_enc]
  rcases sFind_sound s sub (s.length + 1) 0 (fun j hj => by omega) (by omega) with ⟨h1, h2⟩ | ⟨r, h1, h2, h3, h4⟩
  · rw [Lib.index_none h2]
    show (Option.casesOn (motive := fun _ => Bool) (sFind (enc s) (enc sub) s.length sub.length (s.length + 1) 0) false fun _ => true) = _
    rw [h1]; rfl
  · rw [Lib.index_first h2 h3 h4]
    show (Option.casesOn (motive := fun _ => Bool) (sFind (enc s) (enc sub) s.length sub.length (s.length + 1) 0) false fun _ => true) = _
    rw [h1]; simp
theorem sCount_sound (l : List UInt8) (b : UInt8) (fuel : Nat) : ∀ (i : Nat), l.length ≤ fuel + i → sCount (enc l) b.toNat fuel i = (l.drop i).count b := by
  induction fuel with
  | zero => intro i h; rw [List.drop_eq_nil_iff.2 (by omega)]; rfl
  | succ fuel ih =>
    intro i h
    show Bool.rec (motive := fun _ => Nat) 0 (Nat.add (Bool.rec (motive := fun _ => Nat) 0 1 (Nat.beq (sat (enc l) i) b.toNat)) (sCount (enc l) b.toNat fuel (i + 1))) (Nat.ble (i + 1) (slen (enc l))) = _
    rw [slen_enc]
    by_cases hi : i < l.length
    · rw [ble_t hi, sat_enc l i hi, ih (i + 1) (by omega), List.drop_eq_getElem_cons hi, List.count_cons]
      show Nat.add _ _ = _
      by_cases hb : l[i] = b
      · have : Nat.beq (l[i]).toNat b.toNat = true := by rw [Nat.beq_eq, hb]
        rw [this, hb]; simp; show 1 + _ = _; omega
      · have h1 : Nat.beq (l[i]).toNat b.toNat = false := by
          cases hbb : Nat.beq (l[i]).toNat b.toNat with
          | false => rfl
          | true => rw [Nat.beq_eq] at hbb; exact absurd (UInt8.toNat_inj.1 hbb) hb
        have h2 : (l[i] == b) = false := by simpa using hb
        rw [h1, h2]; simp
    · rw [ble_f (by omega), List.drop_eq_nil_iff.2 (by omega)]; rfl

variable {P : Program} {E : Env}
theorem enter_nx {f : Nat} {args : Array Value} {w : World} {R : Ending → World → Prop} {R' : Value → World → Prop} (he : (callFunc f args).run P w = .ok (.enter f args) w) (h : Calls P f args w R) (hr : ∀ e w', R e w' → ∃ v, e = .returned v ∧ R' v w') : Nx P R' ((callFunc f args).run P w) := by
  rw [he]
  refine callsIn_wide.2 (h.mono fun e w' hh => ?_)
  obtain ⟨v, rfl, hv⟩ := hr e w' hh
  exact hv
/-- the cell of a variable that holds some whole number -/
theorem gi_cell {μ : Mu} {h : H} {w : World} (gm : GM μ) (wr : WR μ h w) {g : Nat} (hg : g < 32) (hb : H.get h g = .gi) : ∃ m, w.cell? ⟨g, 0, none⟩ = some (.int .i64 m) := by
  obtain ⟨n, hm⟩ := gm g hg
  obtain ⟨c, n', o, h1, h2, h3⟩ := wr.blk g (by omega) (by rw [hb]; simp)
  rw [hm] at h1
  obtain ⟨rfl, rfl⟩ := Prod.mk.inj (Option.some.inj h1)
  rw [hb] at h3
  obtain ⟨arr, e, fr, m, rfl, hm0⟩ := h3
  exact ⟨m, by rw [cell_of h2]; exact hm0⟩
theorem pure_contains {ρ : Shelf.Ren} (L : Proofs.Lays.n144 P ρ) (hg : ρ.g 1 < 32) : PureS P (ρ.f 144) (gContains (ρ.g 1)) := by
  intro μ h w args xs v gm wr hr e
  obtain ⟨hb, e1⟩ := obGi_inv e
  obtain ⟨x, y, rfl, e2⟩ := a2_inv e1
  obtain ⟨c, rfl, e3⟩ := oS_inv e2
  obtain ⟨p, rfl, e4⟩ := oS_inv e3
  obtain ⟨e5, e6⟩ := bool_inv e4
  obtain rfl := Option.some.inj e6
  obtain ⟨x, t, rfl, hx, ht⟩ := hr
  obtain ⟨y, t, rfl, hy, ht⟩ := ht
  obtain rfl : t = [] := ht
  obtain ⟨s, rfl, hs⟩ := rv_s hx
  obtain ⟨sub, rfl, hsub⟩ := rv_s hy
  obtain ⟨m, hm⟩ := gi_cell gm wr hg hb
  have hle : s.size < 4294967281 := by have := le_of_ble e5; rw [size_enc hs] at this; omega
  have hen : ∀ args w, (callFunc (ρ.f 144) args).run P w = .ok (.enter (ρ.f 144) args) w := Proofs.enters_of L.f144 (by kernel_rfl) rfl
  refine enter_nx (hen _ w) (Proofs.Any.strings_Contains L s sub m w hle hm) fun e w' ⟨h1, h2⟩ => ?_
  subst h2
  refine ⟨_, h1, wr, Ext.refl .., ?_⟩
  show Value.bool _ = Value.bool _
  rw [← hs, ← hsub, contains_find]

/-- a function whose text is the model's own -/
structure ExtF (P : Program) (f : Nat) (e : Array Value → Sem Value) : Prop where
  run : ∀ args w, (callFunc f args).run P w = ((e args).run P w).andThen fun v w' => .ok (.value v) w'
theorem ext_of {f : Nat} {fn : Func} {e : Array Value → Sem Value} (hf : P.funcs[f]? = some fn) (hname : (fn.name == "runtime.NumGoroutine") = false) (hb : fn.body.isNone = true) (hn : Extern.findNext fn = none) (he : Extern.find fn = some e) : ExtF P f e :=
  ⟨fun args w => run_callFunc_extern hf hname hb hn he args w⟩
theorem u8_byte {b : Nat} (h : b ≤ 255) : (Int.ofNat b).toNat.toUInt8.toNat = b := by
  show (b.toUInt8).toNat = b
  simp; omega
theorem pure_indexByte {f : Nat} (x : ExtF P f Extern.BytealgIndexByte.indexByte) : PureS P f gIndexByte := by
  intro μ h w args xs v gm wr hr e
  obtain ⟨x1, y, rfl, e2⟩ := a2_inv e
  obtain ⟨c, rfl, e3⟩ := oS_inv e2
  obtain ⟨b, rfl, hb, e4⟩ := oU8_inv e3
  obtain rfl := Option.some.inj e4
  obtain ⟨x1, t, rfl, hx, ht⟩ := hr
  obtain ⟨y, t, rfl, hy, ht⟩ := ht
  obtain rfl : t = [] := ht
  obtain ⟨s, rfl, hs⟩ := rv_s hx
  obtain rfl := rv_i hy
  have e1 := x.run #[.string s, .int .u8 (Int.ofNat b)] w
  rw [Lib.run_indexByteString] at e1
  show Nx P _ ((callFunc f #[.string s, .int .u8 (Int.ofNat b)]).run P w)
  rw [e1]
  refine ⟨wr, Ext.refl .., ?_⟩
  have hb8 : enc [(Int.ofNat b).toNat.toUInt8] = b + 256 := by
    rw [enc_cons, enc_nil, u8_byte hb]
  have := index_find (μ := μ) s.data.toList [(Int.ofNat b).toNat.toUInt8]
  rw [Lib.index_one, hb8, hs] at this
  have hl : s.data.toList.length = slen c := by rw [← hs, slen_enc]
  rw [hl] at this
  exact this
theorem pure_count {f : Nat} (x : ExtF P f Extern.BytealgCount.count) : PureS P f gCount := by
  intro μ h w args xs v gm wr hr e
  obtain ⟨x1, y, rfl, e2⟩ := a2_inv e
  obtain ⟨c, rfl, e3⟩ := oS_inv e2
  obtain ⟨b, rfl, hb, e4⟩ := oU8_inv e3
  obtain rfl := Option.some.inj e4
  obtain ⟨x1, t, rfl, hx, ht⟩ := hr
  obtain ⟨y, t, rfl, hy, ht⟩ := ht
  obtain rfl : t = [] := ht
  obtain ⟨s, rfl, hs⟩ := rv_s hx
  obtain rfl := rv_i hy
  have e1 := x.run #[.string s, .int .u8 (Int.ofNat b)] w
  rw [Lib.run_countString] at e1
  show Nx P _ ((callFunc f #[.string s, .int .u8 (Int.ofNat b)]).run P w)
  rw [e1]
  refine ⟨wr, Ext.refl .., ?_⟩
  have := sCount_sound s.data.toList (Int.ofNat b).toNat.toUInt8 s.data.toList.length 0 (by omega)
  rw [u8_byte hb, hs] at this
  have hl : s.data.toList.length = slen c := by rw [← hs, slen_enc]
  rw [hl] at this
  show Value.int .i64 _ = Value.int .i64 _
  rw [this]
  rfl
theorem pure_same {f : Nat} (x : ExtF P f Extern.AbiNoEscape.same) : PureS P f gSame := by
  intro μ h w args xs v gm wr hr e
  obtain ⟨x1, rfl, e2⟩ := a1_inv e
  obtain rfl := Option.some.inj e2
  obtain ⟨y, t, rfl, hx, ht⟩ := hr
  obtain rfl : t = [] := ht
  have e1 := x.run #[y] w
  show Nx P _ ((callFunc f #[y]).run P w)
  rw [e1]
  exact ⟨wr, Ext.refl .., hx⟩
theorem mkz_of {f t e : Nat} {ps : Array TypeId} (x : ExtF P f (Extern.BytealgMakeNoZero.makeNoZero ps #[t])) (ht : P.underlying t = some (.slice e)) : MkzS P f e := by
  intro w n hn
  obtain ⟨cs, h1, h2, _⟩ := Lib.run_makeNoZero (P := P) w ps t e ht n (by omega)
  refine ⟨cs.size, cs, w.drew.drew, h2, rfl, rfl, rfl, rfl, rfl, ?_⟩
  have e1 := x.run #[.int .i64 (Int.ofNat n)] w
  have h1 : (Extern.BytealgMakeNoZero.makeNoZero ps #[t] #[.int .i64 (Int.ofNat n)]).run P w = _ := h1
  rw [h1] at e1
  exact e1

/-! ### deferred functions that find nothing to recover -/
theorem defS_of {f : Nat} {fn : Func} (hf : P.funcs[f]? = some fn) (hn : (fn.name == "runtime.NumGoroutine") = false) {i0 b i3 i4 : Nat} {o0 o3 o4 : Oper} {r c ti q : Nat} {rest : Code}
    (hb : fn.body = some ((Code.region i0 #[o0] false).seq (.block b ((Code.region i3 #[o3] false).seq (.cond (.tmp c) (Code.region i4 #[o4] false) rest)))))
    (h0 : o0.op = .call { callee := .builtin .recover, args := #[], argTypes := #[] }) (g0 : o0.guard = none) (d0 : o0.dst = some r)
    (h3 : o3.op = .binOp .eql ti (.tmp r) (.const .nilIface) q) (g3 : o3.guard = none) (d3 : o3.dst = some c) {ms : Array (String × TypeId)} (hti : P.underlying ti = some (.interface ms))
    (h4 : o4.op = .assign (.tmp r)) (g4 : o4.guard = none) (hres : fn.results = #[]) (hr : r < fn.ntmps) (hc : c < fn.ntmps) : DefS P f := by
  refine ⟨fn, hf, hn, by rw [hb]; rfl, fun args w => ?_⟩
  refine callsDIn_of_wpSIn hf hb trivial fun c₀ cs hu => ?_
  obtain ⟨a0, ha0⟩ : ∃ a : Act, a = { tmps := args ++ Array.replicate (fn.ntmps - args.size) undef, defers := [] } := ⟨_, rfl⟩
  rw [← ha0]
  have hsz : fn.ntmps ≤ a0.tmps.size := by rw [ha0]; simp; omega
  have hd0 : a0.defers = [] := by rw [ha0]
  refine wpSIn_seq (wpSIn_region ?_)
  have hrec : recoverD (c₀ :: cs) = none := by simp [recoverD, hu]
  have hex : (execOp a0.eval o0).run P w = .ok .recover w := by
    simp only [execOp, h0, resolve]
    rfl
  show wpOpsSIn Fence.wide 0 P #[o0] _ [0] a0 (c₀ :: cs) w
  unfold wpOpsSIn
  refine ⟨fun _ _ => trivial, ?_⟩
  have h00 : (#[o0][0]'(by simp)) = o0 := rfl
  simp only [h00]
  rw [wanted_none g0, if_pos rfl]
  simp only [hex, hrec]
  show wpOpsSIn Fence.wide 0 P #[o0] _ [] (a0.put o0.dst .nilIface) (c₀ :: cs) w
  unfold wpOpsSIn
  show (Code.block b _).wpSIn Fence.wide 0 P _ (a0.put o0.dst .nilIface) (c₀ :: cs) w
  refine wpSIn_of_wpIn rfl (wpIn_block (wpIn_seq (wpIn_region ?_)))
  rw [d0]
  have hev : (a0.put (some r) .nilIface).eval (.tmp r) = .nilIface := by
    show (a0.put (some r) .nilIface).tmps.getD r undef = _
    rw [Array.getD_eq_getD_getElem?, put_at, if_pos ⟨rfl, by omega⟩]; rfl
  have hx3 : (execOp (a0.put (some r) .nilIface).eval o3).run P w = .ok (.value (.bool true)) w := by
    obtain ⟨_, h2', _, h4', h5', _⟩ := eqI (P := P) hti .nilIface (.nilIface) true rfl (.inl ⟨rfl, rfl⟩)
    simp only [execOp, h3]
    refine exv ?_
    have := eqGuard_ok (P := P) (op := if false then .neq else .eql) (t := ti) (x := .tmp r) (y := .const .nilIface) (a := .nilIface) (b := .nilIface) h5' (fun _ => .inr ⟨_, rfl⟩) w
    show (do eqGuard _ ti (.tmp r) (.const .nilIface) ((a0.put (some r) .nilIface).eval (.tmp r)) .nilIface; binOp _ ti ((a0.put (some r) .nilIface).eval (.tmp r)) .nilIface : Sem Value).run P w = _
    rw [hev]
    simp only [Sem.run_bind, this, Result.andThen_ok]
    exact eq_run (neg := false) h2' h4' w
  show wpOpsIn (Fw none) 0 P #[o3] _ [0] _ w
  rw [wpOpsIn_cons]
  refine opQ (o := o3) rfl (wanted_none g3 _) (by simp [h3]) hx3 ?_
  show (Code.cond _ _ _).wpIn (Fw none) 0 P _ _ w
  rw [d3]
  have hcv : ((a0.put (some r) .nilIface).put (some c) (.bool true)).eval (.tmp c) = .bool true := by
    show ((a0.put (some r) .nilIface).put (some c) (.bool true)).tmps.getD c undef = _
    rw [Array.getD_eq_getD_getElem?, put_at, if_pos ⟨rfl, by simp [Act.put]; omega⟩]; rfl
  refine wpIn_cond_true hcv (wpIn_region ?_)
  show wpOpsIn (Fw none) 0 P #[o4] _ [0] _ w
  rw [wpOpsIn_cons]
  refine opQ (o := o4) rfl (wanted_none g4 _) (by simp [h4]) (x := ((a0.put (some r) .nilIface).put (some c) (.bool true)).eval (.tmp r)) (by simp only [execOp, h4]; rfl) ?_
  unfold wpOpsIn
  refine ⟨by rw [put_defers, put_defers, put_defers]; exact hd0, .returning, ?_, .tuple #[], results_none hres _ P w, ⟨_, rfl⟩, rfl, rfl⟩
  rw [← hu]
end
end Go.Ev

set_option linter.constructorNameAsVariable false
set_option linter.unusedVariables false
set_option linter.unusedSimpArgs false
set_option linter.unusedSectionVars false
namespace Go.Ev
open Go Go.RowKit
noncomputable section

/-! ### tables -/
def get3 {α : Type} (r : R (R (R α))) (n : Nat) : α := R.get (d0 n) (R.get (d1 n) (R.get (d2 n) r))
def toL {α : Type} (r : R α) : List α := R.rec (motive := fun _ => List α) (fun a0 a1 a2 a3 a4 a5 a6 a7 a8 a9 a10 a11 a12 a13 a14 a15 => [a0, a1, a2, a3, a4, a5, a6, a7, a8, a9, a10, a11, a12, a13, a14, a15]) r
def flat2 {α : Type} (r : R (R α)) : List α := (toL r).flatMap toL
def flat3 {α : Type} (r : R (R (R α))) : List α := (toL r).flatMap flat2
theorem toL_length {α : Type} (r : R α) : (toL r).length = 16 := by cases r; rfl
theorem toL_get {α : Type} (r : R α) (i : Ix) : (toL r)[i.no]? = some (R.get i r) := by cases r; cases i <;> rfl
theorem flatMap_get {α β : Type} {f : β → List α} {m : Nat} (hf : ∀ x, (f x).length = m) (l : List β) : ∀ (q s : Nat), s < m → (l.flatMap f)[m * q + s]? = (l[q]?).bind fun x => (f x)[s]? := by
  induction l with
  | nil => intro q s _; simp
  | cons x l ih =>
    intro q s hs
    rw [List.flatMap_cons]
    cases q with
    | zero =>
      rw [Nat.mul_zero, Nat.zero_add, List.getElem?_append_left (by rw [hf]; exact hs)]
      rfl
    | succ q =>
      rw [List.getElem?_append_right (by rw [hf, Nat.mul_succ]; omega), hf, show m * (q + 1) + s - m = m * q + s by rw [Nat.mul_succ]; omega, ih q s hs]
      simp
theorem flatMap_length {α β : Type} {f : β → List α} {m : Nat} (hf : ∀ x, (f x).length = m) (l : List β) : (l.flatMap f).length = m * l.length := by
  induction l with
  | nil => simp
  | cons x l ih => rw [List.flatMap_cons, List.length_append, hf, ih, List.length_cons, Nat.mul_succ]; omega
theorem flat2_length {α : Type} (r : R (R α)) : (flat2 r).length = 256 := by
  unfold flat2
  rw [flatMap_length toL_length, toL_length]
theorem flat2_get {α : Type} (r : R (R α)) (i j : Ix) : (flat2 r)[16 * j.no + i.no]? = some (R.get i (R.get j r)) := by
  unfold flat2
  rw [flatMap_get toL_length _ _ _ (by cases i <;> decide), toL_get]
  exact toL_get _ _
theorem flat3_get {α : Type} (r : R (R (R α))) {n : Nat} (h : n < 4096) : (flat3 r)[n]? = some (get3 r n) := by
  have e : n = 256 * (d2 n).no + (16 * (d1 n).no + (d0 n).no) := by
    show n = 256 * (toIx (n / 256 % 16)).no + (16 * (toIx (n / 16 % 16)).no + (toIx (n % 16)).no)
    rw [no_toIx _ (Nat.mod_lt _ (by decide)), no_toIx _ (Nat.mod_lt _ (by decide)), no_toIx _ (Nat.mod_lt _ (by decide))]
    show n = 256 * (n / 256 % 16) + (16 * (n / 16 % 16) + n % 16)
    omega
  have hs : 16 * (d1 n).no + (d0 n).no < 256 := by
    have h1 : (d1 n).no < 16 := by cases d1 n <;> decide
    have h2 : (d0 n).no < 16 := by cases d0 n <;> decide
    omega
  have := flatMap_get (f := flat2) flat2_length (toL r) (d2 n).no _ hs
  unfold flat3
  rw [← e] at this
  rw [this, toL_get]
  exact flat2_get _ _ _
theorem tab_ok {α : Type} {tab : R (R (R (Option α)))} {l : List α} {n : Nat} (h : (flat3 tab).take n = l.map some) (hn : n ≤ 4096) {f : Nat} {x : α} (e : (Bool.rec (motive := fun _ => Option α) none (get3 tab f) (Nat.ble (Nat.succ f) n)) = some x) : l[f]? = some x := by
  obtain ⟨e1, e2⟩ := bool_inv e
  have hf : f < n := le_of_ble e1
  have h1 : ((flat3 tab).take n)[f]? = some (some x) := by
    rw [List.getElem?_take, if_pos hf, flat3_get tab (by omega), e2]
  rw [h, List.getElem?_map] at h1
  cases hl : l[f]? with
  | none => rw [hl] at h1; cases h1
  | some y => rw [hl] at h1; simp only [Option.map_some, Option.some.injEq] at h1; rw [h1]

section
variable [Un]
/-- what is asked of what is known of numbers and texts that are not known -/
def UnS (P : Program) (un : BinOp → Nat → V → V → Option V) : Prop := ∀ op t x y v, un op t x y = some v → ∀ (μ : Mu) (a b : Value), RV μ x a → RV μ y b → ∃ z, RV μ v z ∧ ∀ (X Y : Operand) (w : World), (do eqGuard op t X Y a b; binOp op t a b : Sem Value).run P w = .ok z w
theorem env_of {P : Program} {nf nt : Nat} {ftab : R (R (R (Option Func)))} {ttab : R (R (R (Option TypeInfo)))} {un : BinOp → Nat → V → V → Option V} {sm : Nat → Sm} {ds : Nat → Bool}
    (hf : (flat3 ftab).take nf = P.funcs.toList.map some) (ht : (flat3 ttab).take nt = P.types.toList.map some) (hn : (P.funcs.toList.all fun fn => !(fn.name == "runtime.NumGoroutine")) = true)
    (hm : P.follows .mixedOrders = true) (hu : UnS P un) (h1 : nf ≤ 4096) (h2 : nt ≤ 4096) :
    EnvOK { ft := fun f => Bool.casesOn (Nat.ble (Nat.succ f) nf) none (get3 ftab f), tt := fun t => Bool.casesOn (Nat.ble (Nat.succ t) nt) none (get3 ttab t), sm := sm, ds := ds, un := un, pg := P } P where
  ft f fn h := by
    have := tab_ok hf h1 h
    refine ⟨by simpa using this, ?_⟩
    have := List.all_eq_true.1 hn fn (List.mem_of_getElem? this)
    simpa using this
  tt t i h := by
    have h3 := tab_ok ht h2 h
    have hl : P.types[t]? = some i := by simpa using h3
    have hlt := (Array.getElem?_eq_some_iff.1 hl).1
    unfold Tables.info?
    rw [if_pos hlt]
    exact hl
  pg := rfl
  mixed := hm
  un := hu

/-! ### the world that a call starts in -/
def mu0 : Mu := fun g => if g < 32 then some (g, 256) else none
theorem gm0 : GM mu0 := fun g hg => ⟨256, by simp [mu0, hg]⟩
def hN : H := H.rec (motive := fun _ => H) (fun t _ => H.mk t 32) H.none
theorem hN_nx : hN.nx = 32 := rfl
theorem hN_get (id : Nat) : hN.get id = .x := by
  show H.get0 (O.all (O.all (O.all (O.all (O.all .x))))) id = .x
  unfold H.get0
  rw [O.get_all, O.get_all, O.get_all, O.get_all, O.get_all]
def sz : V := .i .u8 (Int.ofNat 0)
def so : V := .i .u8 (Int.ofNat 1)
def spaceR : R (R V) := .mk (.mk sz sz sz sz sz sz sz sz sz so so so so so sz sz) (R.all sz) (.mk so sz sz sz sz sz sz sz sz sz sz sz sz sz sz sz) (R.all sz) (R.all sz) (R.all sz) (R.all sz) (R.all sz) (R.all sz) (R.all sz) (R.all sz) (R.all sz) (R.all sz) (R.all sz) (R.all sz) (R.all sz)
def h0N (gm : Nat) : H := H.put hN gm .gi
def h0S (gs gm : Nat) : H := H.put (H.put hN gs (.g 256 (.c2 spaceR))) gm .gi
def vNat (v : V) : Nat := V.rec (motive := fun _ => Nat) 0 (fun _ => 0) (fun _ x => x.toNat) (fun _ => 0) (fun _ => 0) (fun _ _ _ _ _ => 0) (fun _ _ _ => 0) (fun _ _ => 0) (fun _ _ => 0) 0 (fun _ _ _ _ => 0) v
theorem space_at : ∀ i, i < 256 → (Cs.c2 spaceR).get i = .i .u8 (Lib.asciiSpaceTab.getD i 0) := by
  have hz : ∀ r : R V, (∀ i, R.get i r = sz ∨ R.get i r = so) → True := fun _ _ => trivial
  have key : ∀ i, (Cs.c2 spaceR).get i = sz ∨ (Cs.c2 spaceR).get i = so := by
    intro i
    show R.get (d0 i) (R.get (d1 i) spaceR) = sz ∨ R.get (d0 i) (R.get (d1 i) spaceR) = so
    cases d1 i <;> cases d0 i <;> first | exact .inl rfl | exact .inr rfl
  have hall : (List.range 256).all (fun i => vNat ((Cs.c2 spaceR).get i) == (Lib.asciiSpaceTab.getD i 0).toNat && decide (0 ≤ Lib.asciiSpaceTab.getD i 0)) = true := by decide +kernel
  intro i hi
  have h1 := List.all_eq_true.1 hall i (List.mem_range.2 hi)
  simp only [Bool.and_eq_true, beq_iff_eq, decide_eq_true_eq] at h1
  obtain ⟨h1, h2⟩ := h1
  rcases key i with h | h
  · rw [h] at h1 ⊢
    have h1 : 0 = (Lib.asciiSpaceTab.getD i 0).toNat := h1
    have : Lib.asciiSpaceTab.getD i 0 = 0 := by omega
    rw [this]; rfl
  · rw [h] at h1 ⊢
    have h1 : 1 = (Lib.asciiSpaceTab.getD i 0).toNat := h1
    have : Lib.asciiSpaceTab.getD i 0 = 1 := by omega
    rw [this]; rfl
theorem wr0N {W : World} {gm : Nat} (hgm : gm < 32) (hm : ∃ m, W.cell? ⟨gm, 0, none⟩ = some (.int .i64 m)) : WR mu0 (h0N gm) W := by
  have hget : ∀ id, id < 32768 → (h0N gm).get id ≠ .x → id = gm := fun id hid h => by
    by_cases e : id = gm
    · exact e
    · rw [h0N, get_put_ne hid (by omega) e, hN_get] at h; exact absurd rfl h
  refine ⟨by rw [h0N, nx_put]; decide, fun id hid => ?_, fun id hid h => ?_, fun i j hi hj ha hb c n n' h1 h2 => ?_⟩
  · rw [h0N, nx_put, hN_nx] at hid
    simp [mu0]; omega
  · obtain rfl := hget id hid h
    obtain ⟨m, hm⟩ := hm
    rw [World.cell?] at hm
    cases ho : W.heap[id]? with
    | none => simp [ho] at hm
    | some o =>
      refine ⟨id, 256, o, by simp [mu0, hgm], ho, ?_⟩
      rw [h0N, get_put_same]
      simp only [ho] at hm
      cases o with
      | cells arr e fr => exact ⟨arr, e, fr, m, rfl, by simpa using hm⟩
      | _ => simp at hm
  · rw [hget i hi ha, hget j hj hb]
theorem wr0S {P : Program} {W : World} {gs gm : Nat} (hgm : gm < 32) (hgs : gs < 32) (hne : gs ≠ gm) (hm : ∃ m, W.cell? ⟨gm, 0, none⟩ = some (.int .i64 m)) (hg : P.globalNamed "strings.asciiSpace" = some gs)
    (ht : Lib.TabIs P W "strings.asciiSpace" .u8 Lib.asciiSpaceTab) : WR mu0 (h0S gs gm) W := by
  have hget : ∀ id, id < 32768 → (h0S gs gm).get id ≠ .x → id = gm ∨ id = gs := fun id hid h => by
    by_cases e : id = gm
    · exact .inl e
    · rw [h0S, get_put_ne hid (by omega) e] at h
      by_cases e2 : id = gs
      · exact .inr e2
      · rw [get_put_ne hid (by omega) e2, hN_get] at h; exact absurd rfl h
  refine ⟨by rw [h0S, nx_put, nx_put]; decide, fun id hid => ?_, fun id hid h => ?_, fun i j hi hj ha hb c n n' h1 h2 => ?_⟩
  · rw [h0S, nx_put, nx_put, hN_nx] at hid
    simp [mu0]; omega
  · rcases hget id hid h with rfl | rfl
    · obtain ⟨m, hm⟩ := hm
      rw [World.cell?] at hm
      cases ho : W.heap[id]? with
      | none => simp [ho] at hm
      | some o =>
        refine ⟨id, 256, o, by simp [mu0, hgm], ho, ?_⟩
        rw [h0S, get_put_same]
        simp only [ho] at hm
        cases o with
        | cells arr e fr => exact ⟨arr, e, fr, m, rfl, by simpa using hm⟩
        | _ => simp at hm
    · unfold Lib.TabIs World.var? at ht
      rw [hg] at ht
      simp only [Option.bind_some] at ht
      cases ho : W.heap[id]? with
      | none => simp [ho] at ht
      | some o =>
        refine ⟨id, 256, o, by simp [mu0, hgs], ho, ?_⟩
        rw [h0S, get_put_ne (by omega) (by omega) hne, get_put_same]
        rw [ho] at ht
        cases o with
        | cells arr e fr =>
          have ht : some arr = _ := ht
          obtain rfl := Option.some.inj ht
          refine ⟨_, e, fr, rfl, by simp [Lib.asciiSpaceTab_length], by decide, by simp [Lib.asciiSpaceTab_length], fun i hi => ?_⟩
          refine ⟨.int .u8 (Lib.asciiSpaceTab.getD i 0), ?_, by rw [space_at i hi]; rfl⟩
          have hl : i < Lib.asciiSpaceTab.length := by rw [Lib.asciiSpaceTab_length]; exact hi
          simp [List.getD, hl]
        | _ => simp at ht
  · have e : ∀ i, (i = gm ∨ i = gs) → mu0 i = some (i, 256) := fun i h => by rcases h with rfl | rfl <;> simp [mu0, *]
    rw [e i (hget i hi ha)] at h1
    rw [e j (hget j hj hb)] at h2
    have e1 := (Prod.mk.inj (Option.some.inj h1)).1
    have e2 := (Prod.mk.inj (Option.some.inj h2)).1
    rw [e1, e2]
/-- nothing that was there before the call may be written -/
def noWr (h : H) : Prop := ∀ id, id < 32768 → ¬ wrb (h.get id)
theorem noWr0N (gm : Nat) (hgm : gm < 32) : noWr (h0N gm) := fun id hid h => by
  by_cases e : id = gm
  · subst e; rw [h0N, get_put_same] at h; exact h
  · rw [h0N, get_put_ne hid (by omega) e, hN_get] at h; exact h
theorem noWr0S (gs gm : Nat) (hgs : gs < 32) (hgm : gm < 32) : noWr (h0S gs gm) := fun id hid h => by
  by_cases e : id = gm
  · subst e; rw [h0S, get_put_same] at h; exact h
  · rw [h0S, get_put_ne hid (by omega) e] at h
    by_cases e2 : id = gs
    · subst e2; rw [get_put_same] at h; exact h
    · rw [get_put_ne hid (by omega) e2, hN_get] at h; exact h
theorem below_of {μ μ' : Mu} {h h' : H} {w w' : World} (hn : noWr h) (e : Ext μ h w μ' h' w') : Below w.heap.size w w' :=
  ⟨e.os, e.tape, e.out, e.size, fun k hk => e.keep k hk fun ⟨id, n, hid, hw, _⟩ => hn id hid hw⟩

/-! ### a call, evaluated -/
theorem calls_of {P : Program} {E : Env} (ok : EnvOK E P) (sok : SumOK E P) {n f : Nat} {fn : Func} {c : Code} (hf : P.funcs[f]? = some fn) (hn : (fn.name == "runtime.NumGoroutine") = false) (hb : fn.body = some c)
    {args : V} {h : H} {k : K1} (e : callF E n false f args h k = true) {μ : Mu} {w : World} {xs : Array Value} (gm : GM μ) (wr : WR μ h w) (hr : RL μ args xs.toList) :
    Calls P f xs w fun e w' => ∃ v, e = .returned v ∧ PK μ h w k v w' := by
  have := (callF_sound ok sok n).1 f args h k e μ w xs.toList gm wr hr
  have hx : xs.toList.toArray = xs := by simp
  rw [hx, run_enter hf hn hb] at this
  exact (callsIn_wide.1 (show CallsIn Fence.wide 0 P f xs w _ from this)).mono fun e w' h => by
    cases e with
    | returned v => exact ⟨v, rfl, h⟩
    | _ => exact h.elim
/-- a law that answers true -/
def isT (v : V) (_ : H) : Bool := qB (fun b => b) v
theorem law_of {P : Program} {E : Env} (ok : EnvOK E P) (sok : SumOK E P) {n f : Nat} {fn : Func} {c : Code} (hf : P.funcs[f]? = some fn) (hn : (fn.name == "runtime.NumGoroutine") = false) (hb : fn.body = some c)
    {args : V} {h : H} (e : callF E n false f args h isT = true) {w : World} {xs : Array Value} (wr : WR mu0 h w) (hw : noWr h) (hr : RL mu0 args xs.toList) :
    Calls P f xs w fun e w' => e = .returned (.bool true) ∧ Below w.heap.size w w' :=
  (calls_of ok sok hf hn hb e gm0 wr hr).mono fun e w' ⟨v, hv, μ', h', a, h1, h2, h3, h4⟩ => by
    obtain ⟨b, rfl, hb⟩ := qB_inv h4
    have hb : b = true := hb
    subst hb
    have hv' : v = .bool true := h1
    rw [hv, hv']
    exact ⟨rfl, below_of hw h3⟩
end

/-! ### the row -/
section
variable {H : Type} {enc : TypeId × Value → H}
theorem trodAll_below {P : Program} (hl : laidOutB P = true) {W W' : World} (hB : Below W.heap.size W W') : ∀ (ts : List TypeId) (vs : List Value) (ds : List (DataW H)) (ps : List MemPlace), (ts.all fun t => P.readableRec t && decide (t < P.types.size)) = true →
    (∀ x ∈ ps, x.block < W.heap.size) → DataW.TrodAll enc P W 0 (fun _ => true) true ts vs ds ps → DataW.TrodAll enc P W' 0 (fun b => decide (b < W.heap.size)) true ts vs ds ps
  | [], [], [], _, _, _, h => h
  | [], [], _ :: _, _, _, _, h => h.elim
  | [], _ :: _, [], _, _, _, h => h.elim
  | [], _ :: _, _ :: _, _, _, _, h => h.elim
  | _ :: _, [], [], _, _, _, h => h.elim
  | _ :: _, [], _ :: _, _, _, _, h => h.elim
  | _ :: _, _ :: _, [], _, _, _, h => h.elim
  | t :: ts, v :: vs, d :: ds, ps, hr, hp, h => by
    obtain ⟨p, q, h1, h2, e⟩ := h
    rw [List.all_cons, Bool.and_eq_true, Bool.and_eq_true, decide_eq_true_eq] at hr
    exact ⟨p, q, RowKit.Below.trod hl hr.1.1 hr.1.2 h1 hB (fun x hx => hp x (by rw [e]; exact List.mem_append_left _ hx)),
      trodAll_below hl hB ts vs ds q hr.2 (fun x hx => hp x (by rw [e]; exact List.mem_append_right _ hx)) h2, e⟩
theorem post_true {P : Program} {s : ChangeSpec} {fn : Func} {tb : TypeId} (hb : P.underlying tb = some .bool) (hrt : fn.resultTypes = #[tb]) (hl : laidOutB P = true) (hpar : (fn.params.toList.all fun t => P.readableRec t && decide (t < P.types.size)) = true)
    (hvars : s.vars = []) {W W' : World} {args : Array Value} {ds gs : List (DataW H)} {before : List MemPlace} {apart fresh handsOn : Bool} (hW : DataW.Whole enc P fn.params.toList s.vars apart W args.toList ds gs before)
    (hr : (s.fn H (ds ++ gs)).results = [.lit (.bool true)]) (ha : (s.fn H (ds ++ gs)).args = ds) (hv : (s.fn H (ds ++ gs)).vars = []) (hB : Below W.heap.size W W') : s.post enc P fn apart fresh handsOn false W args (.bool true) W' := by
  have hlt := hW.lt
  obtain ⟨p, q, h1, h2, e, h3, h4⟩ := id hW
  rw [hvars] at h2
  have hq : gs = [] ∧ q = [] := by
    cases gs with
    | nil => exact ⟨rfl, h2⟩
    | cons g gs => exact h2.elim
  obtain ⟨rfl, rfl⟩ := hq
  refine ⟨ds, [], before, [], p, [], hW, ?_, ?_, ?_, hB.frame _, fun h => by cases h⟩
  · rw [hrt, hr]
    exact ChangeShapes.trodAll_mk1 (RowKit.shut_bool hb _)
  · rw [ha]
    exact trodAll_below hl hB _ _ _ _ hpar (fun x hx => hlt x (by rw [e]; simpa using hx)) h1
  · rw [hv, hvars]; exact rfl

/-- as the kit's, the world's shape kept -/
theorem returns_both {a : Assume} {C : Checked} {os : Os} {f : FuncId} {fn : Func} {s : ChangeSpec} {conds : List PathCond} {apart fresh handsOn again : Bool} {X : World → Array Value → Prop}
    (hX : ∀ (w w' : World) (args : Array Value), w.heap = w'.heap → X w args → X w' args)
    (own : ownKnob C.prog.godebug = none) (started : os.Started) (noInit : C.prog.inits.idxOf? f = none) (hfn : C.prog.funcs[f]? = some fn)
    (witness : ∃ (w : World) (tape : Tape) (i : Input), w.os = os ∧ (w.forCall tape i).Shaped C.prog ∧ i.vars = [] ∧ Input.okWide C.prog (w.forCall tape i) .any w.heap.size f i ∧
      ((s.pre enc C.prog fn conds apart (w.forCall tape i).memory i.args ∧ X (w.forCall tape i).memory i.args) ∧ sizedMet enc C.prog fn (OpenSpec.ofChange s) apart (w.forCall tape i).memory i.args) ∧ a.holds C.prog (lone (Frame.enter C.prog f i.args .normal) [] (w.forCall tape i)))
    (contract : ∀ (W : World) (base : Nat) (args : Array Value) (ds gs : List (DataW H)) (before : List MemPlace),
      (∀ (j : Nat) t v, fn.params[j]? = some t → args[j]? = some v → Value.okWide C.prog W .any base t v) →
      DataW.Whole enc C.prog fn.params.toList s.vars apart W args.toList ds gs before →
      X W args → W.ShapedOpen C.prog →
      Calls C.prog f args W fun e W' => ∃ v, e = .returned v ∧ s.post enc C.prog fn apart fresh handsOn again W args v W') :
    ReturnsInHanded a C os f .any (fun w args => (s.pre enc C.prog fn conds apart w args ∧ X w args) ∧ sizedMet enc C.prog fn (OpenSpec.ofChange s) apart w args) (s.post enc C.prog fn apart fresh handsOn again) := by
  refine returnsInHanded_of_calls own started noInit witness ?_
  intro w tape i _ hsh _ hok hpre hholds
  obtain ⟨_, _, _, fn', hfn', _, _, _, _, hval⟩ := hok
  have e : fn' = fn := Option.some.inj (hfn'.symm.trans hfn)
  subst e
  obtain ⟨⟨⟨ds, gs, before, hw, hc⟩, hx⟩, hz⟩ := hpre
  have hw' := DataW.Whole.of_heap (w' := w.forCall tape i) (by rfl) hw
  refine (contract (w.forCall tape i) w.heap.size i.args ds gs before hval hw' (hX _ _ _ (by rfl) hx) hsh).mono fun e W' ⟨v, he, hp⟩ => ?_
  subst he
  exact ChangeSpec.post_blind hp
end
end
end Go.Ev

set_option linter.constructorNameAsVariable false
set_option linter.unusedVariables false
set_option linter.unusedSimpArgs false
set_option linter.unusedSectionVars false
namespace Go.Ev
open Go Go.RowKit
noncomputable section

/-! ### a number that is below or above all that it is held against; a text that is none of some -/
def kLo (b : Nat) (op : BinOp) (c : Nat) : Option Bool := Bool.rec (motive := fun _ => Option Bool) none
  (match op with | .eql => some false | .neq => some true | .lss => some true | .leq => some true | .gtr => some false | .geq => some false | _ => none) (Nat.ble b c)
def kHi (b : Nat) (op : BinOp) (c : Nat) : Option Bool := Bool.rec (motive := fun _ => Option Bool) none
  (match op with | .eql => some false | .neq => some true | .lss => some false | .leq => some false | .gtr => some true | .geq => some true | _ => none) (Nat.ble c b)
def oI64 (g : Nat → Option V) (v : V) : Option V := oI (fun k x => Bool.rec (motive := fun _ => Option V) none (Int.rec (motive := fun _ => Option V) g (fun _ => none) x) (Nat.beq (kno k) 3)) v
def isUn (n : Nat) (v : V) : Bool := qY (Nat.beq n) v
/-- the unknown number 32768 -/
def unK (f : BinOp → Nat → Option Bool) (op : BinOp) (_ : Nat) (x y : V) : Option V :=
  Bool.rec (motive := fun _ => Option V) none (oI64 (fun c => Option.rec (motive := fun _ => Option V) none (fun b => some (.b b)) (f op c)) y) (isUn 32768 x)
/-- the unknown text 32769 -/
def unT (L : List Nat) (op : BinOp) (_ : Nat) (x y : V) : Option V :=
  match op with
  | .eql => Bool.rec (motive := fun _ => Option V)
      (Bool.rec (motive := fun _ => Option V) none (oS (fun c => Bool.rec (motive := fun _ => Option V) none (some (.b false)) (memN c L)) x) (isUn 32769 y))
      (oS (fun c => Bool.rec (motive := fun _ => Option V) none (some (.b false)) (memN c L)) y) (isUn 32769 x)
  | _ => none

section
variable [Un] {P : Program}
theorem isUn_rel {n : Nat} (hn : 32768 ≤ n) {v : V} (h : isUn n v = true) {μ : Mu} {a : Value} (hr : RV μ v a) : a = Un.val n := by
  obtain ⟨id, rfl, h1⟩ := qY_inv h
  rw [Nat.beq_eq] at h1
  subst h1
  rcases hr with ⟨h, _⟩ | ⟨_, h⟩
  · omega
  · exact h
theorem oI64_inv {g : Nat → Option V} {v r : V} (h : oI64 g v = some r) : ∃ c : Nat, v = .i .i64 (Int.ofNat c) ∧ g c = some r := by
  obtain ⟨k, x, rfl, h⟩ := oI_inv h
  obtain ⟨h1, h2⟩ := bool_inv h
  have hk : k = .i64 := by cases k <;> first | rfl | cases h1
  subst hk
  cases x with
  | negSucc n => cases h2
  | ofNat c => exact ⟨c, rfl, h2⟩
def cmpI (op : BinOp) (a b : Int) (r : Bool) : Prop := match op with | .eql => r = (a == b) | .neq => r = (a != b) | .lss => r = decide (a < b) | .leq => r = decide (a ≤ b) | .gtr => r = decide (a > b) | .geq => r = decide (a ≥ b) | _ => False
theorem unK_sound {f : BinOp → Nat → Option Bool} {kv : Int} (hk : Un.val 32768 = .int .i64 kv) (hf : ∀ op c r, f op c = some r → cmpI op kv (c : Int) r) : UnS P (unK f) := by
  intro op t x y v e μ a b ha hb
  obtain ⟨e1, e2⟩ := bool_inv e
  obtain ⟨c, rfl, e3⟩ := oI64_inv e2
  obtain ⟨r, e4, e5⟩ := opt_inv e3
  obtain rfl := Option.some.inj e5
  have hA := isUn_rel (by decide) e1 ha
  rw [hk] at hA
  subst hA
  obtain rfl := rv_i hb
  have hc := hf op c r e4
  refine ⟨.bool r, rfl, fun X Y w => ?_⟩
  have hg := eqGuard_ok (P := P) (op := op) (t := t) (x := X) (y := Y) (a := .int .i64 kv) (b := .int .i64 (Int.ofNat c)) (by simp) (fun h => by cases h) w
  simp only [Sem.run_bind, hg, Result.andThen_ok]
  cases op <;> first | exact hc.elim | skip
  all_goals
    simp only [cmpI] at hc
    subst hc
    simp [binOp, Op.intCmp]
theorem kLo_ok {b : Nat} {kv : Int} (h : kv < b) : ∀ op c r, kLo b op c = some r → cmpI op kv (c : Int) r := by
  intro op c r e
  obtain ⟨e1, e2⟩ := bool_inv e
  have := le_of_ble e1
  cases op <;> first | (cases e2; done) | skip
  all_goals
    obtain rfl := Option.some.inj e2
    simp only [cmpI]
    symm
    simp
    omega
theorem kHi_ok {b : Nat} {kv : Int} (h : (b : Int) < kv) : ∀ op c r, kHi b op c = some r → cmpI op kv (c : Int) r := by
  intro op c r e
  obtain ⟨e1, e2⟩ := bool_inv e
  have := le_of_ble e1
  cases op <;> first | (cases e2; done) | skip
  all_goals
    obtain rfl := Option.some.inj e2
    simp only [cmpI]
    symm
    simp
    omega
theorem str_eq_run {t : Nat} {s s' : ByteArray} (h : enc s.data.toList ≠ enc s'.data.toList) (X Y : Operand) (w : World) : (do eqGuard .eql t X Y (.string s) (.string s'); binOp .eql t (.string s) (.string s') : Sem Value).run P w = .ok (.bool false) w := by
  have hg := eqGuard_ok (P := P) (op := .eql) (t := t) (x := X) (y := Y) (a := .string s) (b := .string s') (by simp) (fun h => by cases h) w
  simp only [Sem.run_bind, hg, Result.andThen_ok]
  have : (s.toList == s'.toList) = false := by
    rw [beq_eq_false_iff_ne, ByteArray.toList_eq, ByteArray.toList_eq]
    intro e; exact h (by rw [e])
  simp [binOp, Op.stringOp, this]
theorem unT_sound {L : List Nat} {s : ByteArray} (hs : Un.val 32769 = .string s) (hL : ∀ c ∈ L, enc s.data.toList ≠ c) : UnS P (unT L) := by
  intro op t x y v e μ a b ha hb
  cases op <;> first | (cases e; done) | skip
  have e : Bool.rec (motive := fun _ => Option V)
      (Bool.rec (motive := fun _ => Option V) none (oS (fun c => Bool.rec (motive := fun _ => Option V) none (some (.b false)) (memN c L)) x) (isUn 32769 y))
      (oS (fun c => Bool.rec (motive := fun _ => Option V) none (some (.b false)) (memN c L)) y) (isUn 32769 x) = some v := e
  cases hx : isUn 32769 x with
  | true =>
    rw [hx] at e
    obtain ⟨c, rfl, e1⟩ := oS_inv e
    obtain ⟨e2, e3⟩ := bool_inv e1
    obtain rfl := Option.some.inj e3
    have hA := isUn_rel (by decide) hx ha
    rw [hs] at hA
    subst hA
    obtain ⟨s', rfl, hs'⟩ := rv_s hb
    exact ⟨.bool false, rfl, fun X Y w => str_eq_run (by rw [hs']; exact hL c ((memN_iff _ _).1 e2)) X Y w⟩
  | false =>
    rw [hx] at e
    obtain ⟨e0, e⟩ := bool_inv e
    obtain ⟨c, rfl, e1⟩ := oS_inv e
    obtain ⟨e2, e3⟩ := bool_inv e1
    obtain rfl := Option.some.inj e3
    have hB := isUn_rel (by decide) e0 hb
    rw [hs] at hB
    subst hB
    obtain ⟨s', rfl, hs'⟩ := rv_s ha
    exact ⟨.bool false, rfl, fun X Y w => str_eq_run (by rw [hs']; exact fun h => hL c ((memN_iff _ _).1 e2) h.symm) X Y w⟩

/-! ### a function without arguments whose answer is true from whatever memory that holds the variables -/
def eqU8 (a b : V) : Bool := qI (fun k x => qI (fun k' y => Bool.rec (motive := fun _ => Bool) false (Bool.rec (motive := fun _ => Bool) false (iEq x y) (Nat.beq (kno k') 4)) (Nat.beq (kno k) 4)) b) a
def sameL : List V → List V → Bool
  | [], [] => true
  | a :: l, b :: m => Bool.rec (motive := fun _ => Bool) false (sameL l m) (eqU8 a b)
  | _, _ => false
def isSp (cs : Cs) : Bool := Cs.rec (motive := fun _ => Bool) (fun _ => false) (fun r => sameL (flat2 r) (flat2 spaceR)) (fun _ => false) cs
def isGsp (b : B) : Bool := B.rec (motive := fun _ => Bool) false (fun n cs => Bool.rec (motive := fun _ => Bool) false (isSp cs) (Nat.beq n 256)) (fun _ _ _ _ _ => false) (fun _ => false) (fun _ _ => false) false (fun _ _ _ _ _ _ _ _ => false) false b
def isGi (b : B) : Bool := B.rec (motive := fun _ => Bool) false (fun _ _ => false) (fun _ _ _ _ _ => false) (fun _ => false) (fun _ _ => false) false (fun _ _ _ _ _ _ _ _ => false) true b
def gK (gs gm : Nat) (v : V) (h : H) : Option V :=
  Bool.rec (motive := fun _ => Option V) none (Bool.rec (motive := fun _ => Option V) none (Bool.rec (motive := fun _ => Option V) none (some (.b true)) (isGi (H.get h gm))) (isGsp (H.get h gs))) (qN true v)
theorem eqU8_eq {a b : V} (h : eqU8 a b = true) : a = b := by
  obtain ⟨k, x, rfl, g1⟩ := qI_inv h
  obtain ⟨k', y, rfl, g2⟩ := qI_inv g1
  obtain ⟨h1, g3⟩ := boolq_inv g2
  obtain ⟨h2, h3⟩ := boolq_inv g3
  have e1 : k = .u8 := by cases k <;> first | rfl | cases h1
  have e2 : k' = .u8 := by cases k' <;> first | rfl | cases h2
  rw [iEq_eq, beq_iff_eq] at h3
  rw [e1, e2, h3]
theorem sameL_eq : ∀ {l m : List V}, sameL l m = true → l = m
  | [], [], _ => rfl
  | a :: l, b :: m, h => by
    obtain ⟨h1, h2⟩ := boolq_inv (show Bool.rec (motive := fun _ => Bool) false (sameL l m) (eqU8 a b) = true from h)
    rw [eqU8_eq h1, sameL_eq h2]
  | [], _ :: _, h => by cases h
  | _ :: _, [], h => by cases h
theorem isSp_at {cs : Cs} (h : isSp cs = true) : 256 ≤ cs.room ∧ ∀ i, i < 256 → cs.get i = (Cs.c2 spaceR).get i := by
  cases cs with
  | c1 r => cases h
  | c3 r => cases h
  | c2 r =>
    have e : flat2 r = flat2 spaceR := sameL_eq h
    refine ⟨Nat.le_refl _, fun i hi => ?_⟩
    have h1 := flat2_get r (d0 i) (d1 i)
    have h2 := flat2_get spaceR (d0 i) (d1 i)
    rw [e, h2] at h1
    exact (Option.some.inj h1).symm
theorem isGsp_inv {b : B} (h : isGsp b = true) : ∃ cs, b = .g 256 cs ∧ isSp cs = true := by
  cases b with
  | g n cs =>
    obtain ⟨h1, h2⟩ := boolq_inv (show Bool.rec (motive := fun _ => Bool) false (isSp cs) (Nat.beq n 256) = true from h)
    rw [Nat.beq_eq] at h1
    subst h1
    exact ⟨cs, rfl, h2⟩
  | _ => cases h
theorem isGi_inv {b : B} (h : isGi b = true) : b = .gi := by
  cases b with
  | gi => rfl
  | _ => cases h
theorem wr_below {μ : Mu} {h : H} {w w' : World} (wr : WR μ h w) (hB : Below w.heap.size w w') : WR μ h w' ∧ Ext μ h w μ h w' := by
  refine ⟨⟨wr.nx, wr.fresh, fun id hid ha => ?_, wr.inj⟩, ⟨fun _ _ h => h, hB.size, fun c hc => .inl hc, fun c hc => .inl hc, fun c hc _ => hB.block c hc, hB.os, hB.output, hB.tape⟩⟩
  obtain ⟨c, n, o, h1, h2, h3⟩ := wr.blk id hid ha
  exact ⟨c, n, o, h1, by rw [hB.block c (lt_size h2)]; exact h2, h3⟩
theorem pure_known {E : Env} (ok : EnvOK E P) (sok : SumOK E P) {n f gs gm : Nat} (hgs : gs < 32) (hgm : gm < 32) (hne : gs ≠ gm) {fn : Func} {c : Code} (hf : P.funcs[f]? = some fn) (hn : (fn.name == "runtime.NumGoroutine") = false) (hb : fn.body = some c)
    (e : callF E n false f .n (h0S gs gm) isT = true) : PureS P f (gK gs gm) := by
  intro μ h w args xs v gmu wr hr ev
  obtain ⟨e1, ev⟩ := bool_inv ev
  obtain ⟨e2, ev⟩ := bool_inv ev
  obtain ⟨e3, ev⟩ := bool_inv ev
  obtain rfl := Option.some.inj ev
  obtain ⟨rfl, _⟩ := qN_inv e1
  obtain rfl : xs = [] := hr
  obtain ⟨cs, h1, h2⟩ := isGsp_inv e2
  have h3 := isGi_inv e3
  obtain ⟨hroom, hsp⟩ := isSp_at h2
  -- the memory of the variables alone
  obtain ⟨μr, hμr⟩ : ∃ m : Mu, m = fun g => if g < 32 then μ g else none := ⟨_, rfl⟩
  have gmr : GM μr := fun g hg => by obtain ⟨n, hn⟩ := gmu g hg; exact ⟨n, by rw [hμr]; simp [hg, hn]⟩
  have hget : ∀ id, id < 32768 → (h0S gs gm).get id ≠ .x → id = gm ∨ id = gs := fun id hid h => by
    by_cases e : id = gm
    · exact .inl e
    · rw [h0S, get_put_ne hid (by omega) e] at h
      by_cases e2 : id = gs
      · exact .inr e2
      · rw [get_put_ne hid (by omega) e2, hN_get] at h; exact absurd rfl h
  have wrr : WR μr (h0S gs gm) w := by
    refine ⟨by rw [h0S, nx_put, nx_put]; decide, fun id hid => ?_, fun id hid ha => ?_, fun i j hi hj ha hb c n n' q1 q2 => ?_⟩
    · rw [h0S, nx_put, nx_put, hN_nx] at hid
      rw [hμr]; simp; omega
    · rcases hget id hid ha with rfl | rfl
      · obtain ⟨c, n, o, b1, b2, b3⟩ := wr.blk id hid (by rw [h3]; simp)
        refine ⟨c, n, o, by rw [hμr]; simp [hgm, b1], b2, ?_⟩
        rw [h3] at b3
        rw [h0S, get_put_same]
        exact b3
      · obtain ⟨c, n, o, b1, b2, b3⟩ := wr.blk id hid (by rw [h1]; simp)
        refine ⟨c, n, o, by rw [hμr]; simp [hgs, b1], b2, ?_⟩
        rw [h1] at b3
        rw [h0S, get_put_ne hid (by omega) hne, get_put_same]
        obtain ⟨arr, el, fr, rfl, hsz, hc⟩ := b3
        refine ⟨arr, el, fr, rfl, hsz, by decide, hc.2.1, fun i hi => ?_⟩
        obtain ⟨x, x1, x2⟩ := hc.2.2 i hi
        rw [hsp i hi, space_at i hi] at x2
        exact ⟨x, x1, by rw [space_at i hi]; exact x2⟩
    · have e : ∀ i, (i = gm ∨ i = gs) → ∃ m, μr i = some (i, m) := fun i h => by
        have hi : i < 32 := by rcases h with rfl | rfl <;> assumption
        exact gmr i hi
      obtain ⟨m1, e1⟩ := e i (hget i hi ha)
      obtain ⟨m2, e2⟩ := e j (hget j hj hb)
      rw [e1] at q1
      rw [e2] at q2
      have e3 := (Prod.mk.inj (Option.some.inj q1)).1
      have e4 := (Prod.mk.inj (Option.some.inj q2)).1
      rw [e3, e4]
  refine ((callF_sound ok sok n).1 f .n (h0S gs gm) isT e μr w [] gmr wrr rfl).mono ?_
  rintro x w' ⟨μ', h', a, x1, x2, x3, x4⟩
  obtain ⟨b, rfl, hb⟩ := qB_inv x4
  have hb : b = true := hb
  subst hb
  have hB := below_of (noWr0S gs gm hgs hgm) x3
  obtain ⟨y1, y2⟩ := wr_below wr hB
  exact ⟨y1, y2, x1⟩
end
end
end Go.Ev

set_option linter.constructorNameAsVariable false
set_option linter.unusedVariables false
set_option linter.unusedSimpArgs false
set_option linter.unusedSectionVars false
namespace Go.Ev
open Go
noncomputable section
variable [Un] {P : Program}
/-- the known run of a program without asciiSpace, once evaluated: a call that answers true -/
def gKN (gm : Nat) (v : V) (h : H) : Option V :=
  Bool.rec (motive := fun _ => Option V) none (Bool.rec (motive := fun _ => Option V) none (some (.b true)) (isGi (H.get h gm))) (qN true v)
theorem pure_knownN {E : Env} (ok : EnvOK E P) (sok : SumOK E P) {n f gm : Nat} (hgm : gm < 32) {fn : Func} {c : Code} (hf : P.funcs[f]? = some fn) (hn : (fn.name == "runtime.NumGoroutine") = false) (hb : fn.body = some c)
    (e : callF E n false f .n (h0N gm) isT = true) : PureS P f (gKN gm) := by
  intro μ h w args xs v gmu wr hr ev
  obtain ⟨e1, ev⟩ := bool_inv ev
  obtain ⟨e3, ev⟩ := bool_inv ev
  obtain rfl := Option.some.inj ev
  obtain ⟨rfl, _⟩ := qN_inv e1
  obtain rfl : xs = [] := hr
  have h3 := isGi_inv e3
  obtain ⟨μr, hμr⟩ : ∃ m : Mu, m = fun g => if g < 32 then μ g else none := ⟨_, rfl⟩
  have gmr : GM μr := fun g hg => by obtain ⟨n, hn⟩ := gmu g hg; exact ⟨n, by rw [hμr]; simp [hg, hn]⟩
  have hget : ∀ id, id < 32768 → (h0N gm).get id ≠ .x → id = gm := fun id hid h => by
    by_cases e : id = gm
    · exact e
    · rw [h0N, get_put_ne hid (by omega) e, hN_get] at h; exact absurd rfl h
  have wrr : WR μr (h0N gm) w := by
    refine ⟨by rw [h0N, nx_put]; decide, fun id hid => ?_, fun id hid ha => ?_, fun i j hi hj ha hb c n n' q1 q2 => ?_⟩
    · rw [h0N, nx_put, hN_nx] at hid
      rw [hμr]; simp; omega
    · obtain rfl := hget id hid ha
      obtain ⟨c, n, o, b1, b2, b3⟩ := wr.blk id hid (by rw [h3]; simp)
      refine ⟨c, n, o, by rw [hμr]; simp [hgm, b1], b2, ?_⟩
      rw [h3] at b3
      rw [h0N, get_put_same]
      exact b3
    · rw [hget i hi ha, hget j hj hb]
  refine ((callF_sound ok sok n).1 f .n (h0N gm) isT e μr w [] gmr wrr rfl).mono ?_
  rintro x w' ⟨μ', h', a, x1, x2, x3, x4⟩
  obtain ⟨b, rfl, hb⟩ := qB_inv x4
  have hb : b = true := hb
  subst hb
  have hB := below_of (noWr0N gm hgm) x3
  obtain ⟨y1, y2⟩ := wr_below wr hB
  exact ⟨y1, y2, x1⟩
end
end Go.Ev
