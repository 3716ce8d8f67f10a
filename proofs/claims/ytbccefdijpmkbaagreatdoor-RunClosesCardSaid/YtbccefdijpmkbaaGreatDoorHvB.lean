/-
  Part of a proof: an evaluator of the model's code over abstract memory, and that it is sound against the model's weakest preconditions; no conditions.
-/
import Derived.Test.YtbccefdijpmkbaaGreatDoorHvA
import Derived.Laws.Sem
import Derived.Laws.Strings
import Derived.Laws.StructEq
set_option linter.constructorNameAsVariable false
set_option linter.unusedVariables false
set_option linter.unusedSimpArgs false
set_option linter.unusedSectionVars false
set_option linter.unusedSectionVars false
namespace Go.Ev
open Go

theorem enc_cons (b : UInt8) (l : List UInt8) : enc (b :: l) = b.toNat + 256 * enc l := rfl
theorem enc_nil : enc [] = 1 := rfl

theorem enc_bounds (l : List UInt8) : 256 ^ l.length ≤ enc l ∧ enc l < 2 * 256 ^ l.length := by
  induction l with
  | nil => simp [enc_nil]
  | cons b l ih =>
    have hb : b.toNat < 256 := by have := b.toNat_lt; simpa using this
    rw [enc_cons, List.length_cons, Nat.pow_succ]
    omega

theorem slen_enc (l : List UInt8) : slen (enc l) = l.length := by
  obtain ⟨h1, h2⟩ := enc_bounds l
  have e : (256 : Nat) ^ l.length = 2 ^ (8 * l.length) := by rw [Nat.pow_mul]
  have hlog : Nat.log2 (enc l) = 8 * l.length := by
    have hne : enc l ≠ 0 := by have : 0 < 256 ^ l.length := Nat.pow_pos (by decide); omega
    rw [e] at h1 h2
    have a1 : 8 * l.length ≤ Nat.log2 (enc l) := (Nat.le_log2 hne).2 h1
    have a2 : Nat.log2 (enc l) < 8 * l.length + 1 := (Nat.log2_lt hne).2 (by rw [Nat.pow_succ]; omega)
    omega
  show Nat.log2 (enc l) / 8 = l.length
  rw [hlog]; omega

theorem enc_shift (l : List UInt8) (i : Nat) (h : i ≤ l.length) : Nat.shiftRight (enc l) (8 * i) = enc (l.drop i) := by
  show enc l >>> (8 * i) = _
  induction i generalizing l with
  | zero => simp
  | succ i ih =>
    cases l with
    | nil => simp at h
    | cons b l =>
      have hb : b.toNat < 256 := by have := b.toNat_lt; simpa using this
      have : enc (b :: l) >>> (8 * (i + 1)) = enc l >>> (8 * i) := by
        rw [show 8 * (i + 1) = 8 + 8 * i by omega, Nat.shiftRight_add]
        congr 1
        rw [Nat.shiftRight_eq_div_pow, enc_cons]
        omega
      rw [this, ih l (by simpa using h)]
      rfl

theorem sat_enc (l : List UInt8) (i : Nat) (h : i < l.length) : sat (enc l) i = (l[i]).toNat := by
  show Nat.shiftRight (enc l) (8 * i) % 256 = _
  rw [enc_shift l i (by omega)]
  have e : l.drop i = l[i] :: l.drop (i + 1) := by simp
  have hb : (l[i]).toNat < 256 := by have := (l[i]).toNat_lt; simpa using this
  rw [e, enc_cons]
  omega

theorem enc_mod (l : List UInt8) (m : Nat) (h : m ≤ l.length) : enc l % 256 ^ m + 256 ^ m = enc (l.take m) := by
  induction m generalizing l with
  | zero => simp [enc_nil, Nat.mod_one]
  | succ m ih =>
    cases l with
    | nil => simp at h
    | cons b l =>
      have hb : b.toNat < 256 := by have := b.toNat_lt; simpa using this
      have ih' := ih l (by simpa using h)
      rw [List.take_succ_cons, enc_cons, enc_cons, ← ih']
      have hp : 0 < 256 ^ m := Nat.pow_pos (by decide)
      have e : (b.toNat + 256 * enc l) % 256 ^ (m + 1) = b.toNat + 256 * (enc l % 256 ^ m) := by
        rw [Nat.pow_succ, Nat.mul_comm (256 ^ m) 256, Nat.mod_mul]
        have h1 : (b.toNat + 256 * enc l) % 256 = b.toNat := by omega
        have h2 : (b.toNat + 256 * enc l) / 256 = enc l := by omega
        rw [h1, h2]
      rw [e, Nat.pow_succ]
      omega

theorem ssub_enc (l : List UInt8) (lo hi : Nat) (h1 : lo ≤ hi) (h2 : hi ≤ l.length) : ssub (enc l) lo hi = enc ((l.drop lo).take (hi - lo)) := by
  show Nat.shiftRight (enc l) (8 * lo) % 256 ^ (hi - lo) + 256 ^ (hi - lo) = _
  rw [enc_shift l lo (by omega), enc_mod _ _ (by simp; omega)]

theorem sapp_enc (a b : List UInt8) : sapp (enc a) (enc b) = enc (a ++ b) := by
  show enc a - 256 ^ slen (enc a) + enc b * 256 ^ slen (enc a) = _
  rw [slen_enc]
  induction a with
  | nil => simp [enc_nil]
  | cons x a ih =>
    have hp := (enc_bounds a).1
    rw [List.cons_append, enc_cons, enc_cons, ← ih, List.length_cons, Nat.pow_succ]
    have : enc b * (256 ^ a.length * 256) = 256 * (enc b * 256 ^ a.length) := by
      rw [← Nat.mul_assoc, Nat.mul_comm]
    rw [this]
    omega

theorem enc_inj {a b : List UInt8} (h : enc a = enc b) : a = b := by
  have hl : a.length = b.length := by rw [← slen_enc a, ← slen_enc b, h]
  induction a generalizing b with
  | nil => cases b with
    | nil => rfl
    | cons y b => simp at hl
  | cons x a ih =>
    cases b with
    | nil => simp at hl
    | cons y b =>
      have hx : x.toNat < 256 := by have := x.toNat_lt; simpa using this
      have hy : y.toNat < 256 := by have := y.toNat_lt; simpa using this
      rw [enc_cons, enc_cons] at h
      have e1 : x.toNat = y.toNat := by omega
      have e2 : enc a = enc b := by omega
      have : x = y := UInt8.toNat_inj.1 e1
      rw [this, ih e2 (by simpa using hl)]
end Go.Ev

set_option linter.unusedSectionVars false
namespace Go.Ev
noncomputable section
open Go

/-! ### places in rows -/
theorem e_eq {a b : Nat} (h : toOx (a % 8) = toOx (b % 8)) : a % 8 = b % 8 := toOx_inj (Nat.mod_lt _ (by decide)) (Nat.mod_lt _ (by decide)) h
theorem e0_eq {a b : Nat} (h : e0 a = e0 b) : a % 8 = b % 8 := e_eq h
theorem e1_eq {a b : Nat} (h : e1 a = e1 b) : a / 8 % 8 = b / 8 % 8 := e_eq (a := a / 8) (b := b / 8) h
theorem e2_eq {a b : Nat} (h : e2 a = e2 b) : a / 64 % 8 = b / 64 % 8 := e_eq (a := a / 64) (b := b / 64) h
theorem d_ne {s t : Nat} (hs : s < 512) (ht : t < 512) (h : s ≠ t) : e2 s ≠ e2 t ∨ e1 s ≠ e1 t ∨ e0 s ≠ e0 t := by
  by_cases h2 : e2 s = e2 t
  · by_cases h1 : e1 s = e1 t
    · by_cases h0 : e0 s = e0 t
      · exfalso
        have a2 := e2_eq h2
        have a1 := e1_eq h1
        have a0 := e0_eq h0
        omega
      · exact .inr (.inr h0)
    · exact .inr (.inl h1)
  · exact .inl h2

theorem ble_t {a b : Nat} (h : a ≤ b) : Nat.ble a b = true := by rwa [Nat.ble_eq]
theorem ble_f {a b : Nat} (h : ¬ a ≤ b) : Nat.ble a b = false := by
  cases e : Nat.ble a b with
  | false => rfl
  | true => exact absurd (by rwa [Nat.ble_eq] at e) h
theorem le_of_ble {a b : Nat} (h : Nat.ble a b = true) : a ≤ b := by rwa [Nat.ble_eq] at h

theorem rd_lt {t : Nat} (h : t < 512) (T : Tm) : rd t T = T1.get (e0 t) (T2.get (e1 t) (T3.get (e2 t) T)) := by
  unfold rd; rw [ble_t (by omega)]
theorem rd_ge {t : Nat} (h : ¬ t < 512) (T : Tm) : rd t T = .u := by
  unfold rd; rw [ble_f (by omega)]
theorem wr_lt {t : Nat} (h : t < 512) (v : V) (T : Tm) : wr t v T = T3.upd (e2 t) (T2.upd (e1 t) (T1.put (e0 t) v)) T := by
  unfold wr; rw [ble_t (by omega)]
theorem wr_ge {t : Nat} (h : ¬ t < 512) (v : V) (T : Tm) : wr t v T = T := by
  unfold wr; rw [ble_f (by omega)]

theorem rd_wr_same {t : Nat} (h : t < 512) (v : V) (T : Tm) : rd t (wr t v T) = v := by
  rw [rd_lt h, wr_lt h, T3.get_upd_same, T2.get_upd_same, T1.get_put_same]
theorem rd_wr_ne {s t : Nat} (h : s ≠ t) (v : V) (T : Tm) : rd s (wr t v T) = rd s T := by
  by_cases hs : s < 512
  · by_cases ht : t < 512
    · rw [rd_lt hs, rd_lt hs, wr_lt ht]
      by_cases x2 : e2 s = e2 t
      · rw [x2, T3.get_upd_same]
        by_cases x1 : e1 s = e1 t
        · rw [x1, T2.get_upd_same]
          rcases d_ne hs ht h with h2 | h1 | h0
          · exact absurd x2 h2
          · exact absurd x1 h1
          · rw [T1.get_put_ne h0]
        · rw [T2.get_upd_ne x1]
      · rw [T3.get_upd_ne x2]
    · rw [wr_ge ht]
  · rw [rd_ge hs, rd_ge hs]

theorem withR_eq {γ : Type} (t : Nat) (k : (Tm → V) → γ) : withR t k = k (rd t) := by
  unfold withR
  by_cases h : t < 512
  · rw [ble_t (by omega)]
    show T3.selG _ _ = _
    rw [T3.selG_eq]
    show T2.selG _ _ = _
    rw [T2.selG_eq]
    show T1.selG _ _ = _
    rw [T1.selG_eq]
    congr 1
    funext T
    exact (rd_lt h T).symm
  · rw [ble_f (by omega)]
    show k _ = _
    congr 1
    funext T
    exact (rd_ge h T).symm

/-- what an operand stands for -/
def gO (x : Operand) (T : Tm) : V :=
  match x with
  | .tmp t => rd t T
  | .const v => vOf v
  | .global g => Bool.casesOn (Nat.ble (Nat.succ g) 32) .u (.r (.pt g 0))
  | .func f => .f f .n .n
theorem withO_eq {γ : Type} (x : Operand) (k : (Tm → V) → γ) : withO x k = k (gO x) := by
  cases x <;> first | exact withR_eq _ k | rfl
def gL (l : List Operand) (T : Tm) : V := match l with | [] => .n | x :: l => .c (gO x T) (gL l T)
theorem withL_eq {γ : Type} (l : List Operand) : ∀ (k : (Tm → V) → γ), withL l k = k (gL l) := by
  induction l with
  | nil => intro k; rfl
  | cons x l ih =>
    intro k
    show withO x _ = _
    rw [withO_eq]
    show withL l _ = _
    rw [ih]
    rfl
/-- a result is laid into its place -/
def pD (nt : Nat) (d : Option Nat) (v : V) (T : Tm) : Tm := match d with | none => T | some t => if t < nt then wr t v T else T
theorem withP_eq {γ : Type} (nt : Nat) (d : Option Nat) (k : (V → Tm → Tm) → γ) : withP nt d k = k (pD nt d) := by
  unfold withP
  cases d with
  | none => rfl
  | some t =>
    show Bool.casesOn (motive := fun _ => γ) _ _ _ = _
    by_cases h : t < nt ∧ t < 512
    · rw [ble_t (by show t + 1 ≤ min nt 512; omega)]
      show T3.selU _ _ = _
      rw [T3.selU_eq]
      show T2.selU _ _ = _
      rw [T2.selU_eq]
      show T1.selP _ _ = _
      rw [T1.selP_eq]
      congr 1
      funext v T
      simp only [pD, h.1, if_true]
      exact (wr_lt h.2 v T).symm
    · rw [ble_f (by show ¬ t + 1 ≤ min nt 512; omega)]
      show k _ = _
      congr 1
      funext v T
      simp only [pD]
      split
      · exact (wr_ge (by omega) v T).symm
      · rfl

/-! ### blocks in a heap -/
theorem O_ne {s t : Nat} (hs : s < 32768) (ht : t < 32768) (h : s ≠ t) : e4 s ≠ e4 t ∨ e3 s ≠ e3 t ∨ e2 s ≠ e2 t ∨ e1 s ≠ e1 t ∨ e0 s ≠ e0 t := by
  by_cases h4 : e4 s = e4 t
  · by_cases h3 : e3 s = e3 t
    · by_cases h2 : e2 s = e2 t
      · by_cases h1 : e1 s = e1 t
        · by_cases h0 : e0 s = e0 t
          · exfalso
            have a4 : s / 4096 % 8 = t / 4096 % 8 := toOx_inj (a := s / 4096 % 8) (b := t / 4096 % 8) (Nat.mod_lt _ (by decide)) (Nat.mod_lt _ (by decide)) h4
            have a3 : s / 512 % 8 = t / 512 % 8 := toOx_inj (a := s / 512 % 8) (b := t / 512 % 8) (Nat.mod_lt _ (by decide)) (Nat.mod_lt _ (by decide)) h3
            have a2 : s / 64 % 8 = t / 64 % 8 := toOx_inj (a := s / 64 % 8) (b := t / 64 % 8) (Nat.mod_lt _ (by decide)) (Nat.mod_lt _ (by decide)) h2
            have a1 : s / 8 % 8 = t / 8 % 8 := toOx_inj (a := s / 8 % 8) (b := t / 8 % 8) (Nat.mod_lt _ (by decide)) (Nat.mod_lt _ (by decide)) h1
            have a0 : s % 8 = t % 8 := toOx_inj (a := s % 8) (b := t % 8) (Nat.mod_lt _ (by decide)) (Nat.mod_lt _ (by decide)) h0
            omega
          · exact .inr (.inr (.inr (.inr h0)))
        · exact .inr (.inr (.inr (.inl h1)))
      · exact .inr (.inr (.inl h2))
    · exact .inr (.inl h3)
  · exact .inl h4

theorem get0_put0_same (t : HT) (id : Nat) (b : B) : H.get0 (H.put0 t id b) id = b := by
  unfold H.get0 H.put0
  rw [H5.get_upd_same, H4.get_upd_same, H3.get_upd_same, H2.get_upd_same, H1.get_put_same]
theorem get0_put0_ne {s t : Nat} (hs : s < 32768) (ht : t < 32768) (h : s ≠ t) (T : HT) (b : B) : H.get0 (H.put0 T t b) s = H.get0 T s := by
  unfold H.get0 H.put0
  by_cases h4 : e4 s = e4 t
  · rw [h4, H5.get_upd_same]
    by_cases h3 : e3 s = e3 t
    · rw [h3, H4.get_upd_same]
      by_cases h2 : e2 s = e2 t
      · rw [h2, H3.get_upd_same]
        by_cases h1 : e1 s = e1 t
        · rw [h1, H2.get_upd_same]
          have h0 : e0 s ≠ e0 t := by
            rcases O_ne hs ht h with x | x | x | x | x
            · exact absurd h4 x
            · exact absurd h3 x
            · exact absurd h2 x
            · exact absurd h1 x
            · exact x
          rw [H1.get_put_ne h0]
        · rw [H2.get_upd_ne h1]
      · rw [H3.get_upd_ne h2]
    · rw [H4.get_upd_ne h3]
  · rw [H5.get_upd_ne h4]

def H.nx (h : H) : Nat := H.rec (motive := fun _ => Nat) (fun _ n => n) h
theorem get_put_same (h : H) (id : Nat) (b : B) : (h.put id b).get id = b := by cases h; exact get0_put0_same _ _ _
theorem get_put_ne {s t : Nat} (hs : s < 32768) (ht : t < 32768) (e : s ≠ t) (h : H) (b : B) : (h.put t b).get s = h.get s := by
  cases h; exact get0_put0_ne hs ht e _ _
theorem nx_put (h : H) (id : Nat) (b : B) : (h.put id b).nx = h.nx := by cases h; rfl
/-- a heap with one block more -/
def H.add (h : H) (b : B) : H := H.rec (motive := fun _ => H) (fun t nx => .mk (H.put0 t nx b) (Nat.succ nx)) h
theorem new_eq (h : H) (b : B) (k : Nat → H → Bool) (e : H.new h b k = true) : h.nx < 32768 ∧ k h.nx (h.add b) = true := by
  cases h with
  | mk t nx =>
    have e' : Bool.rec (motive := fun _ => Bool) false (k nx (.mk (H.put0 t nx b) (Nat.succ nx))) (Nat.ble (Nat.succ nx) 32768) = true := e
    cases c : Nat.ble (Nat.succ nx) 32768 with
    | false => rw [c] at e'; cases e'
    | true => rw [c] at e'; exact ⟨le_of_ble c, e'⟩
theorem get_add_same (h : H) (b : B) : (h.add b).get h.nx = b := by cases h; exact get0_put0_same _ _ _
theorem get_add_ne {s : Nat} (h : H) (b : B) (hs : s < 32768) (hn : h.nx < 32768) (e : s ≠ h.nx) : (h.add b).get s = h.get s := by
  cases h; exact get0_put0_ne hs hn e _ _
theorem nx_add (h : H) (b : B) : (h.add b).nx = h.nx + 1 := by cases h; rfl

/-! ### cells of a block -/
theorem cs_get_put_same (cs : Cs) (i : Nat) (v : V) : (cs.put i v).get i = v := by
  cases cs with
  | c1 r => show T1.get _ (T1.put _ _ _) = v; rw [T1.get_put_same]
  | c2 s r => show T1.get _ (T2.get _ (T2.upd _ _ _)) = v; rw [T2.get_upd_same, T1.get_put_same]
  | c3 s r => show T1.get _ (T2.get _ (T3.get _ (T3.upd _ _ _))) = v; rw [T3.get_upd_same, T2.get_upd_same, T1.get_put_same]
  | c4 s r => show T1.get _ (T2.get _ (T3.get _ (T4.get _ (T4.upd _ _ _)))) = v; rw [T4.get_upd_same, T3.get_upd_same, T2.get_upd_same, T1.get_put_same]
theorem cs_room_put (cs : Cs) (i : Nat) (v : V) : (cs.put i v).room = cs.room := by cases cs <;> rfl
theorem room2 {s i : Nat} {r : T2} (h : i < (Cs.c2 s r).room) : s ≤ 8 ∧ 0 < s ∧ i / s < 8 ∧ i % s < 8 ∧ i < 8 * s := by
  have h : i < Bool.rec (motive := fun _ => Nat) 0 (8 * s) (Nat.ble s 8) := h
  cases e : Nat.ble s 8 with
  | false => rw [e] at h; exact absurd h (Nat.not_lt_zero _)
  | true =>
    rw [e] at h
    have hs := le_of_ble e
    have h : i < 8 * s := h
    have h0 : 0 < s := by omega
    exact ⟨hs, h0, (Nat.div_lt_iff_lt_mul h0).2 h, Nat.lt_of_lt_of_le (Nat.mod_lt _ h0) hs, h⟩
theorem room3 {s i : Nat} {r : T3} (h : i < (Cs.c3 s r).room) : s ≤ 8 ∧ 0 < s ∧ i / s < 64 ∧ i % s < 8 ∧ i < 64 * s := by
  have h : i < Bool.rec (motive := fun _ => Nat) 0 (64 * s) (Nat.ble s 8) := h
  cases e : Nat.ble s 8 with
  | false => rw [e] at h; exact absurd h (Nat.not_lt_zero _)
  | true =>
    rw [e] at h
    have hs := le_of_ble e
    have h : i < 64 * s := h
    have h0 : 0 < s := by omega
    exact ⟨hs, h0, (Nat.div_lt_iff_lt_mul h0).2 h, Nat.lt_of_lt_of_le (Nat.mod_lt _ h0) hs, h⟩
theorem room4 {s i : Nat} {r : T4} (h : i < (Cs.c4 s r).room) : s ≤ 8 ∧ 0 < s ∧ i / s < 512 ∧ i % s < 8 ∧ i < 512 * s := by
  have h : i < Bool.rec (motive := fun _ => Nat) 0 (512 * s) (Nat.ble s 8) := h
  cases e : Nat.ble s 8 with
  | false => rw [e] at h; exact absurd h (Nat.not_lt_zero _)
  | true =>
    rw [e] at h
    have hs := le_of_ble e
    have h : i < 512 * s := h
    have h0 : 0 < s := by omega
    exact ⟨hs, h0, (Nat.div_lt_iff_lt_mul h0).2 h, Nat.lt_of_lt_of_le (Nat.mod_lt _ h0) hs, h⟩
theorem e0_in {a b : Nat} (ha : a < 8) (hb : b < 8) (h : e0 a = e0 b) : a = b := by have := e0_eq h; omega
theorem e1_in {a b : Nat} (ha : a < 64) (hb : b < 64) (h1 : e1 a = e1 b) (h : e0 a = e0 b) : a = b := by have := e0_eq h; have := e1_eq h1; omega
theorem e2_in {a b : Nat} (ha : a < 512) (hb : b < 512) (h2 : e2 a = e2 b) (h1 : e1 a = e1 b) (h : e0 a = e0 b) : a = b := by have := e0_eq h; have := e1_eq h1; have := e2_eq h2; omega
theorem dm_ne {s i j : Nat} (h : i ≠ j) (hq : i / s = j / s) : i % s ≠ j % s := by
  intro e
  have h1 := Nat.div_add_mod i s
  have h2 := Nat.div_add_mod j s
  rw [hq, e] at h1
  omega
theorem cs_get_put_ne (cs : Cs) {i j : Nat} (hi : i < cs.room) (hj : j < cs.room) (h : i ≠ j) (v : V) : (cs.put j v).get i = cs.get i := by
  cases cs with
  | c1 r =>
    have hi : i < 8 := hi
    have hj : j < 8 := hj
    show T1.get _ (T1.put _ _ _) = T1.get _ _
    rw [T1.get_put_ne (fun e => h (by have := e0_eq e; omega))]
  | c2 s r =>
    obtain ⟨_, _, q1, m1, _⟩ := room2 hi
    obtain ⟨_, _, q2, m2, _⟩ := room2 hj
    show T1.get (e0 (i % s)) (T2.get (e0 (i / s)) (T2.upd (e0 (j / s)) (T1.put (e0 (j % s)) v) r)) = T1.get (e0 (i % s)) (T2.get (e0 (i / s)) r)
    by_cases e : e0 (i / s) = e0 (j / s)
    · have hm := dm_ne h (s := s) (e0_in q1 q2 e)
      rw [e, T2.get_upd_same, T1.get_put_ne (fun x => hm (e0_in m1 m2 x))]
    · rw [T2.get_upd_ne e]
  | c3 s r =>
    obtain ⟨_, _, q1, m1, _⟩ := room3 hi
    obtain ⟨_, _, q2, m2, _⟩ := room3 hj
    show T1.get (e0 (i % s)) (T2.get (e0 (i / s)) (T3.get (e1 (i / s)) (T3.upd (e1 (j / s)) (T2.upd (e0 (j / s)) (T1.put (e0 (j % s)) v)) r))) = T1.get (e0 (i % s)) (T2.get (e0 (i / s)) (T3.get (e1 (i / s)) r))
    by_cases e1' : e1 (i / s) = e1 (j / s)
    · rw [e1', T3.get_upd_same]
      by_cases e : e0 (i / s) = e0 (j / s)
      · have hm := dm_ne h (s := s) (e1_in q1 q2 e1' e)
        rw [e, T2.get_upd_same, T1.get_put_ne (fun x => hm (e0_in m1 m2 x))]
      · rw [T2.get_upd_ne e]
    · rw [T3.get_upd_ne e1']
  | c4 s r =>
    obtain ⟨_, _, q1, m1, _⟩ := room4 hi
    obtain ⟨_, _, q2, m2, _⟩ := room4 hj
    show T1.get (e0 (i % s)) (T2.get (e0 (i / s)) (T3.get (e1 (i / s)) (T4.get (e2 (i / s)) (T4.upd (e2 (j / s)) (T3.upd (e1 (j / s)) (T2.upd (e0 (j / s)) (T1.put (e0 (j % s)) v))) r)))) = T1.get (e0 (i % s)) (T2.get (e0 (i / s)) (T3.get (e1 (i / s)) (T4.get (e2 (i / s)) r)))
    by_cases e2' : e2 (i / s) = e2 (j / s)
    · rw [e2', T4.get_upd_same]
      by_cases e1' : e1 (i / s) = e1 (j / s)
      · rw [e1', T3.get_upd_same]
        by_cases e : e0 (i / s) = e0 (j / s)
        · have hm := dm_ne h (s := s) (e2_in q1 q2 e2' e1' e)
          rw [e, T2.get_upd_same, T1.get_put_ne (fun x => hm (e0_in m1 m2 x))]
        · rw [T2.get_upd_ne e]
      · rw [T3.get_upd_ne e1']
    · rw [T4.get_upd_ne e2']
theorem e0_lo {q : Nat} (h : q < 8) : e1 q = .i0 := by show toOx (q / 8 % 8) = _; rw [show q / 8 % 8 = 0 by omega]; rfl
theorem e1_lo {q : Nat} (h : q < 64) : e2 q = .i0 := by show toOx (q / 64 % 8) = _; rw [show q / 64 % 8 = 0 by omega]; rfl
theorem cs_grow_get (cs : Cs) (n i : Nat) (hi : i < cs.room) : (cs.grow n).get i = cs.get i := by
  cases cs with
  | c1 r =>
    have hi : i < 8 := hi
    have hq : i / 8 = 0 := by omega
    have hm : i % 8 = i := by omega
    show (Cs.gr1 r n).get i = T1.get (e0 i) r
    unfold Cs.gr1
    cases Nat.ble n 8 with
    | true => rfl
    | false =>
      cases Nat.ble n 64 with
      | true =>
        show T1.get (e0 (i % 8)) (T2.get (e0 (i / 8)) (T2.p0 r t2V)) = _
        rw [hq, hm]; rfl
      | false =>
        cases Nat.ble n 512 with
        | true =>
          show T1.get (e0 (i % 8)) (T2.get (e0 (i / 8)) (T3.get (e1 (i / 8)) (T3.p0 (T2.p0 r t2V) t3V))) = _
          rw [hq, hm]; rfl
        | false =>
          show T1.get (e0 (i % 8)) (T2.get (e0 (i / 8)) (T3.get (e1 (i / 8)) (T4.get (e2 (i / 8)) (T4.p0 (T3.p0 (T2.p0 r t2V) t3V) t4V)))) = _
          rw [hq, hm]; rfl
  | c2 s r =>
    obtain ⟨_, _, q1, m1, _⟩ := room2 hi
    show (Cs.gr2 s r n).get i = T1.get (e0 (i % s)) (T2.get (e0 (i / s)) r)
    unfold Cs.gr2
    cases Nat.ble n (Nat.mul 8 s) with
    | true => rfl
    | false =>
      cases Nat.ble n (Nat.mul 64 s) with
      | true =>
        show T1.get (e0 (i % s)) (T2.get (e0 (i / s)) (T3.get (e1 (i / s)) (T3.p0 r t3V))) = _
        rw [e0_lo q1]; rfl
      | false =>
        show T1.get (e0 (i % s)) (T2.get (e0 (i / s)) (T3.get (e1 (i / s)) (T4.get (e2 (i / s)) (T4.p0 (T3.p0 r t3V) t4V)))) = _
        rw [e0_lo q1, e1_lo (by omega)]; rfl
  | c3 s r =>
    obtain ⟨_, _, q1, m1, _⟩ := room3 hi
    show (Cs.gr3 s r n).get i = T1.get (e0 (i % s)) (T2.get (e0 (i / s)) (T3.get (e1 (i / s)) r))
    unfold Cs.gr3
    cases Nat.ble n (Nat.mul 64 s) with
    | true => rfl
    | false =>
      show T1.get (e0 (i % s)) (T2.get (e0 (i / s)) (T3.get (e1 (i / s)) (T4.get (e2 (i / s)) (T4.p0 r t4V)))) = _
      rw [e1_lo q1]; rfl
  | c4 s r => rfl
theorem cs_fits (cs : Cs) (n : Nat) (h : cs.fits n = true) : n ≤ cs.room := by
  cases cs with
  | c1 r => exact le_of_ble h
  | c2 s r =>
    have h : Bool.rec (motive := fun _ => Bool) false (Nat.ble n (Nat.mul 8 s)) (Nat.ble s 8) = true := h
    show n ≤ Bool.rec (motive := fun _ => Nat) 0 (8 * s) (Nat.ble s 8)
    cases e : Nat.ble s 8 with
    | false => rw [e] at h; cases h
    | true => rw [e] at h; exact le_of_ble h
  | c3 s r =>
    have h : Bool.rec (motive := fun _ => Bool) false (Nat.ble n (Nat.mul 64 s)) (Nat.ble s 8) = true := h
    show n ≤ Bool.rec (motive := fun _ => Nat) 0 (64 * s) (Nat.ble s 8)
    cases e : Nat.ble s 8 with
    | false => rw [e] at h; cases h
    | true => rw [e] at h; exact le_of_ble h
  | c4 s r =>
    have h : Bool.rec (motive := fun _ => Bool) false (Nat.ble n (Nat.mul 512 s)) (Nat.ble s 8) = true := h
    show n ≤ Bool.rec (motive := fun _ => Nat) 0 (512 * s) (Nat.ble s 8)
    cases e : Nat.ble s 8 with
    | false => rw [e] at h; cases h
    | true => rw [e] at h; exact le_of_ble h
theorem cs_grow_room (cs : Cs) (n : Nat) : cs.room ≤ (cs.grow n).room := by
  cases cs with
  | c1 r =>
    show 8 ≤ (Cs.gr1 r n).room
    unfold Cs.gr1
    cases Nat.ble n 8 with
    | true => exact Nat.le_refl _
    | false =>
      cases Nat.ble n 64 with
      | true => show 8 ≤ 8 * 8; decide
      | false =>
        cases Nat.ble n 512 with
        | true => show 8 ≤ 64 * 8; decide
        | false => show 8 ≤ 512 * 8; decide
  | c2 s r =>
    show Bool.rec (motive := fun _ => Nat) 0 (8 * s) (Nat.ble s 8) ≤ (Cs.gr2 s r n).room
    unfold Cs.gr2
    cases Nat.ble n (Nat.mul 8 s) with
    | true => exact Nat.le_refl _
    | false =>
      cases Nat.ble n (Nat.mul 64 s) with
      | true =>
        show _ ≤ Bool.rec (motive := fun _ => Nat) 0 (64 * s) (Nat.ble s 8)
        cases Nat.ble s 8 with
        | true => show 8 * s ≤ 64 * s; omega
        | false => exact Nat.le_refl _
      | false =>
        show _ ≤ Bool.rec (motive := fun _ => Nat) 0 (512 * s) (Nat.ble s 8)
        cases Nat.ble s 8 with
        | true => show 8 * s ≤ 512 * s; omega
        | false => exact Nat.le_refl _
  | c3 s r =>
    show Bool.rec (motive := fun _ => Nat) 0 (64 * s) (Nat.ble s 8) ≤ (Cs.gr3 s r n).room
    unfold Cs.gr3
    cases Nat.ble n (Nat.mul 64 s) with
    | true => exact Nat.le_refl _
    | false =>
      show _ ≤ Bool.rec (motive := fun _ => Nat) 0 (512 * s) (Nat.ble s 8)
      cases Nat.ble s 8 with
      | true => show 64 * s ≤ 512 * s; omega
      | false => exact Nat.le_refl _
  | c4 s r => exact Nat.le_refl _
theorem room_le (cs : Cs) : cs.room ≤ 4096 := by
  cases cs with
  | c1 r => show 8 ≤ 4096; decide
  | c2 s r =>
    show Bool.rec (motive := fun _ => Nat) 0 (8 * s) (Nat.ble s 8) ≤ 4096
    cases e : Nat.ble s 8 with
    | true => have := le_of_ble e; show 8 * s ≤ 4096; omega
    | false => show 0 ≤ 4096; decide
  | c3 s r =>
    show Bool.rec (motive := fun _ => Nat) 0 (64 * s) (Nat.ble s 8) ≤ 4096
    cases e : Nat.ble s 8 with
    | true => have := le_of_ble e; show 64 * s ≤ 4096; omega
    | false => show 0 ≤ 4096; decide
  | c4 s r =>
    show Bool.rec (motive := fun _ => Nat) 0 (512 * s) (Nat.ble s 8) ≤ 4096
    cases e : Nat.ble s 8 with
    | true => have := le_of_ble e; show 512 * s ≤ 4096; omega
    | false => show 0 ≤ 4096; decide

/-! ### one row read at once -/
theorem ldn_row (cs : Cs) (row : T1) (off m : Nat) (z : V) (h1 : 1 ≤ m) (h8 : m ≤ 8) (h : ∀ j, j < m → cs.get (off + j) = T1.get (toOx j) row) : Cs.ldn m cs off z = Cs.li m row z := by
  cases row with
  | mk a0 a1 a2 a3 a4 a5 a6 a7 =>
  have g : ∀ j, j < m → cs.get (off + j) = T1.get (toOx j) ⟨a0, a1, a2, a3, a4, a5, a6, a7⟩ := h
  have step : ∀ n o, Cs.ldn (n + 1) cs o z = V.c (cs.get o) (Cs.ldn n cs (o + 1) z) := fun _ _ => rfl
  have base : ∀ o, Cs.ldn 0 cs o z = z := fun _ => rfl
  have c0 : 0 < m → cs.get off = a0 := fun hm => g 0 hm
  have c1 : 1 < m → cs.get (off + 1) = a1 := fun hm => g 1 hm
  have c2 : 2 < m → cs.get (off + 1 + 1) = a2 := fun hm => g 2 hm
  have c3 : 3 < m → cs.get (off + 1 + 1 + 1) = a3 := fun hm => g 3 hm
  have c4 : 4 < m → cs.get (off + 1 + 1 + 1 + 1) = a4 := fun hm => g 4 hm
  have c5 : 5 < m → cs.get (off + 1 + 1 + 1 + 1 + 1) = a5 := fun hm => g 5 hm
  have c6 : 6 < m → cs.get (off + 1 + 1 + 1 + 1 + 1 + 1) = a6 := fun hm => g 6 hm
  have c7 : 7 < m → cs.get (off + 1 + 1 + 1 + 1 + 1 + 1 + 1) = a7 := fun hm => g 7 hm
  rcases (show m = 1 ∨ m = 2 ∨ m = 3 ∨ m = 4 ∨ m = 5 ∨ m = 6 ∨ m = 7 ∨ m = 8 by omega) with rfl | rfl | rfl | rfl | rfl | rfl | rfl | rfl
  · rw [step, base, c0 (by decide)]; rfl
  · rw [step, step, base, c0 (by decide), c1 (by decide)]; rfl
  · rw [step, step, step, base, c0 (by decide), c1 (by decide), c2 (by decide)]; rfl
  · rw [step, step, step, step, base, c0 (by decide), c1 (by decide), c2 (by decide), c3 (by decide)]; rfl
  · rw [step, step, step, step, step, base, c0 (by decide), c1 (by decide), c2 (by decide), c3 (by decide), c4 (by decide)]; rfl
  · rw [step, step, step, step, step, step, base, c0 (by decide), c1 (by decide), c2 (by decide), c3 (by decide), c4 (by decide), c5 (by decide)]; rfl
  · rw [step, step, step, step, step, step, step, base, c0 (by decide), c1 (by decide), c2 (by decide), c3 (by decide), c4 (by decide), c5 (by decide), c6 (by decide)]; rfl
  · rw [step, step, step, step, step, step, step, step, base, c0 (by decide), c1 (by decide), c2 (by decide), c3 (by decide), c4 (by decide), c5 (by decide), c6 (by decide), c7 (by decide)]; rfl
theorem brec3 {a b c : Bool} (h : Bool.rec (motive := fun _ => Bool) false (Bool.rec (motive := fun _ => Bool) false a b) c = true) : a = true ∧ b = true ∧ c = true := by
  cases a <;> cases b <;> cases c <;> first | exact ⟨rfl, rfl, rfl⟩ | cases h
theorem brec4 {a b c d : Bool} (h : Bool.rec (motive := fun _ => Bool) false (Bool.rec (motive := fun _ => Bool) false (Bool.rec (motive := fun _ => Bool) false a b) c) d = true) : a = true ∧ b = true ∧ c = true ∧ d = true := by
  cases a <;> cases b <;> cases c <;> cases d <;> first | exact ⟨rfl, rfl, rfl, rfl⟩ | cases h
theorem isRow_inv {m s off : Nat} (h : Cs.isRow m s off = true) : m = s ∧ off % s = 0 ∧ 1 ≤ m ∧ m ≤ 8 := by
  obtain ⟨h1, h2, h3, h4⟩ := brec4 h
  exact ⟨Nat.eq_of_beq_eq_true h4, Nat.eq_of_beq_eq_true h3, le_of_ble h2, le_of_ble h1⟩
theorem isRow1_inv {m off : Nat} (h : Cs.isRow1 m off = true) : off = 0 ∧ 1 ≤ m ∧ m ≤ 8 := by
  obtain ⟨h1, h2, h3⟩ := brec3 h
  exact ⟨Nat.eq_of_beq_eq_true h3, le_of_ble h2, le_of_ble h1⟩
theorem row_pos {s off j : Nat} (hm : off % s = 0) (hj : j < s) : (off + j) / s = off / s ∧ (off + j) % s = j := by
  have h0 : 0 < s := by omega
  obtain ⟨q, hq⟩ : ∃ q, off = s * q := ⟨off / s, by have := Nat.div_add_mod off s; omega⟩
  subst hq
  refine ⟨?_, ?_⟩
  · rw [Nat.mul_add_div h0, Nat.div_eq_of_lt hj, Nat.mul_div_cancel_left _ h0, Nat.add_zero]
  · rw [Nat.mul_add_mod, Nat.mod_eq_of_lt hj]
theorem e0_small {j : Nat} (h : j < 8) : e0 j = toOx j := by show toOx (j % 8) = _; rw [Nat.mod_eq_of_lt h]
theorem ldq_eq (m : Nat) (cs : Cs) (off : Nat) (z : V) : Cs.ldq m cs off z = Cs.ldn m cs off z := by
  cases cs with
  | c1 r =>
    show Bool.rec (motive := fun _ => V) (Cs.ldn m (.c1 r) off z) (Cs.li m r z) (Cs.isRow1 m off) = _
    cases h : Cs.isRow1 m off with
    | false => rfl
    | true =>
      obtain ⟨rfl, h1, h2⟩ := isRow1_inv h
      refine (ldn_row _ r 0 m z h1 h2 fun j hj => ?_).symm
      show T1.get (e0 (0 + j)) r = _
      rw [Nat.zero_add, e0_small (by omega)]
  | c2 s r =>
    show Bool.rec (motive := fun _ => V) (Cs.ldn m (.c2 s r) off z) (Cs.li m (T2.get (e0 (off / s)) r) z) (Cs.isRow m s off) = _
    cases h : Cs.isRow m s off with
    | false => rfl
    | true =>
      obtain ⟨rfl, h0, h1, h2⟩ := isRow_inv h
      refine (ldn_row _ _ off m z h1 h2 fun j hj => ?_).symm
      obtain ⟨p1, p2⟩ := row_pos h0 hj
      show T1.get (e0 ((off + j) % m)) (T2.get (e0 ((off + j) / m)) r) = _
      rw [p1, p2, e0_small (by omega)]
  | c3 s r =>
    show Bool.rec (motive := fun _ => V) (Cs.ldn m (.c3 s r) off z) (Cs.li m (T2.get (e0 (off / s)) (T3.get (e1 (off / s)) r)) z) (Cs.isRow m s off) = _
    cases h : Cs.isRow m s off with
    | false => rfl
    | true =>
      obtain ⟨rfl, h0, h1, h2⟩ := isRow_inv h
      refine (ldn_row _ _ off m z h1 h2 fun j hj => ?_).symm
      obtain ⟨p1, p2⟩ := row_pos h0 hj
      show T1.get (e0 ((off + j) % m)) (T2.get (e0 ((off + j) / m)) (T3.get (e1 ((off + j) / m)) r)) = _
      rw [p1, p2, e0_small (by omega)]
  | c4 s r =>
    show Bool.rec (motive := fun _ => V) (Cs.ldn m (.c4 s r) off z) (Cs.li m (T2.get (e0 (off / s)) (T3.get (e1 (off / s)) (T4.get (e2 (off / s)) r))) z) (Cs.isRow m s off) = _
    cases h : Cs.isRow m s off with
    | false => rfl
    | true =>
      obtain ⟨rfl, h0, h1, h2⟩ := isRow_inv h
      refine (ldn_row _ _ off m z h1 h2 fun j hj => ?_).symm
      obtain ⟨p1, p2⟩ := row_pos h0 hj
      show T1.get (e0 ((off + j) % m)) (T2.get (e0 ((off + j) / m)) (T3.get (e1 ((off + j) / m)) (T4.get (e2 ((off + j) / m)) r))) = _
      rw [p1, p2, e0_small (by omega)]
end
end Go.Ev

set_option linter.unusedSectionVars false
namespace Go.Ev
open Go
noncomputable section

/-- numbers and texts that are not known: what they are -/
class Un where
  val : Nat → Value
  one : ∀ n, (val n).oneCell' = true ∧ (val n).cells = #[val n]
variable [Un]
/-- abstract blocks: the block of the memory, and how many cells that has -/
abbrev Mu := Nat → Option (Nat × Nat)

def RR (μ : Mu) (x : Ref) (v : Value) : Prop :=
  match x with
  | .np => v = .pointer none
  | .pt id off => ∃ c n, μ id = some (c, n) ∧ v = .pointer (some ⟨c, off, none⟩)
  | .ns => v = .slice none 0 0
  | .sl id off len cap => ∃ c n, μ id = some (c, n) ∧ v = .slice (some ⟨c, off, none⟩) len cap ∧ len ≤ cap
  | .so id sz off len => ∃ c n cap, μ id = some (c, n) ∧ v = .slice (some ⟨c, off, none⟩) len cap ∧ len ≤ cap ∧ off + cap * sz = n
  | .se => ∃ a cap, v = .slice (some a) 0 cap
  | .nm => v = .map none
  | .mp id => ∃ c n, μ id = some (c, n) ∧ v = .map (some c)
  | .nf => v = .nilFunc
  | .ni => v = .nilIface
  | .y id => (id < 32768 ∧ ∃ c n, μ id = some (c, n) ∧ v = .func (.yield c) #[] #[]) ∨ (32768 ≤ id ∧ v = Un.val id)

mutual
def RV (μ : Mu) (a : V) (v : Value) : Prop :=
  match a with
  | .u => True
  | .b x => v = .bool x
  | .i k n => v = .int k n
  | .s c => ∃ s : ByteArray, v = .string s ∧ enc s.data.toList = c
  | .r x => RR μ x v
  | .f f a b => ∃ xs ys, v = .func (.func f) (List.toArray xs) (List.toArray ys) ∧ RL μ a xs ∧ RL μ b ys
  | .w t x => ∃ y, v = .iface t y ∧ RV μ x y
  | .a l => ∃ xs, v = .agg (List.toArray xs) ∧ RL μ l xs
  | .t l => ∃ xs, v = .tuple (List.toArray xs) ∧ RL μ l xs
  | .n => False
  | .c _ _ => False
def RL (μ : Mu) (a : V) (l : List Value) : Prop :=
  match a with
  | .n => l = []
  | .c h t => ∃ x xs, l = x :: xs ∧ RV μ h x ∧ RL μ t xs
  | .u => False
  | .b _ => False
  | .i _ _ => False
  | .s _ => False
  | .r _ => False
  | .f _ _ _ => False
  | .w _ _ => False
  | .a _ => False
  | .t _ => False
end

def exC (e : Ex) : Code := match e with | .exit id => .exit id | .goto l => .goto l | .ret => .ret

def FzR (fz : Fz) (lo hi n : Nat) : Prop :=
  match fz with | .no => lo = hi | .to k => lo = hi ∨ hi ≤ k | .st => lo = hi ∨ n ≤ lo

/-- the frame's temporaries -/
def RT (μ : Mu) (nt : Nat) (T : Tm) (ts : Array Value) : Prop := nt ≤ ts.size ∧ ∀ t, (nt ≤ t → rd t T = .u) ∧ RV μ (rd t T) (ts.getD t undef)

def RM (μ : Mu) (es : V) (l : List MapEntry) : Prop :=
  match l with
  | [] => es = .n
  | e :: l => ∃ k v es', es = .c k (.c v es') ∧ isKey k = true ∧ RV μ k e.key ∧ RV μ v e.val ∧ RM μ es' l

/-- a place of a block's cells: what is known of it -/
def RC (μ : Mu) (n : Nat) (cs : Cs) (arr : Array Value) : Prop := n ≤ cs.room ∧ n ≤ arr.size ∧ ∀ i, i < n → ∃ x, arr[i]? = some x ∧ RV μ (cs.get i) x

def RB (μ : Mu) (b : B) (n : Nat) (o : Obj) : Prop :=
  match b with
  | .x => True
  | .g m cs => ∃ arr e fr, o = .cells arr e fr ∧ arr.size = n ∧ RC μ m cs arr
  | .c e fz ex m cs => ∃ arr lo hi, o = .cells arr e (lo, hi) ∧ arr.size = n ∧ (ex = true → m = n) ∧ RC μ m cs arr ∧ FzR fz lo hi n
  | .m es => ∃ ents clock, o = .map ents clock ∧ RM μ es ents.toList
  | .it c pos => ∃ s : ByteArray, o = .stringIter s pos ∧ enc s.data.toList = c
  | .df => o = .deferred (some [])
  | .gi => ∃ arr e fr m, o = .cells arr e fr ∧ arr[0]? = some (.int .i64 m)
  | .lp st pj nt tm ps asn body d => ∃ cd k tmps fn, o = .loop { state := (match st with | 0 => .ready | 1 => .busy | _ => .done), pending := pj.map exC, fn := fn, tmps := tmps, params := ps.toArray, assign := asn, body := body, defers := cd } ∧ μ d = some (cd, k) ∧ RT μ nt tm tmps

structure WR (μ : Mu) (h : H) (w : World) : Prop where
  nx : h.nx ≤ 32768
  fresh : ∀ id, h.nx ≤ id → μ id = none
  blk : ∀ id, id < 32768 → h.get id ≠ .x → ∃ c n o, μ id = some (c, n) ∧ w.heap[c]? = some o ∧ RB μ (h.get id) n o
  inj : ∀ i j, i < 32768 → j < 32768 → h.get i ≠ .x → h.get j ≠ .x → ∀ c n n', μ i = some (c, n) → μ j = some (c, n') → i = j

/-- a block that may be written -/
def wrb (b : B) : Prop := match b with | .x => False | .g _ _ => False | .c _ _ _ _ _ => True | .m _ => True | .it _ _ => True | .df => True | .lp _ _ _ _ _ _ _ _ => True | .gi => False
def Img (μ : Mu) (h : H) (c : Nat) : Prop := ∃ id n, id < 32768 ∧ wrb (h.get id) ∧ μ id = some (c, n)
/-- a block of the world that an abstract block means -/
def ImgX (μ : Mu) (h : H) (c : Nat) : Prop := ∃ id n, id < 32768 ∧ h.get id ≠ .x ∧ μ id = some (c, n)
theorem wrb_ne {b : B} (h : wrb b) : b ≠ .x := by intro e; subst e; exact h

structure Ext (μ : Mu) (h : H) (w : World) (μ' : Mu) (h' : H) (w' : World) : Prop where
  mu : ∀ id p, μ id = some p → μ' id = some p
  size : w.heap.size ≤ w'.heap.size
  img : ∀ c, Img μ' h' c → Img μ h c ∨ w.heap.size ≤ c
  imgx : ∀ c, ImgX μ' h' c → ImgX μ h c ∨ w.heap.size ≤ c
  keep : ∀ c, c < w.heap.size → ¬ Img μ h c → w'.heap[c]? = w.heap[c]?
  os : w'.os = w.os
  out : w'.output = w.output
  tape : w'.tape = w.tape

theorem Ext.refl (μ : Mu) (h : H) (w : World) : Ext μ h w μ h w := ⟨fun _ _ h => h, Nat.le_refl _, fun _ h => .inl h, fun _ h => .inl h, fun _ _ _ => rfl, rfl, rfl, rfl⟩
theorem Ext.trans {μ μ1 μ2 : Mu} {h h1 h2 : H} {w w1 w2 : World} (a : Ext μ h w μ1 h1 w1) (b : Ext μ1 h1 w1 μ2 h2 w2) : Ext μ h w μ2 h2 w2 where
  mu := fun id p hp => b.mu id p (a.mu id p hp)
  size := Nat.le_trans a.size b.size
  img := fun c hc => by
    rcases b.img c hc with h | h
    · exact a.img c h
    · exact .inr (Nat.le_trans a.size h)
  imgx := fun c hc => by
    rcases b.imgx c hc with h | h
    · exact a.imgx c h
    · exact .inr (Nat.le_trans a.size h)
  keep := fun c hc hn => by
    rw [b.keep c (Nat.lt_of_lt_of_le hc a.size) (fun hi => by rcases a.img c hi with h | h; · exact hn h
                                                              · omega), a.keep c hc hn]
  os := b.os.trans a.os
  out := b.out.trans a.out
  tape := b.tape.trans a.tape

/-! ### more is known -/
def Sub (μ μ' : Mu) : Prop := ∀ id p, μ id = some p → μ' id = some p
theorem RR.mono {μ μ' : Mu} (s : Sub μ μ') {x : Ref} {v : Value} (h : RR μ x v) : RR μ' x v := by
  cases x <;> first
    | exact h
    | (obtain ⟨c, n, e, r⟩ := h; exact ⟨c, n, s _ _ e, r⟩)
    | (obtain ⟨c, n, cap, e, r⟩ := h; exact ⟨c, n, cap, s _ _ e, r⟩)
    | (rcases h with ⟨hl, c, n, e, r⟩ | h; exact .inl ⟨hl, c, n, s _ _ e, r⟩; exact .inr h)
theorem RVL.mono {μ μ' : Mu} (s : Sub μ μ') (a : V) : (∀ v, RV μ a v → RV μ' a v) ∧ (∀ l, RL μ a l → RL μ' a l) := by
  induction a with
  | u => exact ⟨fun v h => h, fun l h => h⟩
  | b x => exact ⟨fun v h => h, fun l h => h⟩
  | i k n => exact ⟨fun v h => h, fun l h => h⟩
  | s c => exact ⟨fun v h => h, fun l h => h⟩
  | r x => exact ⟨fun v h => RR.mono s h, fun l h => h⟩
  | f f a b iha ihb => exact ⟨fun v h => by obtain ⟨xs, ys, e, ha, hb⟩ := h; exact ⟨xs, ys, e, iha.2 _ ha, ihb.2 _ hb⟩, fun l h => h⟩
  | w t x ih => exact ⟨fun v h => by obtain ⟨y, e, hy⟩ := h; exact ⟨y, e, ih.1 _ hy⟩, fun l h => h⟩
  | a l ih => exact ⟨fun v h => by obtain ⟨xs, e, hy⟩ := h; exact ⟨xs, e, ih.2 _ hy⟩, fun l h => h⟩
  | t l ih => exact ⟨fun v h => by obtain ⟨xs, e, hy⟩ := h; exact ⟨xs, e, ih.2 _ hy⟩, fun l h => h⟩
  | n => exact ⟨fun v h => h, fun l h => h⟩
  | c x y ihx ihy => exact ⟨fun v h => h, fun l h => by obtain ⟨a, as, e, ha, hb⟩ := h; exact ⟨a, as, e, ihx.1 _ ha, ihy.2 _ hb⟩⟩
theorem RV.mono {μ μ' : Mu} (s : Sub μ μ') {a : V} {v : Value} (h : RV μ a v) : RV μ' a v := (RVL.mono s a).1 v h
theorem RL.mono {μ μ' : Mu} (s : Sub μ μ') {a : V} {l : List Value} (h : RL μ a l) : RL μ' a l := (RVL.mono s a).2 l h
theorem RT.mono {μ μ' : Mu} (s : Sub μ μ') {nt : Nat} {T : Tm} {ts : Array Value} (h : RT μ nt T ts) : RT μ' nt T ts := ⟨h.1, fun t => ⟨(h.2 t).1, (h.2 t).2.mono s⟩⟩
theorem RM.mono {μ μ' : Mu} (s : Sub μ μ') {es : V} {l : List MapEntry} (h : RM μ es l) : RM μ' es l := by
  induction l generalizing es with
  | nil => exact h
  | cons e l ih => obtain ⟨k, v, es', e1, e2, e3, e4, e5⟩ := h; exact ⟨k, v, es', e1, e2, e3.mono s, e4.mono s, ih e5⟩
theorem RC.mono {μ μ' : Mu} (s : Sub μ μ') {n : Nat} {cs : Cs} {arr : Array Value} (h : RC μ n cs arr) : RC μ' n cs arr :=
  ⟨h.1, h.2.1, fun i hi => let ⟨x, e, r⟩ := h.2.2 i hi; ⟨x, e, r.mono s⟩⟩
theorem RB.mono {μ μ' : Mu} (s : Sub μ μ') {b : B} {n : Nat} {o : Obj} (h : RB μ b n o) : RB μ' b n o := by
  cases b with
  | x => exact h
  | g m cs => obtain ⟨arr, e, fr, h1, h2, h3⟩ := h; exact ⟨arr, e, fr, h1, h2, h3.mono s⟩
  | c e fz ex m cs => obtain ⟨arr, lo, hi, h1, h2, h3, h4, h5⟩ := h; exact ⟨arr, lo, hi, h1, h2, h3, h4.mono s, h5⟩
  | m es => obtain ⟨ents, clock, h1, h2⟩ := h; exact ⟨ents, clock, h1, h2.mono s⟩
  | it c pos => exact h
  | df => exact h
  | gi => exact h
  | lp st pj nt tm ps asn body d => obtain ⟨cd, k, tmps, fn, h1, h2, h3⟩ := h; exact ⟨cd, k, tmps, fn, h1, s _ _ h2, h3.mono s⟩

/-! ### worlds that turn -/
theorem WR.heap {μ : Mu} {h : H} {w w' : World} (r : WR μ h w) (e : w'.heap = w.heap) : WR μ h w' :=
  ⟨r.nx, r.fresh, fun id hi ha => by rw [e]; exact r.blk id hi ha, r.inj⟩
theorem Ext.heap {μ : Mu} {h : H} {w w' : World} (e : w'.heap = w.heap) (e1 : w'.os = w.os) (e2 : w'.output = w.output) (e3 : w'.tape = w.tape) : Ext μ h w μ h w' :=
  ⟨fun _ _ h => h, by rw [e]; exact Nat.le_refl _, fun _ h => .inl h, fun _ h => .inl h, fun _ _ _ => by rw [e], e1, e2, e3⟩

def muAdd (μ : Mu) (id c n : Nat) : Mu := fun i => if i = id then some (c, n) else μ i
theorem sub_add {μ : Mu} {id c n : Nat} (h : μ id = none) : Sub μ (muAdd μ id c n) := fun i p hp => by
  unfold muAdd
  split
  · rename_i e; subst e; rw [h] at hp; cases hp
  · exact hp
theorem muAdd_same (μ : Mu) (id c n : Nat) : muAdd μ id c n id = some (c, n) := by simp [muAdd]
theorem muAdd_ne {μ : Mu} {id c n i : Nat} (h : i ≠ id) : muAdd μ id c n i = μ i := by simp [muAdd, h]

theorem lt_size {w : World} {c : Nat} {o : Obj} (h : w.heap[c]? = some o) : c < w.heap.size := (Array.getElem?_eq_some_iff.1 h).1

/-- a new block -/
theorem WR.alloc {μ : Mu} {h : H} {w w' : World} (r : WR μ h w) (hn : h.nx < 32768) (b : B) (o : Obj) (n : Nat) (e : w'.heap = w.heap.push o)
    (hb : RB (muAdd μ h.nx w.heap.size n) b n o) (e1 : w'.os = w.os) (e2 : w'.output = w.output) (e3 : w'.tape = w.tape) :
    WR (muAdd μ h.nx w.heap.size n) (h.add b) w' ∧ Ext μ h w (muAdd μ h.nx w.heap.size n) (h.add b) w' := by
  have hf := r.fresh h.nx (Nat.le_refl _)
  have s : Sub μ (muAdd μ h.nx w.heap.size n) := sub_add hf
  have hsz : w'.heap.size = w.heap.size + 1 := by rw [e]; simp
  refine ⟨⟨by rw [nx_add]; omega, fun id hi => ?_, fun id hi ha => ?_, fun i j hi hj ha hb c n1 n2 h1 h2 => ?_⟩, ⟨s, by omega, fun c hc => ?_, fun c hc => ?_, fun c hc _ => ?_, e1, e2, e3⟩⟩
  · rw [nx_add] at hi; rw [muAdd_ne (by omega)]; exact r.fresh id (by omega)
  · by_cases hid : id = h.nx
    · subst hid
      rw [get_add_same]
      exact ⟨w.heap.size, n, o, muAdd_same .., by rw [e]; simp, hb⟩
    · rw [get_add_ne h b hi hn hid] at ha ⊢
      obtain ⟨c, m, o', h1, h2, h3⟩ := r.blk id hi ha
      refine ⟨c, m, o', by rw [muAdd_ne hid]; exact h1, ?_, h3.mono s⟩
      have := lt_size h2
      rw [e, Array.getElem?_push_lt this]
      simpa [Array.getElem?_eq_getElem this] using h2
  · by_cases hi' : i = h.nx
    · by_cases hj' : j = h.nx
      · rw [hi', hj']
      · subst hi'
        rw [muAdd_same] at h1
        rw [muAdd_ne hj'] at h2
        rw [get_add_ne h b hj hn hj'] at hb
        obtain ⟨c', m, o', g1, g2, _⟩ := r.blk j hj hb
        rw [g1] at h2
        have := lt_size g2
        simp at h1 h2
        omega
    · by_cases hj' : j = h.nx
      · subst hj'
        rw [muAdd_same] at h2
        rw [muAdd_ne hi'] at h1
        rw [get_add_ne h b hi hn hi'] at ha
        obtain ⟨c', m, o', g1, g2, _⟩ := r.blk i hi ha
        rw [g1] at h1
        have := lt_size g2
        simp at h1 h2
        omega
      · rw [muAdd_ne hi'] at h1
        rw [muAdd_ne hj'] at h2
        rw [get_add_ne h b hi hn hi'] at ha
        rw [get_add_ne h b hj hn hj'] at hb
        exact r.inj i j hi hj ha hb c n1 n2 h1 h2
  · obtain ⟨id, m, hi, ha, hm⟩ := hc
    by_cases hid : id = h.nx
    · subst hid
      rw [muAdd_same] at hm
      simp at hm
      exact .inr (by omega)
    · rw [get_add_ne h b hi hn hid] at ha
      rw [muAdd_ne hid] at hm
      exact .inl ⟨id, m, hi, ha, hm⟩
  · obtain ⟨id, m, hi, ha, hm⟩ := hc
    by_cases hid : id = h.nx
    · subst hid
      rw [muAdd_same] at hm
      simp at hm
      exact .inr (by omega)
    · rw [get_add_ne h b hi hn hid] at ha
      rw [muAdd_ne hid] at hm
      exact .inl ⟨id, m, hi, ha, hm⟩
  · rw [e, Array.getElem?_push_lt hc]; simp [Array.getElem?_eq_getElem hc]

/-- a block is written -/
theorem WR.write {μ : Mu} {h : H} {w w' : World} (r : WR μ h w) {id c n : Nat} (hid : id < 32768) (hw : wrb (h.get id)) (hm : μ id = some (c, n)) (b : B) (o : Obj)
    (hb : RB μ b n o) (hsz : w'.heap.size = w.heap.size) (hc : w'.heap[c]? = some o) (ho : ∀ c', c' ≠ c → w'.heap[c']? = w.heap[c']?)
    (e1 : w'.os = w.os) (e2 : w'.output = w.output) (e3 : w'.tape = w.tape) :
    WR μ (h.put id b) w' ∧ Ext μ h w μ (h.put id b) w' := by
  have hx : ∀ i, i < 32768 → i ≠ id → (h.put id b).get i = h.get i := fun i hi hne => get_put_ne hi hid hne h b
  refine ⟨⟨by rw [nx_put]; exact r.nx, fun i hi => r.fresh i (by rwa [nx_put] at hi), fun i hi ha => ?_, fun i j hi hj ha hb' c' n1 n2 h1 h2 => ?_⟩, ⟨fun _ _ h => h, by omega, fun c' hc' => ?_, fun c' hc' => ?_, fun c' _ hn => ?_, e1, e2, e3⟩⟩
  · by_cases e : i = id
    · subst e
      rw [get_put_same]
      exact ⟨c, n, o, hm, hc, hb⟩
    · rw [hx i hi e] at ha ⊢
      obtain ⟨c', m, o', g1, g2, g3⟩ := r.blk i hi ha
      have hne : c' ≠ c := fun ec => e (r.inj i id hi hid ha (wrb_ne hw) c' m n g1 (by rw [ec]; exact hm))
      exact ⟨c', m, o', g1, by rw [ho c' hne]; exact g2, g3⟩
  · have alive : ∀ i, i < 32768 → (h.put id b).get i ≠ .x → h.get i ≠ .x := fun i hi ha => by
      by_cases e : i = id
      · subst e; exact wrb_ne hw
      · rwa [hx i hi e] at ha
    exact r.inj i j hi hj (alive i hi ha) (alive j hj hb') c' n1 n2 h1 h2
  · obtain ⟨i, m, hi, ha, hmm⟩ := hc'
    refine .inl ⟨i, m, hi, ?_, hmm⟩
    by_cases e : i = id
    · subst e; exact hw
    · rwa [hx i hi e] at ha
  · obtain ⟨i, m, hi, ha, hmm⟩ := hc'
    refine .inl ⟨i, m, hi, ?_, hmm⟩
    by_cases e : i = id
    · subst e; exact wrb_ne hw
    · rwa [hx i hi e] at ha
  · by_cases e : c' = c
    · exact absurd ⟨id, n, hid, hw, by rw [e]; exact hm⟩ hn
    · exact ho c' e

/-- a block is no longer looked at -/
theorem WR.forget {μ : Mu} {h : H} {w : World} (r : WR μ h w) {id : Nat} (hid : id < 32768) : WR μ (h.put id .x) w ∧ Ext μ h w μ (h.put id .x) w := by
  have hx : ∀ i, i < 32768 → i ≠ id → (h.put id .x).get i = h.get i := fun i hi hne => get_put_ne hi hid hne h .x
  have hne : ∀ i, i < 32768 → (h.put id .x).get i ≠ .x → i ≠ id := fun i _ ha e => by subst e; exact ha (get_put_same ..)
  refine ⟨⟨by rw [nx_put]; exact r.nx, fun i hi => r.fresh i (by rwa [nx_put] at hi), fun i hi ha => ?_, fun i j hi hj ha hb' => ?_⟩, ⟨fun _ _ h => h, Nat.le_refl _, fun c' hc' => ?_, fun c' hc' => ?_, fun c' _ hn => rfl, rfl, rfl, rfl⟩⟩
  · have e := hx i hi (hne i hi ha); rw [e] at ha ⊢; exact r.blk i hi ha
  · have e := hx i hi (hne i hi ha); have e' := hx j hj (hne j hj hb'); rw [e] at ha; rw [e'] at hb'; exact r.inj i j hi hj ha hb'
  · obtain ⟨i, m, hi, ha, hmm⟩ := hc'
    have := hne i hi (wrb_ne ha)
    rw [hx i hi this] at ha
    exact .inl ⟨i, m, hi, ha, hmm⟩
  · obtain ⟨i, m, hi, ha, hmm⟩ := hc'
    have := hne i hi ha
    rw [hx i hi this] at ha
    exact .inl ⟨i, m, hi, ha, hmm⟩

theorem WR.lt {μ : Mu} {h : H} {w : World} (r : WR μ h w) {id : Nat} {p : Nat × Nat} (hm : μ id = some p) : id < 32768 := by
  have := r.nx
  rcases Nat.lt_or_ge id h.nx with h1 | h1
  · omega
  · rw [r.fresh id h1] at hm; cases hm
/-- a block of the world that nothing means yet gets a meaning -/
theorem WR.adopt {μ : Mu} {h : H} {w : World} (r : WR μ h w) (hn : h.nx < 32768) {b : B} {o : Obj} {n c : Nat} (hc : w.heap[c]? = some o) (hx : ¬ ImgX μ h c) (hb : RB (muAdd μ h.nx c n) b n o) :
    WR (muAdd μ h.nx c n) (h.add b) w ∧ (∀ c', ImgX (muAdd μ h.nx c n) (h.add b) c' → ImgX μ h c' ∨ c' = c) ∧ (∀ c', Img (muAdd μ h.nx c n) (h.add b) c' → Img μ h c' ∨ c' = c) := by
  have hf := r.fresh h.nx (Nat.le_refl _)
  have s : Sub μ (muAdd μ h.nx c n) := sub_add hf
  refine ⟨⟨by rw [nx_add]; omega, fun id hi => ?_, fun id hi ha => ?_, fun i j hi hj ha hb c0 n1 n2 h1 h2 => ?_⟩, fun c' hc => ?_, fun c' hc => ?_⟩
  · rw [nx_add] at hi; rw [muAdd_ne (by omega)]; exact r.fresh id (by omega)
  · by_cases hid : id = h.nx
    · subst hid
      rw [get_add_same]
      exact ⟨c, n, o, muAdd_same .., hc, hb⟩
    · rw [get_add_ne h b hi hn hid] at ha ⊢
      obtain ⟨c1, m, o', h1, h2, h3⟩ := r.blk id hi ha
      exact ⟨c1, m, o', by rw [muAdd_ne hid]; exact h1, h2, h3.mono s⟩
  · by_cases hi' : i = h.nx
    · by_cases hj' : j = h.nx
      · rw [hi', hj']
      · subst hi'
        rw [muAdd_same] at h1
        rw [muAdd_ne hj'] at h2
        rw [get_add_ne h b hj hn hj'] at hb
        simp only [Option.some.injEq, Prod.mk.injEq] at h1
        exact absurd ⟨j, n2, hj, hb, by rw [h2, h1.1]⟩ hx
    · by_cases hj' : j = h.nx
      · subst hj'
        rw [muAdd_same] at h2
        rw [muAdd_ne hi'] at h1
        rw [get_add_ne h b hi hn hi'] at ha
        simp only [Option.some.injEq, Prod.mk.injEq] at h2
        exact absurd ⟨i, n1, hi, ha, by rw [h1, h2.1]⟩ hx
      · rw [muAdd_ne hi'] at h1
        rw [muAdd_ne hj'] at h2
        rw [get_add_ne h b hi hn hi'] at ha
        rw [get_add_ne h b hj hn hj'] at hb
        exact r.inj i j hi hj ha hb c0 n1 n2 h1 h2
  · obtain ⟨id, m, hi, ha, hm⟩ := hc
    by_cases hid : id = h.nx
    · subst hid
      rw [muAdd_same] at hm
      simp only [Option.some.injEq, Prod.mk.injEq] at hm
      exact .inr hm.1.symm
    · rw [get_add_ne h b hi hn hid] at ha
      rw [muAdd_ne hid] at hm
      exact .inl ⟨id, m, hi, ha, hm⟩
  · obtain ⟨id, m, hi, ha, hm⟩ := hc
    by_cases hid : id = h.nx
    · subst hid
      rw [muAdd_same] at hm
      simp only [Option.some.injEq, Prod.mk.injEq] at hm
      exact .inr hm.1.symm
    · rw [get_add_ne h b hi hn hid] at ha
      rw [muAdd_ne hid] at hm
      exact .inl ⟨id, m, hi, ha, hm⟩
/-- the world has grown by a block that nothing means -/
theorem WR.push {μ : Mu} {h : H} {w w' : World} (r : WR μ h w) {o : Obj} (e : w'.heap = w.heap.push o) (e1 : w'.os = w.os) (e2 : w'.output = w.output) (e3 : w'.tape = w.tape) : WR μ h w' ∧ Ext μ h w μ h w' := by
  have hsz : w'.heap.size = w.heap.size + 1 := by rw [e]; simp
  have old : ∀ c, c < w.heap.size → w'.heap[c]? = w.heap[c]? := fun c hc => by rw [e, Array.getElem?_push_lt hc]; simp [Array.getElem?_eq_getElem hc]
  refine ⟨⟨r.nx, r.fresh, fun id hi ha => ?_, r.inj⟩, fun _ _ h => h, by omega, fun _ h => .inl h, fun _ h => .inl h, fun c hc _ => old c hc, e1, e2, e3⟩
  obtain ⟨c, n, o', h1, h2, h3⟩ := r.blk id hi ha
  exact ⟨c, n, o', h1, by rw [old c (lt_size h2)]; exact h2, h3⟩
theorem ImgX.lt {μ : Mu} {h : H} {w : World} (r : WR μ h w) {c : Nat} (i : ImgX μ h c) : c < w.heap.size := by
  obtain ⟨id, n, hi, ha, hm⟩ := i
  obtain ⟨c', n', o', h1, h2, _⟩ := r.blk id hi ha
  rw [hm] at h1
  simp only [Option.some.injEq, Prod.mk.injEq] at h1
  rw [h1.1]; exact lt_size h2
theorem Img.x {μ : Mu} {h : H} {c : Nat} (i : Img μ h c) : ImgX μ h c := let ⟨id, n, hi, ha, hm⟩ := i; ⟨id, n, hi, wrb_ne ha, hm⟩
end
end Go.Ev

set_option linter.unusedSectionVars false
namespace Go.Ev
open Go
theorem oB_inv {g : Bool → Option V} {v : V} {r : V} (h : oB g v = some r) : ∃ x0, v = .b x0 ∧ g x0 = some r := by
  cases v with | b x0 => exact ⟨x0, rfl, h⟩ | _ => cases h
theorem oI_inv {g : IntKind → Int → Option V} {v : V} {r : V} (h : oI g v = some r) : ∃ x0 x1, v = .i x0 x1 ∧ g x0 x1 = some r := by
  cases v with | i x0 x1 => exact ⟨x0, x1, rfl, h⟩ | _ => cases h
theorem oS_inv {g : Nat → Option V} {v : V} {r : V} (h : oS g v = some r) : ∃ x0, v = .s x0 ∧ g x0 = some r := by
  cases v with | s x0 => exact ⟨x0, rfl, h⟩ | _ => cases h
theorem oR_inv {g : Ref → Option V} {v : V} {r : V} (h : oR g v = some r) : ∃ x0, v = .r x0 ∧ g x0 = some r := by
  cases v with | r x0 => exact ⟨x0, rfl, h⟩ | _ => cases h
theorem oF_inv {g : Nat → V → V → Option V} {v : V} {r : V} (h : oF g v = some r) : ∃ x0 x1 x2, v = .f x0 x1 x2 ∧ g x0 x1 x2 = some r := by
  cases v with | f x0 x1 x2 => exact ⟨x0, x1, x2, rfl, h⟩ | _ => cases h
theorem oW_inv {g : Nat → V → Option V} {v : V} {r : V} (h : oW g v = some r) : ∃ x0 x1, v = .w x0 x1 ∧ g x0 x1 = some r := by
  cases v with | w x0 x1 => exact ⟨x0, x1, rfl, h⟩ | _ => cases h
theorem oA_inv {g : V → Option V} {v : V} {r : V} (h : oA g v = some r) : ∃ x0, v = .a x0 ∧ g x0 = some r := by
  cases v with | a x0 => exact ⟨x0, rfl, h⟩ | _ => cases h
theorem oT_inv {g : V → Option V} {v : V} {r : V} (h : oT g v = some r) : ∃ x0, v = .t x0 ∧ g x0 = some r := by
  cases v with | t x0 => exact ⟨x0, rfl, h⟩ | _ => cases h
theorem oN_inv {g : Option V} {v : V} {r : V} (h : oN g v = some r) : v = .n ∧ g = some r := by
  cases v with | n => exact ⟨rfl, h⟩ | _ => cases h
theorem oC_inv {g : V → V → Option V} {v : V} {r : V} (h : oC g v = some r) : ∃ x0 x1, v = .c x0 x1 ∧ g x0 x1 = some r := by
  cases v with | c x0 x1 => exact ⟨x0, x1, rfl, h⟩ | _ => cases h
theorem qB_inv {g : Bool → Bool} {v : V}  (h : qB g v = true) : ∃ x0, v = .b x0 ∧ g x0 = true := by
  cases v with | b x0 => exact ⟨x0, rfl, h⟩ | _ => cases h
theorem qI_inv {g : IntKind → Int → Bool} {v : V}  (h : qI g v = true) : ∃ x0 x1, v = .i x0 x1 ∧ g x0 x1 = true := by
  cases v with | i x0 x1 => exact ⟨x0, x1, rfl, h⟩ | _ => cases h
theorem qS_inv {g : Nat → Bool} {v : V}  (h : qS g v = true) : ∃ x0, v = .s x0 ∧ g x0 = true := by
  cases v with | s x0 => exact ⟨x0, rfl, h⟩ | _ => cases h
theorem qR_inv {g : Ref → Bool} {v : V}  (h : qR g v = true) : ∃ x0, v = .r x0 ∧ g x0 = true := by
  cases v with | r x0 => exact ⟨x0, rfl, h⟩ | _ => cases h
theorem qF_inv {g : Nat → V → V → Bool} {v : V}  (h : qF g v = true) : ∃ x0 x1 x2, v = .f x0 x1 x2 ∧ g x0 x1 x2 = true := by
  cases v with | f x0 x1 x2 => exact ⟨x0, x1, x2, rfl, h⟩ | _ => cases h
theorem qW_inv {g : Nat → V → Bool} {v : V}  (h : qW g v = true) : ∃ x0 x1, v = .w x0 x1 ∧ g x0 x1 = true := by
  cases v with | w x0 x1 => exact ⟨x0, x1, rfl, h⟩ | _ => cases h
theorem qA_inv {g : V → Bool} {v : V}  (h : qA g v = true) : ∃ x0, v = .a x0 ∧ g x0 = true := by
  cases v with | a x0 => exact ⟨x0, rfl, h⟩ | _ => cases h
theorem qT_inv {g : V → Bool} {v : V}  (h : qT g v = true) : ∃ x0, v = .t x0 ∧ g x0 = true := by
  cases v with | t x0 => exact ⟨x0, rfl, h⟩ | _ => cases h
theorem qN_inv {g : Bool} {v : V}  (h : qN g v = true) : v = .n ∧ g = true := by
  cases v with | n => exact ⟨rfl, h⟩ | _ => cases h
theorem qC_inv {g : V → V → Bool} {v : V}  (h : qC g v = true) : ∃ x0 x1, v = .c x0 x1 ∧ g x0 x1 = true := by
  cases v with | c x0 x1 => exact ⟨x0, x1, rfl, h⟩ | _ => cases h
theorem oPt_inv {g : Nat → Nat → Option V} {v : V} {r : V} (h : oPt g v = some r) : ∃ x0 x1, v = .r (.pt x0 x1) ∧ g x0 x1 = some r := by
  obtain ⟨x, e, h⟩ := oR_inv h
  cases x with | pt x0 x1 => exact ⟨x0, x1, e, h⟩ | _ => cases h
theorem oMp_inv {g : Nat → Option V} {v : V} {r : V} (h : oMp g v = some r) : ∃ x0, v = .r (.mp x0) ∧ g x0 = some r := by
  obtain ⟨x, e, h⟩ := oR_inv h
  cases x with | mp x0 => exact ⟨x0, e, h⟩ | _ => cases h
theorem oY_inv {g : Nat → Option V} {v : V} {r : V} (h : oY g v = some r) : ∃ x0, v = .r (.y x0) ∧ g x0 = some r := by
  obtain ⟨x, e, h⟩ := oR_inv h
  cases x with | y x0 => exact ⟨x0, e, h⟩ | _ => cases h
theorem qPt_inv {g : Nat → Nat → Bool} {v : V}  (h : qPt g v = true) : ∃ x0 x1, v = .r (.pt x0 x1) ∧ g x0 x1 = true := by
  obtain ⟨x, e, h⟩ := qR_inv h
  cases x with | pt x0 x1 => exact ⟨x0, x1, e, h⟩ | _ => cases h
theorem qMp_inv {g : Nat → Bool} {v : V}  (h : qMp g v = true) : ∃ x0, v = .r (.mp x0) ∧ g x0 = true := by
  obtain ⟨x, e, h⟩ := qR_inv h
  cases x with | mp x0 => exact ⟨x0, e, h⟩ | _ => cases h
theorem qY_inv {g : Nat → Bool} {v : V}  (h : qY g v = true) : ∃ x0, v = .r (.y x0) ∧ g x0 = true := by
  obtain ⟨x, e, h⟩ := qR_inv h
  cases x with | y x0 => exact ⟨x0, e, h⟩ | _ => cases h
theorem obC_inv {g : Nat → Fz → Bool → Nat → Cs → Option V} {b : B} {r : V} (h : obC g b = some r) : ∃ x0 x1 x2 x3 x4, b = .c x0 x1 x2 x3 x4 ∧ g x0 x1 x2 x3 x4 = some r := by
  cases b with | c x0 x1 x2 x3 x4 => exact ⟨x0, x1, x2, x3, x4, rfl, h⟩ | _ => cases h
theorem obM_inv {g : V → Option V} {b : B} {r : V} (h : obM g b = some r) : ∃ x0, b = .m x0 ∧ g x0 = some r := by
  cases b with | m x0 => exact ⟨x0, rfl, h⟩ | _ => cases h
theorem obIt_inv {g : Nat → Nat → Option V} {b : B} {r : V} (h : obIt g b = some r) : ∃ x0 x1, b = .it x0 x1 ∧ g x0 x1 = some r := by
  cases b with | it x0 x1 => exact ⟨x0, x1, rfl, h⟩ | _ => cases h
theorem obDf_inv {g : Option V} {b : B} {r : V} (h : obDf g b = some r) : b = .df ∧ g = some r := by
  cases b with | df => exact ⟨rfl, h⟩ | _ => cases h
theorem obLp_inv {g : Nat → Option Ex → Nat → Tm → List Nat → Code → Code → Nat → Option V} {b : B} {r : V} (h : obLp g b = some r) : ∃ x0 x1 x2 x3 x4 x5 x6 x7, b = .lp x0 x1 x2 x3 x4 x5 x6 x7 ∧ g x0 x1 x2 x3 x4 x5 x6 x7 = some r := by
  cases b with | lp x0 x1 x2 x3 x4 x5 x6 x7 => exact ⟨x0, x1, x2, x3, x4, x5, x6, x7, rfl, h⟩ | _ => cases h
theorem qbC_inv {g : Nat → Fz → Bool → Nat → Cs → Bool} {b : B}  (h : qbC g b = true) : ∃ x0 x1 x2 x3 x4, b = .c x0 x1 x2 x3 x4 ∧ g x0 x1 x2 x3 x4 = true := by
  cases b with | c x0 x1 x2 x3 x4 => exact ⟨x0, x1, x2, x3, x4, rfl, h⟩ | _ => cases h
theorem qbM_inv {g : V → Bool} {b : B}  (h : qbM g b = true) : ∃ x0, b = .m x0 ∧ g x0 = true := by
  cases b with | m x0 => exact ⟨x0, rfl, h⟩ | _ => cases h
theorem qbIt_inv {g : Nat → Nat → Bool} {b : B}  (h : qbIt g b = true) : ∃ x0 x1, b = .it x0 x1 ∧ g x0 x1 = true := by
  cases b with | it x0 x1 => exact ⟨x0, x1, rfl, h⟩ | _ => cases h
theorem qbDf_inv {g : Bool} {b : B}  (h : qbDf g b = true) : b = .df ∧ g = true := by
  cases b with | df => exact ⟨rfl, h⟩ | _ => cases h
theorem qbLp_inv {g : Nat → Option Ex → Nat → Tm → List Nat → Code → Code → Nat → Bool} {b : B}  (h : qbLp g b = true) : ∃ x0 x1 x2 x3 x4 x5 x6 x7, b = .lp x0 x1 x2 x3 x4 x5 x6 x7 ∧ g x0 x1 x2 x3 x4 x5 x6 x7 = true := by
  cases b with | lp x0 x1 x2 x3 x4 x5 x6 x7 => exact ⟨x0, x1, x2, x3, x4, x5, x6, x7, rfl, h⟩ | _ => cases h
theorem oNat_inv {g : Nat → Option V} {v : V} {r : V} (h : oNat g v = some r) : ∃ k n, v = .i k (Int.ofNat n) ∧ g n = some r := by
  obtain ⟨k, x, e, h⟩ := oI_inv h
  cases x with | ofNat n => exact ⟨k, n, e, h⟩ | negSucc n => cases h
theorem oSl_inv {d : Option V} {g : Nat → Nat → Nat → Option V} {v : V} {r : V} (h : oSl d g v = some r) : (v = .r .ns ∧ d = some r) ∨ (∃ id off len cap, v = .r (.sl id off len cap) ∧ g id off len = some r) ∨ (∃ id sz off len, v = .r (.so id sz off len) ∧ g id off len = some r) := by
  obtain ⟨x, e, h⟩ := oR_inv h
  cases x with | ns => exact .inl ⟨e, h⟩ | sl a b c d => exact .inr (.inl ⟨a, b, c, d, e, h⟩) | so a b c d => exact .inr (.inr ⟨a, b, c, d, e, h⟩) | _ => cases h
theorem qNat_inv {g : Nat → Bool} {v : V}  (h : qNat g v = true) : ∃ k n, v = .i k (Int.ofNat n) ∧ g n = true := by
  obtain ⟨k, x, e, h⟩ := qI_inv h
  cases x with | ofNat n => exact ⟨k, n, e, h⟩ | negSucc n => cases h
theorem qSl_inv {d : Bool} {g : Nat → Nat → Nat → Bool} {v : V}  (h : qSl d g v = true) : (v = .r .ns ∧ d = true) ∨ (∃ id off len cap, v = .r (.sl id off len cap) ∧ g id off len = true) ∨ (∃ id sz off len, v = .r (.so id sz off len) ∧ g id off len = true) := by
  obtain ⟨x, e, h⟩ := qR_inv h
  cases x with | ns => exact .inl ⟨e, h⟩ | sl a b c d => exact .inr (.inl ⟨a, b, c, d, e, h⟩) | so a b c d => exact .inr (.inr ⟨a, b, c, d, e, h⟩) | _ => cases h
theorem opt_inv {α β : Type} {x : Option α} {f : α → Option β} {r : β} (h : Option.rec (motive := fun _ => Option β) none f x = some r) : ∃ y, x = some y ∧ f y = some r := by
  cases x with | none => cases h | some y => exact ⟨y, rfl, h⟩
theorem optq_inv {α : Type} {x : Option α} {f : α → Bool} (h : Option.rec (motive := fun _ => Bool) false f x = true) : ∃ y, x = some y ∧ f y = true := by
  cases x with | none => cases h | some y => exact ⟨y, rfl, h⟩
theorem bool_inv {β : Type} {c : Bool} {x : Option β} {r : β} (h : Bool.rec (motive := fun _ => Option β) none x c = some r) : c = true ∧ x = some r := by
  cases c with | false => cases h | true => exact ⟨rfl, h⟩
theorem boolq_inv {c x : Bool} (h : Bool.rec (motive := fun _ => Bool) false x c = true) : c = true ∧ x = true := by
  cases c with | false => cases h | true => exact ⟨rfl, h⟩
/-- a test whose no-arm fails in the other place -/
theorem booln_inv {β : Type} {c : Bool} {x : Option β} {r : β} (h : Bool.rec (motive := fun _ => Option β) x none c = some r) : c = false ∧ x = some r := by
  cases c with | true => cases h | false => exact ⟨rfl, h⟩
end Go.Ev

set_option linter.unusedSectionVars false
namespace Go.Ev
open Go
noncomputable section
variable [Un]

/-! ### whole numbers -/
theorem kwrap_eq (k : IntKind) (s : Nat) : kwrap k s = k.wrap (Int.ofNat s) := by
  unfold kwrap
  cases e : Nat.ble s (kmax k) with
  | false => rfl
  | true =>
    have h := le_of_ble e
    show Int.ofNat s = _
    cases k <;> simp only [kmax] at h <;> simp [IntKind.wrap, IntKind.bits, IntKind.signed] <;> omega
theorem kno_inj {k k' : IntKind} (h : Nat.beq (kno k) (kno k') = true) : k = k' := by
  cases k <;> cases k' <;> first | rfl | cases h
theorem iAdd_eq (k : IntKind) (x y : Int) : iAdd k x y = k.wrap (x + y) := by
  unfold iAdd
  cases x with
  | negSucc a => rfl
  | ofNat a => cases y with
    | negSucc b => rfl
    | ofNat b => exact kwrap_eq k (a + b)
theorem iMul_eq (k : IntKind) (x y : Int) : iMul k x y = k.wrap (x * y) := by
  unfold iMul
  cases x with
  | negSucc a => rfl
  | ofNat a => cases y with
    | negSucc b => rfl
    | ofNat b => exact kwrap_eq k (a * b)
theorem iSub_eq (k : IntKind) (x y : Int) : iSub k x y = k.wrap (x - y) := by
  unfold iSub
  cases x with
  | negSucc a => rfl
  | ofNat a => cases y with
    | negSucc b => rfl
    | ofNat b =>
      show Bool.rec (motive := fun _ => Int) _ _ (Nat.ble b a) = _
      cases e : Nat.ble b a with
      | false => rfl
      | true =>
        have h := le_of_ble e
        show kwrap k (a - b) = _
        rw [kwrap_eq]
        congr 1
        show ((a - b : Nat) : Int) = (a : Int) - (b : Int)
        omega
theorem iQuo_eq (k : IntKind) (x y : Int) : iQuo k x y = k.wrap (x.tdiv y) := by
  unfold iQuo
  cases x with
  | negSucc a => rfl
  | ofNat a => cases y with
    | negSucc b => rfl
    | ofNat b => exact kwrap_eq k (a / b)
theorem iRem_eq (x y : Int) : iRem x y = x.tmod y := by
  unfold iRem
  cases x with
  | negSucc a => rfl
  | ofNat a => cases y with
    | negSucc b => rfl
    | ofNat b => rfl
theorem iLt_eq (x y : Int) : iLt x y = decide (x < y) := by
  unfold iLt
  cases x with
  | negSucc a => rfl
  | ofNat a => cases y with
    | negSucc b => symm; simp only [decide_eq_false_iff_not]; have h1 : (0 : Int) ≤ Int.ofNat a := Int.natCast_nonneg a; have h2 := Int.negSucc_lt_zero b; omega
    | ofNat b =>
      show Nat.ble (a + 1) b = _
      cases e : Nat.ble (a + 1) b with
      | true => have h := le_of_ble e; symm; simp only [decide_eq_true_eq]; show (a : Int) < (b : Int); omega
      | false => symm; simp only [decide_eq_false_iff_not]; intro h; have h' : (a : Int) < (b : Int) := h; rw [ble_t (by omega)] at e; cases e
theorem iEq_eq (x y : Int) : iEq x y = (x == y) := by
  unfold iEq
  cases x with
  | negSucc a => rfl
  | ofNat a => cases y with
    | negSucc b => rfl
    | ofNat b =>
      show Nat.beq a b = _
      rw [Bool.eq_iff_iff, Nat.beq_eq, beq_iff_eq]
      constructor
      · intro h; subst h; rfl
      · intro h; exact Int.ofNat.inj h
theorem iZero_eq (x : Int) : iZero x = decide (x = 0) := by
  unfold iZero
  cases x with
  | negSucc a => rfl
  | ofNat a =>
    show Nat.beq a 0 = _
    cases a with
    | zero => rfl
    | succ n => show false = _; symm; simp only [decide_eq_false_iff_not]; intro h; cases h
theorem not_eq (b : Bool) : Ev.not b = !b := by cases b <;> rfl
theorem beqB_eq (a b : Bool) : beqB a b = (a == b) := by cases a <;> cases b <;> rfl

theorem bi2_inv {g : IntKind → Int → Int → Option V} {x y r : V} (h : bi2 g x y = some r) : ∃ k a b, x = .i k a ∧ y = .i k b ∧ g k a b = some r := by
  obtain ⟨k, a, e1, h1⟩ := oI_inv h
  obtain ⟨k', b, e2, h2⟩ := oI_inv h1
  obtain ⟨hk, h3⟩ := bool_inv h2
  obtain rfl := kno_inj hk
  exact ⟨k, a, b, e1, e2, h3⟩
theorem bs2_inv {g : Nat → Nat → V} {x y r : V} (h : bs2 g x y = some r) : ∃ a b, x = .s a ∧ y = .s b ∧ g a b = r := by
  obtain ⟨a, e1, h⟩ := oS_inv h
  obtain ⟨b, e2, h⟩ := oS_inv h
  exact ⟨a, b, e1, e2, Option.some.inj h⟩

variable {μ : Mu} {P : Program}
theorem rv_i {k : IntKind} {n : Int} {v : Value} (h : RV μ (.i k n) v) : v = .int k n := h
theorem rv_b {x : Bool} {v : Value} (h : RV μ (.b x) v) : v = .bool x := h
theorem rv_s {c : Nat} {v : Value} (h : RV μ (.s c) v) : ∃ s : ByteArray, v = .string s ∧ enc s.data.toList = c := h

/-- a computing operation of two values: the model's, whatever the world -/
def Pur2 (P : Program) (f : V → V → Option V) (g : Value → Value → Sem Value) : Prop :=
  ∀ (μ : Mu) (x y r : V) (a b : Value), f x y = some r → RV μ x a → RV μ y b → ∃ v, (∀ w, (g a b).run P w = .ok v w) ∧ RV μ r v

theorem intB (op : BinOp) (t : TypeId) (f : IntKind → Int → Int → Option V) (hop : ∀ k a b (w : World) r, f k a b = some r → ∃ v, (binOp op t (.int k a) (.int k b)).run P w = .ok v w ∧ (∀ w', (binOp op t (.int k a) (.int k b)).run P w' = .ok v w') ∧ ∀ μ, RV μ r v) :
    Pur2 P (bi2 f) (binOp op t) := by
  intro μ x y r a b h hx hy
  obtain ⟨k, m, n, rfl, rfl, h1⟩ := bi2_inv h
  rw [rv_i hx, rv_i hy]
  obtain ⟨v, _, h2, h3⟩ := hop k m n default r h1
  exact ⟨v, h2, h3 μ⟩

theorem pAdd (t : TypeId) : Pur2 P fAdd (binOp .add t) := intB .add t _ fun k a b w r h => by
  obtain rfl := Option.some.inj h
  exact ⟨.int k (k.wrap (a + b)), by simp [binOp, Op.intArith], fun w' => by simp [binOp, Op.intArith], fun μ => by rw [iAdd_eq]; rfl⟩
theorem pSub (t : TypeId) : Pur2 P fSub (binOp .sub t) := intB .sub t _ fun k a b w r h => by
  obtain rfl := Option.some.inj h
  exact ⟨.int k (k.wrap (a - b)), by simp [binOp, Op.intArith], fun w' => by simp [binOp, Op.intArith], fun μ => by rw [iSub_eq]; rfl⟩
theorem pMul (t : TypeId) : Pur2 P fMul (binOp .mul t) := intB .mul t _ fun k a b w r h => by
  obtain rfl := Option.some.inj h
  exact ⟨.int k (k.wrap (a * b)), by simp [binOp, Op.intArith], fun w' => by simp [binOp, Op.intArith], fun μ => by rw [iMul_eq]; rfl⟩
theorem pQuo (t : TypeId) : Pur2 P fQuo (binOp .quo t) := intB .quo t _ fun k a b w r h => by
  obtain ⟨hz, h⟩ := booln_inv h
  obtain rfl := Option.some.inj h
  rw [iZero_eq, decide_eq_false_iff_not] at hz
  exact ⟨.int k (k.wrap (a.tdiv b)), by simp [binOp, Op.intDiv, hz], fun w' => by simp [binOp, Op.intDiv, hz], fun μ => by rw [iQuo_eq]; rfl⟩
theorem pRem (t : TypeId) : Pur2 P fRem (binOp .rem t) := intB .rem t _ fun k a b w r h => by
  obtain ⟨hz, h⟩ := booln_inv h
  obtain rfl := Option.some.inj h
  rw [iZero_eq, decide_eq_false_iff_not] at hz
  exact ⟨.int k (a.tmod b), by simp [binOp, Op.intDiv, hz], fun w' => by simp [binOp, Op.intDiv, hz], fun μ => by rw [iRem_eq]; rfl⟩
theorem pEq (t : TypeId) : Pur2 P fEq (binOp .eql t) := intB .eql t _ fun k a b w r h => by
  obtain rfl := Option.some.inj h
  exact ⟨.bool (a == b), by simp [binOp, Op.intCmp], fun w' => by simp [binOp, Op.intCmp], fun μ => by rw [iEq_eq]; rfl⟩
theorem pNe (t : TypeId) : Pur2 P fNe (binOp .neq t) := intB .neq t _ fun k a b w r h => by
  obtain rfl := Option.some.inj h
  exact ⟨.bool (a != b), by simp [binOp, Op.intCmp], fun w' => by simp [binOp, Op.intCmp], fun μ => by rw [iEq_eq, not_eq]; rfl⟩
theorem pLt (t : TypeId) : Pur2 P fLt (binOp .lss t) := intB .lss t _ fun k a b w r h => by
  obtain rfl := Option.some.inj h
  exact ⟨.bool (a < b), by simp [binOp, Op.intCmp], fun w' => by simp [binOp, Op.intCmp], fun μ => by rw [iLt_eq]; rfl⟩
theorem pLe (t : TypeId) : Pur2 P fLe (binOp .leq t) := intB .leq t _ fun k a b w r h => by
  obtain rfl := Option.some.inj h
  exact ⟨.bool (a ≤ b), by simp [binOp, Op.intCmp], fun w' => by simp [binOp, Op.intCmp], fun μ => by
    rw [iLt_eq, not_eq]; show Value.bool _ = Value.bool _; congr 1; rw [Bool.eq_iff_iff]; simp⟩
theorem pGt (t : TypeId) : Pur2 P fGt (binOp .gtr t) := intB .gtr t _ fun k a b w r h => by
  obtain rfl := Option.some.inj h
  exact ⟨.bool (a > b), by simp [binOp, Op.intCmp], fun w' => by simp [binOp, Op.intCmp], fun μ => by rw [iLt_eq]; rfl⟩
theorem pGe (t : TypeId) : Pur2 P fGe (binOp .geq t) := intB .geq t _ fun k a b w r h => by
  obtain rfl := Option.some.inj h
  exact ⟨.bool (a ≥ b), by simp [binOp, Op.intCmp], fun w' => by simp [binOp, Op.intCmp], fun μ => by
    rw [iLt_eq, not_eq]; show Value.bool _ = Value.bool _; congr 1; rw [Bool.eq_iff_iff]; simp⟩

/-! ### bits -/
theorem wrap_small (k : IntKind) {s : Nat} (h : s ≤ kmax k) : k.wrap (Int.ofNat s) = Int.ofNat s := by
  rw [← kwrap_eq]; unfold kwrap; rw [ble_t h]
theorem kmax_lt (k : IntKind) : kmax k < 2 ^ k.bits := by cases k <;> decide
theorem bv_nat (k : IntKind) {a : Nat} (h : a ≤ kmax k) : (BitVec.ofInt k.bits (Int.ofNat a)).toNat = a := by
  have := kmax_lt k
  show (BitVec.ofInt k.bits ((a : Nat) : Int)).toNat = a
  rw [BitVec.ofInt_natCast, BitVec.toNat_ofNat, Nat.mod_eq_of_lt (by omega)]
theorem andNot_bits {n : Nat} (x y : BitVec n) : (x &&& ~~~y).toNat = andNot x.toNat y.toNat := by
  have e : x &&& ~~~y = x ^^^ (x &&& y) := by
    ext i hi
    simp
    cases x[i] <;> cases y[i] <;> rfl
  rw [e, BitVec.toNat_xor, BitVec.toNat_and]
  rfl
theorem andNot_le (a b : Nat) : andNot a b ≤ a := by
  show Nat.xor a (Nat.land a b) ≤ a
  show a ^^^ (a &&& b) ≤ a
  apply Nat.le_of_testBit
  intro i h
  rw [Nat.testBit_xor, Nat.testBit_and] at h
  cases ha : a.testBit i with
  | true => rfl
  | false => rw [ha] at h; simp at h

theorem iAnd_sound {k : IntKind} {x y r : Int} (h : iAnd k x y = some r) : k.wrap (((BitVec.ofInt k.bits x &&& BitVec.ofInt k.bits y).toNat : Nat) : Int) = r := by
  unfold iAnd at h
  cases x with
  | negSucc a => cases h
  | ofNat a =>
    obtain ⟨ha, h⟩ := bool_inv h
    have ha' := le_of_ble ha
    cases y with
    | ofNat b =>
      obtain ⟨hb, h⟩ := bool_inv h
      obtain rfl := Option.some.inj h
      rw [BitVec.toNat_and, bv_nat k ha', bv_nat k (le_of_ble hb)]
      exact wrap_small k (Nat.le_trans Nat.and_le_left ha')
    | negSucc b =>
      obtain ⟨hb, h⟩ := bool_inv h
      obtain rfl := Option.some.inj h
      have e : BitVec.ofInt k.bits (Int.negSucc b) = ~~~ BitVec.ofInt k.bits (Int.ofNat b) := by
        show BitVec.ofInt k.bits (Int.negSucc b) = ~~~ BitVec.ofInt k.bits ((b : Nat) : Int)
        rw [BitVec.ofInt_natCast, BitVec.ofInt_negSucc_eq_not_ofNat]
      rw [e, andNot_bits, bv_nat k ha', bv_nat k (le_of_ble hb)]
      exact wrap_small k (Nat.le_trans (andNot_le a b) ha')
theorem iBits_sound (g : Nat → Nat → Nat) (G : ∀ {n : Nat}, BitVec n → BitVec n → BitVec n) (hG : ∀ {n : Nat} (x y : BitVec n), (G x y).toNat = g x.toNat y.toNat) {k : IntKind} {x y r : Int} (h : iBits g k x y = some r) :
    k.wrap (((G (BitVec.ofInt k.bits x) (BitVec.ofInt k.bits y)).toNat : Nat) : Int) = r := by
  unfold iBits at h
  cases x with
  | negSucc a => cases h
  | ofNat a =>
    cases y with
    | negSucc b => cases h
    | ofNat b =>
      obtain ⟨ha, h⟩ := bool_inv h
      obtain ⟨hb, h⟩ := bool_inv h
      obtain ⟨hc, h⟩ := bool_inv h
      obtain rfl := Option.some.inj h
      rw [hG, bv_nat k (le_of_ble ha), bv_nat k (le_of_ble hb)]
      exact wrap_small k (le_of_ble hc)

theorem pAnd (t : TypeId) : Pur2 P fAnd (binOp .and t) := intB .and t _ fun k a b w r h => by
  obtain ⟨n, h1, h⟩ := opt_inv h
  obtain rfl := Option.some.inj h
  have e := iAnd_sound h1
  exact ⟨.int k n, by simp [binOp, Op.intBits]; exact e, fun w' => by simp [binOp, Op.intBits]; exact e, fun μ => rfl⟩
theorem pOr (t : TypeId) : Pur2 P fOr (binOp .or t) := intB .or t _ fun k a b w r h => by
  obtain ⟨n, h1, h⟩ := opt_inv h
  obtain rfl := Option.some.inj h
  have e := iBits_sound Nat.lor (fun x y => x ||| y) (fun x y => BitVec.toNat_or x y) h1
  exact ⟨.int k n, by simp [binOp, Op.intBits]; simpa using e, fun w' => by simp [binOp, Op.intBits]; simpa using e, fun μ => rfl⟩
theorem pXor (t : TypeId) : Pur2 P fXor (binOp .xor t) := intB .xor t _ fun k a b w r h => by
  obtain ⟨n, h1, h⟩ := opt_inv h
  obtain rfl := Option.some.inj h
  have e := iBits_sound Nat.xor (fun x y => x ^^^ y) (fun x y => BitVec.toNat_xor x y) h1
  exact ⟨.int k n, by simp [binOp, Op.intBits]; simpa using e, fun w' => by simp [binOp, Op.intBits]; simpa using e, fun μ => rfl⟩
theorem pAndNot (t : TypeId) : Pur2 P fAndNot (binOp .andNot t) := intB .andNot t _ fun k a b w r h => by
  obtain ⟨n, h1, h⟩ := opt_inv h
  obtain rfl := Option.some.inj h
  have e := iBits_sound andNot (fun x y => x &&& ~~~y) (fun x y => andNot_bits x y) h1
  have e2 : binOp .andNot t (.int k a) (.int k b) = pure (.int k n) := by
    rw [← e]; simp only [binOp]; rw [if_neg (by simp)]; rfl
  exact ⟨.int k n, by rw [e2]; rfl, fun w' => by rw [e2]; rfl, fun μ => rfl⟩
theorem pShl (t : TypeId) : Pur2 P fShl (binOp .shl t) := by
  intro μ x y r a b h hx hy
  obtain ⟨k, m, rfl, h1⟩ := oI_inv h
  obtain ⟨k', n, rfl, h2⟩ := oNat_inv h1
  obtain ⟨hn, h3⟩ := bool_inv h2
  obtain rfl := Option.some.inj h3
  rw [rv_i hx, rv_i hy]
  have h0 : ¬ (Int.ofNat n < 0) := by have : (0 : Int) ≤ Int.ofNat n := Int.natCast_nonneg n; omega
  exact ⟨_, fun w => by simp only [binOp, Op.shift, h0, if_false]; rfl, rfl⟩
theorem pShr (t : TypeId) : Pur2 P fShr (binOp .shr t) := by
  intro μ x y r a b h hx hy
  obtain ⟨k, m, rfl, h1⟩ := oI_inv h
  obtain ⟨k', n, rfl, h2⟩ := oNat_inv h1
  obtain ⟨hn, h3⟩ := bool_inv h2
  obtain rfl := Option.some.inj h3
  rw [rv_i hx, rv_i hy]
  have h0 : ¬ (Int.ofNat n < 0) := by have : (0 : Int) ≤ Int.ofNat n := Int.natCast_nonneg n; omega
  exact ⟨_, fun w => by simp only [binOp, Op.shift, h0, if_false]; rfl, rfl⟩

/-! ### texts and truths -/
theorem size_enc {s : ByteArray} {c : Nat} (h : enc s.data.toList = c) : slen c = s.size := by rw [← h, slen_enc]; simp
theorem enc_beq {s s' : ByteArray} {c c' : Nat} (h : enc s.data.toList = c) (h' : enc s'.data.toList = c') : Nat.beq c c' = (s.toList == s'.toList) := by
  rw [ByteArray.toList_eq, ByteArray.toList_eq, Bool.eq_iff_iff, Nat.beq_eq, beq_iff_eq, ← h, ← h']
  exact ⟨enc_inj, fun e => by rw [e]⟩
theorem pCat (t : TypeId) : Pur2 P fCat (binOp .add t) := by
  intro μ x y r a b h hx hy
  obtain ⟨c, rfl, h1⟩ := oS_inv h
  obtain ⟨d, rfl, h2⟩ := oS_inv h1
  obtain ⟨hl, h3⟩ := bool_inv h2
  obtain rfl := Option.some.inj h3
  obtain ⟨s, rfl, hs⟩ := rv_s hx
  obtain ⟨s', rfl, hs'⟩ := rv_s hy
  have hl' := le_of_ble hl
  rw [size_enc hs, size_enc hs'] at hl'
  have hb : ¬ (((s.size + s'.size : Nat) : Int) > IntKind.i64.max) := by
    have : (s.size + s'.size : Nat) ≤ 4294967296 := hl'
    simp [IntKind.max, IntKind.signed, IntKind.bits]
    omega
  refine ⟨.string (s ++ s'), fun w => by simp only [binOp, Op.stringOp, hb, if_false]; rfl, s ++ s', rfl, ?_⟩
  rw [← hs, ← hs', sapp_enc]
  simp
theorem pSEq (t : TypeId) : Pur2 P fSEq (binOp .eql t) := by
  intro μ x y r a b h hx hy
  obtain ⟨c, d, rfl, rfl, h1⟩ := bs2_inv h
  subst h1
  obtain ⟨s, rfl, hs⟩ := rv_s hx
  obtain ⟨s', rfl, hs'⟩ := rv_s hy
  exact ⟨_, fun w => by simp [binOp, Op.stringOp]; rfl, by rw [enc_beq hs hs']; rfl⟩
theorem pSNe (t : TypeId) : Pur2 P fSNe (binOp .neq t) := by
  intro μ x y r a b h hx hy
  obtain ⟨c, d, rfl, rfl, h1⟩ := bs2_inv h
  subst h1
  obtain ⟨s, rfl, hs⟩ := rv_s hx
  obtain ⟨s', rfl, hs'⟩ := rv_s hy
  exact ⟨.bool (!(s.toList == s'.toList)), fun w => by simp only [binOp, Op.stringOp]; rfl, by rw [enc_beq hs hs', not_eq]; rfl⟩
theorem bool_eqIn {t : TypeId} (ht : P.underlying t = some .bool) (a b : Bool) (w : World) : (Op.equal t (.bool a) (.bool b)).run P w = .ok (a == b) w := by
  unfold Op.equal Op.maxDepth Op.equalIn
  simp [underlying, ht]
theorem pBEq {t : TypeId} (ht : P.underlying t = some .bool) : Pur2 P fBEq (binOp .eql t) := by
  intro μ x y r a b h hx hy
  obtain ⟨c, rfl, h1⟩ := oB_inv h
  obtain ⟨d, rfl, h2⟩ := oB_inv h1
  obtain rfl := Option.some.inj h2
  rw [rv_b hx, rv_b hy]
  exact ⟨.bool (c == d), fun w => by simp [binOp, bool_eqIn ht], by rw [beqB_eq]; rfl⟩
theorem pBNe {t : TypeId} (ht : P.underlying t = some .bool) : Pur2 P fBNe (binOp .neq t) := by
  intro μ x y r a b h hx hy
  obtain ⟨c, rfl, h1⟩ := oB_inv h
  obtain ⟨d, rfl, h2⟩ := oB_inv h1
  obtain rfl := Option.some.inj h2
  rw [rv_b hx, rv_b hy]
  exact ⟨.bool (!(c == d)), fun w => by simp [binOp, bool_eqIn ht], by rw [beqB_eq, not_eq]; rfl⟩
end
end Go.Ev

set_option linter.unusedSectionVars false
namespace Go.Ev
open Go
noncomputable section
variable [Un]

structure EnvOK (E : Env) (P : Program) : Prop where
  ft : ∀ f fn, E.ft f = some fn → P.funcs[f]? = some fn ∧ (fn.name == "runtime.NumGoroutine") = false
  tt : ∀ t i, E.tt t = some i → P.info? t = some i
  pg : E.pg = P
  mixed : P.follows .mixedOrders = true
  un : ∀ op t x y v, E.un op t x y = some v → ∀ (μ : Mu) (a b : Value), RV μ x a → RV μ y b → ∃ z, RV μ v z ∧ ∀ (X Y : Operand) (w : World), (do eqGuard op t X Y a b; binOp op t a b : Sem Value).run P w = .ok z w

/-- package-level variables are where they are -/
def GM (μ : Mu) : Prop := ∀ g, g < 32 → ∃ n, μ g = some (g, n)
theorem GM.mono {μ μ' : Mu} (s : Sub μ μ') (h : GM μ) : GM μ' := fun g hg => let ⟨n, e⟩ := h g hg; ⟨n, s _ _ e⟩

section
variable {E : Env} {P : Program} (ok : EnvOK E P)
include ok
theorem und_ok {t : Nat} {d : TypeDesc} (h : E.und t = some d) : P.underlying t = some d := by
  unfold Env.und at h
  cases hi : E.tt t with
  | none => rw [hi] at h; cases h
  | some i =>
    have hp := ok.tt t i hi
    rw [hi] at h
    simp only at h
    unfold Program.underlying
    rw [hp]
    obtain ⟨desc, str, size, bytes, hpt, al, fal, zero, cmp, ms⟩ := i
    simp only at h
    cases desc with
    | named n u =>
      simp only at h ⊢
      cases hu : E.tt u with
      | none => rw [hu] at h; cases h
      | some j =>
        rw [hu] at h
        rw [ok.tt u j hu]
        exact h
    | _ => exact h
omit ok in
theorem und_tt {t : Nat} {d : TypeDesc} (h : E.und t = some d) : ∃ i, E.tt t = some i := by
  unfold Env.und at h
  cases hi : E.tt t with
  | none => rw [hi] at h; cases h
  | some i => exact ⟨i, rfl⟩
theorem run_und {t : Nat} {d : TypeDesc} (h : E.und t = some d) (w : World) : (underlying t).run P w = .ok d w := by
  simp [underlying, und_ok ok h]
theorem run_isAgg {t : Nat} {d : TypeDesc} (h : E.und t = some d) (w : World) : (isAgg t).run P w = .ok (E.isAg t) w := by
  unfold isAgg Env.isAg
  simp only [Sem.run_bind, run_und ok h, Result.andThen_ok, h]
  cases d <;> rfl
theorem run_info {t : Nat} {i : TypeInfo} (h : E.tt t = some i) (w : World) : (typeInfo t).run P w = .ok i w := by
  simp [typeInfo, ok.tt t i h]
theorem run_size {t : Nat} {i : TypeInfo} (h : E.tt t = some i) (w : World) : (sizeOf t).run P w = .ok (E.szOf t) w := by
  simp [sizeOf, run_info ok h, Env.szOf, h]
theorem run_sizeU {t : Nat} {d : TypeDesc} (h : E.und t = some d) (w : World) : (sizeOf t).run P w = .ok (E.szOf t) w := by
  obtain ⟨i, hi⟩ := und_tt h
  exact run_size ok hi w
end

/-! ### constants -/
theorem vOf1_rel (μ : Mu) (v : Value) : RV μ (vOf1 v) v := by
  unfold vOf1
  split <;> first | rfl | trivial | exact ⟨_, rfl, rfl⟩
theorem vList_rel (μ : Mu) (l : List Value) : RL μ (vList l) l := by
  induction l with
  | nil => rfl
  | cons x l ih => exact ⟨x, l, rfl, vOf1_rel μ x, ih⟩
theorem vOf_rel (μ : Mu) (v : Value) : RV μ (vOf v) v := by
  unfold vOf
  split
  · exact ⟨_, rfl, vList_rel μ _⟩
  · rename_i vs
    split
    · rename_i h; exact ⟨[], by rw [← h], rfl⟩
    · trivial
  · exact vOf1_rel μ v

theorem eval_rel {μ : Mu} {nt : Nat} {T : Tm} {a : Act} (gm : GM μ) (rt : RT μ nt T a.tmps) (x : Operand) : RV μ (gO x T) (a.eval x) := by
  cases x with
  | tmp t => exact (rt.2 t).2
  | const v => exact vOf_rel μ v
  | global g =>
    show RV μ (Bool.casesOn (Nat.ble (Nat.succ g) 32) .u (.r (.pt g 0))) _
    cases e : Nat.ble (Nat.succ g) 32 with
    | false => trivial
    | true => obtain ⟨n, hn⟩ := gm g (le_of_ble e); exact ⟨g, n, hn, rfl⟩
  | func f => exact ⟨[], [], rfl, rfl, rfl⟩
theorem gL_rel {μ : Mu} {nt : Nat} {T : Tm} {a : Act} (gm : GM μ) (rt : RT μ nt T a.tmps) (l : List Operand) : RL μ (gL l T) (l.map a.eval) := by
  induction l with
  | nil => rfl
  | cons x l ih => exact ⟨_, _, rfl, eval_rel gm rt x, ih⟩

theorem rt_put {μ : Mu} {nt : Nat} {T : Tm} {a : Act} (rt : RT μ nt T a.tmps) {v : V} {x : Value} (hv : RV μ v x) (d : Option Nat) : RT μ nt (pD nt d v T) (a.put d x).tmps := by
  cases d with
  | none => exact rt
  | some t =>
    have hs := rt.1
    refine ⟨by simpa [Act.put] using hs, fun s => ?_⟩
    show (nt ≤ s → rd s (if t < nt then wr t v T else T) = .u) ∧ RV μ (rd s (if t < nt then wr t v T else T)) ((a.tmps.setIfInBounds t x).getD s undef)
    by_cases ht : t < nt
    · rw [if_pos ht]
      by_cases e : s = t
      · subst e
        refine ⟨fun h => absurd ht (by omega), ?_⟩
        by_cases h256 : s < 512
        · rw [rd_wr_same h256]
          have : (a.tmps.setIfInBounds s x).getD s undef = x := by
            have hlt : s < a.tmps.size := by omega
            simp [hlt]
          rw [this]; exact hv
        · rw [rd_ge h256]; trivial
      · rw [rd_wr_ne e]
        have : (a.tmps.setIfInBounds t x).getD s undef = a.tmps.getD s undef := by
          simp [Array.getElem?_setIfInBounds_ne (Ne.symm e)]
        rw [this]
        exact rt.2 s
    · rw [if_neg ht]
      by_cases e : s = t
      · subst e
        refine ⟨(rt.2 s).1, ?_⟩
        rw [(rt.2 s).1 (by omega)]; trivial
      · have : (a.tmps.setIfInBounds t x).getD s undef = a.tmps.getD s undef := by
          simp [Array.getElem?_setIfInBounds_ne (Ne.symm e)]
        rw [this]
        exact rt.2 s

/-! ### reading memory -/
theorem cell_of {w : World} {c off : Nat} {arr : Array Value} {e : TypeId} {fr : Nat × Nat} (h : w.heap[c]? = some (.cells arr e fr)) : w.cell? ⟨c, off, none⟩ = arr[off]? := by
  simp [World.cell?, h]
theorem add_off (c off i : Nat) : (⟨c, off, none⟩ : Addr).add i = ⟨c, off + i, none⟩ := by
  unfold Addr.add
  split
  · rename_i h; subst h; rfl
  · rfl

/-- what stands in a block of cells that may be read -/
theorem ld_sound {μ : Mu} {h : H} {w : World} (r : WR μ h w) {id off : Nat} {v : V} (e : h.ld id off = some v) {c n : Nat} (hm : μ id = some (c, n)) :
    ∃ x, w.cell? ⟨c, off, none⟩ = some x ∧ RV μ v x := by
  have hid := r.lt hm
  unfold H.ld at e
  have key : ∀ m cs, RC μ m cs = RC μ m cs → ∀ arr el fr, w.heap[c]? = some (.cells arr el fr) → RC μ m cs arr → (Bool.rec (motive := fun _ => Option V) none (some (Cs.get cs off)) (Nat.ble (Nat.succ off) m)) = some v → ∃ x, w.cell? ⟨c, off, none⟩ = some x ∧ RV μ v x := by
    intro m cs _ arr el fr hh hc hv
    obtain ⟨hb, hv⟩ := bool_inv hv
    obtain ⟨x, hx, hr⟩ := hc.2.2 off (le_of_ble hb)
    exact ⟨x, by rw [cell_of hh]; exact hx, by rw [← Option.some.inj hv]; exact hr⟩
  cases hb : h.get id with
  | g m cs =>
    obtain ⟨c', n', o, h1, h2, h3⟩ := r.blk id hid (by rw [hb]; simp)
    rw [hm] at h1; obtain ⟨rfl, rfl⟩ := Prod.mk.inj (Option.some.inj h1)
    rw [hb] at h3 e
    obtain ⟨arr, el, fr, rfl, hsz, hc⟩ := h3
    exact key m cs rfl arr el fr h2 hc e
  | c el fz ex m cs =>
    obtain ⟨c', n', o, h1, h2, h3⟩ := r.blk id hid (by rw [hb]; simp)
    rw [hm] at h1; obtain ⟨rfl, rfl⟩ := Prod.mk.inj (Option.some.inj h1)
    rw [hb] at h3 e
    obtain ⟨arr, lo, hi, rfl, hsz, hx, hc, hf⟩ := h3
    exact key m cs rfl arr el (lo, hi) h2 hc e
  | _ => rw [hb] at e; cases e

theorem ldn_rel {μ : Mu} {cs : Cs} {arr : Array Value} {m : Nat} (hc : RC μ m cs arr) (k : Nat) : ∀ (off : Nat), off + k ≤ m → ∀ (z : V) (zs : List Value), RL μ z zs →
    RL μ (Cs.ldn k cs off z) ((arr.toList.drop off).take k ++ zs) := by
  induction k with
  | zero => intro off _ z zs hz; show RL μ z _; simpa using hz
  | succ k ih =>
    intro off hle z zs hz
    obtain ⟨x, hx, hr⟩ := hc.2.2 off (by omega)
    have hlt : off < arr.toList.length := by have := (Array.getElem?_eq_some_iff.1 hx).1; simpa using this
    have hxe : arr.toList[off] = x := by have := (Array.getElem?_eq_some_iff.1 hx).2; simpa using this
    have e : (arr.toList.drop off).take (k + 1) ++ zs = x :: ((arr.toList.drop (off + 1)).take k ++ zs) := by
      rw [List.drop_eq_getElem_cons hlt, List.take_succ_cons, hxe]; rfl
    rw [e]
    exact ⟨x, _, rfl, hr, ih (off + 1) (by omega) z zs hz⟩

/-- the cells of a place -/
theorem lds_sound {μ : Mu} {h : H} {w : World} (r : WR μ h w) {id off k : Nat} {v : V} (e : h.lds id off k = some v) {c n : Nat} (hm : μ id = some (c, n)) :
    ∃ arr el fr, w.heap[c]? = some (.cells arr el fr) ∧ off + k ≤ arr.size ∧ arr.size = n ∧ RL μ v ((arr.toList.drop off).take k) := by
  have hid := r.lt hm
  unfold H.lds at e
  have key : ∀ m cs arr el fr, w.heap[c]? = some (.cells arr el fr) → arr.size = n → RC μ m cs arr → (Bool.rec (motive := fun _ => Option V) none (some (Cs.ldq k cs off .n)) (Nat.ble (Nat.add off k) m)) = some v →
      ∃ arr el fr, w.heap[c]? = some (.cells arr el fr) ∧ off + k ≤ arr.size ∧ arr.size = n ∧ RL μ v ((arr.toList.drop off).take k) := by
    intro m cs arr el fr hh hsz hc hv
    obtain ⟨hb, hv⟩ := bool_inv hv
    have hle : off + k ≤ m := le_of_ble hb
    have := ldn_rel hc k off hle .n [] rfl
    rw [← Option.some.inj hv, ldq_eq]
    exact ⟨arr, el, fr, hh, Nat.le_trans hle hc.2.1, hsz, by simpa using this⟩
  cases hb : h.get id with
  | g m cs =>
    obtain ⟨c', n', o, h1, h2, h3⟩ := r.blk id hid (by rw [hb]; simp)
    rw [hm] at h1; obtain ⟨rfl, rfl⟩ := Prod.mk.inj (Option.some.inj h1)
    rw [hb] at h3 e
    obtain ⟨arr, el, fr, rfl, hsz, hc⟩ := h3
    exact key m cs arr el fr h2 hsz hc e
  | c el fz ex m cs =>
    obtain ⟨c', n', o, h1, h2, h3⟩ := r.blk id hid (by rw [hb]; simp)
    rw [hm] at h1; obtain ⟨rfl, rfl⟩ := Prod.mk.inj (Option.some.inj h1)
    rw [hb] at h3 e
    obtain ⟨arr, lo, hi, rfl, hsz, hx, hc, hf⟩ := h3
    exact key m cs arr el (lo, hi) h2 hsz hc e
  | _ => rw [hb] at e; cases e

theorem run_load_cell {P : Program} {w : World} {a : Addr} {x : Value} (h : w.cell? a = some x) (m : Mode) : (load a m).run P w = .ok x w := by
  rw [run_load]; simp [h]
theorem run_loadCellsFrom {P : Program} {w : World} {c : Nat} {arr : Array Value} {e : TypeId} {fr : Nat × Nat} (h : w.heap[c]? = some (.cells arr e fr)) (off : Nat) (n : Nat) : ∀ (i : Nat) (acc : Array Value), off + i + n ≤ arr.size →
    (loadCellsFrom ⟨c, off, none⟩ i n acc).run P w = .ok (acc ++ ((arr.toList.drop (off + i)).take n).toArray) w := by
  induction n with
  | zero => intro i acc _; simp [loadCellsFrom]
  | succ n ih =>
    intro i acc hle
    have hlt : off + i < arr.size := by omega
    have hcell : w.cell? ((⟨c, off, none⟩ : Addr).add i) = some arr[off + i] := by
      rw [add_off, cell_of h]; simp [hlt]
    unfold loadCellsFrom
    rw [Sem.run_bind, run_load_cell hcell, Result.andThen_ok, ih (i + 1) _ (by omega)]
    congr 1
    have hl : off + i < arr.toList.length := by simpa using hlt
    rw [List.drop_eq_getElem_cons hl, List.take_succ_cons]
    simp [Nat.add_assoc]
theorem run_loadCells {P : Program} {w : World} {c : Nat} {arr : Array Value} {e : TypeId} {fr : Nat × Nat} (h : w.heap[c]? = some (.cells arr e fr)) (off n : Nat) (hle : off + n ≤ arr.size) :
    (loadCells ⟨c, off, none⟩ n).run P w = .ok ((arr.toList.drop off).take n).toArray w := by
  unfold loadCells
  rw [run_loadCellsFrom h off n 0 #[] (by omega)]
  simp
end
end Go.Ev

set_option linter.unusedSectionVars false
namespace Go.Ev
open Go
noncomputable section
variable [Un]

/-- what an operation, or a function's call, ends in -/
def Nx (P : Program) (R : Value → World → Prop) : Result Next → Prop
  | .ok (.value v) w => R v w
  | .ok .skip w => R undef w
  | .ok (.enter f args) w => CallsIn Fence.wide 0 P f args w fun | .returned v, w' => R v w' | _, _ => False
  | .ok (.round l f tmps assign body) w => RoundIn Fence.wide 0 P l f tmps assign body w fun | .returned v, w' => R v w' | _, _ => False
  | _ => False

def Fw (ro : Option Nat) : Fence := { fn := fun _ => True, depth := none, alive := false, round := ro }
theorem Fw_none : Fw none = Fence.wide := rfl

theorem Nx.upon {P : Program} {R : Value → World → Prop} {r : Result Next} (h : Nx P R r) {ro : Option Nat} {o : Oper} {a : Act} {next : Act → World → Prop} {Q : Exit → Act → World → Prop}
    (hn : ∀ v w, R v w → next (a.put o.dst v) w) : o.uponIn (Fw ro) 0 P a next Q r := by
  cases r with
  | halt x w => exact h.elim
  | ok x w =>
    cases x with
    | value v => exact hn _ _ h
    | skip => exact hn _ _ h
    | enter f args =>
      refine ⟨fun h => (by cases h), ?_⟩
      exact CallsIn.mono (F := Fence.wide) h fun e w' hr => by cases e with | returned v => exact hn _ _ hr | _ => exact hr.elim
    | round l f tmps assign body =>
      refine ⟨fun h => (by cases h), ?_⟩
      exact RoundIn.mono (F := Fence.wide) h fun e w' hr => by cases e with | returned v => exact hn _ _ hr | _ => exact hr.elim
    | _ => exact h.elim
theorem Nx.mono {P : Program} {R R' : Value → World → Prop} {r : Result Next} (h : Nx P R r) (hr : ∀ v w, R v w → R' v w) : Nx P R' r := by
  cases r with
  | halt x w => exact h.elim
  | ok x w =>
    cases x with
    | value v => exact hr _ _ h
    | skip => exact hr _ _ h
    | enter f args => exact CallsIn.mono h fun e w' h => by cases e with | returned v => exact hr _ _ h | _ => exact h.elim
    | round l f tmps assign body => exact RoundIn.mono h fun e w' h => by cases e with | returned v => exact hr _ _ h | _ => exact h.elim
    | _ => exact h.elim

/-- the world behind, and what goes on there -/
def PK (μ : Mu) (h : H) (w : World) (k : V → H → Bool) (v : Value) (w' : World) : Prop :=
  ∃ μ' h' a, RV μ' a v ∧ WR μ' h' w' ∧ Ext μ h w μ' h' w' ∧ k a h' = true

/-- what is asked of the evaluator of calls -/
def CallS (P : Program) (call : C) : Prop :=
  (∀ f args h k, call false f args h k = true → ∀ μ w xs, GM μ → WR μ h w → RL μ args xs → Nx P (PK μ h w k) ((callFunc f xs.toArray).run P w)) ∧
  (∀ id args h k, call true id args h k = true → ∀ μ w xs c n, μ id = some (c, n) → GM μ → WR μ h w → RL μ args xs → Nx P (PK μ h w k) ((Instr.yield c xs.toArray).run P w))

def QS (P : Program) (nt : Nat) (o : Oper) (f : Tm → H → Option V) : Prop :=
  ∀ μ T h w (a : Act) v, GM μ → RT μ nt T a.tmps → WR μ h w → f T h = some v → ∃ x, (execOp a.eval o).run P w = .ok (.value x) w ∧ RV μ v x
def LS (P : Program) (nt : Nat) (o : Oper) (f : L1) : Prop :=
  ∀ call, CallS P call → ∀ μ T h w (a : Act) k, GM μ → RT μ nt T a.tmps → WR μ h w → f call T h k = true → Nx P (PK μ h w k) ((execOp a.eval o).run P w)
/-- a quiet operation that does not look at memory: its value is the same in every world -/
def QSW (P : Program) (nt : Nat) (o : Oper) (f : Tm → H → Option V) : Prop :=
  ∀ μ T h (a : Act) v, GM μ → RT μ nt T a.tmps → f T h = some v → ∃ x, (∀ w, (execOp a.eval o).run P w = .ok (.value x) w) ∧ RV μ v x
structure QX (P : Program) (nt : Nat) (o : Oper) (f : Tm → H → Option V) : Prop where
  qs : QS P nt o f
  w : looks o = false → QSW P nt o f
theorem QSW.qx {P : Program} {nt : Nat} {o : Oper} {f : Tm → H → Option V} (h : QSW P nt o f) : QX P nt o f :=
  ⟨fun μ T hh w a v gm rt _ e => let ⟨x, h1, h2⟩ := h μ T hh a v gm rt e; ⟨x, h1 w, h2⟩, fun _ => h⟩
theorem QS.qx {P : Program} {nt : Nat} {o : Oper} {f : Tm → H → Option V} (hl : looks o = true) (h : QS P nt o f) : QX P nt o f := ⟨h, fun h => by rw [hl] at h; cases h⟩
/-- a deferred call -/
def RD (μ : Mu) (v : V) (d : Deferred) : Prop :=
  match v with
  | .f f a b => ∃ xs ys, d = { target := .fn (.func f) (List.toArray ys), args := List.toArray xs } ∧ RL μ a xs ∧ RL μ b ys
  | .r (.y id) => ∃ c n, μ id = some (c, n) ∧ d.target = .collected c
  | _ => False
def DS (P : Program) (nt : Nat) (o : Oper) (f : Tm → Option V) : Prop :=
  ∀ μ T h w (a : Act) v, GM μ → RT μ nt T a.tmps → WR μ h w → f T = some v → ∃ d, (execOp a.eval o).run P w = .ok (.defer d) w ∧ RD μ v d

def IS (P : Program) (ops : Ops) (o : Oper) (io : IOp) : Prop :=
  match io with
  | .q p f => o.guard = none ∧ p = pD ops.1 o.dst ∧ QX P ops.1 o f ∧ (∀ c, o.op ≠ .defer c)
  | .l p f => o.guard = none ∧ p = pD ops.1 o.dst ∧ LS P ops.1 o f ∧ (∀ c, o.op ≠ .defer c)
  | .qg g want p f => (∃ j t, o.guard = some (j, want) ∧ guardOf ops.2 j = some t ∧ g = rd t) ∧ p = pD ops.1 o.dst ∧ QX P ops.1 o f ∧ (∀ c, o.op ≠ .defer c)
  | .lg g want p f => (∃ j t, o.guard = some (j, want) ∧ guardOf ops.2 j = some t ∧ g = rd t) ∧ p = pD ops.1 o.dst ∧ LS P ops.1 o f ∧ (∀ c, o.op ≠ .defer c)
  | .df f => o.guard = none ∧ o.dst = none ∧ DS P ops.1 o f
  | .bad => True

theorem finQ_is {P : Program} {ops : Ops} {o : Oper} {f : Tm → H → Option V} (hd : ∀ c, o.op ≠ .defer c) (h : QX P ops.1 o f) : IS P ops o (finQ ops o f) := by
  unfold finQ
  rw [withP_eq]
  cases hg : o.guard with
  | none => exact ⟨hg, rfl, h, hd⟩
  | some p =>
    obtain ⟨j, want⟩ := p
    simp only
    cases ht : guardOf ops.2 j with
    | none => exact trivial
    | some t => simp only [withR_eq]; exact ⟨⟨j, t, hg, ht, rfl⟩, rfl, h, hd⟩
theorem finL_is {P : Program} {ops : Ops} {o : Oper} {f : L1} (hd : ∀ c, o.op ≠ .defer c) (h : LS P ops.1 o f) : IS P ops o (finL ops o f) := by
  unfold finL
  rw [withP_eq]
  cases hg : o.guard with
  | none => exact ⟨hg, rfl, h, hd⟩
  | some p =>
    obtain ⟨j, want⟩ := p
    simp only
    cases ht : guardOf ops.2 j with
    | none => exact trivial
    | some t => simp only [withR_eq]; exact ⟨⟨j, t, hg, ht, rfl⟩, rfl, h, hd⟩

/-! ### one step of a quiet operation -/
theorem QS.nx {P : Program} {nt : Nat} {o : Oper} {f : Tm → H → Option V} (hq : QS P nt o f) {μ : Mu} {T : Tm} {h : H} {w : World} {a : Act} {v : V} (gm : GM μ) (rt : RT μ nt T a.tmps) (wr : WR μ h w) (e : f T h = some v) :
    Nx P (fun x w' => w' = w ∧ RV μ v x) ((execOp a.eval o).run P w) := by
  obtain ⟨x, e1, e2⟩ := hq μ T h w a v gm rt wr e
  rw [e1]; exact ⟨rfl, e2⟩

/-! ### the quiet operations -/
end
end Go.Ev

set_option linter.unusedSectionVars false
namespace Go.Ev
open Go
noncomputable section
variable [Un]
variable {P : Program} {E : Env} {ops : Ops} {o : Oper}

theorem exv {s : Sem Value} {x : Value} {w w' : World} (h : s.run P w = .ok x w') : (do pure (.value (← s)) : Sem Next).run P w = .ok (.value x) w' := by simp [h]
theorem exu {s : Sem Unit} {w w' : World} (h : s.run P w = .ok () w') : (do s; pure .skip : Sem Next).run P w = .ok .skip w' := by simp [h]

theorem qop1 {nt : Nat} {x : Operand} {f : V → Option V} {g : Value → Sem Value} (hx : ∀ ρ, execOp ρ o = (do pure (.value (← g (ρ x))))) (h : ∀ μ y v r, RV μ v y → f v = some r → ∃ z, (∀ w, (g y).run P w = .ok z w) ∧ RV μ r z) :
    QX P nt o (q1 (gO x) f) := QSW.qx fun μ T _ a v gm rt e => by
  obtain ⟨z, h1, h2⟩ := h μ _ _ v (eval_rel gm rt x) e
  exact ⟨z, fun w => by rw [hx]; exact exv (h1 w), h2⟩
theorem qop2 {nt : Nat} {x y : Operand} {f : V → V → Option V} {g : Value → Value → Sem Value} (hx : ∀ ρ, execOp ρ o = (do pure (.value (← g (ρ x) (ρ y))))) (h : Pur2 P f g) :
    QX P nt o (q2 (gO x) (gO y) f) := QSW.qx fun μ T _ a v gm rt e => by
  obtain ⟨z, h1, h2⟩ := h μ _ _ v _ _ e (eval_rel gm rt x) (eval_rel gm rt y)
  exact ⟨z, fun w => by rw [hx]; exact exv (h1 w), h2⟩

theorem is_move (x : Operand) (ho : o.op = .move x) : IS P ops o (c_move x E ops o) := by
  unfold c_move; rw [withO_eq]
  exact finQ_is (by simp [ho]) (QSW.qx fun μ T _ a v gm rt e => ⟨_, fun w => by simp only [execOp, ho]; rfl, by rw [← Option.some.inj e]; exact eval_rel gm rt x⟩)
theorem is_assign (x : Operand) (ho : o.op = .assign x) : IS P ops o (c_assign x E ops o) := by
  unfold c_assign; rw [withO_eq]
  exact finQ_is (by simp [ho]) (QSW.qx fun μ T _ a v gm rt e => ⟨_, fun w => by simp only [execOp, ho]; rfl, by rw [← Option.some.inj e]; exact eval_rel gm rt x⟩)
theorem is_pick (c x y : Operand) (ho : o.op = .pick c x y) : IS P ops o (c_pick c x y E ops o) := by
  unfold c_pick; rw [withO_eq, withO_eq, withO_eq]
  refine finQ_is (by simp [ho]) (QSW.qx fun μ T _ a v gm rt e => ?_)
  obtain ⟨b, e1, e2⟩ := oB_inv e
  have hc := eval_rel gm rt c
  rw [e1] at hc
  have hc' : a.eval c = .bool b := hc
  simp only [execOp, ho, hc', asBool]
  cases b with
  | false => rw [← Option.some.inj e2]; exact ⟨a.eval y, fun w => rfl, eval_rel gm rt y⟩
  | true => rw [← Option.some.inj e2]; exact ⟨a.eval x, fun w => rfl, eval_rel gm rt x⟩
theorem is_nilCheck (x : Operand) (ho : o.op = .nilCheck x) : IS P ops o (c_nilCheck x E ops o) := by
  unfold c_nilCheck; rw [withO_eq]
  refine finQ_is (by simp [ho]) (QSW.qx fun μ T _ a v gm rt e => ?_)
  have hx := eval_rel gm rt x
  simp only [q1] at e
  generalize hv : gO x T = u at e hx
  cases u with
  | r r =>
    obtain ⟨h1, h2⟩ := booln_inv e
    rw [← Option.some.inj h2]
    cases r with
    | np => cases h1
    | ns => cases h1
    | nm => cases h1
    | nf => cases h1
    | ni => cases h1
    | pt i off => obtain ⟨c, n, e1, e2⟩ := id hx; simp only [execOp, ho, e2]; exact ⟨_, fun w => rfl, e2 ▸ hx⟩
    | sl i off len cap => obtain ⟨c, n, e1, e2, e3⟩ := id hx; simp only [execOp, ho, e2]; exact ⟨_, fun w => rfl, e2 ▸ hx⟩
    | so i sz off len => obtain ⟨c, n, cap, e1, e2, e3⟩ := id hx; simp only [execOp, ho, e2]; exact ⟨_, fun w => rfl, e2 ▸ hx⟩
    | se => obtain ⟨c, cap, e2⟩ := id hx; simp only [execOp, ho, e2]; exact ⟨_, fun w => rfl, e2 ▸ hx⟩
    | mp id' => obtain ⟨c, n, e1, e2⟩ := id hx; simp only [execOp, ho, e2]; exact ⟨_, fun w => rfl, e2 ▸ hx⟩
    | y id' => cases h1
  | f f x y =>
    rw [← Option.some.inj e]
    obtain ⟨xs, ys, e2, _⟩ := id hx
    simp only [execOp, ho, e2]
    exact ⟨_, fun w => rfl, e2 ▸ hx⟩
  | w t y =>
    rw [← Option.some.inj e]
    obtain ⟨z, e2, _⟩ := id hx
    simp only [execOp, ho, e2]
    exact ⟨_, fun w => rfl, e2 ▸ hx⟩
  | _ => cases e

/-! ### two operands -/
theorem eqGuard_ok {op : BinOp} {t : TypeId} {x y : Operand} {a b : Value} (ha : ∀ cs, a ≠ .agg cs) (hn : a = .nilIface → (∃ c, x = .const c) ∨ ∃ c, y = .const c) (w : World) : (eqGuard op t x y a b).run P w = .ok () w := by
  unfold eqGuard
  split
  all_goals split
  all_goals first | rfl | skip
  all_goals first
    | (exact absurd rfl (ha _))
    | skip
  all_goals
    cases a <;> first
      | rfl
      | exact absurd rfl (ha _)
      | (cases b <;> first | rfl | (rcases hn rfl with ⟨c, rfl⟩ | ⟨c, rfl⟩ <;> simp))
/-- an operand that stands for a number, a text or a truth -/
def isBase (u : V) : Prop := (∃ k n, u = .i k n) ∨ (∃ c, u = .s c) ∨ ∃ b, u = .b b
theorem isBase_val {μ : Mu} {u : V} {a : Value} (h : isBase u) (hr : RV μ u a) : (∀ cs, a ≠ .agg cs) ∧ a ≠ .nilIface := by
  rcases h with ⟨k, n, rfl⟩ | ⟨c, rfl⟩ | ⟨b, rfl⟩
  · rw [rv_i hr]; exact ⟨fun _ => by simp, by simp⟩
  · obtain ⟨s, rfl, _⟩ := rv_s hr; exact ⟨fun _ => by simp, by simp⟩
  · rw [rv_b hr]; exact ⟨fun _ => by simp, by simp⟩
theorem bi2_base {g : IntKind → Int → Int → Option V} : ∀ u v r, bi2 g u v = some r → isBase u := fun u v r h => by
  obtain ⟨k, a, b, rfl, _⟩ := bi2_inv h; exact .inl ⟨k, a, rfl⟩
theorem binS {op : BinOp} {t : TypeId} {x y : Operand} {f : V → V → Option V} {q : Nat} (ho : o.op = .binOp op t x y q) (hb : ∀ u v r, f u v = some r → isBase u) (h : Pur2 P f (binOp op t)) : IS P ops o (finQ ops o (q2 (gO x) (gO y) f)) :=
  finQ_is (by simp [ho]) <| QSW.qx fun μ T _ a v gm rt e => by
    have hx := eval_rel gm rt x
    obtain ⟨z, h1, h2⟩ := h μ _ _ v _ _ e hx (eval_rel gm rt y)
    obtain ⟨n1, n2⟩ := isBase_val (hb _ _ _ e) hx
    refine ⟨z, fun w => ?_, h2⟩
    simp only [execOp, ho]
    refine exv ?_
    simp [eqGuard_ok (P := P) (op := op) (t := t) (x := x) (y := y) (b := a.eval y) n1 (fun h => absurd h n2) w, h1 w]

/-! ### nil -/
theorem nilP_inv {v : V} {b : Bool} (h : fNilP v = some b) {μ : Mu} {a : Value} (hr : RV μ v a) : (b = true ∧ a = .pointer none) ∨ (b = false ∧ ∃ c, a = .pointer (some c)) := by
  cases v with
  | r r => cases r <;> first
      | (cases h; done)
      | exact .inl ⟨(Option.some.inj h).symm, hr⟩
      | (obtain ⟨c, n, _, e⟩ := hr; exact .inr ⟨(Option.some.inj h).symm, _, e⟩)
  | _ => cases h
theorem nilS_inv {v : V} {b : Bool} (h : fNilS v = some b) {μ : Mu} {a : Value} (hr : RV μ v a) : (b = true ∧ a = .slice none 0 0) ∨ (b = false ∧ ∃ c l k, a = .slice (some c) l k) := by
  cases v with
  | r r => cases r <;> first
      | (cases h; done)
      | exact .inl ⟨(Option.some.inj h).symm, hr⟩
      | (obtain ⟨c, n, _, e, _⟩ := hr; exact .inr ⟨(Option.some.inj h).symm, _, _, _, e⟩)
      | (obtain ⟨c, n, cap, _, e, _⟩ := hr; exact .inr ⟨(Option.some.inj h).symm, _, _, _, e⟩)
      | (obtain ⟨c, n, e⟩ := hr; exact .inr ⟨(Option.some.inj h).symm, _, _, _, e⟩)
  | _ => cases h
theorem nilM_inv {v : V} {b : Bool} (h : fNilM v = some b) {μ : Mu} {a : Value} (hr : RV μ v a) : (b = true ∧ a = .map none) ∨ (b = false ∧ ∃ c, a = .map (some c)) := by
  cases v with
  | r r => cases r <;> first
      | (cases h; done)
      | exact .inl ⟨(Option.some.inj h).symm, hr⟩
      | (obtain ⟨c, n, _, e⟩ := hr; exact .inr ⟨(Option.some.inj h).symm, _, e⟩)
  | _ => cases h
theorem nilF_inv {v : V} {b : Bool} (h : fNilF v = some b) {μ : Mu} {a : Value} (hr : RV μ v a) : (b = true ∧ a = .nilFunc) ∨ (b = false ∧ ∃ f x y, a = .func f x y) := by
  cases v with
  | r r => cases r <;> first
      | (cases h; done)
      | exact .inl ⟨(Option.some.inj h).symm, hr⟩
      | (obtain ⟨hb, h'⟩ := bool_inv h; have hb := le_of_ble hb; rcases hr with ⟨_, c, n, _, e⟩ | ⟨hge, _⟩; exact .inr ⟨(Option.some.inj h').symm, _, _, _, e⟩; omega)
  | f f x y => obtain ⟨xs, ys, e, _⟩ := hr; exact .inr ⟨(Option.some.inj h).symm, _, _, _, e⟩
  | _ => cases h
theorem nilI_inv {v : V} {b : Bool} (h : fNilI v = some b) {μ : Mu} {a : Value} (hr : RV μ v a) : (b = true ∧ a = .nilIface) ∨ (b = false ∧ ∃ t x, a = .iface t x) := by
  cases v with
  | r r => cases r <;> first
      | (cases h; done)
      | exact .inl ⟨(Option.some.inj h).symm, hr⟩
  | w t x => obtain ⟨y, e, _⟩ := hr; exact .inr ⟨(Option.some.inj h).symm, _, _, e⟩
  | _ => cases h

theorem bV_rel (μ : Mu) (neg b : Bool) : RV μ (bV neg b) (.bool (if neg then !b else b)) := by
  cases neg <;> cases b <;> rfl
/-- what equality asks -/
def EqS (P : Program) (t : TypeId) (a b : Value) (r : Bool) : Prop := ∀ w, (Op.equal t a b).run P w = .ok r w
theorem eq_run {neg : Bool} {t : TypeId} {a b : Value} {r : Bool} (h : EqS P t a b r) (hk : (binOp .eql t a b = do pure (.bool (← Op.equal t a b))) ∧ (binOp .neq t a b = do pure (.bool (!(← Op.equal t a b))))) (w : World) :
    (binOp (if neg then .neq else .eql) t a b).run P w = .ok (.bool (if neg then !r else r)) w := by
  cases neg with
  | false => simp only [Bool.false_eq_true, if_false, hk.1]; simp [h w]
  | true => simp only [if_true, hk.2]; simp [h w]
end
end Go.Ev

set_option linter.constructorNameAsVariable false
set_option linter.unusedVariables false
set_option linter.unusedSectionVars false
namespace Go.Ev
open Go
noncomputable section
variable [Un]
variable {P : Program} {E : Env} {ops : Ops} {o : Oper}

/-- equality as the model takes it where it is no number or text -/
def KB (t : TypeId) (a b : Value) : Prop := (binOp .eql t a b = do pure (.bool (← Op.equal t a b))) ∧ (binOp .neq t a b = do pure (.bool (!(← Op.equal t a b))))

theorem nilEqS {neg : Bool} {t : TypeId} {x y : Operand} {isN : Operand → Bool} {fN : V → Option Bool} {q : Nat} {f : Tm → H → Option V} {N : Value → Prop} {D : Bool → Value → Prop}
    (ho : o.op = .binOp (if neg then .neq else .eql) t x y q) (hN : ∀ x, isN x = true → ∃ c, x = .const c ∧ N c) (hD : ∀ v b μ a, fN v = some b → RV μ v a → D b a)
    (hE : ∀ c a b, N c → D b a → EqS P t c a b ∧ EqS P t a c b ∧ KB t c a ∧ KB t a c ∧ (∀ cs, a ≠ .agg cs) ∧ (∀ cs, c ≠ .agg cs))
    (h : nilEq neg isN fN x y (gO x) (gO y) = some f) : IS P ops o (finQ ops o f) := by
  unfold nilEq at h
  refine finQ_is (by simp [ho]) <| QSW.qx fun μ T hh a v gm rt e => ?_
  cases hx : isN x with
  | true =>
    rw [hx] at h
    obtain rfl := Option.some.inj h
    obtain ⟨c, rfl, hc⟩ := hN x hx
    obtain ⟨b, e1, e2⟩ := opt_inv e
    obtain rfl := Option.some.inj e2
    obtain ⟨h1, _, h3, _, _, h5⟩ := hE c (a.eval y) b hc (hD _ _ _ _ e1 (eval_rel gm rt y))
    refine ⟨_, fun w => ?_, bV_rel μ neg b⟩
    simp only [execOp, ho]
    refine exv ?_
    have := eqGuard_ok (P := P) (op := if neg then .neq else .eql) (t := t) (x := .const c) (y := y) (a := c) (b := a.eval y) h5 (fun _ => .inl ⟨c, rfl⟩) w
    show (do eqGuard _ t (.const c) y c (a.eval y); binOp _ t c (a.eval y) : Sem Value).run P w = _
    simp only [Sem.run_bind, this, Result.andThen_ok]
    exact eq_run h1 h3 w
  | false =>
    cases hy : isN y with
    | false => rw [hx, hy] at h; cases h
    | true =>
      rw [hx, hy] at h
      obtain rfl := Option.some.inj h
      obtain ⟨c, rfl, hc⟩ := hN y hy
      obtain ⟨b, e1, e2⟩ := opt_inv e
      obtain rfl := Option.some.inj e2
      obtain ⟨_, h2, _, h4, h5, _⟩ := hE c (a.eval x) b hc (hD _ _ _ _ e1 (eval_rel gm rt x))
      refine ⟨_, fun w => ?_, bV_rel μ neg b⟩
      simp only [execOp, ho]
      refine exv ?_
      have := eqGuard_ok (P := P) (op := if neg then .neq else .eql) (t := t) (x := x) (y := .const c) (a := a.eval x) (b := c) h5 (fun _ => .inr ⟨c, rfl⟩) w
      show (do eqGuard _ t x (.const c) (a.eval x) c; binOp _ t (a.eval x) c : Sem Value).run P w = _
      simp only [Sem.run_bind, this, Result.andThen_ok]
      exact eq_run h2 h4 w

section kinds
variable {t : TypeId}
theorem eqP {e : TypeId} (ht : P.underlying t = some (.pointer e)) : ∀ c a b, c = .pointer none → ((b = true ∧ a = .pointer none) ∨ (b = false ∧ ∃ c, a = .pointer (some c))) → EqS P t c a b ∧ EqS P t a c b ∧ KB t c a ∧ KB t a c ∧ (∀ cs, a ≠ .agg cs) ∧ (∀ cs, c ≠ .agg cs) := by
  rintro c a b rfl (⟨rfl, rfl⟩ | ⟨rfl, d, rfl⟩) <;> refine ⟨fun w => ?_, fun w => ?_, ⟨rfl, rfl⟩, ⟨rfl, rfl⟩, by simp, by simp⟩ <;>
    (unfold Op.equal Op.maxDepth Op.equalIn; simp [underlying, ht])
theorem eqSl {e : TypeId} (ht : P.underlying t = some (.slice e)) : ∀ c a b, (∃ n m, c = .slice none n m) → ((b = true ∧ a = .slice none 0 0) ∨ (b = false ∧ ∃ c l k, a = .slice (some c) l k)) → EqS P t c a b ∧ EqS P t a c b ∧ KB t c a ∧ KB t a c ∧ (∀ cs, a ≠ .agg cs) ∧ (∀ cs, c ≠ .agg cs) := by
  rintro c a b ⟨n, m, rfl⟩ (⟨rfl, rfl⟩ | ⟨rfl, d, l, k, rfl⟩) <;> refine ⟨fun w => ?_, fun w => ?_, ⟨rfl, rfl⟩, ⟨rfl, rfl⟩, by simp, by simp⟩ <;>
    (unfold Op.equal Op.maxDepth Op.equalIn; simp [underlying, ht])
theorem eqM {k e : TypeId} (ht : P.underlying t = some (.map k e)) : ∀ c a b, c = .map none → ((b = true ∧ a = .map none) ∨ (b = false ∧ ∃ c, a = .map (some c))) → EqS P t c a b ∧ EqS P t a c b ∧ KB t c a ∧ KB t a c ∧ (∀ cs, a ≠ .agg cs) ∧ (∀ cs, c ≠ .agg cs) := by
  rintro c a b rfl (⟨rfl, rfl⟩ | ⟨rfl, d, rfl⟩) <;> refine ⟨fun w => ?_, fun w => ?_, ⟨rfl, rfl⟩, ⟨rfl, rfl⟩, by simp, by simp⟩ <;>
    (unfold Op.equal Op.maxDepth Op.equalIn; simp [underlying, ht])
theorem eqF {ps rs : Array TypeId} {va : Bool} (ht : P.underlying t = some (.func ps rs va)) : ∀ c a b, c = .nilFunc → ((b = true ∧ a = .nilFunc) ∨ (b = false ∧ ∃ f x y, a = .func f x y)) → EqS P t c a b ∧ EqS P t a c b ∧ KB t c a ∧ KB t a c ∧ (∀ cs, a ≠ .agg cs) ∧ (∀ cs, c ≠ .agg cs) := by
  rintro c a b rfl (⟨rfl, rfl⟩ | ⟨rfl, f, x, y, rfl⟩) <;> refine ⟨fun w => ?_, fun w => ?_, ⟨rfl, rfl⟩, ⟨rfl, rfl⟩, by simp, by simp⟩ <;>
    (unfold Op.equal Op.maxDepth Op.equalIn; simp [underlying, ht])
theorem eqI {ms : Array (String × TypeId)} (ht : P.underlying t = some (.interface ms)) : ∀ c a b, c = .nilIface → ((b = true ∧ a = .nilIface) ∨ (b = false ∧ ∃ d x, a = .iface d x)) → EqS P t c a b ∧ EqS P t a c b ∧ KB t c a ∧ KB t a c ∧ (∀ cs, a ≠ .agg cs) ∧ (∀ cs, c ≠ .agg cs) := by
  rintro c a b rfl (⟨rfl, rfl⟩ | ⟨rfl, d, x, rfl⟩) <;> refine ⟨fun w => ?_, fun w => ?_, ⟨rfl, rfl⟩, ⟨rfl, rfl⟩, by simp, by simp⟩ <;>
    (unfold Op.equal Op.maxDepth Op.equalIn; simp [underlying, ht])
theorem isNilP_inv : ∀ x, isNilP x = true → ∃ c, x = .const c ∧ c = .pointer none := fun x h => by
  unfold isNilP at h; split at h
  · exact ⟨_, rfl, rfl⟩
  · cases h
theorem isNilS_inv : ∀ x, isNilS x = true → ∃ c, x = .const c ∧ ∃ n m, c = .slice none n m := fun x h => by
  unfold isNilS at h; split at h
  · exact ⟨_, rfl, _, _, rfl⟩
  · cases h
theorem isNilM_inv : ∀ x, isNilM x = true → ∃ c, x = .const c ∧ c = .map none := fun x h => by
  unfold isNilM at h; split at h
  · exact ⟨_, rfl, rfl⟩
  · cases h
theorem isNilF_inv : ∀ x, isNilF x = true → ∃ c, x = .const c ∧ c = .nilFunc := fun x h => by
  unfold isNilF at h; split at h
  · exact ⟨_, rfl, rfl⟩
  · cases h
theorem isNilI_inv : ∀ x, isNilI x = true → ∃ c, x = .const c ∧ c = .nilIface := fun x h => by
  unfold isNilI at h; split at h
  · exact ⟨_, rfl, rfl⟩
  · cases h

theorem fPEqS {neg : Bool} {e : TypeId} (ht : P.underlying t = some (.pointer e)) {i : TypeInfo} (hi : P.info? e = some i) (hz : i.size ≠ 0) : Pur2 P (fPEq neg) (binOp (if neg then .neq else .eql) t) := by
  intro μ x y r a b h hx hy
  unfold fPEq at h
  obtain ⟨m, h1, h⟩ := opt_inv h
  obtain ⟨n, h2, h⟩ := opt_inv h
  replace h : (Bool.casesOn m (Bool.casesOn n
      (oPt (fun i m => oPt (fun j n => Bool.casesOn (Nat.beq i j) none (some (bV neg (Nat.beq m n)))) y) x)
      (some (bV neg false))) (some (bV neg n)) : Option V) = some r := h
  cases m with
  | true =>
    obtain rfl := Option.some.inj h
    rcases nilP_inv h1 hx with ⟨_, rfl⟩ | ⟨h, _⟩
    · obtain ⟨g1, _, g3, _⟩ := eqP ht (.pointer none) b n rfl (nilP_inv h2 hy)
      exact ⟨_, fun w => eq_run g1 g3 w, bV_rel μ neg n⟩
    · cases h
  | false =>
    cases n with
    | true =>
      obtain rfl := Option.some.inj h
      rcases nilP_inv h2 hy with ⟨_, rfl⟩ | ⟨h, _⟩
      · obtain ⟨_, g2, _, g4, _⟩ := eqP ht (.pointer none) a false rfl (nilP_inv h1 hx)
        exact ⟨_, fun w => eq_run g2 g4 w, bV_rel μ neg false⟩
      · cases h
    | false =>
      obtain ⟨i1, o1, q1, h5⟩ := oPt_inv h
      obtain ⟨i2, o2, q2, h6⟩ := oPt_inv h5
      obtain ⟨hid, h7⟩ := bool_inv h6
      obtain rfl := Option.some.inj h7
      subst q1 q2
      obtain rfl := Nat.eq_of_beq_eq_true hid
      obtain ⟨c, k, e1, rfl⟩ := hx
      obtain ⟨c', k', e1', rfl⟩ := hy
      rw [e1] at e1'; obtain ⟨rfl, rfl⟩ := Prod.mk.inj (Option.some.inj e1')
      refine ⟨_, fun w => eq_run (r := Nat.beq o1 o2) (fun w => ?_) ⟨rfl, rfl⟩ w, bV_rel μ neg _⟩
      unfold Op.equal Op.maxDepth Op.equalIn
      simp only [Sem.run_bind, underlying, ht]
      have : ((⟨c, o1, none⟩ : Addr) == ⟨c, o2, none⟩) = Nat.beq o1 o2 := by
        cases hb : Nat.beq o1 o2 with
        | true => obtain rfl := Nat.eq_of_beq_eq_true hb; simp
        | false =>
          have : o1 ≠ o2 := fun h => by subst h; simp at hb
          simp [this]
      simp [underlying, ht, sizeOf, typeInfo, hi, hz, sameAddr, this]
end kinds
end
end Go.Ev

set_option linter.constructorNameAsVariable false
set_option linter.unusedVariables false
set_option linter.unusedSimpArgs false
set_option linter.unusedSectionVars false
namespace Go.Ev
open Go
noncomputable section
variable [Un]
variable {P : Program} {E : Env} {ops : Ops} {o : Oper}

/-! ### structs of numbers, texts and truths, held against each other -/
theorem nth_rel0 {μ : Mu} (n : Nat) : ∀ {l r : V} {xs : List Value}, V.nth n l = some r → RL μ l xs → ∃ x, xs[n]? = some x ∧ RV μ r x := by
  induction n with
  | zero =>
    intro l r xs h hr
    obtain ⟨a, t, rfl, h⟩ := oC_inv h
    obtain ⟨x, xs, rfl, hx, _⟩ := hr
    exact ⟨x, rfl, by rw [← Option.some.inj h]; exact hx⟩
  | succ n ih =>
    intro l r xs h hr
    obtain ⟨a, t, rfl, h⟩ := oC_inv h
    obtain ⟨x, xs, rfl, _, ht⟩ := hr
    simpa using ih h ht
theorem part_run0 (ok : EnvOK E P) {t : Nat} {d : TypeDesc} (ht : E.und t = some d) (hd : E.isAg t = false) {off : Nat} {u r : V} {μ : Mu} {cs : List Value} (h : V.nth off u = some r) (hr : RL μ u cs) :
    ∃ x, (∀ w, (part t cs.toArray off).run P w = .ok x w) ∧ RV μ r x := by
  obtain ⟨x, h1, h2⟩ := nth_rel0 off h hr
  refine ⟨x, fun w => ?_, h2⟩
  have := run_isAgg ok ht w
  rw [hd] at this
  have hx : cs.toArray[off]? = some x := by simpa using h1
  unfold part
  simp only [Sem.run_bind, this, Result.andThen_ok, Bool.false_eq_true, if_false, hx]
  rfl
/-- what a field's equality is -/
def FldEq (P : Program) (t : TypeId) (g : V → V → Option V) : Prop := ∀ (μ : Mu) (u v r : V) (a b : Value), g u v = some r → RV μ u a → RV μ v b → ∃ x, r = .b x ∧ ∀ d w, (Op.equalIn (d + 1) t a b).run P w = .ok x w
theorem fldInt {t : TypeId} {k : IntKind} (ht : P.underlying t = some (.int k)) : FldEq P t fEq := by
  intro μ u v r a b h ha hb
  obtain ⟨k', x, y, rfl, rfl, h1⟩ := bi2_inv h
  obtain rfl := Option.some.inj h1
  rw [rv_i ha, rv_i hb]
  exact ⟨_, rfl, fun d w => by rw [run_equalIn_int w d t k' k x y ht, iEq_eq]⟩
theorem fldStr {t : TypeId} (ht : P.underlying t = some .string) : FldEq P t fSEq := by
  intro μ u v r a b h ha hb
  obtain ⟨c, d, rfl, rfl, h1⟩ := bs2_inv h
  subst h1
  obtain ⟨s, rfl, hs⟩ := rv_s ha
  obtain ⟨s', rfl, hs'⟩ := rv_s hb
  exact ⟨_, rfl, fun d w => by rw [run_equalIn_string w d t s s' ht, enc_beq hs hs']⟩
theorem fldBool {t : TypeId} (ht : P.underlying t = some .bool) : FldEq P t fBEq := by
  intro μ u v r a b h ha hb
  obtain ⟨c, rfl, h1⟩ := oB_inv h
  obtain ⟨d, rfl, h2⟩ := oB_inv h1
  obtain rfl := Option.some.inj h2
  rw [rv_b ha, rv_b hb]
  exact ⟨_, rfl, fun n w => by rw [run_equalIn_bool w n t c d ht, beqB_eq]⟩
theorem eqFs_cons {f : Field} {l : List Field} {r : List (Nat × (V → V → Option V))} (ok : EnvOK E P) (h : eqFs E (f :: l) = some r) :
    ∃ g r', r = (f.offset, g) :: r' ∧ eqFs E l = some r' ∧ f.name ≠ "_" ∧ FldEq P f.type g ∧ ∃ d, E.und f.type = some d ∧ E.isAg f.type = false := by
  have hn : ∀ x, (f.name == "_") = x → x = false → f.name ≠ "_" := fun x h1 h2 e => by rw [e] at h1; subst h2; simp at h1
  unfold eqFs at h
  cases hb : (f.name == "_") with
  | true => rw [hb] at h; cases h
  | false =>
    rw [hb] at h
    cases hd : E.und f.type with
    | none => rw [hd] at h; cases h
    | some d =>
      have hu := und_ok ok hd
      rw [hd] at h
      cases hr : eqFs E l with
      | none => rw [hr] at h; cases d <;> cases h
      | some r' =>
        rw [hr] at h
        cases d <;> first | (cases h; done) | skip
        case int k => exact ⟨fEq, r', (Option.some.inj h).symm, rfl, hn _ hb rfl, fldInt hu, _, rfl, by simp [Env.isAg, hd]⟩
        case string => exact ⟨fSEq, r', (Option.some.inj h).symm, rfl, hn _ hb rfl, fldStr hu, _, rfl, by simp [Env.isAg, hd]⟩
        case bool => exact ⟨fBEq, r', (Option.some.inj h).symm, rfl, hn _ hb rfl, fldBool hu, _, rfl, by simp [Env.isAg, hd]⟩
theorem eqFs_run (ok : EnvOK E P) (l : List Field) : ∀ {r : List (Nat × (V → V → Option V))}, eqFs E l = some r → ∀ {u v z : V} {xs ys : List Value} {μ : Mu}, fEqL r u v = some z → RL μ u xs → RL μ v ys →
    ∃ x, z = .b x ∧ ∀ d w, (Op.eqFields (d + 1) xs.toArray ys.toArray l).run P w = .ok x w := by
  induction l with
  | nil =>
    intro r h u v z xs ys μ hz hx hy
    obtain rfl := Option.some.inj (show some [] = some r from h)
    obtain rfl := Option.some.inj (show some (V.b true) = some z from hz)
    exact ⟨true, rfl, fun d w => rfl⟩
  | cons f l ih =>
    intro r h u v z xs ys μ hz hx hy
    obtain ⟨g, r', rfl, hr', hn, hg, d0, hd, ha⟩ := eqFs_cons ok h
    have hz : Option.rec (motive := fun _ => Option V) none (fun a => Option.rec (motive := fun _ => Option V) none (fun b => Option.rec (motive := fun _ => Option V) none (fun r => oB (fun x => Bool.rec (motive := fun _ => Option V) (some (.b false)) (fEqL r' u v) x) r) (g a b)) (V.nth f.offset v)) (V.nth f.offset u) = some z := hz
    obtain ⟨a, e1, hz⟩ := opt_inv hz
    obtain ⟨b, e2, hz⟩ := opt_inv hz
    obtain ⟨c, e3, hz⟩ := opt_inv hz
    obtain ⟨p, p1, p2⟩ := part_run0 ok hd ha e1 hx
    obtain ⟨q, q1, q2⟩ := part_run0 ok hd ha e2 hy
    obtain ⟨x, rfl, hx1⟩ := hg μ a b c p q e3 p2 q2
    obtain ⟨x', hx', hz⟩ := oB_inv hz
    obtain rfl : x = x' := by injection hx'
    have step : ∀ d w, (Op.eqFields (d + 1) xs.toArray ys.toArray (f :: l)).run P w = (if (!x) = true then pure false else Op.eqFields (d + 1) xs.toArray ys.toArray l : Sem Bool).run P w := fun d w => by
      simp only [Op.eqFields, hn, ne_eq, not_false_eq_true, if_true, Sem.run_bind, p1 w, q1 w, Result.andThen_ok, hx1 d w]
    cases x with
    | false =>
      obtain rfl := Option.some.inj hz
      exact ⟨false, rfl, fun d w => by rw [step]; rfl⟩
    | true =>
      obtain ⟨y, hy1, hy2⟩ := ih hr' hz hx hy
      exact ⟨y, hy1, fun d w => by rw [step]; exact hy2 d w⟩
theorem fStEqS (ok : EnvOK E P) {t : TypeId} {fs : Array Field} {l : List (Nat × (V → V → Option V))} (ht : P.underlying t = some (.struct fs)) (hl : eqFs E fs.toList = some l) (hs : P.stoodInHeld t = false) {neg : Bool} {u v r : V} {μ : Mu} {a b : Value}
    (h : fStEq neg l u v = some r) (ha : RV μ u a) (hb : RV μ v b) : (∃ xs ys, a = .agg xs ∧ b = .agg ys) ∧ ∃ x : Value, RV μ r x ∧ ∀ w, (binOp (if neg then .neq else .eql) t a b).run P w = .ok x w := by
  obtain ⟨x, hu, g⟩ := oA_inv h
  obtain ⟨y, hv, g2⟩ := oA_inv g
  obtain ⟨z, h1, g3⟩ := opt_inv g2
  clear h g g2
  subst hu hv
  obtain ⟨xs, rfl, hx⟩ := ha
  obtain ⟨ys, rfl, hy⟩ := hb
  obtain ⟨c, rfl, hc⟩ := eqFs_run ok fs.toList hl h1 hx hy
  obtain ⟨c', hc', h⟩ := oB_inv g3
  obtain rfl : c = c' := by injection hc'
  obtain rfl := Option.some.inj h
  have hf : P.fieldsOf t = fs := by unfold Program.fieldsOf; rw [ht]
  have he : ∀ w, (Op.equalIn 10000 t (.agg xs.toArray) (.agg ys.toArray)).run P w = .ok c w := fun w => by
    rw [run_equalIn_struct w 9999 t xs.toArray ys.toArray (by rw [hf]; exact ht) hs, hf]
    exact hc 9998 w
  refine ⟨⟨_, _, rfl, rfl⟩, .bool (if neg then !c else c), bV_rel μ neg c, fun w => ?_⟩
  cases neg with
  | false =>
    show (binOp .eql t _ _).run P w = _
    rw [run_eql_struct, he]; rfl
  | true =>
    show (binOp .neq t _ _).run P w = _
    rw [run_neq_struct, he]
    rfl
end
end Go.Ev
