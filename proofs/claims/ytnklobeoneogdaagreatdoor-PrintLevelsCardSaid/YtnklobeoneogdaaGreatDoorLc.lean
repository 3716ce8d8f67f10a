/-
  WHAT IS PROVED: shucklaw6.PrintLevels answers true for every node: print.Level and the reference agree, and the known run stands; its package-level variables start as the text lays them.
-/
import Derived.Test.YtnklobeoneogdaaGreatDoorLb
import Derived.Test.YtnklobeoneogdaaGreatDoorTie
import Derived.Test.YtnklobeoneogdaaGreatDoorCards
import Derived.ProofKit
import Derived.LaidMore
import Derived.OpenShut
import Derived.Stop.Joined
import Derived.SevenTiedAt
import Derived.Lay
set_option linter.constructorNameAsVariable false
set_option linter.unusedVariables false
set_option linter.unusedSimpArgs false
set_option linter.unusedSectionVars false
set_option linter.unusedVariables false
set_option linter.unusedSectionVars false
set_option maxRecDepth 100000
namespace Go.Proofs.YtnklobeoneogdaaGreatDoor
open Go Go.Ev Go.ChangeShapes Go.WideShapes Go.ChangeAt Go.RowKit

/-! ### what the call does -/
@[reducible] noncomputable def unPL (kv : Int) (s : ByteArray) (x2 x3 x4 : Value) (h2 : x2.oneCell' = true ∧ x2.cells = #[x2]) (h3 : x3.oneCell' = true ∧ x3.cells = #[x3]) (h4 : x4.oneCell' = true ∧ x4.cells = #[x4]) : Un where
  val n := if n = 32768 then .int .i64 kv else if n = 32769 then .string s else if n = 32770 then x2 else if n = 32771 then x3 else if n = 32772 then x4 else .bool false
  one n := by
    split
    · exact ⟨rfl, rfl⟩
    split
    · exact ⟨rfl, rfl⟩
    split
    · exact h2
    split
    · exact h3
    split
    · exact h4
    · exact ⟨rfl, rfl⟩
theorem un_rel [Un] {n : Nat} {x : Value} (hn : 32768 ≤ n) (h : Un.val n = x) : RV mu0 (.r (.y n)) x := .inr ⟨hn, h.symm⟩
theorem node_rel [Un] {k t : V} {kv : Int} {s : ByteArray} {x2 x3 x4 : Value} (hk : RV mu0 k (.int .i64 kv)) (ht : RV mu0 t (.string s)) (h2 : Un.val 32770 = x2) (h3 : Un.val 32771 = x3) (h4 : Un.val 32772 = x4) :
    RL mu0 (nodeV k t) [.agg #[.int .i64 kv, .string s, x2, x3, x4]] :=
  ⟨_, [], rfl, ⟨[.int .i64 kv, .string s, x2, x3, x4], rfl, ⟨_, _, rfl, hk, ⟨_, _, rfl, ht, ⟨_, _, rfl, un_rel (by decide) h2, ⟨_, _, rfl, un_rel (by decide) h3, ⟨_, _, rfl, un_rel (by decide) h4, rfl⟩⟩⟩⟩⟩⟩, rfl⟩

theorem levels (kv : Int) (s : ByteArray) (x2 x3 x4 : Value) (h2 : x2.oneCell' = true ∧ x2.cells = #[x2]) (h3 : x3.oneCell' = true ∧ x3.cells = #[x3]) (h4 : x4.oneCell' = true ∧ x4.cells = #[x4]) {W : World}
    (hm : ∃ m, W.cell? ⟨2, 0, none⟩ = some (.int .i64 m)) (ht : Lib.TabIs Tryz.prog W "strings.asciiSpace" .u8 Lib.asciiSpaceTab) :
    Calls Tryz.prog 3 #[.agg #[.int .i64 kv, .string s, x2, x3, x4]] W fun e W' => e = .returned (.bool true) ∧ Below W.heap.size W W' := by
  let inst : Un := unPL kv s x2 x3 x4 h2 h3 h4
  have v0 : Un.val 32768 = .int .i64 kv := if_pos rfl
  have v1 : Un.val 32769 = .string s := (if_neg (by decide)).trans (if_pos rfl)
  have v2 : Un.val 32770 = x2 := (if_neg (by decide)).trans ((if_neg (by decide)).trans (if_pos rfl))
  have v3 : Un.val 32771 = x3 := (if_neg (by decide)).trans ((if_neg (by decide)).trans ((if_neg (by decide)).trans (if_pos rfl)))
  have v4 : Un.val 32772 = x4 := (if_neg (by decide)).trans ((if_neg (by decide)).trans ((if_neg (by decide)).trans ((if_neg (by decide)).trans (if_pos rfl))))
  have wr : WR mu0 (h0S 0 2) W := wr0S (by decide) (by decide) (by decide) hm (by kernel_rfl) ht
  have nw : noWr (h0S 0 2) := noWr0S 0 2 (by decide) (by decide)
  have uKr : RV mu0 uK (.int .i64 kv) := un_rel (by decide) v0
  have uTr : RV mu0 uT (.string s) := un_rel (by decide) v1
  have fin : ∀ {un : BinOp → Nat → V → V → Option V} (hu : UnS Tryz.prog un) {k t : V}, RV mu0 k (.int .i64 kv) → RV mu0 t (.string s) → callF (E2 un) 200 false 3 (nodeV k t) (h0S 0 2) isT = true →
      Calls Tryz.prog 3 #[.agg #[.int .i64 kv, .string s, x2, x3, x4]] W fun e W' => e = .returned (.bool true) ∧ Below W.heap.size W W' := fun {un} hu {k t} hk htt e =>
    law_of (env2 hu) sum2 Tryz.func3 (by kernel_rfl) rfl e wr nw (node_rel hk htt v2 v3 v4)
  by_cases hlo : kv < 10
  · exact fin (unK_sound v0 (kLo_ok (b := 10) hlo)) uKr uTr ev_lo
  by_cases hhi : 34 < kv
  · exact fin (unK_sound v0 (kHi_ok (b := 34) hhi)) uKr uTr ev_hi
  by_cases h24 : kv = 24
  · subst h24
    by_cases hs : s.data.toList ∈ signs
    · have := List.all_eq_true.1 ev_signs (enc s.data.toList) (List.mem_map.2 ⟨_, hs, rfl⟩)
      exact fin un_none (k := .i .i64 (Int.ofNat 24)) (t := .s (enc s.data.toList)) rfl ⟨s, rfl, rfl⟩ this
    · refine fin (unT_sound v1 (L := codes) fun c hc e => ?_) (k := .i .i64 (Int.ofNat 24)) rfl uTr ev_none
      obtain ⟨l, hl, rfl⟩ := List.mem_map.1 hc
      rw [enc_inj e] at hs
      exact hs hl
  · obtain ⟨i, hi, rfl⟩ : ∃ i : Nat, i < 25 ∧ kv = Int.ofNat (10 + i) := ⟨(kv - 10).toNat, by omega, by show kv = ((10 + (kv - 10).toNat : Nat) : Int); omega⟩
    have := List.all_eq_true.1 ev_kinds i (List.mem_range.2 hi)
    rw [Bool.or_eq_true] at this
    rcases this with h | h
    · rw [Nat.beq_eq] at h
      subst h
      exact absurd rfl h24
    · exact fin un_none (k := .i .i64 (Int.ofNat (10 + i))) rfl uTr h

/-! ### the argument, opened -/
theorem cell_int {W : World} {base : Nat} {t : TypeId} {v : Value} {k : IntKind} (ht : Tryz.prog.underlying t = some (.int k)) (h : Cell.okWide Tryz.prog W .any base t v) : ∃ n, v = .int k n := by
  unfold Cell.okWide at h
  rw [ht] at h
  simp only at h
  unfold Cell.ok at h
  rw [ht] at h
  cases v <;> simp at h
  exact ⟨_, by rw [h.1]⟩
theorem cell_string {W : World} {base : Nat} {t : TypeId} {v : Value} (ht : Tryz.prog.underlying t = some .string) (h : Cell.okWide Tryz.prog W .any base t v) : ∃ s, v = .string s := by
  unfold Cell.okWide at h
  rw [ht] at h
  simp only at h
  unfold Cell.ok at h
  rw [ht] at h
  cases v <;> simp at h
  exact ⟨_, rfl⟩
theorem cell_one {W : World} {base : Nat} {t : TypeId} {v : Value} {e : TypeId} (ht : Tryz.prog.underlying t = some (.slice e)) (h : Cell.okWide Tryz.prog W .any base t v) : v.oneCell' = true ∧ v.cells = #[v] := by
  unfold Cell.okWide at h
  rw [ht] at h
  simp only at h
  unfold Cell.ok at h
  rw [ht] at h
  cases v <;> first | exact ⟨rfl, rfl⟩ | (simp at h)
theorem open_node {W : World} {base : Nat} {v : Value} (h : Value.okWide Tryz.prog W .any base 24 v) : ∃ (kv : Int) (s : ByteArray) (x2 x3 x4 : Value), v = .agg #[.int .i64 kv, .string s, x2, x3, x4] ∧ (x2.oneCell' = true ∧ x2.cells = #[x2]) ∧ (x3.oneCell' = true ∧ x3.cells = #[x3]) ∧ (x4.oneCell' = true ∧ x4.cells = #[x4]) := by
  unfold Value.okWide at h
  rw [Tryz.underlying24] at h
  obtain ⟨cs, rfl, hsz, ts, hts, _, hall⟩ := h
  have hc5 : Tryz.prog.cellsOf 24 = 5 := by kernel_rfl
  have hty : Tryz.prog.cellTypes Tryz.prog.depth 24 = some [3, 9, 3, 22, 3] := by kernel_rfl
  rw [hc5] at hsz
  rw [hty] at hts
  obtain rfl := Option.some.inj hts
  obtain ⟨l⟩ := cs
  match l, hsz, hall with
  | [c0, c1, c2, c3, c4], _, hall =>
    obtain ⟨u0, e0, k0⟩ := hall 0 c0 rfl
    obtain ⟨u1, e1, k1⟩ := hall 1 c1 rfl
    obtain ⟨u2, e2, k2⟩ := hall 2 c2 rfl
    obtain ⟨u3, e3, k3⟩ := hall 3 c3 rfl
    obtain ⟨u4, e4, k4⟩ := hall 4 c4 rfl
    obtain rfl : 3 = u0 := Option.some.inj e0
    obtain rfl : 9 = u1 := Option.some.inj e1
    obtain rfl : 3 = u2 := Option.some.inj e2
    obtain rfl : 22 = u3 := Option.some.inj e3
    obtain rfl : 3 = u4 := Option.some.inj e4
    obtain ⟨n0, rfl⟩ := cell_int Tryz.underlying3 k0
    obtain ⟨s1, rfl⟩ := cell_string Tryz.underlying9 k1
    obtain ⟨n2, rfl⟩ := cell_int Tryz.underlying3 k2
    obtain ⟨n4, rfl⟩ := cell_int Tryz.underlying3 k4
    exact ⟨n0, s1, _, c3, _, rfl, ⟨rfl, rfl⟩, cell_one Tryz.underlying22 k3, ⟨rfl, rfl⟩⟩

/-! ### the row -/
theorem own : ownKnob Tryz.prog.godebug = none := by kernel_rfl
theorem laid_tab {W : World} (h : laidMetH Tryz.prog Rows.printLevelsRow.laid W) : Lib.TabIs Tryz.prog W "strings.asciiSpace" .u8 Lib.asciiSpaceTab := by
  have h1 := laidMetH.filter (fun x => x.1 == "strings.asciiSpace") h
  have e : (Rows.printLevelsRow.laid.filter fun x => x.1 == "strings.asciiSpace") = [("strings.asciiSpace", Lib.tabData .u8 Lib.asciiSpaceTab)] := by kernel_rfl
  rw [e, MakeChecks.laidMetH_plain _ _ _ (by kernel_rfl)] at h1
  exact Lib.tabIs_of_head (g := 0) (t := 113) (e := 5) (n := 256) (by kernel_rfl) (by kernel_rfl) Tryz.underlying113 Tryz.underlying5 (by kernel_rfl) (by kernel_rfl) h1
end Go.Proofs.YtnklobeoneogdaaGreatDoor

set_option linter.unusedVariables false
set_option linter.unusedSectionVars false
set_option maxRecDepth 100000
namespace Go.Proofs.YtnklobeoneogdaaGreatDoor
open Go Go.Ev Go.ChangeShapes Go.WideShapes Go.ChangeAt Go.RowKit
theorem lifted (os : Os) (started : os.Started) (H : Type) (enc : TypeId × Value → H) :
    ReturnsInHanded {} Tryz.checked os 3 .any (fun w args => (Rows.printLevelsSpec.pre enc Tryz.prog Tryz.f3 [] false w args ∧ laidMetH Tryz.prog Rows.printLevelsRow.laid w) ∧ sizedMet enc Tryz.prog Tryz.f3 (OpenSpec.ofChange Rows.printLevelsSpec) false w args)
      (Rows.printLevelsSpec.post enc Tryz.prog Tryz.f3 false true false false) := by
  refine returns_both (C := Tryz.checked) (X := fun w _ => laidMetH Tryz.prog Rows.printLevelsRow.laid w) (fun _ _ _ hh h => h.of_heap hh) own started (by kernel_rfl) Tryz.func3
    (ChangeSpec.witness_shaped (enc := enc) (C := Tryz.checked) (os := os) (X := fun w _ => laidMetH Tryz.prog Rows.printLevelsRow.laid w) false (World.laidAll Tryz.prog os Rows.printLevelsRow.laid) #[.agg #[.int .i64 0, .string ⟨#[]⟩, .int .i64 0, .slice none 0 0, .int .i64 0]] 8 (World.laidAll_os _ _ _) (World.shaped_of_ZipB (by kernel_rfl) (by kernel_rfl)) (by kernel_rfl) (by kernel_rfl) (by kernel_rfl)
      (by rw [MakeChecks.laidMetH_plain _ _ _ (by kernel_rfl)]; exact laidMet_laidAll _ (by kernel_rfl) (by kernel_rfl))) ?_
  intro W base args ds gs before hval hW hL hsh
  have hW' := hW
  obtain ⟨p, q, hA, hV, e, hz, hnd⟩ := hW'
  rw [Tryz.params3] at hA hval
  obtain ⟨v0, d0, rfl, rfl, h0⟩ := trodAll_one hA
  obtain ⟨rfl, rfl⟩ := trodVars_none hV
  obtain ⟨kv, s, x2, x3, x4, rfl, k2, k3, k4⟩ := open_node (hval 0 24 v0 rfl rfl)
  refine (levels kv s x2 x3 x4 k2 k3 k4 (maxLen_cell hsh) (laid_tab hL)).mono fun e W' ⟨he, hB⟩ => ?_
  exact ⟨_, he, post_true Tryz.underlying4 rfl (by kernel_rfl) (by kernel_rfl) rfl hW rfl rfl rfl hB⟩

theorem printLevels_holds : Rows.PrintLevelsSaid :=
  OpenClaim.holds_of_wide 3 Tryz.f3 rfl rfl rfl rfl rfl rfl rfl ⟨rfl, rfl, rfl, rfl, rfl⟩ rfl rfl rfl rfl rfl (by kernel_rfl) Tryz.func3 (by kernel_rfl)
    (of_decide_eq_true (by kernel_rfl)) (by unfold Func.isWrapper; first | (rw [if_pos (by decide +kernel)]; kernel_rfl) | (rw [if_neg (by decide +kernel)]; exact ⟨rfl, rfl⟩))
    (fun os started H enc _ => lifted os started H enc)

theorem card_holds : Rows.PrintLevelsCardSaid :=
  Claim7.holds_tied_plain_at .later [] [.data, .data, .data, .data, .sentinel, .sentinel, .listed, .data, .pinned] true (true, "e67a23791c41e02747293c7bb005e7bf1315b4a57c481604e44df013be241cce") true
    printLevels_holds (fun _ h => by cases h) (by kernel_rfl) (fun _ h => by cases h) printLevels_row_tie rfl ⟨rfl, rfl⟩ (by kernel_rfl) rfl
    (fun f fn hf hfn => by
      obtain rfl : f = 3 := Option.some.inj ((show Tryz.prog.funcNamed "shuck/shucklaw6.PrintLevels" = some 3 by kernel_rfl).symm.trans hf) |>.symm
      obtain rfl : fn = Tryz.f3 := (Option.some.inj (Tryz.func3.symm.trans hfn)).symm
      exact ⟨by kernel_rfl, fun j t ht => by
        rw [Tryz.params3] at ht
        have hm : t ∈ [24] := by simpa using Array.mem_of_getElem? ht
        have hall : ([24].all fun u => !Tryz.prog.wantsStandIn u) = true := by kernel_rfl
        exact (show Tryz.prog.wantsStandIn t = false by simpa using List.all_eq_true.1 hall t hm)⟩)
    (by kernel_rfl)
#print axioms card_holds
end Go.Proofs.YtnklobeoneogdaaGreatDoor
