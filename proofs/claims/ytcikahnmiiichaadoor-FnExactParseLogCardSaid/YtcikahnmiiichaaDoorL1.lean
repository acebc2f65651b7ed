/- Go functions as Lean functions, and the proof that the code comes to them: written by a program of this session out of the translation. -/
import Derived.Test.YtcikahnmiiichaaDoorL0
namespace Go.Proofs.YtcikahnmiiichaaDoor.L
open List renaming setIfInBounds_toArray → vD, set_cons_zero → vE, set_cons_succ → vF
open Go.World renaming block_lt_of_cell? → vJ
open Go.Proofs.YtcikahnmiiichaaDoor.Given
open Go.RowKit Go.Proofs.YtcikahnmiiichaaDoorW.PrintWords Go.Proofs.YtcikahnmiiichaaDoorW.PrintLast Go.Proofs.YtcikahnmiiichaaDoorW.PrintMore
attribute [local go_sem] max2_int min2_int max_two min_two max_three min_three max_four min_four   -- for this text's walks alone
set_option linter.unusedVariables false
set_option linter.unusedSimpArgs false

/-! ### spec_l1In: function 48 -/
def spec_l1In.f (a0 : Int) (a1 : Int) (a2 : Int) : Option (Bool) := if a0 ≥ a1 then (some (decide (a0 ≤ a2))) else (some false)
set_option maxHeartbeats 8000000 in
set_option maxRecDepth 100000 in
theorem spec_l1In.calls (a0 : Int) (a1 : Int) (a2 : Int) (r : Bool) (w : World) (h : spec_l1In.f a0 a1 a2 = some r) :
    Calls Tryd.prog 48 #[.int .i64 a0, .int .i64 a1, .int .i64 a2] w fun e w' => e = .returned (.bool r) ∧ Drawn0 w w' := by
  have H : (if a0 ≥ a1 then (some (decide (a0 ≤ a2))) else (some false)) = some r := h
  clear h
  by_cases c4 : a0 ≥ a1
  · rw [if_pos c4] at H
    have c4b0 := decide_eq_true c4
    clear c4
    obtain rfl := Option.some.inj H
    go_enter Tryd.func48, Tryd.ntmps48
    go_wp2
    go_ret
    exact ⟨cq6, cq20⟩
  rw [if_neg c4] at H
  have c4b0 := decide_eq_false c4
  clear c4
  obtain rfl := Option.some.inj H
  go_enter Tryd.func48, Tryd.ntmps48
  go_wp2
  go_ret
  exact ⟨cq6, cq20⟩

/-! ### spec_IsValidOp: function 49 -/
def spec_IsValidOp.f (a0_0 : Int) (a0_1 : Int) (a0_2 : Int) (a0_3 : Int) (a0_4 : Int) (a0_5 : Int) : Option (Bool) := (spec_l1In.f a0_0 0 2).bind fun t102 => (if t102 = true then ((spec_l1In.f a0_1 1 99).bind fun t103 => (if t103 = true then ((spec_l1In.f a0_3 0 2).bind fun t104 => (if t104 = true then ((spec_l1In.f a0_5 0 9).bind fun t105 => (if t105 = true then (if a0_2 = 1 then (if a0_4 = 0 then (some true) else (if a0_2 = 2 then ((spec_l1In.f a0_4 0 9).bind fun t106 => (some t106)) else (some false))) else (if a0_2 = 2 then ((spec_l1In.f a0_4 0 9).bind fun t107 => (some t107)) else (some false))) else (some false))) else (some false))) else (some false))) else (some false))
set_option maxHeartbeats 8000000 in
set_option maxRecDepth 100000 in
theorem spec_IsValidOp.calls (a0_0 : Int) (a0_1 : Int) (a0_2 : Int) (a0_3 : Int) (a0_4 : Int) (a0_5 : Int) (r : Bool) (w : World) (h : spec_IsValidOp.f a0_0 a0_1 a0_2 a0_3 a0_4 a0_5 = some r) :
    Calls Tryd.prog 49 #[.agg #[.int .i64 a0_0, .int .i64 a0_1, .int .i64 a0_2, .int .i64 a0_3, .int .i64 a0_4, .int .i64 a0_5]] w fun e w' => e = .returned (.bool r) ∧ Below w.heap.size w w' := by
  have hu64 := Tryd.underlying64
  have HB := Aside0.mk (Below.refl w.heap.size w)
  have H : ((spec_l1In.f a0_0 0 2).bind fun t102 => (if t102 = true then ((spec_l1In.f a0_1 1 99).bind fun t103 => (if t103 = true then ((spec_l1In.f a0_3 0 2).bind fun t104 => (if t104 = true then ((spec_l1In.f a0_5 0 9).bind fun t105 => (if t105 = true then (if a0_2 = 1 then (if a0_4 = 0 then (some true) else (if a0_2 = 2 then ((spec_l1In.f a0_4 0 9).bind fun t106 => (some t106)) else (some false))) else (if a0_2 = 2 then ((spec_l1In.f a0_4 0 9).bind fun t107 => (some t107)) else (some false))) else (some false))) else (some false))) else (some false))) else (some false))) = some r := h
  clear h
  replace H := Option.bind_eq_some_iff.mp H
  obtain ⟨t102, A20, H⟩ := H
  try dsimp only at H
  have A2 := Aside0.mk A20
  clear A20
  go_enter Tryd.func49, Tryd.ntmps49
  go_wp2_with (first | ((with_reducible refine gate_dst (N := 1) rfl ?_); refine bxe 1 #[.int .i64 a0_0, .int .i64 a0_1, .int .i64 a0_2, .int .i64 a0_3, .int .i64 a0_4, .int .i64 a0_5] 64 ?_; intro gb101 hg w32 hbox hb; have BK101 := Aside0.mk (hbox); have GW101 := tGe HB hg; have GE101 := tGe HB hg; replace HB := uR HB hb; clear hb hbox hg; obtain ⟨hcz33_0, hcz33_1, hcz33_2, hcz33_3, hcz33_4, hcz33_5, hfz33_0, hfz33_1, hfz33_2, hfz33_3, hfz33_4, hfz33_5⟩ := cz6 BK101; refine ?roundEnd))
  case roundEnd =>
  by_cases c3 : t102 = true
  rotate_left
  · replace c3 := Bool.eq_false_iff.mpr c3
    subst c3
    try rw [if_neg (show ¬ (false = true) by decide)] at H
    obtain rfl := Option.some.inj H
    go_wp2_with (first | ((with_reducible refine uM (f := 48) rfl ?_); refine uY (some 5) Tryd.func48 #[.int .i64 a0_0, .int .i64 0, .int .i64 2] ?_; (with_reducible refine (spec_l1In.calls a0_0 0 2 false _ A2.out).mono ?_); rintro e w' ⟨rfl, ⟨nd, rfl⟩⟩; refine ⟨_, rfl, ?_⟩))
    go_ret
    exact ⟨cq3, cq0⟩
  subst c3
  try rw [if_pos rfl] at H
  replace H := Option.bind_eq_some_iff.mp H
  obtain ⟨t103, A40, H⟩ := H
  try dsimp only at H
  have A4 := Aside0.mk A40
  clear A40
  go_wp2_with (first | ((with_reducible refine uM (f := 48) rfl ?_); refine uY (some 5) Tryd.func48 #[.int .i64 a0_0, .int .i64 0, .int .i64 2] ?_; (with_reducible refine (spec_l1In.calls a0_0 0 2 true _ A2.out).mono ?_); rintro e w' ⟨rfl, ⟨nd, rfl⟩⟩; refine ⟨_, rfl, ?_⟩; refine ?roundEnd))
  case roundEnd =>
  by_cases c5 : t103 = true
  rotate_left
  · replace c5 := Bool.eq_false_iff.mpr c5
    subst c5
    try rw [if_neg (show ¬ (false = true) by decide)] at H
    obtain rfl := Option.some.inj H
    go_wp2_with (first | (go_at_call 48; (with_reducible refine (spec_l1In.calls a0_1 1 99 false _ A4.out).mono ?_); rintro e w' ⟨rfl, ⟨nd, rfl⟩⟩))
    go_ret
    exact ⟨cq3, cq0⟩
  subst c5
  try rw [if_pos rfl] at H
  replace H := Option.bind_eq_some_iff.mp H
  obtain ⟨t104, A60, H⟩ := H
  try dsimp only at H
  have A6 := Aside0.mk A60
  clear A60
  go_wp2_with (first | (go_at_call 48; (with_reducible refine (spec_l1In.calls a0_1 1 99 true _ A4.out).mono ?_); rintro e w' ⟨rfl, ⟨nd, rfl⟩⟩; refine ?roundEnd))
  case roundEnd =>
  by_cases c7 : t104 = true
  rotate_left
  · replace c7 := Bool.eq_false_iff.mpr c7
    subst c7
    try rw [if_neg (show ¬ (false = true) by decide)] at H
    obtain rfl := Option.some.inj H
    go_wp2_with (first | (go_at_call 48; (with_reducible refine (spec_l1In.calls a0_3 0 2 false _ A6.out).mono ?_); rintro e w' ⟨rfl, ⟨nd, rfl⟩⟩))
    go_ret
    exact ⟨cq3, cq0⟩
  subst c7
  try rw [if_pos rfl] at H
  replace H := Option.bind_eq_some_iff.mp H
  obtain ⟨t105, A80, H⟩ := H
  try dsimp only at H
  have A8 := Aside0.mk A80
  clear A80
  go_wp2_with (first | (go_at_call 48; (with_reducible refine (spec_l1In.calls a0_3 0 2 true _ A6.out).mono ?_); rintro e w' ⟨rfl, ⟨nd, rfl⟩⟩; refine ?roundEnd))
  case roundEnd =>
  by_cases c9 : t105 = true
  rotate_left
  · replace c9 := Bool.eq_false_iff.mpr c9
    subst c9
    try rw [if_neg (show ¬ (false = true) by decide)] at H
    obtain rfl := Option.some.inj H
    go_wp2_with (first | (go_at_call 48; (with_reducible refine (spec_l1In.calls a0_5 0 9 false _ A8.out).mono ?_); rintro e w' ⟨rfl, ⟨nd, rfl⟩⟩))
    go_ret
    exact ⟨cq3, cq0⟩
  subst c9
  try rw [if_pos rfl] at H
  go_wp2_with (first | (go_at_call 48; (with_reducible refine (spec_l1In.calls a0_5 0 9 true _ A8.out).mono ?_); rintro e w' ⟨rfl, ⟨nd, rfl⟩⟩; refine ?roundEnd))
  case roundEnd =>
  by_cases c10 : a0_2 = 1
  rotate_left
  · rw [if_neg c10] at H
    have c10b0 := beq_eq_false_iff_ne.mpr c10
    have c10b1 := bne_iff_ne.mpr c10
    by_cases c20 : a0_2 = 2
    rotate_left
    · rw [if_neg c20] at H
      have c20b0 := beq_eq_false_iff_ne.mpr c20
      have c20b1 := bne_iff_ne.mpr c20
      obtain rfl := Option.some.inj H
      go_wp2
      go_ret
      exact ⟨cq3, cq0⟩
    rw [if_pos c20] at H
    have c20b0 := beq_iff_eq.mpr c20
    have c20b1 := bne_eq_false_iff_eq.mpr c20
    clear c20
    replace H := Option.bind_eq_some_iff.mp H
    obtain ⟨t107, A210, H⟩ := H
    try dsimp only at H
    have A21 := Aside0.mk A210
    clear A210
    obtain rfl := Option.some.inj H
    go_wp2_with (first | (go_at_call 48; (with_reducible refine (spec_l1In.calls a0_4 0 9 t107 _ A21.out).mono ?_); rintro e w' ⟨rfl, ⟨nd, rfl⟩⟩))
    go_ret
    exact ⟨cq3, cq0⟩
  rw [if_pos c10] at H
  have c10b0 := beq_iff_eq.mpr c10
  have c10b1 := bne_eq_false_iff_eq.mpr c10
  clear c10
  by_cases c11 : a0_4 = 0
  · rw [if_pos c11] at H
    have c11b0 := beq_iff_eq.mpr c11
    have c11b1 := bne_eq_false_iff_eq.mpr c11
    clear c11
    obtain rfl := Option.some.inj H
    go_wp2
    go_ret
    exact ⟨cq3, cq0⟩
  rw [if_neg c11] at H
  have c11b0 := beq_eq_false_iff_ne.mpr c11
  have c11b1 := bne_iff_ne.mpr c11
  by_cases c14 : a0_2 = 2
  rotate_left
  · rw [if_neg c14] at H
    have c14b0 := beq_eq_false_iff_ne.mpr c14
    have c14b1 := bne_iff_ne.mpr c14
    obtain rfl := Option.some.inj H
    go_wp2
    go_ret
    exact ⟨cq3, cq0⟩
  rw [if_pos c14] at H
  have c14b0 := beq_iff_eq.mpr c14
  have c14b1 := bne_eq_false_iff_eq.mpr c14
  clear c14
  replace H := Option.bind_eq_some_iff.mp H
  obtain ⟨t106, A150, H⟩ := H
  try dsimp only at H
  have A15 := Aside0.mk A150
  clear A150
  obtain rfl := Option.some.inj H
  go_wp2_with (first | (go_at_call 48; (with_reducible refine (spec_l1In.calls a0_4 0 9 t106 _ A15.out).mono ?_); rintro e w' ⟨rfl, ⟨nd, rfl⟩⟩))
  go_ret
  exact ⟨cq3, cq0⟩

/-! ### spec_IsLog: function 15 -/
def bA_spec (n m : Nat) : Array Bool := ((List.range n).map fun i => m.testBit i).toArray
theorem spec_l1In.yes_ {a b c : Int} (h : b ≤ a ∧ a ≤ c) (w : World) : Calls Tryd.prog 48 #[.int .i64 a, .int .i64 b, .int .i64 c] w fun e w' => e = .returned (.bool true) ∧ Drawn0 w w' := spec_l1In.calls a b c true w (by unfold spec_l1In.f; first | (rw [if_pos (show a ≥ b from h.1), decide_eq_true h.2]) | simp [h.1, h.2])
theorem spec_l1In.no_ {a b c : Int} (h : ¬ (b ≤ a ∧ a ≤ c)) (w : World) : Calls Tryd.prog 48 #[.int .i64 a, .int .i64 b, .int .i64 c] w fun e w' => e = .returned (.bool false) ∧ Drawn0 w w' := spec_l1In.calls a b c false w (by
  unfold spec_l1In.f
  by_cases h1 : a ≥ b
  · first | (rw [if_pos h1, decide_eq_false (fun h2 => h ⟨h1, h2⟩)]) | (have h2 : ¬ a ≤ c := fun h2 => h ⟨h1, h2⟩; simp [h1, h2])
  · simp [h1])
def okE_spec (xs : List S66) (j : Nat) : Prop := (1 ≤ (rd_T66 xs (j : Int)).f0 ∧ (rd_T66 xs (j : Int)).f0 ≤ 20) ∧ spec_IsValidOp.f (rd_T66 xs (j : Int)).f1.f0 (rd_T66 xs (j : Int)).f1.f1 (rd_T66 xs (j : Int)).f1.f2 (rd_T66 xs (j : Int)).f1.f3 (rd_T66 xs (j : Int)).f1.f4 (rd_T66 xs (j : Int)).f1.f5 = some true ∧ (0 < j → (rd_T66 xs ((j : Int) - 1)).f0 ≤ (rd_T66 xs (j : Int)).f0)
instance okE_spec_dec (xs : List S66) (j : Nat) : Decidable (okE_spec xs j) := inferInstanceAs (Decidable (_ ∧ _ ∧ (_ → _)))
def vL_spec (xs : List S66) : Prop := xs.length ≤ 16 ∧ ∀ j, j < xs.length → okE_spec xs j
instance vL_spec_dec (xs : List S66) : Decidable (vL_spec xs) := inferInstanceAs (Decidable (_ ∧ ∀ j, j < _ → _))
theorem spec_bindT {A B : Type} {o : Option A} {g : A → Option B} (ho : ∃ b, o = some b) (hg : ∀ b, ∃ r, g b = some r) : ∃ r, o.bind g = some r := by
  obtain ⟨b, rfl⟩ := ho
  exact hg b
theorem spec_iteT {B : Type} {p : Prop} [Decidable p] {a b : Option B} (ha : ∃ r, a = some r) (hb : ∃ r, b = some r) : ∃ r, (if p then a else b) = some r := by
  split <;> assumption
theorem spec_IsValidOp.tot (a b c d e f : Int) : ∃ r, spec_IsValidOp.f a b c d e f = some r := by
  unfold spec_IsValidOp.f spec_l1In.f
  repeat' (first | exact ⟨_, rfl⟩ | refine spec_iteT ?_ ?_ | refine spec_bindT ?_ (fun _ => ?_))
def spec_IsLog.f (k : Nat) (l0 : List S66) : Option Bool := some (decide (vL_spec l0))
theorem spec_IsLog.mono : ∀ a0 k, uE (spec_IsLog.f k a0) (spec_IsLog.f (k + 1) a0) := fun _ _ => uE.refl _
set_option maxHeartbeats 8000000 in
set_option maxRecDepth 100000 in
theorem spec_IsLog.calls (k : Nat) (A0 : Option Addr) (c0 : Nat) (l0 : List (S66)) (r : Bool) (w : World) (hr0 : Kd.C k66 w A0 l0.length l0) (hc0 : l0.length ≤ c0) (h : spec_IsLog.f k l0 = some r) :
    Calls Tryd.prog 15 #[.slice A0 l0.length c0] w fun e w' => e = .returned (.bool r) ∧ Below w.heap.size w w' := by
  obtain rfl := Option.some.inj h
  clear h
  have HR0 := Aside0.mk hr0
  have HL1 := Aside0.mk hr0.2.1
  have HC0 := Aside0.mk hc0
  clear hr0 hc0
  generalize hV : decide (vL_spec l0) = V
  have HV := Aside0.mk hV
  clear hV
  have HB := Aside0.mk (Below.refl w.heap.size w)
  go_enter Tryd.func15, Tryd.ntmps15
  go_wp2
  go_loopg [3] l0.length (fun gg s wr => ∃ kk : Nat, s = .int .i64 kk ∧ Aside0 (kk ≤ l0.length ∧ l0.length - kk ≤ gg) ∧ Aside0 (Below w.heap.size w wr) ∧ Aside0 (∀ j, j < kk → okE_spec l0 j))
  case atStart => exact ⟨0, rfl, ⟨by omega, by omega⟩, HB, ⟨fun j hj => by omega⟩⟩
  case round =>
    clear HB
    obtain ⟨kk, rfl, HK, HB, HA⟩ := hrel
    have hkz : (0 : Int) ≤ (kk : Int) := by omega
    by_cases hlt : (kk : Int) < (l0.length : Int)
    · obtain ⟨ad2, e2, hx_0, hx_1, hx_2, hx_3, hx_4, hx_5, hx_6⟩ := at_T66 HR0.out (kk : Int) hkz hlt
      subst e2
      simp only [Int.toNat_natCast] at hx_0 hx_1 hx_2 hx_3 hx_4 hx_5 hx_6
      replace hx_0 := (HB.out.cell (vJ w _ hx_0)).trans hx_0
      replace hx_1 := (HB.out.cell (vJ w _ hx_1)).trans hx_1
      replace hx_2 := (HB.out.cell (vJ w _ hx_2)).trans hx_2
      replace hx_3 := (HB.out.cell (vJ w _ hx_3)).trans hx_3
      replace hx_4 := (HB.out.cell (vJ w _ hx_4)).trans hx_4
      replace hx_5 := (HB.out.cell (vJ w _ hx_5)).trans hx_5
      replace hx_6 := (HB.out.cell (vJ w _ hx_6)).trans hx_6
      have hltb := eq_true hlt
      have hkzb := eq_true hkz
      have hnot : ∀ (p : Prop), (okE_spec l0 kk → p) → ¬ p → V = false := fun p h hp => by rw [← HV.out]; exact decide_eq_false (fun h2 => hp (h (h2.2 kk (by omega))))
      have HNO := Aside0.mk hnot
      clear hnot
      have e1 : wrap64 ((kk : Int) - 1) = (kk : Int) - 1 := by have := HL1.out; unfold wrap64; omega
      have e1b := uI ((kk : Int) - 1)
      rw [e1] at e1b
      go_wp2
      obtain ⟨pv, HPV2⟩ : ∃ pv : Int, Aside0 (0 < kk → wr.cell? (ad2.add ((kk - 1) * 7)) = some (.int .i64 pv) ∧ pv = (rd_T66 l0 ((kk : Int) - 1)).f0) := by
        by_cases h0 : 0 < kk
        · obtain ⟨ad3, e3, hy, _⟩ := at_T66 HR0.out ((kk : Int) - 1) (by omega) (by omega)
          cases e3
          rw [show ((kk : Int) - 1).toNat = kk - 1 by omega] at hy
          exact ⟨_, ⟨fun _ => ⟨(HB.out.cell (vJ w _ hy)).trans hy, rfl⟩⟩⟩
        · exact ⟨0, ⟨fun h => absurd h h0⟩⟩
      refine start_ (n := 34) (S := fun w' => w'.cell? (ad2.add (kk * 7)) = some (.int .i64 (rd_T66 l0 (kk : Int)).f0) ∧ w'.cell? ⟨(ad2.add (kk * 7)).block, (ad2.add (kk * 7)).off + 1, none⟩ = some (.int .i64 (rd_T66 l0 (kk : Int)).f1.f0) ∧ w'.cell? ⟨(ad2.add (kk * 7)).block, (ad2.add (kk * 7)).off + 2, none⟩ = some (.int .i64 (rd_T66 l0 (kk : Int)).f1.f1) ∧ w'.cell? ⟨(ad2.add (kk * 7)).block, (ad2.add (kk * 7)).off + 3, none⟩ = some (.int .i64 (rd_T66 l0 (kk : Int)).f1.f2) ∧ w'.cell? ⟨(ad2.add (kk * 7)).block, (ad2.add (kk * 7)).off + 4, none⟩ = some (.int .i64 (rd_T66 l0 (kk : Int)).f1.f3) ∧ w'.cell? ⟨(ad2.add (kk * 7)).block, (ad2.add (kk * 7)).off + 5, none⟩ = some (.int .i64 (rd_T66 l0 (kk : Int)).f1.f4) ∧ w'.cell? ⟨(ad2.add (kk * 7)).block, (ad2.add (kk * 7)).off + 6, none⟩ = some (.int .i64 (rd_T66 l0 (kk : Int)).f1.f5) ∧ (0 < kk → w'.cell? (ad2.add ((kk - 1) * 7)) = some (.int .i64 pv))) (ds := []) (bA_spec 34 0) (by kernel_rfl) rfl rfl ⟨hx_0, hx_1, hx_2, hx_3, hx_4, hx_5, hx_6, fun h => (HPV2.out h).1⟩ (fun hHeld => ?_)
      have HB1 := Aside0.mk (vB HB.out)
      clear HB hx_0 hx_1 hx_2 hx_3 hx_4 hx_5 hx_6
      have HB := HB1
      clear HB1
      refine uH (i := 0) (N := some 10) (v := ?_) (a' := ?_) (bA_spec 34 1) rfl rfl (by kernel_rfl) (fun _ _ _ h => h) (Or.inl ⟨by rfl, ?_⟩) ?_ ?_
      rotate_left
      · intro w'; go_simp; with_reducible rfl
      rotate_left
      · simp only [Act.put, vD, vE, vF, uI, uO]; rfl
      refine uH (i := 1) (N := some 11) (v := ?_) (a' := ?_) (bA_spec 34 3) rfl rfl (by kernel_rfl) (fun _ _ _ h => h) (Or.inl ⟨by rfl, ?_⟩) ?_ ?_
      rotate_left
      · intro w'; go_simp; with_reducible rfl
      rotate_left
      · simp only [Act.put, vD, vE, vF, uI, uO]; rfl
      refine uH (i := 2) (N := some 12) (v := ?_) (a' := ?_) (bA_spec 34 7) rfl rfl (by kernel_rfl) (fun _ _ _ h => h) (Or.inl ⟨by rfl, ?_⟩) ?_ ?_
      rotate_left
      · intro w'; go_simp; with_reducible rfl
      rotate_left
      · simp only [Act.put, vD, vE, vF, uI, uO]; rfl
      refine uH (i := 3) (N := some 13) (v := ?_) (a' := ?_) (bA_spec 34 15) rfl rfl (by kernel_rfl) (fun _ _ _ h => h) (Or.inl ⟨by rfl, ?_⟩) ?_ ?_
      rotate_left
      · intro w'; go_simp; with_reducible rfl
      rotate_left
      · simp only [Act.put, vD, vE, vF, uI, uO]; rfl
      refine take_ (i := 4) (N := some 14) (v := ?_) (a' := ?_) (bA_spec 34 31) rfl rfl (by kernel_rfl) (fun _ _ _ h => h) (Or.inl ⟨by rfl, ?_⟩) hHeld ?_ ?_
      rotate_left
      · rintro w' ⟨s0, s1, s2, s3, s4, s5, s6, s7⟩; clear s7; go_simp; with_reducible rfl
      rotate_left
      · simp only [Act.put, vD, vE, vF, uI, uO]; rfl
      by_cases h1 : 1 ≤ (rd_T66 l0 (kk : Int)).f0 ∧ (rd_T66 l0 (kk : Int)).f0 ≤ 20
      · refine one_ (i := 5) (N := some 15) (bA_spec 34 63) rfl rfl (by kernel_rfl) (by decide) (fun K hK => ?_)
        refine goes_ Tryd.func48 (by kernel_rfl) rfl #[.int .i64 (rd_T66 l0 (kk : Int)).f0, .int .i64 1, .int .i64 20] (by rfl) rfl rfl (by (try simp only [List.map_toArray, List.map_cons, List.map_nil]); first | done | rfl) ?_
        refine (spec_l1In.yes_ h1 _).mono ?_
        rintro e w' ⟨rfl, ⟨nd5, rfl⟩⟩
        refine ⟨_, rfl, ?_⟩
        have HB1 := Aside0.mk (pw_below_drewN HB.out nd5)
        clear HB
        have HB := HB1
        clear HB1
        refine hK.out _ _ hHeld (fun hHeld => ?_)
        clear hK K
        refine uZ (a' := ?_) ?_ ?_
        rotate_left
        · show Act.put _ (some 15) _ = _; simp only [Act.put, vD, vE, vF, uI, uO]; rfl
        refine uH (i := 6) (N := some 16) (v := ?_) (a' := ?_) (bA_spec 34 127) rfl rfl (by kernel_rfl) (fun _ _ _ h => h) (Or.inl ⟨by rfl, ?_⟩) ?_ ?_
        rotate_left
        · intro w'; go_simp; with_reducible rfl
        rotate_left
        · simp only [Act.put, vD, vE, vF, uI, uO]; rfl
        refine uH (i := 7) (N := some 17) (v := ?_) (a' := ?_) (bA_spec 34 255) rfl rfl (by kernel_rfl) (fun _ _ _ h => h) (Or.inl ⟨by rfl, ?_⟩) ?_ ?_
        rotate_left
        · intro w'; go_simp; with_reducible rfl
        rotate_left
        · simp only [Act.put, vD, vE, vF, uI, uO]; rfl
        refine uH (i := 8) (N := some 18) (v := ?_) (a' := ?_) (bA_spec 34 511) rfl rfl (by kernel_rfl) (fun _ _ _ h => h) (Or.inl ⟨by rfl, ?_⟩) ?_ ?_
        rotate_left
        · intro w'; go_simp; with_reducible rfl
        rotate_left
        · simp only [Act.put, vD, vE, vF, uI, uO]; rfl
        refine uH (i := 9) (N := some 19) (v := ?_) (a' := ?_) (bA_spec 34 1023) rfl rfl (by kernel_rfl) (fun _ _ _ h => h) (Or.inl ⟨by rfl, ?_⟩) ?_ ?_
        rotate_left
        · intro w'; go_simp; with_reducible rfl
        rotate_left
        · simp only [Act.put, vD, vE, vF, uI, uO]; rfl
        refine uH (i := 10) (N := some 20) (v := ?_) (a' := ?_) (bA_spec 34 2047) rfl rfl (by kernel_rfl) (fun _ _ _ h => h) (Or.inl ⟨by rfl, ?_⟩) ?_ ?_
        rotate_left
        · intro w'; go_simp; with_reducible rfl
        rotate_left
        · simp only [Act.put, vD, vE, vF, uI, uO]; rfl
        refine uH (i := 11) (N := some 21) (v := ?_) (a' := ?_) (bA_spec 34 4095) rfl rfl (by kernel_rfl) (fun _ _ _ h => h) (Or.inl ⟨by rfl, ?_⟩) ?_ ?_
        rotate_left
        · intro w'; go_simp; with_reducible rfl
        rotate_left
        · simp only [Act.put, vD, vE, vF, uI, uO]; rfl
        refine take_ (i := 12) (N := some 22) (v := ?_) (a' := ?_) (bA_spec 34 8191) rfl rfl (by kernel_rfl) (fun _ _ _ h => h) (Or.inl ⟨by rfl, ?_⟩) hHeld ?_ ?_
        rotate_left
        · rintro w' ⟨s0, s1, s2, s3, s4, s5, s6, s7⟩; clear s7; go_simp; with_reducible rfl
        rotate_left
        · simp only [Act.put, vD, vE, vF, uI, uO]; rfl
        obtain ⟨vb, hv⟩ := spec_IsValidOp.tot (rd_T66 l0 (kk : Int)).f1.f0 (rd_T66 l0 (kk : Int)).f1.f1 (rd_T66 l0 (kk : Int)).f1.f2 (rd_T66 l0 (kk : Int)).f1.f3 (rd_T66 l0 (kk : Int)).f1.f4 (rd_T66 l0 (kk : Int)).f1.f5
        rcases Bool.eq_false_or_eq_true vb with rfl | rfl
        · refine one_ (i := 13) (N := some 23) (bA_spec 34 16383) rfl rfl (by kernel_rfl) (by decide) (fun K hK => ?_)
          refine goes_ Tryd.func49 (by kernel_rfl) rfl #[.agg #[.int .i64 (rd_T66 l0 (kk : Int)).f1.f0, .int .i64 (rd_T66 l0 (kk : Int)).f1.f1, .int .i64 (rd_T66 l0 (kk : Int)).f1.f2, .int .i64 (rd_T66 l0 (kk : Int)).f1.f3, .int .i64 (rd_T66 l0 (kk : Int)).f1.f4, .int .i64 (rd_T66 l0 (kk : Int)).f1.f5]] (by rfl) rfl rfl (by (try simp only [List.map_toArray, List.map_cons, List.map_nil]); first | done | rfl) ?_
          refine (spec_IsValidOp.calls (rd_T66 l0 (kk : Int)).f1.f0 (rd_T66 l0 (kk : Int)).f1.f1 (rd_T66 l0 (kk : Int)).f1.f2 (rd_T66 l0 (kk : Int)).f1.f3 (rd_T66 l0 (kk : Int)).f1.f4 (rd_T66 l0 (kk : Int)).f1.f5 true _ hv).mono ?_
          rintro e w' ⟨rfl, hb⟩
          refine ⟨_, rfl, ?_⟩
          have HB1 := Aside0.mk (below_step HB.out hb)
          clear HB
          have HB := HB1
          clear HB1
          obtain ⟨s0, s1, s2, s3, s4, s5, s6, s7⟩ := hHeld
          refine hK.out _ _ ⟨uN hb s0, uN hb s1, uN hb s2, uN hb s3, uN hb s4, uN hb s5, uN hb s6, fun h0 => uN hb (s7 h0)⟩ (fun hHeld => ?_)
          clear hK K hb s0 s1 s2 s3 s4 s5 s6 s7
          refine uZ (a' := ?_) ?_ ?_
          rotate_left
          · show Act.put _ (some 23) _ = _; simp only [Act.put, vD, vE, vF, uI, uO]; rfl
          refine uH (i := 14) (N := some 24) (v := ?_) (a' := ?_) (bA_spec 34 32767) rfl rfl (by kernel_rfl) (fun _ _ _ h => h) (Or.inl ⟨by rfl, ?_⟩) ?_ ?_
          rotate_left
          · intro w'; go_simp; with_reducible rfl
          rotate_left
          · simp only [Act.put, vD, vE, vF, uI, uO]; rfl
          refine uH (i := 15) (N := some 25) (v := ?_) (a' := ?_) (bA_spec 34 65535) rfl rfl (by kernel_rfl) (fun _ _ _ h => h) (Or.inl ⟨by rfl, ?_⟩) ?_ ?_
          rotate_left
          · intro w'; go_simp; with_reducible rfl
          rotate_left
          · simp only [Act.put, vD, vE, vF, uI, uO]; rfl
          refine uH (i := 16) (N := some 26) (v := ?_) (a' := ?_) (bA_spec 34 131071) rfl rfl (by kernel_rfl) (fun _ _ _ h => h) (Or.inl ⟨by rfl, ?_⟩) ?_ ?_
          rotate_left
          · intro w'; go_simp; with_reducible rfl
          rotate_left
          · simp only [Act.put, vD, vE, vF, uI, uO]; rfl
          refine uH (i := 17) (N := some 27) (v := ?_) (a' := ?_) (bA_spec 34 262143) rfl rfl (by kernel_rfl) (fun _ _ _ h => h) (Or.inl ⟨by rfl, ?_⟩) ?_ ?_
          rotate_left
          · intro w'; go_simp; with_reducible rfl
          rotate_left
          · simp only [Act.put, vD, vE, vF, uI, uO]; rfl
          by_cases h0 : 0 < kk
          · have hp0 := eq_true (show (kk : Int) > 0 by omega)
            have hp3 := eq_true (show (0 : Int) < (kk : Int) by omega)
            have hp1 := eq_true (show (0 : Int) ≤ (kk : Int) - 1 by omega)
            have hp5 := eq_true (show (1 : Int) ≤ (kk : Int) by omega)
            have hp2 := eq_true (show (kk : Int) - 1 < (l0.length : Int) by omega)
            refine uH (i := 18) (N := some 28) (v := ?_) (a' := ?_) (bA_spec 34 524287) rfl rfl (by kernel_rfl) (fun _ _ _ h => h) (Or.inl ⟨by rfl, ?_⟩) ?_ ?_
            rotate_left
            · intro w'; go_simp; with_reducible rfl
            rotate_left
            · simp only [Act.put, vD, vE, vF, uI, uO]; rfl
            refine uH (i := 19) (N := some 29) (v := ?_) (a' := ?_) (bA_spec 34 1048575) rfl rfl (by kernel_rfl) (fun _ _ _ h => h) (Or.inl ⟨by rfl, ?_⟩) ?_ ?_
            rotate_left
            · intro w'; go_simp; with_reducible rfl
            rotate_left
            · simp only [Act.put, vD, vE, vF, uI, uO]; rfl
            refine uH (i := 20) (N := some 30) (v := ?_) (a' := ?_) (bA_spec 34 2097151) rfl rfl (by kernel_rfl) (fun _ _ _ h => h) (Or.inl ⟨by rfl, ?_⟩) ?_ ?_
            rotate_left
            · intro w'; go_simp; with_reducible rfl
            rotate_left
            · simp only [Act.put, vD, vE, vF, uI, uO]; rfl
            refine uH (i := 21) (N := some 31) (v := ?_) (a' := ?_) (bA_spec 34 4194303) rfl rfl (by kernel_rfl) (fun _ _ _ h => h) (Or.inl ⟨by rfl, ?_⟩) ?_ ?_
            rotate_left
            · intro w'; go_simp; with_reducible rfl
            rotate_left
            · simp only [Act.put, vD, vE, vF, uI, uO]; rfl
            refine uH (i := 22) (N := some 32) (v := ?_) (a' := ?_) (bA_spec 34 8388607) rfl rfl (by kernel_rfl) (fun _ _ _ h => h) (Or.inl ⟨by rfl, ?_⟩) ?_ ?_
            rotate_left
            · intro w'; go_simp; with_reducible rfl
            rotate_left
            · simp only [Act.put, vD, vE, vF, uI, uO]; rfl
            refine uH (i := 23) (N := some 33) (v := ?_) (a' := ?_) (bA_spec 34 16777215) rfl rfl (by kernel_rfl) (fun _ _ _ h => h) (Or.inl ⟨by rfl, ?_⟩) ?_ ?_
            rotate_left
            · intro w'; go_simp; with_reducible rfl
            rotate_left
            · simp only [Act.put, vD, vE, vF, uI, uO]; rfl
            refine uH (i := 24) (N := some 34) (v := ?_) (a' := ?_) (bA_spec 34 33554431) rfl rfl (by kernel_rfl) (fun _ _ _ h => h) (Or.inl ⟨by rfl, ?_⟩) ?_ ?_
            rotate_left
            · intro w'; go_simp; with_reducible rfl
            rotate_left
            · simp only [Act.put, vD, vE, vF, uI, uO]; rfl
            refine take_ (i := 25) (N := some 35) (v := ?_) (a' := ?_) (bA_spec 34 67108863) rfl rfl (by kernel_rfl) (fun _ _ _ h => h) (Or.inl ⟨by rfl, ?_⟩) hHeld ?_ ?_
            rotate_left
            · rintro w' ⟨s0, s1, s2, s3, s4, s5, s6, s7⟩; replace s7 := s7 h0; go_simp; with_reducible rfl
            rotate_left
            · simp only [Act.put, vD, vE, vF, uI, uO]; rfl
            refine uH (i := 26) (N := some 36) (v := ?_) (a' := ?_) (bA_spec 34 134217727) rfl rfl (by kernel_rfl) (fun _ _ _ h => h) (Or.inl ⟨by rfl, ?_⟩) ?_ ?_
            rotate_left
            · intro w'; go_simp; with_reducible rfl
            rotate_left
            · simp only [Act.put, vD, vE, vF, uI, uO]; rfl
            refine uH (i := 27) (N := some 37) (v := ?_) (a' := ?_) (bA_spec 34 268435455) rfl rfl (by kernel_rfl) (fun _ _ _ h => h) (Or.inl ⟨by rfl, ?_⟩) ?_ ?_
            rotate_left
            · intro w'; go_simp; with_reducible rfl
            rotate_left
            · simp only [Act.put, vD, vE, vF, uI, uO]; rfl
            refine uH (i := 28) (N := some 38) (v := ?_) (a' := ?_) (bA_spec 34 536870911) rfl rfl (by kernel_rfl) (fun _ _ _ h => h) (Or.inl ⟨by rfl, ?_⟩) ?_ ?_
            rotate_left
            · intro w'; go_simp; with_reducible rfl
            rotate_left
            · simp only [Act.put, vD, vE, vF, uI, uO]; rfl
            refine uH (i := 29) (N := some 39) (v := ?_) (a' := ?_) (bA_spec 34 1073741823) rfl rfl (by kernel_rfl) (fun _ _ _ h => h) (Or.inl ⟨by rfl, ?_⟩) ?_ ?_
            rotate_left
            · intro w'; go_simp; with_reducible rfl
            rotate_left
            · simp only [Act.put, vD, vE, vF, uI, uO]; rfl
            refine take_ (i := 30) (N := some 40) (v := ?_) (a' := ?_) (bA_spec 34 2147483647) rfl rfl (by kernel_rfl) (fun _ _ _ h => h) (Or.inl ⟨by rfl, ?_⟩) hHeld ?_ ?_
            rotate_left
            · rintro w' ⟨s0, s1, s2, s3, s4, s5, s6, s7⟩; clear s7; go_simp; with_reducible rfl
            rotate_left
            · simp only [Act.put, vD, vE, vF, uI, uO]; rfl
            by_cases h4 : pv ≤ (rd_T66 l0 (kk : Int)).f0
            · have h4c := eq_false (show ¬ (pv > (rd_T66 l0 (kk : Int)).f0) by omega)
              have h4d := decide_eq_false (show ¬ (pv > (rd_T66 l0 (kk : Int)).f0) by omega)
              have h4e := eq_false (show ¬ ((rd_T66 l0 (kk : Int)).f0 < pv) by omega)
              refine uH (i := 31) (N := some 41) (v := ?_) (a' := ?_) (bA_spec 34 4294967295) rfl rfl (by kernel_rfl) (fun _ _ _ h => h) (Or.inl ⟨by rfl, ?_⟩) ?_ ?_
              rotate_left
              · intro w'; go_simp; with_reducible rfl
              rotate_left
              · simp only [Act.put, vD, vE, vF, uI, uO]; rfl
              refine uH (i := 32) (N := some 42) (v := ?_) (a' := ?_) (bA_spec 34 8589934591) rfl rfl (by kernel_rfl) (fun _ _ _ h => h) (Or.inl ⟨by rfl, ?_⟩) ?_ ?_
              rotate_left
              · intro w'; go_simp; with_reducible rfl
              rotate_left
              · simp only [Act.put, vD, vE, vF, uI, uO]; rfl
              refine uH (i := 33) (N := some 43) (v := ?_) (a' := ?_) (bA_spec 34 17179869183) rfl rfl (by kernel_rfl) (fun _ _ _ h => h) (Or.inl ⟨by rfl, ?_⟩) ?_ ?_
              rotate_left
              · intro w'; go_simp; with_reducible rfl
              rotate_left
              · simp only [Act.put, vD, vE, vF, uI, uO]; rfl
              refine done_ (by kernel_rfl) ?_
              go_wp2
              go_roundg (l0.length - (kk + 1))
              case measure => have := HK.out; omega
              case rel =>
                refine ⟨kk + 1, by first | (rw [show wrap64 ((kk : Int) + 1) = ((kk + 1 : Nat) : Int) by have := HL1.out; unfold wrap64; omega]) | rfl, ⟨by have := HK.out; omega, by have := HK.out; omega⟩, HB, ⟨fun j hj => ?_⟩⟩
                rcases Nat.lt_succ_iff_lt_or_eq.1 hj with hj | rfl
                · exact HA.out j hj
                · exact ⟨h1, hv, fun h => by first | exact absurd h h0 | (rw [← (HPV2.out h).2]; exact h4)⟩
            · have h4c := eq_true (show pv > (rd_T66 l0 (kk : Int)).f0 by omega)
              have h4d := decide_eq_true (show pv > (rd_T66 l0 (kk : Int)).f0 by omega)
              have h4e := eq_true (show (rd_T66 l0 (kk : Int)).f0 < pv by omega)
              refine uH (i := 31) (N := some 41) (v := ?_) (a' := ?_) (bA_spec 34 4294967295) rfl rfl (by kernel_rfl) (fun _ _ _ h => h) (Or.inl ⟨by rfl, ?_⟩) ?_ ?_
              rotate_left
              · intro w'; go_simp; with_reducible rfl
              rotate_left
              · simp only [Act.put, vD, vE, vF, uI, uO]; rfl
              refine uH (i := 32) (N := some 42) (v := ?_) (a' := ?_) (bA_spec 34 8589934591) rfl rfl (by kernel_rfl) (fun _ _ _ h => h) (Or.inl ⟨by rfl, ?_⟩) ?_ ?_
              rotate_left
              · intro w'; go_simp; with_reducible rfl
              rotate_left
              · simp only [Act.put, vD, vE, vF, uI, uO]; rfl
              refine uH (i := 33) (N := some 43) (v := ?_) (a' := ?_) (bA_spec 34 17179869183) rfl rfl (by kernel_rfl) (fun _ _ _ h => h) (Or.inl ⟨by rfl, ?_⟩) ?_ ?_
              rotate_left
              · intro w'; go_simp; with_reducible rfl
              rotate_left
              · simp only [Act.put, vD, vE, vF, uI, uO]; rfl
              refine done_ (by kernel_rfl) ?_
              go_wp2
              go_ret
              exact ⟨by rw [HNO.out (pv ≤ (rd_T66 l0 (kk : Int)).f0) (fun h => by rw [(HPV2.out h0).2]; exact h.2.2 h0) (by omega)]; rfl, by first | exact HB.out | (rw [← World.drewN_drewN]; exact HB.out)⟩
          · have hp0 := eq_false (show ¬ ((kk : Int) > 0) by omega)
            have hp3 := eq_false (show ¬ ((0 : Int) < (kk : Int)) by omega)
            refine uH (i := 18) (N := some 28) (v := ?_) (a' := ?_) (bA_spec 34 524287) rfl rfl (by kernel_rfl) (fun _ _ _ h => h) (Or.inl ⟨by rfl, ?_⟩) ?_ ?_
            rotate_left
            · intro w'; go_simp; with_reducible rfl
            rotate_left
            · simp only [Act.put, vD, vE, vF, uI, uO]; rfl
            refine uH (i := 19) (N := some 29) (v := ?_) (a' := ?_) (bA_spec 34 1048575) rfl rfl (by kernel_rfl) (fun _ _ _ h => h) (Or.inl ⟨by rfl, ?_⟩) ?_ ?_
            rotate_left
            · intro w'; go_simp; with_reducible rfl
            rotate_left
            · simp only [Act.put, vD, vE, vF, uI, uO]; rfl
            refine uH (i := 20) (N := some 30) (v := undef) (a' := ?_) (bA_spec 34 2097151) rfl rfl (by kernel_rfl) (fun _ _ _ h => h) (Or.inr ⟨by rfl, rfl⟩) ?_ ?_
            rotate_left
            · simp only [Act.put, vD, vE, vF]; rfl
            refine uH (i := 21) (N := some 31) (v := undef) (a' := ?_) (bA_spec 34 4194303) rfl rfl (by kernel_rfl) (fun _ _ _ h => h) (Or.inr ⟨by rfl, rfl⟩) ?_ ?_
            rotate_left
            · simp only [Act.put, vD, vE, vF]; rfl
            refine uH (i := 22) (N := some 32) (v := undef) (a' := ?_) (bA_spec 34 8388607) rfl rfl (by kernel_rfl) (fun _ _ _ h => h) (Or.inr ⟨by rfl, rfl⟩) ?_ ?_
            rotate_left
            · simp only [Act.put, vD, vE, vF]; rfl
            refine uH (i := 23) (N := some 33) (v := undef) (a' := ?_) (bA_spec 34 16777215) rfl rfl (by kernel_rfl) (fun _ _ _ h => h) (Or.inr ⟨by rfl, rfl⟩) ?_ ?_
            rotate_left
            · simp only [Act.put, vD, vE, vF]; rfl
            refine uH (i := 24) (N := some 34) (v := undef) (a' := ?_) (bA_spec 34 33554431) rfl rfl (by kernel_rfl) (fun _ _ _ h => h) (Or.inr ⟨by rfl, rfl⟩) ?_ ?_
            rotate_left
            · simp only [Act.put, vD, vE, vF]; rfl
            refine uH (i := 25) (N := some 35) (v := undef) (a' := ?_) (bA_spec 34 67108863) rfl rfl (by kernel_rfl) (fun _ _ _ h => h) (Or.inr ⟨by rfl, rfl⟩) ?_ ?_
            rotate_left
            · simp only [Act.put, vD, vE, vF]; rfl
            refine uH (i := 26) (N := some 36) (v := undef) (a' := ?_) (bA_spec 34 134217727) rfl rfl (by kernel_rfl) (fun _ _ _ h => h) (Or.inr ⟨by rfl, rfl⟩) ?_ ?_
            rotate_left
            · simp only [Act.put, vD, vE, vF]; rfl
            refine uH (i := 27) (N := some 37) (v := undef) (a' := ?_) (bA_spec 34 268435455) rfl rfl (by kernel_rfl) (fun _ _ _ h => h) (Or.inr ⟨by rfl, rfl⟩) ?_ ?_
            rotate_left
            · simp only [Act.put, vD, vE, vF]; rfl
            refine uH (i := 28) (N := some 38) (v := undef) (a' := ?_) (bA_spec 34 536870911) rfl rfl (by kernel_rfl) (fun _ _ _ h => h) (Or.inr ⟨by rfl, rfl⟩) ?_ ?_
            rotate_left
            · simp only [Act.put, vD, vE, vF]; rfl
            refine uH (i := 29) (N := some 39) (v := undef) (a' := ?_) (bA_spec 34 1073741823) rfl rfl (by kernel_rfl) (fun _ _ _ h => h) (Or.inr ⟨by rfl, rfl⟩) ?_ ?_
            rotate_left
            · simp only [Act.put, vD, vE, vF]; rfl
            refine uH (i := 30) (N := some 40) (v := undef) (a' := ?_) (bA_spec 34 2147483647) rfl rfl (by kernel_rfl) (fun _ _ _ h => h) (Or.inr ⟨by rfl, rfl⟩) ?_ ?_
            rotate_left
            · simp only [Act.put, vD, vE, vF]; rfl
            refine uH (i := 31) (N := some 41) (v := undef) (a' := ?_) (bA_spec 34 4294967295) rfl rfl (by kernel_rfl) (fun _ _ _ h => h) (Or.inr ⟨by rfl, rfl⟩) ?_ ?_
            rotate_left
            · simp only [Act.put, vD, vE, vF]; rfl
            refine uH (i := 32) (N := some 42) (v := ?_) (a' := ?_) (bA_spec 34 8589934591) rfl rfl (by kernel_rfl) (fun _ _ _ h => h) (Or.inl ⟨by rfl, ?_⟩) ?_ ?_
            rotate_left
            · intro w'; go_simp; with_reducible rfl
            rotate_left
            · simp only [Act.put, vD, vE, vF, uI, uO]; rfl
            refine uH (i := 33) (N := some 43) (v := ?_) (a' := ?_) (bA_spec 34 17179869183) rfl rfl (by kernel_rfl) (fun _ _ _ h => h) (Or.inl ⟨by rfl, ?_⟩) ?_ ?_
            rotate_left
            · intro w'; go_simp; with_reducible rfl
            rotate_left
            · simp only [Act.put, vD, vE, vF, uI, uO]; rfl
            refine done_ (by kernel_rfl) ?_
            go_wp2
            go_roundg (l0.length - (kk + 1))
            case measure => have := HK.out; omega
            case rel =>
              refine ⟨kk + 1, by first | (rw [show wrap64 ((kk : Int) + 1) = ((kk + 1 : Nat) : Int) by have := HL1.out; unfold wrap64; omega]) | rfl, ⟨by have := HK.out; omega, by have := HK.out; omega⟩, HB, ⟨fun j hj => ?_⟩⟩
              rcases Nat.lt_succ_iff_lt_or_eq.1 hj with hj | rfl
              · exact HA.out j hj
              · exact ⟨h1, hv, fun h => by first | exact absurd h h0 | (rw [← (HPV2.out h).2]; exact h4)⟩
        · refine one_ (i := 13) (N := some 23) (bA_spec 34 16383) rfl rfl (by kernel_rfl) (by decide) (fun K hK => ?_)
          refine goes_ Tryd.func49 (by kernel_rfl) rfl #[.agg #[.int .i64 (rd_T66 l0 (kk : Int)).f1.f0, .int .i64 (rd_T66 l0 (kk : Int)).f1.f1, .int .i64 (rd_T66 l0 (kk : Int)).f1.f2, .int .i64 (rd_T66 l0 (kk : Int)).f1.f3, .int .i64 (rd_T66 l0 (kk : Int)).f1.f4, .int .i64 (rd_T66 l0 (kk : Int)).f1.f5]] (by rfl) rfl rfl (by (try simp only [List.map_toArray, List.map_cons, List.map_nil]); first | done | rfl) ?_
          refine (spec_IsValidOp.calls (rd_T66 l0 (kk : Int)).f1.f0 (rd_T66 l0 (kk : Int)).f1.f1 (rd_T66 l0 (kk : Int)).f1.f2 (rd_T66 l0 (kk : Int)).f1.f3 (rd_T66 l0 (kk : Int)).f1.f4 (rd_T66 l0 (kk : Int)).f1.f5 false _ hv).mono ?_
          rintro e w' ⟨rfl, hb⟩
          refine ⟨_, rfl, ?_⟩
          have HB1 := Aside0.mk (below_step HB.out hb)
          clear HB
          have HB := HB1
          clear HB1
          obtain ⟨s0, s1, s2, s3, s4, s5, s6, s7⟩ := hHeld
          refine hK.out _ _ ⟨uN hb s0, uN hb s1, uN hb s2, uN hb s3, uN hb s4, uN hb s5, uN hb s6, fun h0 => uN hb (s7 h0)⟩ (fun hHeld => ?_)
          clear hK K hb s0 s1 s2 s3 s4 s5 s6 s7
          refine uZ (a' := ?_) ?_ ?_
          rotate_left
          · show Act.put _ (some 23) _ = _; simp only [Act.put, vD, vE, vF, uI, uO]; rfl
          refine uH (i := 14) (N := some 24) (v := ?_) (a' := ?_) (bA_spec 34 32767) rfl rfl (by kernel_rfl) (fun _ _ _ h => h) (Or.inl ⟨by rfl, ?_⟩) ?_ ?_
          rotate_left
          · intro w'; go_simp; with_reducible rfl
          rotate_left
          · simp only [Act.put, vD, vE, vF, uI, uO]; rfl
          refine uH (i := 15) (N := some 25) (v := ?_) (a' := ?_) (bA_spec 34 65535) rfl rfl (by kernel_rfl) (fun _ _ _ h => h) (Or.inl ⟨by rfl, ?_⟩) ?_ ?_
          rotate_left
          · intro w'; go_simp; with_reducible rfl
          rotate_left
          · simp only [Act.put, vD, vE, vF, uI, uO]; rfl
          refine uH (i := 16) (N := some 26) (v := ?_) (a' := ?_) (bA_spec 34 131071) rfl rfl (by kernel_rfl) (fun _ _ _ h => h) (Or.inl ⟨by rfl, ?_⟩) ?_ ?_
          rotate_left
          · intro w'; go_simp; with_reducible rfl
          rotate_left
          · simp only [Act.put, vD, vE, vF, uI, uO]; rfl
          refine uH (i := 17) (N := some 27) (v := undef) (a' := ?_) (bA_spec 34 262143) rfl rfl (by kernel_rfl) (fun _ _ _ h => h) (Or.inr ⟨by rfl, rfl⟩) ?_ ?_
          rotate_left
          · simp only [Act.put, vD, vE, vF]; rfl
          refine uH (i := 18) (N := some 28) (v := undef) (a' := ?_) (bA_spec 34 524287) rfl rfl (by kernel_rfl) (fun _ _ _ h => h) (Or.inr ⟨by rfl, rfl⟩) ?_ ?_
          rotate_left
          · simp only [Act.put, vD, vE, vF]; rfl
          refine uH (i := 19) (N := some 29) (v := undef) (a' := ?_) (bA_spec 34 1048575) rfl rfl (by kernel_rfl) (fun _ _ _ h => h) (Or.inr ⟨by rfl, rfl⟩) ?_ ?_
          rotate_left
          · simp only [Act.put, vD, vE, vF]; rfl
          refine uH (i := 20) (N := some 30) (v := undef) (a' := ?_) (bA_spec 34 2097151) rfl rfl (by kernel_rfl) (fun _ _ _ h => h) (Or.inr ⟨by rfl, rfl⟩) ?_ ?_
          rotate_left
          · simp only [Act.put, vD, vE, vF]; rfl
          refine uH (i := 21) (N := some 31) (v := undef) (a' := ?_) (bA_spec 34 4194303) rfl rfl (by kernel_rfl) (fun _ _ _ h => h) (Or.inr ⟨by rfl, rfl⟩) ?_ ?_
          rotate_left
          · simp only [Act.put, vD, vE, vF]; rfl
          refine uH (i := 22) (N := some 32) (v := undef) (a' := ?_) (bA_spec 34 8388607) rfl rfl (by kernel_rfl) (fun _ _ _ h => h) (Or.inr ⟨by rfl, rfl⟩) ?_ ?_
          rotate_left
          · simp only [Act.put, vD, vE, vF]; rfl
          refine uH (i := 23) (N := some 33) (v := undef) (a' := ?_) (bA_spec 34 16777215) rfl rfl (by kernel_rfl) (fun _ _ _ h => h) (Or.inr ⟨by rfl, rfl⟩) ?_ ?_
          rotate_left
          · simp only [Act.put, vD, vE, vF]; rfl
          refine uH (i := 24) (N := some 34) (v := undef) (a' := ?_) (bA_spec 34 33554431) rfl rfl (by kernel_rfl) (fun _ _ _ h => h) (Or.inr ⟨by rfl, rfl⟩) ?_ ?_
          rotate_left
          · simp only [Act.put, vD, vE, vF]; rfl
          refine uH (i := 25) (N := some 35) (v := undef) (a' := ?_) (bA_spec 34 67108863) rfl rfl (by kernel_rfl) (fun _ _ _ h => h) (Or.inr ⟨by rfl, rfl⟩) ?_ ?_
          rotate_left
          · simp only [Act.put, vD, vE, vF]; rfl
          refine uH (i := 26) (N := some 36) (v := undef) (a' := ?_) (bA_spec 34 134217727) rfl rfl (by kernel_rfl) (fun _ _ _ h => h) (Or.inr ⟨by rfl, rfl⟩) ?_ ?_
          rotate_left
          · simp only [Act.put, vD, vE, vF]; rfl
          refine uH (i := 27) (N := some 37) (v := undef) (a' := ?_) (bA_spec 34 268435455) rfl rfl (by kernel_rfl) (fun _ _ _ h => h) (Or.inr ⟨by rfl, rfl⟩) ?_ ?_
          rotate_left
          · simp only [Act.put, vD, vE, vF]; rfl
          refine uH (i := 28) (N := some 38) (v := undef) (a' := ?_) (bA_spec 34 536870911) rfl rfl (by kernel_rfl) (fun _ _ _ h => h) (Or.inr ⟨by rfl, rfl⟩) ?_ ?_
          rotate_left
          · simp only [Act.put, vD, vE, vF]; rfl
          refine uH (i := 29) (N := some 39) (v := undef) (a' := ?_) (bA_spec 34 1073741823) rfl rfl (by kernel_rfl) (fun _ _ _ h => h) (Or.inr ⟨by rfl, rfl⟩) ?_ ?_
          rotate_left
          · simp only [Act.put, vD, vE, vF]; rfl
          refine uH (i := 30) (N := some 40) (v := undef) (a' := ?_) (bA_spec 34 2147483647) rfl rfl (by kernel_rfl) (fun _ _ _ h => h) (Or.inr ⟨by rfl, rfl⟩) ?_ ?_
          rotate_left
          · simp only [Act.put, vD, vE, vF]; rfl
          refine uH (i := 31) (N := some 41) (v := undef) (a' := ?_) (bA_spec 34 4294967295) rfl rfl (by kernel_rfl) (fun _ _ _ h => h) (Or.inr ⟨by rfl, rfl⟩) ?_ ?_
          rotate_left
          · simp only [Act.put, vD, vE, vF]; rfl
          refine uH (i := 32) (N := some 42) (v := undef) (a' := ?_) (bA_spec 34 8589934591) rfl rfl (by kernel_rfl) (fun _ _ _ h => h) (Or.inr ⟨by rfl, rfl⟩) ?_ ?_
          rotate_left
          · simp only [Act.put, vD, vE, vF]; rfl
          refine uH (i := 33) (N := some 43) (v := ?_) (a' := ?_) (bA_spec 34 17179869183) rfl rfl (by kernel_rfl) (fun _ _ _ h => h) (Or.inl ⟨by rfl, ?_⟩) ?_ ?_
          rotate_left
          · intro w'; go_simp; with_reducible rfl
          rotate_left
          · simp only [Act.put, vD, vE, vF, uI, uO]; rfl
          refine done_ (by kernel_rfl) ?_
          go_wp2
          go_ret
          exact ⟨by rw [HNO.out (spec_IsValidOp.f (rd_T66 l0 (kk : Int)).f1.f0 (rd_T66 l0 (kk : Int)).f1.f1 (rd_T66 l0 (kk : Int)).f1.f2 (rd_T66 l0 (kk : Int)).f1.f3 (rd_T66 l0 (kk : Int)).f1.f4 (rd_T66 l0 (kk : Int)).f1.f5 = some true) (fun h => h.2.1) (by rw [hv]; simp)]; rfl, by first | exact HB.out | (rw [← World.drewN_drewN]; exact HB.out)⟩
      · refine one_ (i := 5) (N := some 15) (bA_spec 34 63) rfl rfl (by kernel_rfl) (by decide) (fun K hK => ?_)
        refine goes_ Tryd.func48 (by kernel_rfl) rfl #[.int .i64 (rd_T66 l0 (kk : Int)).f0, .int .i64 1, .int .i64 20] (by rfl) rfl rfl (by (try simp only [List.map_toArray, List.map_cons, List.map_nil]); first | done | rfl) ?_
        refine (spec_l1In.no_ h1 _).mono ?_
        rintro e w' ⟨rfl, ⟨nd5, rfl⟩⟩
        refine ⟨_, rfl, ?_⟩
        have HB1 := Aside0.mk (pw_below_drewN HB.out nd5)
        clear HB
        have HB := HB1
        clear HB1
        refine hK.out _ _ hHeld (fun hHeld => ?_)
        clear hK K
        refine uZ (a' := ?_) ?_ ?_
        rotate_left
        · show Act.put _ (some 15) _ = _; simp only [Act.put, vD, vE, vF, uI, uO]; rfl
        refine uH (i := 6) (N := some 16) (v := ?_) (a' := ?_) (bA_spec 34 127) rfl rfl (by kernel_rfl) (fun _ _ _ h => h) (Or.inl ⟨by rfl, ?_⟩) ?_ ?_
        rotate_left
        · intro w'; go_simp; with_reducible rfl
        rotate_left
        · simp only [Act.put, vD, vE, vF, uI, uO]; rfl
        refine uH (i := 7) (N := some 17) (v := ?_) (a' := ?_) (bA_spec 34 255) rfl rfl (by kernel_rfl) (fun _ _ _ h => h) (Or.inl ⟨by rfl, ?_⟩) ?_ ?_
        rotate_left
        · intro w'; go_simp; with_reducible rfl
        rotate_left
        · simp only [Act.put, vD, vE, vF, uI, uO]; rfl
        refine uH (i := 8) (N := some 18) (v := undef) (a' := ?_) (bA_spec 34 511) rfl rfl (by kernel_rfl) (fun _ _ _ h => h) (Or.inr ⟨by rfl, rfl⟩) ?_ ?_
        rotate_left
        · simp only [Act.put, vD, vE, vF]; rfl
        refine uH (i := 9) (N := some 19) (v := undef) (a' := ?_) (bA_spec 34 1023) rfl rfl (by kernel_rfl) (fun _ _ _ h => h) (Or.inr ⟨by rfl, rfl⟩) ?_ ?_
        rotate_left
        · simp only [Act.put, vD, vE, vF]; rfl
        refine uH (i := 10) (N := some 20) (v := undef) (a' := ?_) (bA_spec 34 2047) rfl rfl (by kernel_rfl) (fun _ _ _ h => h) (Or.inr ⟨by rfl, rfl⟩) ?_ ?_
        rotate_left
        · simp only [Act.put, vD, vE, vF]; rfl
        refine uH (i := 11) (N := some 21) (v := undef) (a' := ?_) (bA_spec 34 4095) rfl rfl (by kernel_rfl) (fun _ _ _ h => h) (Or.inr ⟨by rfl, rfl⟩) ?_ ?_
        rotate_left
        · simp only [Act.put, vD, vE, vF]; rfl
        refine uH (i := 12) (N := some 22) (v := undef) (a' := ?_) (bA_spec 34 8191) rfl rfl (by kernel_rfl) (fun _ _ _ h => h) (Or.inr ⟨by rfl, rfl⟩) ?_ ?_
        rotate_left
        · simp only [Act.put, vD, vE, vF]; rfl
        refine uH (i := 13) (N := some 23) (v := undef) (a' := ?_) (bA_spec 34 16383) rfl rfl (by kernel_rfl) (fun _ _ _ h => h) (Or.inr ⟨by rfl, rfl⟩) ?_ ?_
        rotate_left
        · simp only [Act.put, vD, vE, vF]; rfl
        refine uH (i := 14) (N := some 24) (v := undef) (a' := ?_) (bA_spec 34 32767) rfl rfl (by kernel_rfl) (fun _ _ _ h => h) (Or.inr ⟨by rfl, rfl⟩) ?_ ?_
        rotate_left
        · simp only [Act.put, vD, vE, vF]; rfl
        refine uH (i := 15) (N := some 25) (v := ?_) (a' := ?_) (bA_spec 34 65535) rfl rfl (by kernel_rfl) (fun _ _ _ h => h) (Or.inl ⟨by rfl, ?_⟩) ?_ ?_
        rotate_left
        · intro w'; go_simp; with_reducible rfl
        rotate_left
        · simp only [Act.put, vD, vE, vF, uI, uO]; rfl
        refine uH (i := 16) (N := some 26) (v := ?_) (a' := ?_) (bA_spec 34 131071) rfl rfl (by kernel_rfl) (fun _ _ _ h => h) (Or.inl ⟨by rfl, ?_⟩) ?_ ?_
        rotate_left
        · intro w'; go_simp; with_reducible rfl
        rotate_left
        · simp only [Act.put, vD, vE, vF, uI, uO]; rfl
        refine uH (i := 17) (N := some 27) (v := undef) (a' := ?_) (bA_spec 34 262143) rfl rfl (by kernel_rfl) (fun _ _ _ h => h) (Or.inr ⟨by rfl, rfl⟩) ?_ ?_
        rotate_left
        · simp only [Act.put, vD, vE, vF]; rfl
        refine uH (i := 18) (N := some 28) (v := undef) (a' := ?_) (bA_spec 34 524287) rfl rfl (by kernel_rfl) (fun _ _ _ h => h) (Or.inr ⟨by rfl, rfl⟩) ?_ ?_
        rotate_left
        · simp only [Act.put, vD, vE, vF]; rfl
        refine uH (i := 19) (N := some 29) (v := undef) (a' := ?_) (bA_spec 34 1048575) rfl rfl (by kernel_rfl) (fun _ _ _ h => h) (Or.inr ⟨by rfl, rfl⟩) ?_ ?_
        rotate_left
        · simp only [Act.put, vD, vE, vF]; rfl
        refine uH (i := 20) (N := some 30) (v := undef) (a' := ?_) (bA_spec 34 2097151) rfl rfl (by kernel_rfl) (fun _ _ _ h => h) (Or.inr ⟨by rfl, rfl⟩) ?_ ?_
        rotate_left
        · simp only [Act.put, vD, vE, vF]; rfl
        refine uH (i := 21) (N := some 31) (v := undef) (a' := ?_) (bA_spec 34 4194303) rfl rfl (by kernel_rfl) (fun _ _ _ h => h) (Or.inr ⟨by rfl, rfl⟩) ?_ ?_
        rotate_left
        · simp only [Act.put, vD, vE, vF]; rfl
        refine uH (i := 22) (N := some 32) (v := undef) (a' := ?_) (bA_spec 34 8388607) rfl rfl (by kernel_rfl) (fun _ _ _ h => h) (Or.inr ⟨by rfl, rfl⟩) ?_ ?_
        rotate_left
        · simp only [Act.put, vD, vE, vF]; rfl
        refine uH (i := 23) (N := some 33) (v := undef) (a' := ?_) (bA_spec 34 16777215) rfl rfl (by kernel_rfl) (fun _ _ _ h => h) (Or.inr ⟨by rfl, rfl⟩) ?_ ?_
        rotate_left
        · simp only [Act.put, vD, vE, vF]; rfl
        refine uH (i := 24) (N := some 34) (v := undef) (a' := ?_) (bA_spec 34 33554431) rfl rfl (by kernel_rfl) (fun _ _ _ h => h) (Or.inr ⟨by rfl, rfl⟩) ?_ ?_
        rotate_left
        · simp only [Act.put, vD, vE, vF]; rfl
        refine uH (i := 25) (N := some 35) (v := undef) (a' := ?_) (bA_spec 34 67108863) rfl rfl (by kernel_rfl) (fun _ _ _ h => h) (Or.inr ⟨by rfl, rfl⟩) ?_ ?_
        rotate_left
        · simp only [Act.put, vD, vE, vF]; rfl
        refine uH (i := 26) (N := some 36) (v := undef) (a' := ?_) (bA_spec 34 134217727) rfl rfl (by kernel_rfl) (fun _ _ _ h => h) (Or.inr ⟨by rfl, rfl⟩) ?_ ?_
        rotate_left
        · simp only [Act.put, vD, vE, vF]; rfl
        refine uH (i := 27) (N := some 37) (v := undef) (a' := ?_) (bA_spec 34 268435455) rfl rfl (by kernel_rfl) (fun _ _ _ h => h) (Or.inr ⟨by rfl, rfl⟩) ?_ ?_
        rotate_left
        · simp only [Act.put, vD, vE, vF]; rfl
        refine uH (i := 28) (N := some 38) (v := undef) (a' := ?_) (bA_spec 34 536870911) rfl rfl (by kernel_rfl) (fun _ _ _ h => h) (Or.inr ⟨by rfl, rfl⟩) ?_ ?_
        rotate_left
        · simp only [Act.put, vD, vE, vF]; rfl
        refine uH (i := 29) (N := some 39) (v := undef) (a' := ?_) (bA_spec 34 1073741823) rfl rfl (by kernel_rfl) (fun _ _ _ h => h) (Or.inr ⟨by rfl, rfl⟩) ?_ ?_
        rotate_left
        · simp only [Act.put, vD, vE, vF]; rfl
        refine uH (i := 30) (N := some 40) (v := undef) (a' := ?_) (bA_spec 34 2147483647) rfl rfl (by kernel_rfl) (fun _ _ _ h => h) (Or.inr ⟨by rfl, rfl⟩) ?_ ?_
        rotate_left
        · simp only [Act.put, vD, vE, vF]; rfl
        refine uH (i := 31) (N := some 41) (v := undef) (a' := ?_) (bA_spec 34 4294967295) rfl rfl (by kernel_rfl) (fun _ _ _ h => h) (Or.inr ⟨by rfl, rfl⟩) ?_ ?_
        rotate_left
        · simp only [Act.put, vD, vE, vF]; rfl
        refine uH (i := 32) (N := some 42) (v := undef) (a' := ?_) (bA_spec 34 8589934591) rfl rfl (by kernel_rfl) (fun _ _ _ h => h) (Or.inr ⟨by rfl, rfl⟩) ?_ ?_
        rotate_left
        · simp only [Act.put, vD, vE, vF]; rfl
        refine uH (i := 33) (N := some 43) (v := ?_) (a' := ?_) (bA_spec 34 17179869183) rfl rfl (by kernel_rfl) (fun _ _ _ h => h) (Or.inl ⟨by rfl, ?_⟩) ?_ ?_
        rotate_left
        · intro w'; go_simp; with_reducible rfl
        rotate_left
        · simp only [Act.put, vD, vE, vF, uI, uO]; rfl
        refine done_ (by kernel_rfl) ?_
        go_wp2
        go_ret
        exact ⟨by rw [HNO.out (1 ≤ (rd_T66 l0 (kk : Int)).f0 ∧ (rd_T66 l0 (kk : Int)).f0 ≤ 20) (fun h => h.1) h1]; rfl, by first | exact HB.out | (rw [← World.drewN_drewN]; exact HB.out)⟩
    · have hltb := eq_false hlt
      have hall : ∀ j, j < l0.length → okE_spec l0 j := fun j hj => HA.out j (by have := HK.out; omega)
      have HALL := Aside0.mk hall
      clear hall HA
      go_wp2
      go_ret
      have hfin : decide ((l0.length : Int) ≤ 16) = V := by
        rw [← HV.out, Bool.eq_iff_iff, decide_eq_true_eq, decide_eq_true_eq]
        exact ⟨fun h => ⟨by omega, HALL.out⟩, fun h => by have := h.1; omega⟩
      exact ⟨by first | (rw [← hfin]; rfl) | (rw [hfin]; rfl), HB.out⟩


end Go.Proofs.YtcikahnmiiichaaDoor.L
