/- Go functions as Lean functions, and the proof that the code comes to them: written by a program of this session out of the translation. -/
import Derived.Test.YtcikahnmiiichaaM0
import Derived.Test.YtcikahnmiiichaaM7
namespace Go.Proofs.Ytcikahnmiiichaa.M
open List renaming setIfInBounds_toArray → vO, set_cons_zero → vP, set_cons_succ → vQ, map_toArray → vR
open Go.World renaming block_lt_of_cell? → vU
open Go.RowKit Go.Proofs.YtcikahnmiiichaaW.PrintWords Go.Proofs.YtcikahnmiiichaaW.PrintLast Go.Proofs.YtcikahnmiiichaaW.PrintMore
attribute [local go_sem] max2_int min2_int max_two min_two max_three min_three max_four min_four   -- for this text's walks alone
set_option linter.unusedVariables false
set_option linter.unusedSimpArgs false

/-! ### impl_IsValidOp: function 50 -/
def impl_IsValidOp.f (a0_0 : Int) (a0_1 : Int) (a0_2 : Int) (a0_3 : Int) (a0_4 : Int) (a0_5 : Int) : Option (Bool) := (impl_within.f a0_0 0 2).bind fun t135 => (if t135 = true then ((impl_within.f a0_1 1 99).bind fun t136 => (if t136 = true then ((impl_within.f a0_3 0 2).bind fun t137 => (if t137 = true then ((impl_within.f a0_5 0 9).bind fun t138 => (if t138 = true then (if a0_2 = 1 then (if a0_4 = 0 then (some true) else (if a0_2 = 2 then ((impl_within.f a0_4 0 9).bind fun t139 => (some t139)) else (some false))) else (if a0_2 = 2 then ((impl_within.f a0_4 0 9).bind fun t140 => (some t140)) else (some false))) else (some false))) else (some false))) else (some false))) else (some false))
set_option maxHeartbeats 8000000 in
set_option maxRecDepth 100000 in
theorem impl_IsValidOp.calls (a0_0 : Int) (a0_1 : Int) (a0_2 : Int) (a0_3 : Int) (a0_4 : Int) (a0_5 : Int) (r : Bool) (w : World) (h : impl_IsValidOp.f a0_0 a0_1 a0_2 a0_3 a0_4 a0_5 = some r) :
    Calls Try.prog 50 #[.agg #[.int .i64 a0_0, .int .i64 a0_1, .int .i64 a0_2, .int .i64 a0_3, .int .i64 a0_4, .int .i64 a0_5]] w fun e w' => e = .returned (.bool r) ∧ Below w.heap.size w w' := by
  have hu37 := Try.underlying37
  have HB := Aside0.mk (Below.refl w.heap.size w)
  have H : ((impl_within.f a0_0 0 2).bind fun t135 => (if t135 = true then ((impl_within.f a0_1 1 99).bind fun t136 => (if t136 = true then ((impl_within.f a0_3 0 2).bind fun t137 => (if t137 = true then ((impl_within.f a0_5 0 9).bind fun t138 => (if t138 = true then (if a0_2 = 1 then (if a0_4 = 0 then (some true) else (if a0_2 = 2 then ((impl_within.f a0_4 0 9).bind fun t139 => (some t139)) else (some false))) else (if a0_2 = 2 then ((impl_within.f a0_4 0 9).bind fun t140 => (some t140)) else (some false))) else (some false))) else (some false))) else (some false))) else (some false))) = some r := h
  clear h
  replace H := Option.bind_eq_some_iff.mp H
  obtain ⟨t135, A20, H⟩ := H
  try dsimp only at H
  have A2 := Aside0.mk A20
  clear A20
  go_enter Try.func50, Try.ntmps50
  go_wp2_with (first | ((with_reducible refine uI (N := 1) rfl ?_); refine bxe 1 #[.int .i64 a0_0, .int .i64 a0_1, .int .i64 a0_2, .int .i64 a0_3, .int .i64 a0_4, .int .i64 a0_5] 37 ?_; intro gb134 hg w32 hbox hb; have BK134 := Aside0.mk (hbox); have GW134 := tGe HB hg; have GE134 := tGe HB hg; replace HB := tBel HB hb; clear hb hbox hg; obtain ⟨hcz33_0, hcz33_1, hcz33_2, hcz33_3, hcz33_4, hcz33_5, hfz33_0, hfz33_1, hfz33_2, hfz33_3, hfz33_4, hfz33_5⟩ := cz6 BK134; refine ?roundEnd))
  case roundEnd =>
  by_cases c3 : t135 = true
  rotate_left
  · replace c3 := Bool.eq_false_iff.mpr c3
    subst c3
    try rw [if_neg (show ¬ (false = true) by decide)] at H
    obtain rfl := Option.some.inj H
    go_wp2_with (first | ((with_reducible refine uH (f := 65) rfl ?_); refine vC (some 5) Try.func65 #[.int .i64 a0_0, .int .i64 0, .int .i64 2] ?_; (with_reducible refine (impl_within.calls a0_0 0 2 false _ A2.out).mono ?_); rintro e w' ⟨rfl, ⟨nd, rfl⟩⟩; refine ⟨_, rfl, ?_⟩))
    go_ret
    exact ⟨q5, q1⟩
  subst c3
  try rw [if_pos rfl] at H
  replace H := Option.bind_eq_some_iff.mp H
  obtain ⟨t136, A40, H⟩ := H
  try dsimp only at H
  have A4 := Aside0.mk A40
  clear A40
  go_wp2_with (first | ((with_reducible refine uH (f := 65) rfl ?_); refine vC (some 5) Try.func65 #[.int .i64 a0_0, .int .i64 0, .int .i64 2] ?_; (with_reducible refine (impl_within.calls a0_0 0 2 true _ A2.out).mono ?_); rintro e w' ⟨rfl, ⟨nd, rfl⟩⟩; refine ⟨_, rfl, ?_⟩; refine ?roundEnd))
  case roundEnd =>
  by_cases c5 : t136 = true
  rotate_left
  · replace c5 := Bool.eq_false_iff.mpr c5
    subst c5
    try rw [if_neg (show ¬ (false = true) by decide)] at H
    obtain rfl := Option.some.inj H
    go_wp2_with (first | (go_at_call 65; (with_reducible refine (impl_within.calls a0_1 1 99 false _ A4.out).mono ?_); rintro e w' ⟨rfl, ⟨nd, rfl⟩⟩))
    go_ret
    exact ⟨q5, q1⟩
  subst c5
  try rw [if_pos rfl] at H
  replace H := Option.bind_eq_some_iff.mp H
  obtain ⟨t137, A60, H⟩ := H
  try dsimp only at H
  have A6 := Aside0.mk A60
  clear A60
  go_wp2_with (first | (go_at_call 65; (with_reducible refine (impl_within.calls a0_1 1 99 true _ A4.out).mono ?_); rintro e w' ⟨rfl, ⟨nd, rfl⟩⟩; refine ?roundEnd))
  case roundEnd =>
  by_cases c7 : t137 = true
  rotate_left
  · replace c7 := Bool.eq_false_iff.mpr c7
    subst c7
    try rw [if_neg (show ¬ (false = true) by decide)] at H
    obtain rfl := Option.some.inj H
    go_wp2_with (first | (go_at_call 65; (with_reducible refine (impl_within.calls a0_3 0 2 false _ A6.out).mono ?_); rintro e w' ⟨rfl, ⟨nd, rfl⟩⟩))
    go_ret
    exact ⟨q5, q1⟩
  subst c7
  try rw [if_pos rfl] at H
  replace H := Option.bind_eq_some_iff.mp H
  obtain ⟨t138, A80, H⟩ := H
  try dsimp only at H
  have A8 := Aside0.mk A80
  clear A80
  go_wp2_with (first | (go_at_call 65; (with_reducible refine (impl_within.calls a0_3 0 2 true _ A6.out).mono ?_); rintro e w' ⟨rfl, ⟨nd, rfl⟩⟩; refine ?roundEnd))
  case roundEnd =>
  by_cases c9 : t138 = true
  rotate_left
  · replace c9 := Bool.eq_false_iff.mpr c9
    subst c9
    try rw [if_neg (show ¬ (false = true) by decide)] at H
    obtain rfl := Option.some.inj H
    go_wp2_with (first | (go_at_call 65; (with_reducible refine (impl_within.calls a0_5 0 9 false _ A8.out).mono ?_); rintro e w' ⟨rfl, ⟨nd, rfl⟩⟩))
    go_ret
    exact ⟨q5, q1⟩
  subst c9
  try rw [if_pos rfl] at H
  go_wp2_with (first | (go_at_call 65; (with_reducible refine (impl_within.calls a0_5 0 9 true _ A8.out).mono ?_); rintro e w' ⟨rfl, ⟨nd, rfl⟩⟩; refine ?roundEnd))
  case roundEnd =>
  by_cases c10 : a0_2 = 1
  rotate_left
  · rw [if_neg c10] at H
    have c10b0 : (a0_2 == 1) = false := beq_eq_false_iff_ne.mpr c10
    have c10b1 : (a0_2 != 1) = true := bne_iff_ne.mpr c10
    by_cases c20 : a0_2 = 2
    rotate_left
    · rw [if_neg c20] at H
      have c20b0 : (a0_2 == 2) = false := beq_eq_false_iff_ne.mpr c20
      have c20b1 : (a0_2 != 2) = true := bne_iff_ne.mpr c20
      obtain rfl := Option.some.inj H
      go_wp2
      go_ret
      exact ⟨q5, q1⟩
    rw [if_pos c20] at H
    have c20b0 : (a0_2 == 2) = true := beq_iff_eq.mpr c20
    have c20b1 : (a0_2 != 2) = false := bne_eq_false_iff_eq.mpr c20
    clear c20
    replace H := Option.bind_eq_some_iff.mp H
    obtain ⟨t140, A210, H⟩ := H
    try dsimp only at H
    have A21 := Aside0.mk A210
    clear A210
    obtain rfl := Option.some.inj H
    go_wp2_with (first | (go_at_call 65; (with_reducible refine (impl_within.calls a0_4 0 9 t140 _ A21.out).mono ?_); rintro e w' ⟨rfl, ⟨nd, rfl⟩⟩))
    go_ret
    exact ⟨q5, q1⟩
  rw [if_pos c10] at H
  have c10b0 : (a0_2 == 1) = true := beq_iff_eq.mpr c10
  have c10b1 : (a0_2 != 1) = false := bne_eq_false_iff_eq.mpr c10
  clear c10
  by_cases c11 : a0_4 = 0
  · rw [if_pos c11] at H
    have c11b0 : (a0_4 == 0) = true := beq_iff_eq.mpr c11
    have c11b1 : (a0_4 != 0) = false := bne_eq_false_iff_eq.mpr c11
    clear c11
    obtain rfl := Option.some.inj H
    go_wp2
    go_ret
    exact ⟨q5, q1⟩
  rw [if_neg c11] at H
  have c11b0 : (a0_4 == 0) = false := beq_eq_false_iff_ne.mpr c11
  have c11b1 : (a0_4 != 0) = true := bne_iff_ne.mpr c11
  by_cases c14 : a0_2 = 2
  rotate_left
  · rw [if_neg c14] at H
    have c14b0 : (a0_2 == 2) = false := beq_eq_false_iff_ne.mpr c14
    have c14b1 : (a0_2 != 2) = true := bne_iff_ne.mpr c14
    obtain rfl := Option.some.inj H
    go_wp2
    go_ret
    exact ⟨q5, q1⟩
  rw [if_pos c14] at H
  have c14b0 : (a0_2 == 2) = true := beq_iff_eq.mpr c14
  have c14b1 : (a0_2 != 2) = false := bne_eq_false_iff_eq.mpr c14
  clear c14
  replace H := Option.bind_eq_some_iff.mp H
  obtain ⟨t139, A150, H⟩ := H
  try dsimp only at H
  have A15 := Aside0.mk A150
  clear A150
  obtain rfl := Option.some.inj H
  go_wp2_with (first | (go_at_call 65; (with_reducible refine (impl_within.calls a0_4 0 9 t139 _ A15.out).mono ?_); rintro e w' ⟨rfl, ⟨nd, rfl⟩⟩))
  go_ret
  exact ⟨q5, q1⟩

/-! ### impl_SessionOf: function 22 -/
def impl_SessionOf.l0 : Nat → Int → List (S49) → Int → Int → Option (Int × Int × Bool × Int × Bool)
  | 0, _, _, _, _ => none
  | k + 1, x1, x9, x10, x11 => if x11 < x10 then (if 0 ≤ x11 then (if x11 < (x9.length : Int) then (if ((rd_T49 x9 x11).f0) = x1 then (some ((rd_T49 x9 x11).f0, (rd_T49 x9 x11).f1, (rd_T49 x9 x11).f2.f0, (rd_T49 x9 x11).f2.f1, true)) else (impl_SessionOf.l0 k x1 x9 x10 (wrap64 (x11 + 1)))) else (none)) else (none)) else (some (0, 0, false, 0, false))
def impl_SessionOf.f (k : Nat) (l0_0 : List Int) (l0_1 : List (S49)) (a1 : Int) : Option (Int × Int × Bool × Int × Bool) := impl_SessionOf.l0 k a1 l0_1 (l0_1.length : Int) 0
theorem impl_SessionOf.mono_l : ∀ k, (∀ y0 y1 y2 y3, uN (impl_SessionOf.l0 k y0 y1 y2 y3) (impl_SessionOf.l0 (k + 1) y0 y1 y2 y3))
  | 0 => fun _ _ _ _ r h => by simp [impl_SessionOf.l0] at h
  | k + 1 => by
    have ih0 := impl_SessionOf.mono_l k
    intro y0 y1 y2 y3
    unfold impl_SessionOf.l0
    repeat' first
    | (with_reducible exact ih0 _ _ _ _)
    | (with_reducible exact uN.refl _)
    | (with_reducible exact uN.none _)
    | (with_reducible refine uN.ite ?_ ?_)
    | (with_reducible refine uN.bind ?_ (fun _ => ?_))
    | exact ih0 _ _ _ _
    | exact uN.none _
    | refine uN.ite ?_ ?_
    | refine uN.bind ?_ (fun _ => ?_)
theorem impl_SessionOf.mono : ∀ a0 a1 a2 k, uN (impl_SessionOf.f k a0 a1 a2) (impl_SessionOf.f (k + 1) a0 a1 a2) := by
  intro a0 a1 a2 k
  have ih0 := impl_SessionOf.mono_l k
  unfold impl_SessionOf.f
  repeat' first
      | (with_reducible exact ih0 _ _ _ _)
      | (with_reducible exact uN.refl _)
      | (with_reducible exact uN.none _)
      | (with_reducible refine uN.ite ?_ ?_)
      | (with_reducible refine uN.bind ?_ (fun _ => ?_))
      | exact ih0 _ _ _ _
      | exact uN.none _
      | refine uN.ite ?_ ?_
      | refine uN.bind ?_ (fun _ => ?_)
set_option maxHeartbeats 8000000 in
set_option maxRecDepth 100000 in
theorem impl_SessionOf.calls (k : Nat) (A0_0 : Option Addr) (c0_0 : Nat) (l0_0 : List Int) (A0_1 : Option Addr) (c0_1 : Nat) (l0_1 : List (S49)) (a1 : Int) (r1 : Int) (r2 : Int) (r3 : Bool) (r4 : Int) (r5 : Bool) (w : World) (hr0_0 : Kd.C (Kd.int .i64) w A0_0 l0_0.length l0_0) (hc0_0 : l0_0.length ≤ c0_0) (hr0_1 : Kd.C k49 w A0_1 l0_1.length l0_1) (hc0_1 : l0_1.length ≤ c0_1) (h : impl_SessionOf.f k l0_0 l0_1 a1 = some (r1, r2, r3, r4, r5)) :
    Calls Try.prog 22 #[.agg #[.slice A0_0 l0_0.length c0_0, .slice A0_1 l0_1.length c0_1], .int .i64 a1] w fun e w' => e = .returned (.tuple #[.agg #[.int .i64 r1, .int .i64 r2, .bool r3, .int .i64 r4], .bool r5]) ∧ Below w.heap.size w w' := by
  have hu31 := Try.underlying31
  have hu49 := Try.underlying49
  have HR0_0 := Aside0.mk hr0_0
  have HC0_0 := Aside0.mk hc0_0
  clear hr0_0 hc0_0
  have HR0_1 := Aside0.mk hr0_1
  have HC0_1 := Aside0.mk hc0_1
  clear hr0_1 hc0_1
  have HB := Aside0.mk (Below.refl w.heap.size w)
  have H : (impl_SessionOf.l0 k a1 l0_1 (l0_1.length : Int) 0) = some (r1, r2, r3, r4, r5) := h
  clear h
  have H' := Aside0.mk H
  clear H
  go_enter Try.func22, Try.ntmps22
  go_wp2_with (first | ((with_reducible refine uI (N := 2) rfl ?_); refine bxe 2 #[.slice A0_0 l0_0.length c0_0, .slice A0_1 l0_1.length c0_1] 31 ?_; intro gb141 hg w3 hbox hb; have BK141 := Aside0.mk (hbox); have GW141 := tGe HB hg; have GE141 := tGe HB hg; replace HB := tBel HB hb; clear hb hbox hg) | ((with_reducible refine uI (N := 4) rfl ?_); refine bxe 4 #[.int .i64 0, .int .i64 0, .bool false, .int .i64 0] 49 ?_; intro gb142 hg w4 hbox hb; have BK142 := Aside0.mk (hbox); have GW142 := tGe HB hg; have GE142 := tGe HB hg; have NB141_142 := tNl BK141 hg; have NB142_141 := tNg BK141 hg; replace BK141 := uL BK141 hb; replace HB := tBel HB hb; clear hb hbox hg; have hnb5 := NB141_142.out; have hnc5 := NB142_141.out; obtain ⟨hcz6_0, hcz6_1, hfz6_0, hfz6_1⟩ := cz2 BK141))
  go_loopg [11] k (fun kq v11 w' => ∃ (x11_1 : Int) (x143000_1 : Int) (x143001_1 : Int) (x143002_1 : Bool) (x143003_1 : Int), v11 = .int .i64 x11_1 ∧ Aside0 (impl_SessionOf.l0 kq a1 l0_1 (l0_1.length : Int) x11_1 = some (r1, r2, r3, r4, r5)) ∧ Aside0 (kq ≤ k) ∧ Aside0 (w'.heap[gb141]? = some (.cells #[(.slice A0_0 l0_0.length c0_0), (.slice A0_1 l0_1.length c0_1)] 31 (0, 0))) ∧ Aside0 (w'.heap[gb142]? = some (.cells #[.int .i64 x143000_1, .int .i64 x143001_1, .bool x143002_1, .int .i64 x143003_1] 49 (0, 0))) ∧ Aside0 (Below w.heap.size w w'))
  case atStart => exact ⟨(0), (0), (0), (false), (0), q43, H', ⟨Nat.le_refl _⟩, ⟨by (with_reducible repeat (first | refine uF ?_ _ | refine uB ?_ | refine uE ?_ _)); exact BK141.out⟩, ⟨by (with_reducible repeat (first | refine uF ?_ _ | refine uB ?_ | refine uE ?_ _)); exact BK142.out⟩, ⟨q1⟩⟩
  case round =>
    clear H'
    try clear c2
    try clear p2
    try clear c5
    try clear hcz6_0
    try clear hcz6_1
    try clear hfz6_0
    try clear hfz6_1
    obtain ⟨x11_1, x143000_1, x143001_1, x143002_1, x143003_1, rfl, HA, HK1, BK141, BK142, HB⟩ := hrel
    cases gk with
    | zero => exact absurd HA.out (by simp [impl_SessionOf.l0])
    | succ k1 =>
      have H := HA.out
      clear HA
      simp only [impl_SessionOf.l0] at H
      by_cases c7 : x11_1 < (l0_1.length : Int)
      rotate_left
      · rw [if_neg c7] at H
        have c7b0 : decide (x11_1 < (l0_1.length : Int)) = false := decide_eq_false c7
        clear c7
        simp only [Option.some.injEq, Prod.mk.injEq] at H
        obtain ⟨rfl, rfl, rfl, rfl, rfl⟩ := H
        have hnb21 := NB142_141.out
        have hnc21 := NB141_142.out
        obtain ⟨hcz22_0, hcz22_1, hcz22_2, hcz22_3, hfz22_0, hfz22_1, hfz22_2, hfz22_3⟩ := cz4 BK142
        go_wp2
        refine bodyPost_ret (results_ct rfl _ _ gb142 49 #[.int .i64 0, .int .i64 0, .bool false, .int .i64 0] (0, 0) _ rfl (by (with_reducible repeat (first | refine uF ?_ _ | refine uB ?_ | refine uE ?_ _)); refine uK (cs := #[.int .i64 0, .int .i64 0, .bool false, .int .i64 x143003_1]) ?_ 3 _ rfl; (with_reducible repeat (first | refine uF ?_ _ | refine uB ?_ | refine uE ?_ _)); refine uK (cs := #[.int .i64 0, .int .i64 0, .bool x143002_1, .int .i64 x143003_1]) ?_ 2 _ rfl; (with_reducible repeat (first | refine uF ?_ _ | refine uB ?_ | refine uE ?_ _)); refine uK (cs := #[.int .i64 0, .int .i64 x143001_1, .bool x143002_1, .int .i64 x143003_1]) ?_ 1 _ rfl; (with_reducible repeat (first | refine uF ?_ _ | refine uB ?_ | refine uE ?_ _)); refine uK (cs := #[.int .i64 x143000_1, .int .i64 x143001_1, .bool x143002_1, .int .i64 x143003_1]) ?_ 0 _ rfl; (with_reducible repeat (first | refine uF ?_ _ | refine uB ?_ | refine uE ?_ _)); exact BK142.out) Try.underlying49 rfl (by kernel_rfl)) rfl ?_
        exact ⟨q5, q1⟩
      rw [if_pos c7] at H
      have c7b0 : decide (x11_1 < (l0_1.length : Int)) = true := decide_eq_true c7
      clear c7
      by_cases c8 : 0 ≤ x11_1
      rotate_left
      · rw [if_neg c8] at H
        exact absurd H (by simp)
      rw [if_pos c8] at H
      have c8b0 : decide (0 ≤ x11_1) = true := decide_eq_true c8
      clear c8
      by_cases c9 : x11_1 < (l0_1.length : Int)
      rotate_left
      · rw [if_neg c9] at H
        exact absurd H (by simp)
      rw [if_pos c9] at H
      have c9b0 : decide (x11_1 < (l0_1.length : Int)) = true := decide_eq_true c9
      clear c9
      by_cases c10 : ((rd_T49 l0_1 x11_1).f0) = a1
      rotate_left
      · rw [if_neg c10] at H
        have c10b0 : (((rd_T49 l0_1 x11_1).f0) == a1) = false := beq_eq_false_iff_ne.mpr c10
        have c10b1 : (((rd_T49 l0_1 x11_1).f0) != a1) = true := bne_iff_ne.mpr c10
        have H' := Aside0.mk H
        clear H
        have p143 : 0 ≤ (x11_1 : Int) := of_decide_eq_true q25
        have q143 : x11_1 < (l0_1.length : Int) := of_decide_eq_true q25
        obtain ⟨ad143, e143, hx143_0, hx143_1, hx143_2, hx143_3⟩ := at_T49 HR0_1.out x11_1 p143 q143
        cases e143
        replace hx143_0 := (HB.out.cell (vU w _ hx143_0)).trans hx143_0
        replace hx143_1 := (HB.out.cell (vU w _ hx143_1)).trans hx143_1
        replace hx143_2 := (HB.out.cell (vU w _ hx143_2)).trans hx143_2
        replace hx143_3 := (HB.out.cell (vU w _ hx143_3)).trans hx143_3
        replace p143 := eq_true p143
        replace q143 := eq_true q143
        go_wp2_with (first | ((with_reducible refine uI (N := 7) rfl ?_); refine bxe 7 #[.int .i64 0, .int .i64 0, .bool false, .int .i64 0] 49 ?_; intro gb144 hg w17 hbox hb; have BK144 := Aside0.mk (hbox); have GW144 := tGe HB hg; have GE144 := tGe HB hg; have NB141_144 := tNl BK141 hg; have NB144_141 := tNg BK141 hg; have NB142_144 := tNl BK142 hg; have NB144_142 := tNg BK142 hg; replace BK141 := uL BK141 hb; replace BK142 := uL BK142 hb; replace HB := tBel HB hb; clear hb hbox hg; have hnb18 := NB144_141.out; have hnc18 := NB141_144.out; have hnb19 := NB144_142.out; have hnc19 := NB142_144.out; obtain ⟨hcz20_0, hcz20_1, hcz20_2, hcz20_3, hfz20_0, hfz20_1, hfz20_2, hfz20_3⟩ := cz4 BK144))
        go_roundg k1
        case measure => have := HK1.out; omega
        case rel => exact ⟨(wrap64 (x11_1 + 1)), (x143000_1), (x143001_1), (x143002_1), (x143003_1), q43, H', ⟨by have := HK1.out; omega⟩, ⟨by (with_reducible repeat (first | refine uF ?_ _ | refine uB ?_ | refine uE ?_ _)); refine vF ?_ NB141_144.out _; (with_reducible repeat (first | refine uF ?_ _ | refine uB ?_ | refine uE ?_ _)); refine vF ?_ NB141_144.out _; (with_reducible repeat (first | refine uF ?_ _ | refine uB ?_ | refine uE ?_ _)); refine vF ?_ NB141_144.out _; (with_reducible repeat (first | refine uF ?_ _ | refine uB ?_ | refine uE ?_ _)); refine vF ?_ NB141_144.out _; (with_reducible repeat (first | refine uF ?_ _ | refine uB ?_ | refine uE ?_ _)); exact BK141.out⟩, ⟨by (with_reducible repeat (first | refine uF ?_ _ | refine uB ?_ | refine uE ?_ _)); refine vF ?_ NB142_144.out _; (with_reducible repeat (first | refine uF ?_ _ | refine uB ?_ | refine uE ?_ _)); refine vF ?_ NB142_144.out _; (with_reducible repeat (first | refine uF ?_ _ | refine uB ?_ | refine uE ?_ _)); refine vF ?_ NB142_144.out _; (with_reducible repeat (first | refine uF ?_ _ | refine uB ?_ | refine uE ?_ _)); refine vF ?_ NB142_144.out _; (with_reducible repeat (first | refine uF ?_ _ | refine uB ?_ | refine uE ?_ _)); exact BK142.out⟩, ⟨q1⟩⟩
      rw [if_pos c10] at H
      have c10b0 : (((rd_T49 l0_1 x11_1).f0) == a1) = true := beq_iff_eq.mpr c10
      have c10b1 : (((rd_T49 l0_1 x11_1).f0) != a1) = false := bne_eq_false_iff_eq.mpr c10
      clear c10
      simp only [Option.some.injEq, Prod.mk.injEq] at H
      obtain ⟨rfl, rfl, rfl, rfl, rfl⟩ := H
      have p143 : 0 ≤ (x11_1 : Int) := of_decide_eq_true q25
      have q143 : x11_1 < (l0_1.length : Int) := of_decide_eq_true q25
      obtain ⟨ad143, e143, hx143_0, hx143_1, hx143_2, hx143_3⟩ := at_T49 HR0_1.out x11_1 p143 q143
      cases e143
      replace hx143_0 := (HB.out.cell (vU w _ hx143_0)).trans hx143_0
      replace hx143_1 := (HB.out.cell (vU w _ hx143_1)).trans hx143_1
      replace hx143_2 := (HB.out.cell (vU w _ hx143_2)).trans hx143_2
      replace hx143_3 := (HB.out.cell (vU w _ hx143_3)).trans hx143_3
      replace p143 := eq_true p143
      replace q143 := eq_true q143
      go_wp2_with (first | ((with_reducible refine uI (N := 7) rfl ?_); refine bxe 7 #[.int .i64 0, .int .i64 0, .bool false, .int .i64 0] 49 ?_; intro gb144 hg w11 hbox hb; have BK144 := Aside0.mk (hbox); have GW144 := tGe HB hg; have GE144 := tGe HB hg; have NB141_144 := tNl BK141 hg; have NB144_141 := tNg BK141 hg; have NB142_144 := tNl BK142 hg; have NB144_142 := tNg BK142 hg; replace BK141 := uL BK141 hb; replace BK142 := uL BK142 hb; replace HB := tBel HB hb; clear hb hbox hg; have hnb12 := NB144_141.out; have hnc12 := NB141_144.out; have hnb13 := NB144_142.out; have hnc13 := NB142_144.out; obtain ⟨hcz14_0, hcz14_1, hcz14_2, hcz14_3, hfz14_0, hfz14_1, hfz14_2, hfz14_3⟩ := cz4 BK144; have hnb15 := NB142_141.out; have hnc15 := NB141_142.out; obtain ⟨hcz16_0, hcz16_1, hcz16_2, hcz16_3, hfz16_0, hfz16_1, hfz16_2, hfz16_3⟩ := cz4 BK142))
      refine bodyPost_ret (results_ct rfl _ _ gb142 49 #[.int .i64 ((rd_T49 l0_1 x11_1).f0), .int .i64 ((rd_T49 l0_1 x11_1).f1), .bool ((rd_T49 l0_1 x11_1).f2.f0), .int .i64 ((rd_T49 l0_1 x11_1).f2.f1)] (0, 0) _ rfl (by (with_reducible repeat (first | refine uF ?_ _ | refine uB ?_ | refine uE ?_ _)); refine uK (cs := #[.int .i64 ((rd_T49 l0_1 x11_1).f0), .int .i64 ((rd_T49 l0_1 x11_1).f1), .bool ((rd_T49 l0_1 x11_1).f2.f0), .int .i64 x143003_1]) ?_ 3 _ rfl; (with_reducible repeat (first | refine uF ?_ _ | refine uB ?_ | refine uE ?_ _)); refine uK (cs := #[.int .i64 ((rd_T49 l0_1 x11_1).f0), .int .i64 ((rd_T49 l0_1 x11_1).f1), .bool x143002_1, .int .i64 x143003_1]) ?_ 2 _ rfl; (with_reducible repeat (first | refine uF ?_ _ | refine uB ?_ | refine uE ?_ _)); refine uK (cs := #[.int .i64 ((rd_T49 l0_1 x11_1).f0), .int .i64 x143001_1, .bool x143002_1, .int .i64 x143003_1]) ?_ 1 _ rfl; (with_reducible repeat (first | refine uF ?_ _ | refine uB ?_ | refine uE ?_ _)); refine uK (cs := #[.int .i64 x143000_1, .int .i64 x143001_1, .bool x143002_1, .int .i64 x143003_1]) ?_ 0 _ rfl; (with_reducible repeat (first | refine uF ?_ _ | refine uB ?_ | refine uE ?_ _)); refine vF ?_ NB142_144.out _; (with_reducible repeat (first | refine uF ?_ _ | refine uB ?_ | refine uE ?_ _)); refine vF ?_ NB142_144.out _; (with_reducible repeat (first | refine uF ?_ _ | refine uB ?_ | refine uE ?_ _)); refine vF ?_ NB142_144.out _; (with_reducible repeat (first | refine uF ?_ _ | refine uB ?_ | refine uE ?_ _)); refine vF ?_ NB142_144.out _; (with_reducible repeat (first | refine uF ?_ _ | refine uB ?_ | refine uE ?_ _)); exact BK142.out) Try.underlying49 rfl (by kernel_rfl)) rfl ?_
      exact ⟨q5, q1⟩

end Go.Proofs.Ytcikahnmiiichaa.M
