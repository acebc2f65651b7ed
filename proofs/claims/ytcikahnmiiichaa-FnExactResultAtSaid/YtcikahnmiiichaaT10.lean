/- Go functions as Lean functions, and the proof that the code comes to them: written by a program of this session out of the translation. -/
import Derived.Test.YtcikahnmiiichaaT0
import Derived.Test.YtcikahnmiiichaaT8
namespace Go.Proofs.Ytcikahnmiiichaa.T
open List renaming setIfInBounds_toArray → vU, set_cons_zero → vV, set_cons_succ → vW, map_toArray → vX, length_take → vY, length_drop → vZ
open Go.World renaming block_lt_of_cell? → yA
open Go.RowKit Go.Proofs.YtcikahnmiiichaaW.PrintWords Go.Proofs.YtcikahnmiiichaaW.PrintLast Go.Proofs.YtcikahnmiiichaaW.PrintMore
attribute [local go_sem] max2_int min2_int max_two min_two max_three min_three max_four min_four   -- for this text's walks alone
set_option linter.unusedVariables false
set_option linter.unusedSimpArgs false

/-! ### impl_IsValidOp: function 50 -/
def impl_IsValidOp.f (a0_0 : Int) (a0_1 : Int) (a0_2 : Int) (a0_3 : Int) (a0_4 : Int) (a0_5 : Int) : Option (Bool) := (impl_within.f a0_0 0 2).bind fun t211 => (if t211 = true then ((impl_within.f a0_1 1 99).bind fun t212 => (if t212 = true then ((impl_within.f a0_3 0 2).bind fun t213 => (if t213 = true then ((impl_within.f a0_5 0 9).bind fun t214 => (if t214 = true then (if a0_2 = 1 then (if a0_4 = 0 then (some true) else (if a0_2 = 2 then ((impl_within.f a0_4 0 9).bind fun t215 => (some t215)) else (some false))) else (if a0_2 = 2 then ((impl_within.f a0_4 0 9).bind fun t216 => (some t216)) else (some false))) else (some false))) else (some false))) else (some false))) else (some false))
set_option maxHeartbeats 8000000 in
set_option maxRecDepth 100000 in
theorem impl_IsValidOp.calls (a0_0 : Int) (a0_1 : Int) (a0_2 : Int) (a0_3 : Int) (a0_4 : Int) (a0_5 : Int) (r : Bool) (w : World) (h : impl_IsValidOp.f a0_0 a0_1 a0_2 a0_3 a0_4 a0_5 = some r) :
    Calls Try.prog 50 #[.agg #[.int .i64 a0_0, .int .i64 a0_1, .int .i64 a0_2, .int .i64 a0_3, .int .i64 a0_4, .int .i64 a0_5]] w fun e w' => e = .returned (.bool r) ∧ Below w.heap.size w w' := by
  have hu37 := Try.underlying37
  have HB := Aside0.mk (Below.refl w.heap.size w)
  have H : ((impl_within.f a0_0 0 2).bind fun t211 => (if t211 = true then ((impl_within.f a0_1 1 99).bind fun t212 => (if t212 = true then ((impl_within.f a0_3 0 2).bind fun t213 => (if t213 = true then ((impl_within.f a0_5 0 9).bind fun t214 => (if t214 = true then (if a0_2 = 1 then (if a0_4 = 0 then (some true) else (if a0_2 = 2 then ((impl_within.f a0_4 0 9).bind fun t215 => (some t215)) else (some false))) else (if a0_2 = 2 then ((impl_within.f a0_4 0 9).bind fun t216 => (some t216)) else (some false))) else (some false))) else (some false))) else (some false))) else (some false))) = some r := h
  clear h
  replace H := Option.bind_eq_some_iff.mp H
  obtain ⟨t211, A20, H⟩ := H
  replace H : (if t211 = true then ((impl_within.f a0_1 1 99).bind fun t212 => (if t212 = true then ((impl_within.f a0_3 0 2).bind fun t213 => (if t213 = true then ((impl_within.f a0_5 0 9).bind fun t214 => (if t214 = true then (if a0_2 = 1 then (if a0_4 = 0 then (some true) else (if a0_2 = 2 then ((impl_within.f a0_4 0 9).bind fun t215 => (some t215)) else (some false))) else (if a0_2 = 2 then ((impl_within.f a0_4 0 9).bind fun t216 => (some t216)) else (some false))) else (some false))) else (some false))) else (some false))) else (some false)) = some r := H
  have A2 := Aside0.mk A20
  clear A20
  go_enter Try.func50, Try.ntmps50
  go_wp2_with (first | ((with_reducible refine uU (N := 1) rfl ?_); refine uT ?hg (N := 1) ?hd (cs := #[.int .i64 a0_0, .int .i64 a0_1, .int .i64 a0_2, .int .i64 a0_3, .int .i64 a0_4, .int .i64 a0_5]) (t := 37) ?hr ?_; (case hd => rfl); (case hg => rfl); (case hr => first | (go_simp; done) | (go_simp; rfl)); intro gb210 hg w32 hbox hb; have n0_ := Aside0.mk (uS (by repeat (first | (with_reducible first | exact HB.out | apply uG | apply uA | apply uF) | exact HB.out)) hb); have n1_ := Aside0.mk (hbox); have n2_ := Aside0.mk ((by rw [hg]; exact (uQ (by repeat (first | (with_reducible first | exact HB.out | apply uG | apply uA | apply uF) | exact HB.out))) : w.heap.size ≤ gb210)); have n3_ := Aside0.mk ((by rw [hg]; exact (uQ (by repeat (first | (with_reducible first | exact HB.out | apply uG | apply uA | apply uF) | exact HB.out))) : w.heap.size ≤ gb210)); clear HB; have HB := n0_; have BK210 := n1_; have GW210 := n2_; have GE210 := n3_; clear n0_ n1_ n2_ n3_; clear hb hbox hg; have hcz33_0 : w32.cell? ⟨gb210, 0, none⟩ = some (.int .i64 a0_0) := (uI BK210.out 0).trans rfl; have hcz33_1 : w32.cell? ⟨gb210, 1, none⟩ = some (.int .i64 a0_1) := (uI BK210.out 1).trans rfl; have hcz33_2 : w32.cell? ⟨gb210, 2, none⟩ = some (.int .i64 a0_2) := (uI BK210.out 2).trans rfl; have hcz33_3 : w32.cell? ⟨gb210, 3, none⟩ = some (.int .i64 a0_3) := (uI BK210.out 3).trans rfl; have hcz33_4 : w32.cell? ⟨gb210, 4, none⟩ = some (.int .i64 a0_4) := (uI BK210.out 4).trans rfl; have hcz33_5 : w32.cell? ⟨gb210, 5, none⟩ = some (.int .i64 a0_5) := (uI BK210.out 5).trans rfl; have hfz33_0 := uK BK210.out 0; have hfz33_1 := uK BK210.out 1; have hfz33_2 := uK BK210.out 2; have hfz33_3 := uK BK210.out 3; have hfz33_4 := uK BK210.out 4; have hfz33_5 := uK BK210.out 5; refine ?roundEnd))
  case roundEnd =>
  by_cases c3 : t211 = true
  rotate_left
  · replace c3 := Bool.eq_false_iff.mpr c3
    subst c3
    have H1 : (some false) = some r := by first | (rw [if_neg (show ¬ (false = true) by decide)] at H; exact H) | rfl
    clear H
    have H := H1
    clear H1
    obtain rfl := Option.some.inj H
    go_wp2_with (first | ((with_reducible refine uX (f := 65) rfl ?_); refine vM (some 5) rfl rfl Try.func65 (by kernel_rfl) rfl #[.int .i64 a0_0, .int .i64 0, .int .i64 2] rfl (by (try simp only [vX, List.map_cons, List.map_nil]); first | done | rfl | (simp only [vZ, vY]; rfl)) ?_; (with_reducible refine (impl_within.calls a0_0 0 2 false _ A2.out).mono ?_); rintro e w' ⟨rfl, ⟨nd, rfl⟩⟩; refine ⟨_, rfl, ?_⟩))
    go_ret
    exact ⟨by first | rfl | (simp [errW_none, errW_some] <;> rfl) | (simp [*, errW_none, errW_some] <;> rfl), by repeat (first | (with_reducible first | exact HB.out | apply uG | apply uA | apply uF | refine uB ?_ GE210.out) | exact HB.out)⟩
  subst c3
  have H1 : ((impl_within.f a0_1 1 99).bind fun t212 => (if t212 = true then ((impl_within.f a0_3 0 2).bind fun t213 => (if t213 = true then ((impl_within.f a0_5 0 9).bind fun t214 => (if t214 = true then (if a0_2 = 1 then (if a0_4 = 0 then (some true) else (if a0_2 = 2 then ((impl_within.f a0_4 0 9).bind fun t215 => (some t215)) else (some false))) else (if a0_2 = 2 then ((impl_within.f a0_4 0 9).bind fun t216 => (some t216)) else (some false))) else (some false))) else (some false))) else (some false))) = some r := by first | (rw [if_pos rfl] at H; exact H) | rfl
  clear H
  have H := H1
  clear H1
  replace H := Option.bind_eq_some_iff.mp H
  obtain ⟨t212, A40, H⟩ := H
  replace H : (if t212 = true then ((impl_within.f a0_3 0 2).bind fun t213 => (if t213 = true then ((impl_within.f a0_5 0 9).bind fun t214 => (if t214 = true then (if a0_2 = 1 then (if a0_4 = 0 then (some true) else (if a0_2 = 2 then ((impl_within.f a0_4 0 9).bind fun t215 => (some t215)) else (some false))) else (if a0_2 = 2 then ((impl_within.f a0_4 0 9).bind fun t216 => (some t216)) else (some false))) else (some false))) else (some false))) else (some false)) = some r := H
  have A4 := Aside0.mk A40
  clear A40
  go_wp2_with (first | ((with_reducible refine uX (f := 65) rfl ?_); refine vM (some 5) rfl rfl Try.func65 (by kernel_rfl) rfl #[.int .i64 a0_0, .int .i64 0, .int .i64 2] rfl (by (try simp only [vX, List.map_cons, List.map_nil]); first | done | rfl | (simp only [vZ, vY]; rfl)) ?_; (with_reducible refine (impl_within.calls a0_0 0 2 true _ A2.out).mono ?_); rintro e w' ⟨rfl, ⟨nd, rfl⟩⟩; refine ⟨_, rfl, ?_⟩; refine ?roundEnd))
  case roundEnd =>
  by_cases c5 : t212 = true
  rotate_left
  · replace c5 := Bool.eq_false_iff.mpr c5
    subst c5
    have H1 : (some false) = some r := by first | (rw [if_neg (show ¬ (false = true) by decide)] at H; exact H) | rfl
    clear H
    have H := H1
    clear H1
    obtain rfl := Option.some.inj H
    go_wp2_with (first | (go_at_call 65; (with_reducible refine (impl_within.calls a0_1 1 99 false _ A4.out).mono ?_); rintro e w' ⟨rfl, ⟨nd, rfl⟩⟩))
    go_ret
    exact ⟨by first | rfl | (simp [errW_none, errW_some] <;> rfl) | (simp [*, errW_none, errW_some] <;> rfl), by repeat (first | (with_reducible first | exact HB.out | apply uG | apply uA | apply uF | refine uB ?_ GE210.out) | exact HB.out)⟩
  subst c5
  have H1 : ((impl_within.f a0_3 0 2).bind fun t213 => (if t213 = true then ((impl_within.f a0_5 0 9).bind fun t214 => (if t214 = true then (if a0_2 = 1 then (if a0_4 = 0 then (some true) else (if a0_2 = 2 then ((impl_within.f a0_4 0 9).bind fun t215 => (some t215)) else (some false))) else (if a0_2 = 2 then ((impl_within.f a0_4 0 9).bind fun t216 => (some t216)) else (some false))) else (some false))) else (some false))) = some r := by first | (rw [if_pos rfl] at H; exact H) | rfl
  clear H
  have H := H1
  clear H1
  replace H := Option.bind_eq_some_iff.mp H
  obtain ⟨t213, A60, H⟩ := H
  replace H : (if t213 = true then ((impl_within.f a0_5 0 9).bind fun t214 => (if t214 = true then (if a0_2 = 1 then (if a0_4 = 0 then (some true) else (if a0_2 = 2 then ((impl_within.f a0_4 0 9).bind fun t215 => (some t215)) else (some false))) else (if a0_2 = 2 then ((impl_within.f a0_4 0 9).bind fun t216 => (some t216)) else (some false))) else (some false))) else (some false)) = some r := H
  have A6 := Aside0.mk A60
  clear A60
  go_wp2_with (first | (go_at_call 65; (with_reducible refine (impl_within.calls a0_1 1 99 true _ A4.out).mono ?_); rintro e w' ⟨rfl, ⟨nd, rfl⟩⟩; refine ?roundEnd))
  case roundEnd =>
  by_cases c7 : t213 = true
  rotate_left
  · replace c7 := Bool.eq_false_iff.mpr c7
    subst c7
    have H1 : (some false) = some r := by first | (rw [if_neg (show ¬ (false = true) by decide)] at H; exact H) | rfl
    clear H
    have H := H1
    clear H1
    obtain rfl := Option.some.inj H
    go_wp2_with (first | (go_at_call 65; (with_reducible refine (impl_within.calls a0_3 0 2 false _ A6.out).mono ?_); rintro e w' ⟨rfl, ⟨nd, rfl⟩⟩))
    go_ret
    exact ⟨by first | rfl | (simp [errW_none, errW_some] <;> rfl) | (simp [*, errW_none, errW_some] <;> rfl), by repeat (first | (with_reducible first | exact HB.out | apply uG | apply uA | apply uF | refine uB ?_ GE210.out) | exact HB.out)⟩
  subst c7
  have H1 : ((impl_within.f a0_5 0 9).bind fun t214 => (if t214 = true then (if a0_2 = 1 then (if a0_4 = 0 then (some true) else (if a0_2 = 2 then ((impl_within.f a0_4 0 9).bind fun t215 => (some t215)) else (some false))) else (if a0_2 = 2 then ((impl_within.f a0_4 0 9).bind fun t216 => (some t216)) else (some false))) else (some false))) = some r := by first | (rw [if_pos rfl] at H; exact H) | rfl
  clear H
  have H := H1
  clear H1
  replace H := Option.bind_eq_some_iff.mp H
  obtain ⟨t214, A80, H⟩ := H
  replace H : (if t214 = true then (if a0_2 = 1 then (if a0_4 = 0 then (some true) else (if a0_2 = 2 then ((impl_within.f a0_4 0 9).bind fun t215 => (some t215)) else (some false))) else (if a0_2 = 2 then ((impl_within.f a0_4 0 9).bind fun t216 => (some t216)) else (some false))) else (some false)) = some r := H
  have A8 := Aside0.mk A80
  clear A80
  go_wp2_with (first | (go_at_call 65; (with_reducible refine (impl_within.calls a0_3 0 2 true _ A6.out).mono ?_); rintro e w' ⟨rfl, ⟨nd, rfl⟩⟩; refine ?roundEnd))
  case roundEnd =>
  by_cases c9 : t214 = true
  rotate_left
  · replace c9 := Bool.eq_false_iff.mpr c9
    subst c9
    have H1 : (some false) = some r := by first | (rw [if_neg (show ¬ (false = true) by decide)] at H; exact H) | rfl
    clear H
    have H := H1
    clear H1
    obtain rfl := Option.some.inj H
    go_wp2_with (first | (go_at_call 65; (with_reducible refine (impl_within.calls a0_5 0 9 false _ A8.out).mono ?_); rintro e w' ⟨rfl, ⟨nd, rfl⟩⟩))
    go_ret
    exact ⟨by first | rfl | (simp [errW_none, errW_some] <;> rfl) | (simp [*, errW_none, errW_some] <;> rfl), by repeat (first | (with_reducible first | exact HB.out | apply uG | apply uA | apply uF | refine uB ?_ GE210.out) | exact HB.out)⟩
  subst c9
  have H1 : (if a0_2 = 1 then (if a0_4 = 0 then (some true) else (if a0_2 = 2 then ((impl_within.f a0_4 0 9).bind fun t215 => (some t215)) else (some false))) else (if a0_2 = 2 then ((impl_within.f a0_4 0 9).bind fun t216 => (some t216)) else (some false))) = some r := by first | (rw [if_pos rfl] at H; exact H) | rfl
  clear H
  have H := H1
  clear H1
  go_wp2_with (first | (go_at_call 65; (with_reducible refine (impl_within.calls a0_5 0 9 true _ A8.out).mono ?_); rintro e w' ⟨rfl, ⟨nd, rfl⟩⟩; refine ?roundEnd))
  case roundEnd =>
  by_cases c10 : a0_2 = 1
  rotate_left
  · rw [if_neg c10] at H
    have c10b0 : (a0_2 == 1) = false := beq_eq_false_iff_ne.mpr c10
    have c10b1 : (a0_2 != 1) = true := bne_iff_ne.mpr c10
    by_cases c20 : a0_2 = 2
    rotate_left
    · rw [if_neg c20] at H
      have c20b0 : (a0_2 == 2) = false := beq_eq_false_iff_ne.mpr c20
      have c20b1 : (a0_2 != 2) = true := bne_iff_ne.mpr c20
      obtain rfl := Option.some.inj H
      go_wp2
      go_ret
      exact ⟨by first | rfl | (simp [errW_none, errW_some] <;> rfl) | (simp [*, errW_none, errW_some] <;> rfl), by repeat (first | (with_reducible first | exact HB.out | apply uG | apply uA | apply uF | refine uB ?_ GE210.out) | exact HB.out)⟩
    rw [if_pos c20] at H
    have c20b0 : (a0_2 == 2) = true := beq_iff_eq.mpr c20
    have c20b1 : (a0_2 != 2) = false := bne_eq_false_iff_eq.mpr c20
    clear c20
    replace H := Option.bind_eq_some_iff.mp H
    obtain ⟨t216, A210, H⟩ := H
    replace H : (some t216) = some r := H
    have A21 := Aside0.mk A210
    clear A210
    obtain rfl := Option.some.inj H
    go_wp2_with (first | (go_at_call 65; (with_reducible refine (impl_within.calls a0_4 0 9 t216 _ A21.out).mono ?_); rintro e w' ⟨rfl, ⟨nd, rfl⟩⟩))
    go_ret
    exact ⟨by first | rfl | (simp [errW_none, errW_some] <;> rfl) | (simp [*, errW_none, errW_some] <;> rfl), by repeat (first | (with_reducible first | exact HB.out | apply uG | apply uA | apply uF | refine uB ?_ GE210.out) | exact HB.out)⟩
  rw [if_pos c10] at H
  have c10b0 : (a0_2 == 1) = true := beq_iff_eq.mpr c10
  have c10b1 : (a0_2 != 1) = false := bne_eq_false_iff_eq.mpr c10
  clear c10
  by_cases c11 : a0_4 = 0
  · rw [if_pos c11] at H
    have c11b0 : (a0_4 == 0) = true := beq_iff_eq.mpr c11
    have c11b1 : (a0_4 != 0) = false := bne_eq_false_iff_eq.mpr c11
    clear c11
    obtain rfl := Option.some.inj H
    go_wp2
    go_ret
    exact ⟨by first | rfl | (simp [errW_none, errW_some] <;> rfl) | (simp [*, errW_none, errW_some] <;> rfl), by repeat (first | (with_reducible first | exact HB.out | apply uG | apply uA | apply uF | refine uB ?_ GE210.out) | exact HB.out)⟩
  rw [if_neg c11] at H
  have c11b0 : (a0_4 == 0) = false := beq_eq_false_iff_ne.mpr c11
  have c11b1 : (a0_4 != 0) = true := bne_iff_ne.mpr c11
  by_cases c14 : a0_2 = 2
  rotate_left
  · rw [if_neg c14] at H
    have c14b0 : (a0_2 == 2) = false := beq_eq_false_iff_ne.mpr c14
    have c14b1 : (a0_2 != 2) = true := bne_iff_ne.mpr c14
    obtain rfl := Option.some.inj H
    go_wp2
    go_ret
    exact ⟨by first | rfl | (simp [errW_none, errW_some] <;> rfl) | (simp [*, errW_none, errW_some] <;> rfl), by repeat (first | (with_reducible first | exact HB.out | apply uG | apply uA | apply uF | refine uB ?_ GE210.out) | exact HB.out)⟩
  rw [if_pos c14] at H
  have c14b0 : (a0_2 == 2) = true := beq_iff_eq.mpr c14
  have c14b1 : (a0_2 != 2) = false := bne_eq_false_iff_eq.mpr c14
  clear c14
  replace H := Option.bind_eq_some_iff.mp H
  obtain ⟨t215, A150, H⟩ := H
  replace H : (some t215) = some r := H
  have A15 := Aside0.mk A150
  clear A150
  obtain rfl := Option.some.inj H
  go_wp2_with (first | (go_at_call 65; (with_reducible refine (impl_within.calls a0_4 0 9 t215 _ A15.out).mono ?_); rintro e w' ⟨rfl, ⟨nd, rfl⟩⟩))
  go_ret
  exact ⟨by first | rfl | (simp [errW_none, errW_some] <;> rfl) | (simp [*, errW_none, errW_some] <;> rfl), by repeat (first | (with_reducible first | exact HB.out | apply uG | apply uA | apply uF | refine uB ?_ GE210.out) | exact HB.out)⟩

/-! ### impl_SessionOf: function 22 -/
def impl_SessionOf.l0 : Nat → Int → List (S49) → Int → Int → Option (Int × Int × Bool × Int × Bool)
  | 0, _, _, _, _ => none
  | k + 1, x1, x9, x10, x11 => if x11 < x10 then (if 0 ≤ x11 then (if x11 < (x9.length : Int) then (if ((rd_T49 x9 x11).f0) = x1 then (some ((rd_T49 x9 x11).f0, (rd_T49 x9 x11).f1, (rd_T49 x9 x11).f2.f0, (rd_T49 x9 x11).f2.f1, true)) else (impl_SessionOf.l0 k x1 x9 x10 (wrap64 (x11 + 1)))) else (none)) else (none)) else (some (0, 0, false, 0, false))
def impl_SessionOf.f (k : Nat) (l0_0 : List Int) (l0_1 : List (S49)) (a1 : Int) : Option (Int × Int × Bool × Int × Bool) := impl_SessionOf.l0 k a1 l0_1 (l0_1.length : Int) 0
theorem impl_SessionOf.mono_l : ∀ k, (∀ y0 y1 y2 y3, vB (impl_SessionOf.l0 k y0 y1 y2 y3) (impl_SessionOf.l0 (k + 1) y0 y1 y2 y3))
  | 0 => fun _ _ _ _ r h => by simp [impl_SessionOf.l0] at h
  | k + 1 => by
    have ih0 := impl_SessionOf.mono_l k
    intro y0 y1 y2 y3
    unfold impl_SessionOf.l0
    repeat' first
    | (with_reducible exact ih0 _ _ _ _)
    | (with_reducible exact vB.refl _)
    | (with_reducible exact vB.none _)
    | (with_reducible refine vB.ite ?_ ?_)
    | (with_reducible refine vB.bind ?_ (fun _ => ?_))
    | exact ih0 _ _ _ _
    | exact vB.none _
    | refine vB.ite ?_ ?_
    | refine vB.bind ?_ (fun _ => ?_)
theorem impl_SessionOf.mono : ∀ a0 a1 a2 k, vB (impl_SessionOf.f k a0 a1 a2) (impl_SessionOf.f (k + 1) a0 a1 a2) := by
  intro a0 a1 a2 k
  have ih0 := impl_SessionOf.mono_l k
  unfold impl_SessionOf.f
  repeat' first
      | (with_reducible exact ih0 _ _ _ _)
      | (with_reducible exact vB.refl _)
      | (with_reducible exact vB.none _)
      | (with_reducible refine vB.ite ?_ ?_)
      | (with_reducible refine vB.bind ?_ (fun _ => ?_))
      | exact ih0 _ _ _ _
      | exact vB.none _
      | refine vB.ite ?_ ?_
      | refine vB.bind ?_ (fun _ => ?_)
set_option maxHeartbeats 8000000 in
set_option maxRecDepth 100000 in
theorem impl_SessionOf.calls (k : Nat) (A0_0 : Option Addr) (c0_0 : Nat) (l0_0 : List Int) (A0_1 : Option Addr) (c0_1 : Nat) (l0_1 : List (S49)) (a1 : Int) (r1 : Int) (r2 : Int) (r3 : Bool) (r4 : Int) (r5 : Bool) (w : World) (hr0_0 : Kd.C (Kd.int .i64) w A0_0 l0_0.length l0_0) (hc0_0 : l0_0.length ≤ c0_0) (hr0_1 : Kd.C k49 w A0_1 l0_1.length l0_1) (hc0_1 : l0_1.length ≤ c0_1) (h : impl_SessionOf.f k l0_0 l0_1 a1 = some (r1, r2, r3, r4, r5)) :
    Calls Try.prog 22 #[.agg #[.slice A0_0 l0_0.length c0_0, .slice A0_1 l0_1.length c0_1], .int .i64 a1] w fun e w' => e = .returned (.tuple #[.agg #[.int .i64 r1, .int .i64 r2, .bool r3, .int .i64 r4], .bool r5]) ∧ Below w.heap.size w w' := by
  have hu31 := Try.underlying31
  have hu49 := Try.underlying49
  have HR0_0 := Aside0.mk hr0_0
  have HC0_0 := Aside0.mk hc0_0
  clear hr0_0 hc0_0
  have HR0_1 := Aside0.mk hr0_1
  have HC0_1 := Aside0.mk hc0_1
  clear hr0_1 hc0_1
  have HB := Aside0.mk (Below.refl w.heap.size w)
  have H : (impl_SessionOf.l0 k a1 l0_1 (l0_1.length : Int) 0) = some (r1, r2, r3, r4, r5) := h
  clear h
  have H' := Aside0.mk H
  clear H
  go_enter Try.func22, Try.ntmps22
  go_wp2_with (first | ((with_reducible refine uU (N := 2) rfl ?_); refine uT ?hg (N := 2) ?hd (cs := #[.slice A0_0 l0_0.length c0_0, .slice A0_1 l0_1.length c0_1]) (t := 31) ?hr ?_; (case hd => rfl); (case hg => rfl); (case hr => first | (go_simp; done) | (go_simp; rfl)); intro gb217 hg w3 hbox hb; have n0_ := Aside0.mk (uS (by repeat (first | (with_reducible first | exact HB.out | apply uG | apply uA | apply uF) | exact HB.out)) hb); have n1_ := Aside0.mk (hbox); have n2_ := Aside0.mk ((by rw [hg]; exact (uQ (by repeat (first | (with_reducible first | exact HB.out | apply uG | apply uA | apply uF) | exact HB.out))) : w.heap.size ≤ gb217)); have n3_ := Aside0.mk ((by rw [hg]; exact (uQ (by repeat (first | (with_reducible first | exact HB.out | apply uG | apply uA | apply uF) | exact HB.out))) : w.heap.size ≤ gb217)); clear HB; have HB := n0_; have BK217 := n1_; have GW217 := n2_; have GE217 := n3_; clear n0_ n1_ n2_ n3_; clear hb hbox hg) | ((with_reducible refine uU (N := 4) rfl ?_); refine uT ?hg (N := 4) ?hd (cs := #[.int .i64 0, .int .i64 0, .bool false, .int .i64 0]) (t := 49) ?hr ?_; (case hd => rfl); (case hg => rfl); (case hr => first | (go_simp; done) | (go_simp; rfl)); intro gb218 hg w4 hbox hb; have n0_ := Aside0.mk (uR (g := gb217) (o := .cells #[.slice A0_0 l0_0.length c0_0, .slice A0_1 l0_1.length c0_1] 31 (0, 0)) (by (with_reducible repeat (first | refine uC ?_ _ | refine uE ?_ | refine uD ?_ _)); exact BK217.out) hb); have n1_ := Aside0.mk (uS (by repeat (first | (with_reducible first | exact HB.out | apply uG | apply uA | apply uF | refine uB ?_ GE217.out) | exact HB.out)) hb); have n2_ := Aside0.mk (hbox); have n3_ := Aside0.mk ((by rw [hg]; exact (uQ (by repeat (first | (with_reducible first | exact HB.out | apply uG | apply uA | apply uF | refine uB ?_ GE217.out) | exact HB.out))) : w.heap.size ≤ gb218)); have n4_ := Aside0.mk ((by rw [hg]; exact (uQ (by repeat (first | (with_reducible first | exact HB.out | apply uG | apply uA | apply uF | refine uB ?_ GE217.out) | exact HB.out))) : w.heap.size ≤ gb218)); have n5_ := Aside0.mk ((by rw [hg]; exact Nat.ne_of_lt (uV (g := gb217) (o := .cells #[.slice A0_0 l0_0.length c0_0, .slice A0_1 l0_1.length c0_1] 31 (0, 0)) (by (with_reducible repeat (first | refine uC ?_ _ | refine uE ?_ | refine uD ?_ _)); exact BK217.out)) : gb217 ≠ gb218)); have n6_ := Aside0.mk ((by rw [hg]; exact Nat.ne_of_gt (uV (g := gb217) (o := .cells #[.slice A0_0 l0_0.length c0_0, .slice A0_1 l0_1.length c0_1] 31 (0, 0)) (by (with_reducible repeat (first | refine uC ?_ _ | refine uE ?_ | refine uD ?_ _)); exact BK217.out)) : gb218 ≠ gb217)); clear BK217; clear HB; have BK217 := n0_; have HB := n1_; have BK218 := n2_; have GW218 := n3_; have GE218 := n4_; have NB217_218 := n5_; have NB218_217 := n6_; clear n0_ n1_ n2_ n3_ n4_ n5_ n6_; clear hb hbox hg; have hnb5 := NB217_218.out; have hnc5 := NB218_217.out; have hcz6_0 : w4.cell? ⟨gb217, 0, none⟩ = some (.slice A0_0 l0_0.length c0_0) := (uI BK217.out 0).trans rfl; have hcz6_1 : w4.cell? ⟨gb217, 1, none⟩ = some (.slice A0_1 l0_1.length c0_1) := (uI BK217.out 1).trans rfl; have hfz6_0 := uK BK217.out 0; have hfz6_1 := uK BK217.out 1))
  go_loopg [11] k (fun kq v11 w' => ∃ (x11_1 : Int) (x219000_1 : Int) (x219001_1 : Int) (x219002_1 : Bool) (x219003_1 : Int), v11 = .int .i64 x11_1 ∧ Aside0 (impl_SessionOf.l0 kq a1 l0_1 (l0_1.length : Int) x11_1 = some (r1, r2, r3, r4, r5)) ∧ Aside0 (kq ≤ k) ∧ Aside0 (w'.heap[gb217]? = some (.cells #[(.slice A0_0 l0_0.length c0_0), (.slice A0_1 l0_1.length c0_1)] 31 (0, 0))) ∧ Aside0 (w'.heap[gb218]? = some (.cells #[.int .i64 x219000_1, .int .i64 x219001_1, .bool x219002_1, .int .i64 x219003_1] 49 (0, 0))) ∧ Aside0 (Below w.heap.size w w'))
  case atStart => exact ⟨(0), (0), (0), (false), (0), (by first | rfl | (simp; done) | (simp [*]; done)), H', ⟨Nat.le_refl _⟩, ⟨by (with_reducible repeat (first | refine uC ?_ _ | refine uE ?_ | refine uD ?_ _)); exact BK217.out⟩, ⟨by (with_reducible repeat (first | refine uC ?_ _ | refine uE ?_ | refine uD ?_ _)); exact BK218.out⟩, ⟨by repeat (first | (with_reducible first | exact HB.out | apply uG | apply uA | apply uF | refine uB ?_ GE217.out | refine uB ?_ GE218.out) | exact HB.out)⟩⟩
  case round =>
    clear H'
    try clear c2
    try clear p2
    try clear c5
    try clear hcz6_0
    try clear hcz6_1
    try clear hfz6_0
    try clear hfz6_1
    obtain ⟨x11_1, x219000_1, x219001_1, x219002_1, x219003_1, rfl, HA, HK1, BK217, BK218, HB⟩ := hrel
    cases gk with
    | zero => exact absurd HA.out (by simp [impl_SessionOf.l0])
    | succ k1 =>
      have H := HA.out
      clear HA
      simp only [impl_SessionOf.l0] at H
      by_cases c7 : x11_1 < (l0_1.length : Int)
      rotate_left
      · rw [if_neg c7] at H
        have c7b0 : decide (x11_1 < (l0_1.length : Int)) = false := decide_eq_false c7
        clear c7
        simp only [Option.some.injEq, Prod.mk.injEq] at H
        obtain ⟨rfl, rfl, rfl, rfl, rfl⟩ := H
        have hnb21 := NB218_217.out
        have hnc21 := NB217_218.out
        have hcz22_0 : wr.cell? ⟨gb218, 0, none⟩ = some (.int .i64 x219000_1) := (uI BK218.out 0).trans rfl
        have hcz22_1 : wr.cell? ⟨gb218, 1, none⟩ = some (.int .i64 x219001_1) := (uI BK218.out 1).trans rfl
        have hcz22_2 : wr.cell? ⟨gb218, 2, none⟩ = some (.bool x219002_1) := (uI BK218.out 2).trans rfl
        have hcz22_3 : wr.cell? ⟨gb218, 3, none⟩ = some (.int .i64 x219003_1) := (uI BK218.out 3).trans rfl
        have hfz22_0 := uK BK218.out 0
        have hfz22_1 := uK BK218.out 1
        have hfz22_2 := uK BK218.out 2
        have hfz22_3 := uK BK218.out 3
        go_wp2
        refine bodyPost_ret (results_ct rfl _ _ gb218 49 #[.int .i64 0, .int .i64 0, .bool false, .int .i64 0] (0, 0) _ rfl (by (with_reducible repeat (first | refine uC ?_ _ | refine uE ?_ | refine uD ?_ _)); refine uW (cs := #[.int .i64 0, .int .i64 0, .bool false, .int .i64 x219003_1]) ?_ 3 _ rfl; (with_reducible repeat (first | refine uC ?_ _ | refine uE ?_ | refine uD ?_ _)); refine uW (cs := #[.int .i64 0, .int .i64 0, .bool x219002_1, .int .i64 x219003_1]) ?_ 2 _ rfl; (with_reducible repeat (first | refine uC ?_ _ | refine uE ?_ | refine uD ?_ _)); refine uW (cs := #[.int .i64 0, .int .i64 x219001_1, .bool x219002_1, .int .i64 x219003_1]) ?_ 1 _ rfl; (with_reducible repeat (first | refine uC ?_ _ | refine uE ?_ | refine uD ?_ _)); refine uW (cs := #[.int .i64 x219000_1, .int .i64 x219001_1, .bool x219002_1, .int .i64 x219003_1]) ?_ 0 _ rfl; (with_reducible repeat (first | refine uC ?_ _ | refine uE ?_ | refine uD ?_ _)); exact BK218.out) Try.underlying49 rfl (by kernel_rfl)) rfl ?_
        exact ⟨by first | rfl | (simp [errW_none, errW_some] <;> rfl) | (simp [*, errW_none, errW_some] <;> rfl), by repeat (first | (with_reducible first | exact HB.out | apply uG | apply uA | apply uF | refine uB ?_ GE217.out | refine uB ?_ GE218.out) | exact HB.out)⟩
      rw [if_pos c7] at H
      have c7b0 : decide (x11_1 < (l0_1.length : Int)) = true := decide_eq_true c7
      clear c7
      by_cases c8 : 0 ≤ x11_1
      rotate_left
      · rw [if_neg c8] at H
        exact absurd H (by simp)
      rw [if_pos c8] at H
      have c8b0 : decide (0 ≤ x11_1) = true := decide_eq_true c8
      clear c8
      by_cases c9 : x11_1 < (l0_1.length : Int)
      rotate_left
      · rw [if_neg c9] at H
        exact absurd H (by simp)
      rw [if_pos c9] at H
      have c9b0 : decide (x11_1 < (l0_1.length : Int)) = true := decide_eq_true c9
      clear c9
      by_cases c10 : ((rd_T49 l0_1 x11_1).f0) = a1
      rotate_left
      · rw [if_neg c10] at H
        have c10b0 : (((rd_T49 l0_1 x11_1).f0) == a1) = false := beq_eq_false_iff_ne.mpr c10
        have c10b1 : (((rd_T49 l0_1 x11_1).f0) != a1) = true := bne_iff_ne.mpr c10
        have H' := Aside0.mk H
        clear H
        have p219 : 0 ≤ (x11_1 : Int) := of_decide_eq_true (by first | (with_reducible assumption) | assumption)
        have q219 : x11_1 < (l0_1.length : Int) := of_decide_eq_true (by first | (with_reducible assumption) | assumption)
        obtain ⟨ad219, e219, hx219_0, hx219_1, hx219_2, hx219_3⟩ := at_T49 HR0_1.out x11_1 p219 q219
        cases e219
        replace hx219_0 := (HB.out.cell (yA w _ hx219_0)).trans hx219_0
        replace hx219_1 := (HB.out.cell (yA w _ hx219_1)).trans hx219_1
        replace hx219_2 := (HB.out.cell (yA w _ hx219_2)).trans hx219_2
        replace hx219_3 := (HB.out.cell (yA w _ hx219_3)).trans hx219_3
        replace p219 := eq_true p219
        replace q219 := eq_true q219
        go_wp2_with (first | ((with_reducible refine uU (N := 7) rfl ?_); refine uT ?hg (N := 7) ?hd (cs := #[.int .i64 0, .int .i64 0, .bool false, .int .i64 0]) (t := 49) ?hr ?_; (case hd => rfl); (case hg => rfl); (case hr => first | (go_simp; done) | (go_simp; rfl)); intro gb220 hg w17 hbox hb; have n0_ := Aside0.mk (uR (g := gb217) (o := .cells #[.slice A0_0 l0_0.length c0_0, .slice (some ad219) l0_1.length c0_1] 31 (0, 0)) (by (with_reducible repeat (first | refine uC ?_ _ | refine uE ?_ | refine uD ?_ _)); exact BK217.out) hb); have n1_ := Aside0.mk (uR (g := gb218) (o := .cells #[.int .i64 x219000_1, .int .i64 x219001_1, .bool x219002_1, .int .i64 x219003_1] 49 (0, 0)) (by (with_reducible repeat (first | refine uC ?_ _ | refine uE ?_ | refine uD ?_ _)); exact BK218.out) hb); have n2_ := Aside0.mk (uS (by repeat (first | (with_reducible first | exact HB.out | apply uG | apply uA | apply uF | refine uB ?_ GE217.out | refine uB ?_ GE218.out) | exact HB.out)) hb); have n3_ := Aside0.mk (hbox); have n4_ := Aside0.mk ((by rw [hg]; exact (uQ (by repeat (first | (with_reducible first | exact HB.out | apply uG | apply uA | apply uF | refine uB ?_ GE217.out | refine uB ?_ GE218.out) | exact HB.out))) : w.heap.size ≤ gb220)); have n5_ := Aside0.mk ((by rw [hg]; exact (uQ (by repeat (first | (with_reducible first | exact HB.out | apply uG | apply uA | apply uF | refine uB ?_ GE217.out | refine uB ?_ GE218.out) | exact HB.out))) : w.heap.size ≤ gb220)); have n6_ := Aside0.mk ((by rw [hg]; exact Nat.ne_of_lt (uV (g := gb217) (o := .cells #[.slice A0_0 l0_0.length c0_0, .slice (some ad219) l0_1.length c0_1] 31 (0, 0)) (by (with_reducible repeat (first | refine uC ?_ _ | refine uE ?_ | refine uD ?_ _)); exact BK217.out)) : gb217 ≠ gb220)); have n7_ := Aside0.mk ((by rw [hg]; exact Nat.ne_of_gt (uV (g := gb217) (o := .cells #[.slice A0_0 l0_0.length c0_0, .slice (some ad219) l0_1.length c0_1] 31 (0, 0)) (by (with_reducible repeat (first | refine uC ?_ _ | refine uE ?_ | refine uD ?_ _)); exact BK217.out)) : gb220 ≠ gb217)); have n8_ := Aside0.mk ((by rw [hg]; exact Nat.ne_of_lt (uV (g := gb218) (o := .cells #[.int .i64 x219000_1, .int .i64 x219001_1, .bool x219002_1, .int .i64 x219003_1] 49 (0, 0)) (by (with_reducible repeat (first | refine uC ?_ _ | refine uE ?_ | refine uD ?_ _)); exact BK218.out)) : gb218 ≠ gb220)); have n9_ := Aside0.mk ((by rw [hg]; exact Nat.ne_of_gt (uV (g := gb218) (o := .cells #[.int .i64 x219000_1, .int .i64 x219001_1, .bool x219002_1, .int .i64 x219003_1] 49 (0, 0)) (by (with_reducible repeat (first | refine uC ?_ _ | refine uE ?_ | refine uD ?_ _)); exact BK218.out)) : gb220 ≠ gb218)); clear BK217; clear BK218; clear HB; have BK217 := n0_; have BK218 := n1_; have HB := n2_; have BK220 := n3_; have GW220 := n4_; have GE220 := n5_; have NB217_220 := n6_; have NB220_217 := n7_; have NB218_220 := n8_; have NB220_218 := n9_; clear n0_ n1_ n2_ n3_ n4_ n5_ n6_ n7_ n8_ n9_; clear hb hbox hg; have hnb18 := NB220_217.out; have hnc18 := NB217_220.out; have hnb19 := NB220_218.out; have hnc19 := NB218_220.out; have hcz20_0 : w17.cell? ⟨gb220, 0, none⟩ = some (.int .i64 0) := (uI BK220.out 0).trans rfl; have hcz20_1 : w17.cell? ⟨gb220, 1, none⟩ = some (.int .i64 0) := (uI BK220.out 1).trans rfl; have hcz20_2 : w17.cell? ⟨gb220, 2, none⟩ = some (.bool false) := (uI BK220.out 2).trans rfl; have hcz20_3 : w17.cell? ⟨gb220, 3, none⟩ = some (.int .i64 0) := (uI BK220.out 3).trans rfl; have hfz20_0 := uK BK220.out 0; have hfz20_1 := uK BK220.out 1; have hfz20_2 := uK BK220.out 2; have hfz20_3 := uK BK220.out 3))
        go_roundg k1
        case measure => have := HK1.out; omega
        case rel => exact ⟨(wrap64 (x11_1 + 1)), (x219000_1), (x219001_1), (x219002_1), (x219003_1), (by first | rfl | (simp; done) | (simp [*]; done)), H', ⟨by have := HK1.out; omega⟩, ⟨by (with_reducible repeat (first | refine uC ?_ _ | refine uE ?_ | refine uD ?_ _)); refine vF ?_ NB217_220.out _; (with_reducible repeat (first | refine uC ?_ _ | refine uE ?_ | refine uD ?_ _)); refine vF ?_ NB217_220.out _; (with_reducible repeat (first | refine uC ?_ _ | refine uE ?_ | refine uD ?_ _)); refine vF ?_ NB217_220.out _; (with_reducible repeat (first | refine uC ?_ _ | refine uE ?_ | refine uD ?_ _)); refine vF ?_ NB217_220.out _; (with_reducible repeat (first | refine uC ?_ _ | refine uE ?_ | refine uD ?_ _)); exact BK217.out⟩, ⟨by (with_reducible repeat (first | refine uC ?_ _ | refine uE ?_ | refine uD ?_ _)); refine vF ?_ NB218_220.out _; (with_reducible repeat (first | refine uC ?_ _ | refine uE ?_ | refine uD ?_ _)); refine vF ?_ NB218_220.out _; (with_reducible repeat (first | refine uC ?_ _ | refine uE ?_ | refine uD ?_ _)); refine vF ?_ NB218_220.out _; (with_reducible repeat (first | refine uC ?_ _ | refine uE ?_ | refine uD ?_ _)); refine vF ?_ NB218_220.out _; (with_reducible repeat (first | refine uC ?_ _ | refine uE ?_ | refine uD ?_ _)); exact BK218.out⟩, ⟨by repeat (first | (with_reducible first | exact HB.out | apply uG | apply uA | apply uF | refine uB ?_ GE217.out | refine uB ?_ GE218.out | refine uB ?_ GE220.out) | exact HB.out)⟩⟩
      rw [if_pos c10] at H
      have c10b0 : (((rd_T49 l0_1 x11_1).f0) == a1) = true := beq_iff_eq.mpr c10
      have c10b1 : (((rd_T49 l0_1 x11_1).f0) != a1) = false := bne_eq_false_iff_eq.mpr c10
      clear c10
      simp only [Option.some.injEq, Prod.mk.injEq] at H
      obtain ⟨rfl, rfl, rfl, rfl, rfl⟩ := H
      have p219 : 0 ≤ (x11_1 : Int) := of_decide_eq_true (by first | (with_reducible assumption) | assumption)
      have q219 : x11_1 < (l0_1.length : Int) := of_decide_eq_true (by first | (with_reducible assumption) | assumption)
      obtain ⟨ad219, e219, hx219_0, hx219_1, hx219_2, hx219_3⟩ := at_T49 HR0_1.out x11_1 p219 q219
      cases e219
      replace hx219_0 := (HB.out.cell (yA w _ hx219_0)).trans hx219_0
      replace hx219_1 := (HB.out.cell (yA w _ hx219_1)).trans hx219_1
      replace hx219_2 := (HB.out.cell (yA w _ hx219_2)).trans hx219_2
      replace hx219_3 := (HB.out.cell (yA w _ hx219_3)).trans hx219_3
      replace p219 := eq_true p219
      replace q219 := eq_true q219
      go_wp2_with (first | ((with_reducible refine uU (N := 7) rfl ?_); refine uT ?hg (N := 7) ?hd (cs := #[.int .i64 0, .int .i64 0, .bool false, .int .i64 0]) (t := 49) ?hr ?_; (case hd => rfl); (case hg => rfl); (case hr => first | (go_simp; done) | (go_simp; rfl)); intro gb220 hg w11 hbox hb; have n0_ := Aside0.mk (uR (g := gb217) (o := .cells #[.slice A0_0 l0_0.length c0_0, .slice (some ad219) l0_1.length c0_1] 31 (0, 0)) (by (with_reducible repeat (first | refine uC ?_ _ | refine uE ?_ | refine uD ?_ _)); exact BK217.out) hb); have n1_ := Aside0.mk (uR (g := gb218) (o := .cells #[.int .i64 x219000_1, .int .i64 x219001_1, .bool x219002_1, .int .i64 x219003_1] 49 (0, 0)) (by (with_reducible repeat (first | refine uC ?_ _ | refine uE ?_ | refine uD ?_ _)); exact BK218.out) hb); have n2_ := Aside0.mk (uS (by repeat (first | (with_reducible first | exact HB.out | apply uG | apply uA | apply uF | refine uB ?_ GE217.out | refine uB ?_ GE218.out) | exact HB.out)) hb); have n3_ := Aside0.mk (hbox); have n4_ := Aside0.mk ((by rw [hg]; exact (uQ (by repeat (first | (with_reducible first | exact HB.out | apply uG | apply uA | apply uF | refine uB ?_ GE217.out | refine uB ?_ GE218.out) | exact HB.out))) : w.heap.size ≤ gb220)); have n5_ := Aside0.mk ((by rw [hg]; exact (uQ (by repeat (first | (with_reducible first | exact HB.out | apply uG | apply uA | apply uF | refine uB ?_ GE217.out | refine uB ?_ GE218.out) | exact HB.out))) : w.heap.size ≤ gb220)); have n6_ := Aside0.mk ((by rw [hg]; exact Nat.ne_of_lt (uV (g := gb217) (o := .cells #[.slice A0_0 l0_0.length c0_0, .slice (some ad219) l0_1.length c0_1] 31 (0, 0)) (by (with_reducible repeat (first | refine uC ?_ _ | refine uE ?_ | refine uD ?_ _)); exact BK217.out)) : gb217 ≠ gb220)); have n7_ := Aside0.mk ((by rw [hg]; exact Nat.ne_of_gt (uV (g := gb217) (o := .cells #[.slice A0_0 l0_0.length c0_0, .slice (some ad219) l0_1.length c0_1] 31 (0, 0)) (by (with_reducible repeat (first | refine uC ?_ _ | refine uE ?_ | refine uD ?_ _)); exact BK217.out)) : gb220 ≠ gb217)); have n8_ := Aside0.mk ((by rw [hg]; exact Nat.ne_of_lt (uV (g := gb218) (o := .cells #[.int .i64 x219000_1, .int .i64 x219001_1, .bool x219002_1, .int .i64 x219003_1] 49 (0, 0)) (by (with_reducible repeat (first | refine uC ?_ _ | refine uE ?_ | refine uD ?_ _)); exact BK218.out)) : gb218 ≠ gb220)); have n9_ := Aside0.mk ((by rw [hg]; exact Nat.ne_of_gt (uV (g := gb218) (o := .cells #[.int .i64 x219000_1, .int .i64 x219001_1, .bool x219002_1, .int .i64 x219003_1] 49 (0, 0)) (by (with_reducible repeat (first | refine uC ?_ _ | refine uE ?_ | refine uD ?_ _)); exact BK218.out)) : gb220 ≠ gb218)); clear BK217; clear BK218; clear HB; have BK217 := n0_; have BK218 := n1_; have HB := n2_; have BK220 := n3_; have GW220 := n4_; have GE220 := n5_; have NB217_220 := n6_; have NB220_217 := n7_; have NB218_220 := n8_; have NB220_218 := n9_; clear n0_ n1_ n2_ n3_ n4_ n5_ n6_ n7_ n8_ n9_; clear hb hbox hg; have hnb12 := NB220_217.out; have hnc12 := NB217_220.out; have hnb13 := NB220_218.out; have hnc13 := NB218_220.out; have hcz14_0 : w11.cell? ⟨gb220, 0, none⟩ = some (.int .i64 0) := (uI BK220.out 0).trans rfl; have hcz14_1 : w11.cell? ⟨gb220, 1, none⟩ = some (.int .i64 0) := (uI BK220.out 1).trans rfl; have hcz14_2 : w11.cell? ⟨gb220, 2, none⟩ = some (.bool false) := (uI BK220.out 2).trans rfl; have hcz14_3 : w11.cell? ⟨gb220, 3, none⟩ = some (.int .i64 0) := (uI BK220.out 3).trans rfl; have hfz14_0 := uK BK220.out 0; have hfz14_1 := uK BK220.out 1; have hfz14_2 := uK BK220.out 2; have hfz14_3 := uK BK220.out 3; have hnb15 := NB218_217.out; have hnc15 := NB217_218.out; have hcz16_0 : w11.cell? ⟨gb218, 0, none⟩ = some (.int .i64 x219000_1) := (uI BK218.out 0).trans rfl; have hcz16_1 : w11.cell? ⟨gb218, 1, none⟩ = some (.int .i64 x219001_1) := (uI BK218.out 1).trans rfl; have hcz16_2 : w11.cell? ⟨gb218, 2, none⟩ = some (.bool x219002_1) := (uI BK218.out 2).trans rfl; have hcz16_3 : w11.cell? ⟨gb218, 3, none⟩ = some (.int .i64 x219003_1) := (uI BK218.out 3).trans rfl; have hfz16_0 := uK BK218.out 0; have hfz16_1 := uK BK218.out 1; have hfz16_2 := uK BK218.out 2; have hfz16_3 := uK BK218.out 3))
      refine bodyPost_ret (results_ct rfl _ _ gb218 49 #[.int .i64 ((rd_T49 l0_1 x11_1).f0), .int .i64 ((rd_T49 l0_1 x11_1).f1), .bool ((rd_T49 l0_1 x11_1).f2.f0), .int .i64 ((rd_T49 l0_1 x11_1).f2.f1)] (0, 0) _ rfl (by (with_reducible repeat (first | refine uC ?_ _ | refine uE ?_ | refine uD ?_ _)); refine uW (cs := #[.int .i64 ((rd_T49 l0_1 x11_1).f0), .int .i64 ((rd_T49 l0_1 x11_1).f1), .bool ((rd_T49 l0_1 x11_1).f2.f0), .int .i64 x219003_1]) ?_ 3 _ rfl; (with_reducible repeat (first | refine uC ?_ _ | refine uE ?_ | refine uD ?_ _)); refine uW (cs := #[.int .i64 ((rd_T49 l0_1 x11_1).f0), .int .i64 ((rd_T49 l0_1 x11_1).f1), .bool x219002_1, .int .i64 x219003_1]) ?_ 2 _ rfl; (with_reducible repeat (first | refine uC ?_ _ | refine uE ?_ | refine uD ?_ _)); refine uW (cs := #[.int .i64 ((rd_T49 l0_1 x11_1).f0), .int .i64 x219001_1, .bool x219002_1, .int .i64 x219003_1]) ?_ 1 _ rfl; (with_reducible repeat (first | refine uC ?_ _ | refine uE ?_ | refine uD ?_ _)); refine uW (cs := #[.int .i64 x219000_1, .int .i64 x219001_1, .bool x219002_1, .int .i64 x219003_1]) ?_ 0 _ rfl; (with_reducible repeat (first | refine uC ?_ _ | refine uE ?_ | refine uD ?_ _)); refine vF ?_ NB218_220.out _; (with_reducible repeat (first | refine uC ?_ _ | refine uE ?_ | refine uD ?_ _)); refine vF ?_ NB218_220.out _; (with_reducible repeat (first | refine uC ?_ _ | refine uE ?_ | refine uD ?_ _)); refine vF ?_ NB218_220.out _; (with_reducible repeat (first | refine uC ?_ _ | refine uE ?_ | refine uD ?_ _)); refine vF ?_ NB218_220.out _; (with_reducible repeat (first | refine uC ?_ _ | refine uE ?_ | refine uD ?_ _)); exact BK218.out) Try.underlying49 rfl (by kernel_rfl)) rfl ?_
      exact ⟨by first | rfl | (simp [errW_none, errW_some] <;> rfl) | (simp [*, errW_none, errW_some] <;> rfl), by repeat (first | (with_reducible first | exact HB.out | apply uG | apply uA | apply uF | refine uB ?_ GE217.out | refine uB ?_ GE218.out | refine uB ?_ GE220.out) | exact HB.out)⟩

end Go.Proofs.Ytcikahnmiiichaa.T
