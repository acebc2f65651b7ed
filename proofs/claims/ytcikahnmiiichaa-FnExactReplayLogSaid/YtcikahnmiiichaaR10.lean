/- Go functions as Lean functions, and the proof that the code comes to them: written by a program of this session out of the translation. -/
import Derived.Test.YtcikahnmiiichaaR0
import Derived.Test.YtcikahnmiiichaaR8
namespace Go.Proofs.Ytcikahnmiiichaa.R
open List renaming setIfInBounds_toArray → vS, set_cons_zero → vT, set_cons_succ → vU, map_toArray → vV, length_take → vW, length_drop → vX
open Go.World renaming block_lt_of_cell? → vY
open Go.RowKit Go.Proofs.YtcikahnmiiichaaW.PrintWords Go.Proofs.YtcikahnmiiichaaW.PrintLast Go.Proofs.YtcikahnmiiichaaW.PrintMore
attribute [local go_sem] max2_int min2_int max_two min_two max_three min_three max_four min_four   -- for this text's walks alone
set_option linter.unusedVariables false
set_option linter.unusedSimpArgs false

/-! ### impl_IsValidOp: function 50 -/
def impl_IsValidOp.f (a0_0 : Int) (a0_1 : Int) (a0_2 : Int) (a0_3 : Int) (a0_4 : Int) (a0_5 : Int) : Option (Bool) := (impl_within.f a0_0 0 2).bind fun t222 => (if t222 = true then ((impl_within.f a0_1 1 99).bind fun t223 => (if t223 = true then ((impl_within.f a0_3 0 2).bind fun t224 => (if t224 = true then ((impl_within.f a0_5 0 9).bind fun t225 => (if t225 = true then (if a0_2 = 1 then (if a0_4 = 0 then (some true) else (if a0_2 = 2 then ((impl_within.f a0_4 0 9).bind fun t226 => (some t226)) else (some false))) else (if a0_2 = 2 then ((impl_within.f a0_4 0 9).bind fun t227 => (some t227)) else (some false))) else (some false))) else (some false))) else (some false))) else (some false))
set_option maxHeartbeats 8000000 in
set_option maxRecDepth 100000 in
theorem impl_IsValidOp.calls (a0_0 : Int) (a0_1 : Int) (a0_2 : Int) (a0_3 : Int) (a0_4 : Int) (a0_5 : Int) (r : Bool) (w : World) (h : impl_IsValidOp.f a0_0 a0_1 a0_2 a0_3 a0_4 a0_5 = some r) :
    Calls Try.prog 50 #[.agg #[.int .i64 a0_0, .int .i64 a0_1, .int .i64 a0_2, .int .i64 a0_3, .int .i64 a0_4, .int .i64 a0_5]] w fun e w' => e = .returned (.bool r) ∧ Below w.heap.size w w' := by
  have hu37 := Try.underlying37
  have HB := Aside0.mk (Below.refl w.heap.size w)
  have H : ((impl_within.f a0_0 0 2).bind fun t222 => (if t222 = true then ((impl_within.f a0_1 1 99).bind fun t223 => (if t223 = true then ((impl_within.f a0_3 0 2).bind fun t224 => (if t224 = true then ((impl_within.f a0_5 0 9).bind fun t225 => (if t225 = true then (if a0_2 = 1 then (if a0_4 = 0 then (some true) else (if a0_2 = 2 then ((impl_within.f a0_4 0 9).bind fun t226 => (some t226)) else (some false))) else (if a0_2 = 2 then ((impl_within.f a0_4 0 9).bind fun t227 => (some t227)) else (some false))) else (some false))) else (some false))) else (some false))) else (some false))) = some r := h
  clear h
  replace H := Option.bind_eq_some_iff.mp H
  obtain ⟨t222, A20, H⟩ := H
  replace H : (if t222 = true then ((impl_within.f a0_1 1 99).bind fun t223 => (if t223 = true then ((impl_within.f a0_3 0 2).bind fun t224 => (if t224 = true then ((impl_within.f a0_5 0 9).bind fun t225 => (if t225 = true then (if a0_2 = 1 then (if a0_4 = 0 then (some true) else (if a0_2 = 2 then ((impl_within.f a0_4 0 9).bind fun t226 => (some t226)) else (some false))) else (if a0_2 = 2 then ((impl_within.f a0_4 0 9).bind fun t227 => (some t227)) else (some false))) else (some false))) else (some false))) else (some false))) else (some false)) = some r := H
  have A2 := Aside0.mk A20
  clear A20
  by_cases c3 : t222 = true
  rotate_left
  · replace c3 := Bool.eq_false_iff.mpr c3
    subst c3
    have H1 : (some false) = some r := by first | (rw [if_neg (show ¬ (false = true) by decide)] at H; exact H) | rfl
    clear H
    have H := H1
    clear H1
    obtain rfl := Option.some.inj H
    go_enter Try.func50, Try.ntmps50
    go_wp2_with (first | ((with_reducible refine uS (N := 1) rfl ?_); refine uR ?hg (N := 1) ?hd (cs := #[.int .i64 a0_0, .int .i64 a0_1, .int .i64 a0_2, .int .i64 a0_3, .int .i64 a0_4, .int .i64 a0_5]) (t := 37) ?hr ?_; (case hd => rfl); (case hg => rfl); (case hr => first | (go_simp; done) | (go_simp; rfl)); intro gb221 hg w32 hbox hb; have n0_ := Aside0.mk (uP (by repeat (first | (with_reducible first | exact HB.out | apply uC | apply uA | apply uB) | exact HB.out)) hb); have n1_ := Aside0.mk (hbox); have n2_ := Aside0.mk ((by rw [hg]; exact (uK (by repeat (first | (with_reducible first | exact HB.out | apply uC | apply uA | apply uB) | exact HB.out))) : w.heap.size ≤ gb221)); have n3_ := Aside0.mk ((by rw [hg]; exact (uK (by repeat (first | (with_reducible first | exact HB.out | apply uC | apply uA | apply uB) | exact HB.out))) : w.heap.size ≤ gb221)); clear HB; have HB := n0_; have BK221 := n1_; have GW221 := n2_; have GE221 := n3_; clear n0_ n1_ n2_ n3_; clear hb hbox hg; have hcz33_0 : w32.cell? ⟨gb221, 0, none⟩ = some (.int .i64 a0_0) := (uE BK221.out 0).trans rfl; have hcz33_1 : w32.cell? ⟨gb221, 1, none⟩ = some (.int .i64 a0_1) := (uE BK221.out 1).trans rfl; have hcz33_2 : w32.cell? ⟨gb221, 2, none⟩ = some (.int .i64 a0_2) := (uE BK221.out 2).trans rfl; have hcz33_3 : w32.cell? ⟨gb221, 3, none⟩ = some (.int .i64 a0_3) := (uE BK221.out 3).trans rfl; have hcz33_4 : w32.cell? ⟨gb221, 4, none⟩ = some (.int .i64 a0_4) := (uE BK221.out 4).trans rfl; have hcz33_5 : w32.cell? ⟨gb221, 5, none⟩ = some (.int .i64 a0_5) := (uE BK221.out 5).trans rfl; have hfz33_0 := uD BK221.out 0; have hfz33_1 := uD BK221.out 1; have hfz33_2 := uD BK221.out 2; have hfz33_3 := uD BK221.out 3; have hfz33_4 := uD BK221.out 4; have hfz33_5 := uD BK221.out 5) | ((with_reducible refine uU (f := 65) rfl ?_); refine vE (some 5) rfl rfl Try.func65 (by kernel_rfl) rfl #[.int .i64 a0_0, .int .i64 0, .int .i64 2] rfl (by (try simp only [vV, List.map_cons, List.map_nil]); first | done | rfl | (simp only [vX, vW]; rfl)) ?_; (with_reducible refine (impl_within.calls a0_0 0 2 false _ A2.out).mono ?_); rintro e w' ⟨rfl, ⟨nd, rfl⟩⟩; refine ⟨_, rfl, ?_⟩))
    go_ret
    exact ⟨by first | rfl | (simp [errW_none, errW_some] <;> rfl) | (simp [*, errW_none, errW_some] <;> rfl), by repeat (first | (with_reducible first | exact HB.out | apply uC | apply uA | apply uB | refine uF ?_ GE221.out) | exact HB.out)⟩
  subst c3
  have H1 : ((impl_within.f a0_1 1 99).bind fun t223 => (if t223 = true then ((impl_within.f a0_3 0 2).bind fun t224 => (if t224 = true then ((impl_within.f a0_5 0 9).bind fun t225 => (if t225 = true then (if a0_2 = 1 then (if a0_4 = 0 then (some true) else (if a0_2 = 2 then ((impl_within.f a0_4 0 9).bind fun t226 => (some t226)) else (some false))) else (if a0_2 = 2 then ((impl_within.f a0_4 0 9).bind fun t227 => (some t227)) else (some false))) else (some false))) else (some false))) else (some false))) = some r := by first | (rw [if_pos rfl] at H; exact H) | rfl
  clear H
  have H := H1
  clear H1
  replace H := Option.bind_eq_some_iff.mp H
  obtain ⟨t223, A40, H⟩ := H
  replace H : (if t223 = true then ((impl_within.f a0_3 0 2).bind fun t224 => (if t224 = true then ((impl_within.f a0_5 0 9).bind fun t225 => (if t225 = true then (if a0_2 = 1 then (if a0_4 = 0 then (some true) else (if a0_2 = 2 then ((impl_within.f a0_4 0 9).bind fun t226 => (some t226)) else (some false))) else (if a0_2 = 2 then ((impl_within.f a0_4 0 9).bind fun t227 => (some t227)) else (some false))) else (some false))) else (some false))) else (some false)) = some r := H
  have A4 := Aside0.mk A40
  clear A40
  by_cases c5 : t223 = true
  rotate_left
  · replace c5 := Bool.eq_false_iff.mpr c5
    subst c5
    have H1 : (some false) = some r := by first | (rw [if_neg (show ¬ (false = true) by decide)] at H; exact H) | rfl
    clear H
    have H := H1
    clear H1
    obtain rfl := Option.some.inj H
    go_enter Try.func50, Try.ntmps50
    go_wp2_with (first | ((with_reducible refine uS (N := 1) rfl ?_); refine uR ?hg (N := 1) ?hd (cs := #[.int .i64 a0_0, .int .i64 a0_1, .int .i64 a0_2, .int .i64 a0_3, .int .i64 a0_4, .int .i64 a0_5]) (t := 37) ?hr ?_; (case hd => rfl); (case hg => rfl); (case hr => first | (go_simp; done) | (go_simp; rfl)); intro gb221 hg w30 hbox hb; have n0_ := Aside0.mk (uP (by repeat (first | (with_reducible first | exact HB.out | apply uC | apply uA | apply uB) | exact HB.out)) hb); have n1_ := Aside0.mk (hbox); have n2_ := Aside0.mk ((by rw [hg]; exact (uK (by repeat (first | (with_reducible first | exact HB.out | apply uC | apply uA | apply uB) | exact HB.out))) : w.heap.size ≤ gb221)); have n3_ := Aside0.mk ((by rw [hg]; exact (uK (by repeat (first | (with_reducible first | exact HB.out | apply uC | apply uA | apply uB) | exact HB.out))) : w.heap.size ≤ gb221)); clear HB; have HB := n0_; have BK221 := n1_; have GW221 := n2_; have GE221 := n3_; clear n0_ n1_ n2_ n3_; clear hb hbox hg; have hcz31_0 : w30.cell? ⟨gb221, 0, none⟩ = some (.int .i64 a0_0) := (uE BK221.out 0).trans rfl; have hcz31_1 : w30.cell? ⟨gb221, 1, none⟩ = some (.int .i64 a0_1) := (uE BK221.out 1).trans rfl; have hcz31_2 : w30.cell? ⟨gb221, 2, none⟩ = some (.int .i64 a0_2) := (uE BK221.out 2).trans rfl; have hcz31_3 : w30.cell? ⟨gb221, 3, none⟩ = some (.int .i64 a0_3) := (uE BK221.out 3).trans rfl; have hcz31_4 : w30.cell? ⟨gb221, 4, none⟩ = some (.int .i64 a0_4) := (uE BK221.out 4).trans rfl; have hcz31_5 : w30.cell? ⟨gb221, 5, none⟩ = some (.int .i64 a0_5) := (uE BK221.out 5).trans rfl; have hfz31_0 := uD BK221.out 0; have hfz31_1 := uD BK221.out 1; have hfz31_2 := uD BK221.out 2; have hfz31_3 := uD BK221.out 3; have hfz31_4 := uD BK221.out 4; have hfz31_5 := uD BK221.out 5) | ((with_reducible refine uU (f := 65) rfl ?_); refine vE (some 5) rfl rfl Try.func65 (by kernel_rfl) rfl #[.int .i64 a0_0, .int .i64 0, .int .i64 2] rfl (by (try simp only [vV, List.map_cons, List.map_nil]); first | done | rfl | (simp only [vX, vW]; rfl)) ?_; (with_reducible refine (impl_within.calls a0_0 0 2 true _ A2.out).mono ?_); rintro e w' ⟨rfl, ⟨nd, rfl⟩⟩; refine ⟨_, rfl, ?_⟩) | (go_at_call 65; (with_reducible refine (impl_within.calls a0_1 1 99 false _ A4.out).mono ?_); rintro e w' ⟨rfl, ⟨nd, rfl⟩⟩))
    go_ret
    exact ⟨by first | rfl | (simp [errW_none, errW_some] <;> rfl) | (simp [*, errW_none, errW_some] <;> rfl), by repeat (first | (with_reducible first | exact HB.out | apply uC | apply uA | apply uB | refine uF ?_ GE221.out) | exact HB.out)⟩
  subst c5
  have H1 : ((impl_within.f a0_3 0 2).bind fun t224 => (if t224 = true then ((impl_within.f a0_5 0 9).bind fun t225 => (if t225 = true then (if a0_2 = 1 then (if a0_4 = 0 then (some true) else (if a0_2 = 2 then ((impl_within.f a0_4 0 9).bind fun t226 => (some t226)) else (some false))) else (if a0_2 = 2 then ((impl_within.f a0_4 0 9).bind fun t227 => (some t227)) else (some false))) else (some false))) else (some false))) = some r := by first | (rw [if_pos rfl] at H; exact H) | rfl
  clear H
  have H := H1
  clear H1
  replace H := Option.bind_eq_some_iff.mp H
  obtain ⟨t224, A60, H⟩ := H
  replace H : (if t224 = true then ((impl_within.f a0_5 0 9).bind fun t225 => (if t225 = true then (if a0_2 = 1 then (if a0_4 = 0 then (some true) else (if a0_2 = 2 then ((impl_within.f a0_4 0 9).bind fun t226 => (some t226)) else (some false))) else (if a0_2 = 2 then ((impl_within.f a0_4 0 9).bind fun t227 => (some t227)) else (some false))) else (some false))) else (some false)) = some r := H
  have A6 := Aside0.mk A60
  clear A60
  by_cases c7 : t224 = true
  rotate_left
  · replace c7 := Bool.eq_false_iff.mpr c7
    subst c7
    have H1 : (some false) = some r := by first | (rw [if_neg (show ¬ (false = true) by decide)] at H; exact H) | rfl
    clear H
    have H := H1
    clear H1
    obtain rfl := Option.some.inj H
    go_enter Try.func50, Try.ntmps50
    go_wp2_with (first | ((with_reducible refine uS (N := 1) rfl ?_); refine uR ?hg (N := 1) ?hd (cs := #[.int .i64 a0_0, .int .i64 a0_1, .int .i64 a0_2, .int .i64 a0_3, .int .i64 a0_4, .int .i64 a0_5]) (t := 37) ?hr ?_; (case hd => rfl); (case hg => rfl); (case hr => first | (go_simp; done) | (go_simp; rfl)); intro gb221 hg w28 hbox hb; have n0_ := Aside0.mk (uP (by repeat (first | (with_reducible first | exact HB.out | apply uC | apply uA | apply uB) | exact HB.out)) hb); have n1_ := Aside0.mk (hbox); have n2_ := Aside0.mk ((by rw [hg]; exact (uK (by repeat (first | (with_reducible first | exact HB.out | apply uC | apply uA | apply uB) | exact HB.out))) : w.heap.size ≤ gb221)); have n3_ := Aside0.mk ((by rw [hg]; exact (uK (by repeat (first | (with_reducible first | exact HB.out | apply uC | apply uA | apply uB) | exact HB.out))) : w.heap.size ≤ gb221)); clear HB; have HB := n0_; have BK221 := n1_; have GW221 := n2_; have GE221 := n3_; clear n0_ n1_ n2_ n3_; clear hb hbox hg; have hcz29_0 : w28.cell? ⟨gb221, 0, none⟩ = some (.int .i64 a0_0) := (uE BK221.out 0).trans rfl; have hcz29_1 : w28.cell? ⟨gb221, 1, none⟩ = some (.int .i64 a0_1) := (uE BK221.out 1).trans rfl; have hcz29_2 : w28.cell? ⟨gb221, 2, none⟩ = some (.int .i64 a0_2) := (uE BK221.out 2).trans rfl; have hcz29_3 : w28.cell? ⟨gb221, 3, none⟩ = some (.int .i64 a0_3) := (uE BK221.out 3).trans rfl; have hcz29_4 : w28.cell? ⟨gb221, 4, none⟩ = some (.int .i64 a0_4) := (uE BK221.out 4).trans rfl; have hcz29_5 : w28.cell? ⟨gb221, 5, none⟩ = some (.int .i64 a0_5) := (uE BK221.out 5).trans rfl; have hfz29_0 := uD BK221.out 0; have hfz29_1 := uD BK221.out 1; have hfz29_2 := uD BK221.out 2; have hfz29_3 := uD BK221.out 3; have hfz29_4 := uD BK221.out 4; have hfz29_5 := uD BK221.out 5) | ((with_reducible refine uU (f := 65) rfl ?_); refine vE (some 5) rfl rfl Try.func65 (by kernel_rfl) rfl #[.int .i64 a0_0, .int .i64 0, .int .i64 2] rfl (by (try simp only [vV, List.map_cons, List.map_nil]); first | done | rfl | (simp only [vX, vW]; rfl)) ?_; (with_reducible refine (impl_within.calls a0_0 0 2 true _ A2.out).mono ?_); rintro e w' ⟨rfl, ⟨nd, rfl⟩⟩; refine ⟨_, rfl, ?_⟩) | (go_at_call 65; (with_reducible refine (impl_within.calls a0_1 1 99 true _ A4.out).mono ?_); rintro e w' ⟨rfl, ⟨nd, rfl⟩⟩) | (go_at_call 65; (with_reducible refine (impl_within.calls a0_3 0 2 false _ A6.out).mono ?_); rintro e w' ⟨rfl, ⟨nd, rfl⟩⟩))
    go_ret
    exact ⟨by first | rfl | (simp [errW_none, errW_some] <;> rfl) | (simp [*, errW_none, errW_some] <;> rfl), by repeat (first | (with_reducible first | exact HB.out | apply uC | apply uA | apply uB | refine uF ?_ GE221.out) | exact HB.out)⟩
  subst c7
  have H1 : ((impl_within.f a0_5 0 9).bind fun t225 => (if t225 = true then (if a0_2 = 1 then (if a0_4 = 0 then (some true) else (if a0_2 = 2 then ((impl_within.f a0_4 0 9).bind fun t226 => (some t226)) else (some false))) else (if a0_2 = 2 then ((impl_within.f a0_4 0 9).bind fun t227 => (some t227)) else (some false))) else (some false))) = some r := by first | (rw [if_pos rfl] at H; exact H) | rfl
  clear H
  have H := H1
  clear H1
  replace H := Option.bind_eq_some_iff.mp H
  obtain ⟨t225, A80, H⟩ := H
  replace H : (if t225 = true then (if a0_2 = 1 then (if a0_4 = 0 then (some true) else (if a0_2 = 2 then ((impl_within.f a0_4 0 9).bind fun t226 => (some t226)) else (some false))) else (if a0_2 = 2 then ((impl_within.f a0_4 0 9).bind fun t227 => (some t227)) else (some false))) else (some false)) = some r := H
  have A8 := Aside0.mk A80
  clear A80
  by_cases c9 : t225 = true
  rotate_left
  · replace c9 := Bool.eq_false_iff.mpr c9
    subst c9
    have H1 : (some false) = some r := by first | (rw [if_neg (show ¬ (false = true) by decide)] at H; exact H) | rfl
    clear H
    have H := H1
    clear H1
    obtain rfl := Option.some.inj H
    go_enter Try.func50, Try.ntmps50
    go_wp2_with (first | ((with_reducible refine uS (N := 1) rfl ?_); refine uR ?hg (N := 1) ?hd (cs := #[.int .i64 a0_0, .int .i64 a0_1, .int .i64 a0_2, .int .i64 a0_3, .int .i64 a0_4, .int .i64 a0_5]) (t := 37) ?hr ?_; (case hd => rfl); (case hg => rfl); (case hr => first | (go_simp; done) | (go_simp; rfl)); intro gb221 hg w26 hbox hb; have n0_ := Aside0.mk (uP (by repeat (first | (with_reducible first | exact HB.out | apply uC | apply uA | apply uB) | exact HB.out)) hb); have n1_ := Aside0.mk (hbox); have n2_ := Aside0.mk ((by rw [hg]; exact (uK (by repeat (first | (with_reducible first | exact HB.out | apply uC | apply uA | apply uB) | exact HB.out))) : w.heap.size ≤ gb221)); have n3_ := Aside0.mk ((by rw [hg]; exact (uK (by repeat (first | (with_reducible first | exact HB.out | apply uC | apply uA | apply uB) | exact HB.out))) : w.heap.size ≤ gb221)); clear HB; have HB := n0_; have BK221 := n1_; have GW221 := n2_; have GE221 := n3_; clear n0_ n1_ n2_ n3_; clear hb hbox hg; have hcz27_0 : w26.cell? ⟨gb221, 0, none⟩ = some (.int .i64 a0_0) := (uE BK221.out 0).trans rfl; have hcz27_1 : w26.cell? ⟨gb221, 1, none⟩ = some (.int .i64 a0_1) := (uE BK221.out 1).trans rfl; have hcz27_2 : w26.cell? ⟨gb221, 2, none⟩ = some (.int .i64 a0_2) := (uE BK221.out 2).trans rfl; have hcz27_3 : w26.cell? ⟨gb221, 3, none⟩ = some (.int .i64 a0_3) := (uE BK221.out 3).trans rfl; have hcz27_4 : w26.cell? ⟨gb221, 4, none⟩ = some (.int .i64 a0_4) := (uE BK221.out 4).trans rfl; have hcz27_5 : w26.cell? ⟨gb221, 5, none⟩ = some (.int .i64 a0_5) := (uE BK221.out 5).trans rfl; have hfz27_0 := uD BK221.out 0; have hfz27_1 := uD BK221.out 1; have hfz27_2 := uD BK221.out 2; have hfz27_3 := uD BK221.out 3; have hfz27_4 := uD BK221.out 4; have hfz27_5 := uD BK221.out 5) | ((with_reducible refine uU (f := 65) rfl ?_); refine vE (some 5) rfl rfl Try.func65 (by kernel_rfl) rfl #[.int .i64 a0_0, .int .i64 0, .int .i64 2] rfl (by (try simp only [vV, List.map_cons, List.map_nil]); first | done | rfl | (simp only [vX, vW]; rfl)) ?_; (with_reducible refine (impl_within.calls a0_0 0 2 true _ A2.out).mono ?_); rintro e w' ⟨rfl, ⟨nd, rfl⟩⟩; refine ⟨_, rfl, ?_⟩) | (go_at_call 65; (with_reducible refine (impl_within.calls a0_1 1 99 true _ A4.out).mono ?_); rintro e w' ⟨rfl, ⟨nd, rfl⟩⟩) | (go_at_call 65; (with_reducible refine (impl_within.calls a0_3 0 2 true _ A6.out).mono ?_); rintro e w' ⟨rfl, ⟨nd, rfl⟩⟩) | (go_at_call 65; (with_reducible refine (impl_within.calls a0_5 0 9 false _ A8.out).mono ?_); rintro e w' ⟨rfl, ⟨nd, rfl⟩⟩))
    go_ret
    exact ⟨by first | rfl | (simp [errW_none, errW_some] <;> rfl) | (simp [*, errW_none, errW_some] <;> rfl), by repeat (first | (with_reducible first | exact HB.out | apply uC | apply uA | apply uB | refine uF ?_ GE221.out) | exact HB.out)⟩
  subst c9
  have H1 : (if a0_2 = 1 then (if a0_4 = 0 then (some true) else (if a0_2 = 2 then ((impl_within.f a0_4 0 9).bind fun t226 => (some t226)) else (some false))) else (if a0_2 = 2 then ((impl_within.f a0_4 0 9).bind fun t227 => (some t227)) else (some false))) = some r := by first | (rw [if_pos rfl] at H; exact H) | rfl
  clear H
  have H := H1
  clear H1
  by_cases c10 : a0_2 = 1
  rotate_left
  · rw [if_neg c10] at H
    have c10b0 : (a0_2 == 1) = false := beq_eq_false_iff_ne.mpr c10
    have c10b1 : (a0_2 != 1) = true := bne_iff_ne.mpr c10
    by_cases c20 : a0_2 = 2
    rotate_left
    · rw [if_neg c20] at H
      have c20b0 : (a0_2 == 2) = false := beq_eq_false_iff_ne.mpr c20
      have c20b1 : (a0_2 != 2) = true := bne_iff_ne.mpr c20
      obtain rfl := Option.some.inj H
      go_enter Try.func50, Try.ntmps50
      go_wp2_with (first | ((with_reducible refine uS (N := 1) rfl ?_); refine uR ?hg (N := 1) ?hd (cs := #[.int .i64 a0_0, .int .i64 a0_1, .int .i64 a0_2, .int .i64 a0_3, .int .i64 a0_4, .int .i64 a0_5]) (t := 37) ?hr ?_; (case hd => rfl); (case hg => rfl); (case hr => first | (go_simp; done) | (go_simp; rfl)); intro gb221 hg w24 hbox hb; have n0_ := Aside0.mk (uP (by repeat (first | (with_reducible first | exact HB.out | apply uC | apply uA | apply uB) | exact HB.out)) hb); have n1_ := Aside0.mk (hbox); have n2_ := Aside0.mk ((by rw [hg]; exact (uK (by repeat (first | (with_reducible first | exact HB.out | apply uC | apply uA | apply uB) | exact HB.out))) : w.heap.size ≤ gb221)); have n3_ := Aside0.mk ((by rw [hg]; exact (uK (by repeat (first | (with_reducible first | exact HB.out | apply uC | apply uA | apply uB) | exact HB.out))) : w.heap.size ≤ gb221)); clear HB; have HB := n0_; have BK221 := n1_; have GW221 := n2_; have GE221 := n3_; clear n0_ n1_ n2_ n3_; clear hb hbox hg; have hcz25_0 : w24.cell? ⟨gb221, 0, none⟩ = some (.int .i64 a0_0) := (uE BK221.out 0).trans rfl; have hcz25_1 : w24.cell? ⟨gb221, 1, none⟩ = some (.int .i64 a0_1) := (uE BK221.out 1).trans rfl; have hcz25_2 : w24.cell? ⟨gb221, 2, none⟩ = some (.int .i64 a0_2) := (uE BK221.out 2).trans rfl; have hcz25_3 : w24.cell? ⟨gb221, 3, none⟩ = some (.int .i64 a0_3) := (uE BK221.out 3).trans rfl; have hcz25_4 : w24.cell? ⟨gb221, 4, none⟩ = some (.int .i64 a0_4) := (uE BK221.out 4).trans rfl; have hcz25_5 : w24.cell? ⟨gb221, 5, none⟩ = some (.int .i64 a0_5) := (uE BK221.out 5).trans rfl; have hfz25_0 := uD BK221.out 0; have hfz25_1 := uD BK221.out 1; have hfz25_2 := uD BK221.out 2; have hfz25_3 := uD BK221.out 3; have hfz25_4 := uD BK221.out 4; have hfz25_5 := uD BK221.out 5) | ((with_reducible refine uU (f := 65) rfl ?_); refine vE (some 5) rfl rfl Try.func65 (by kernel_rfl) rfl #[.int .i64 a0_0, .int .i64 0, .int .i64 2] rfl (by (try simp only [vV, List.map_cons, List.map_nil]); first | done | rfl | (simp only [vX, vW]; rfl)) ?_; (with_reducible refine (impl_within.calls a0_0 0 2 true _ A2.out).mono ?_); rintro e w' ⟨rfl, ⟨nd, rfl⟩⟩; refine ⟨_, rfl, ?_⟩) | (go_at_call 65; (with_reducible refine (impl_within.calls a0_1 1 99 true _ A4.out).mono ?_); rintro e w' ⟨rfl, ⟨nd, rfl⟩⟩) | (go_at_call 65; (with_reducible refine (impl_within.calls a0_3 0 2 true _ A6.out).mono ?_); rintro e w' ⟨rfl, ⟨nd, rfl⟩⟩) | (go_at_call 65; (with_reducible refine (impl_within.calls a0_5 0 9 true _ A8.out).mono ?_); rintro e w' ⟨rfl, ⟨nd, rfl⟩⟩))
      go_ret
      exact ⟨by first | rfl | (simp [errW_none, errW_some] <;> rfl) | (simp [*, errW_none, errW_some] <;> rfl), by repeat (first | (with_reducible first | exact HB.out | apply uC | apply uA | apply uB | refine uF ?_ GE221.out) | exact HB.out)⟩
    rw [if_pos c20] at H
    have c20b0 : (a0_2 == 2) = true := beq_iff_eq.mpr c20
    have c20b1 : (a0_2 != 2) = false := bne_eq_false_iff_eq.mpr c20
    clear c20
    replace H := Option.bind_eq_some_iff.mp H
    obtain ⟨t227, A210, H⟩ := H
    replace H : (some t227) = some r := H
    have A21 := Aside0.mk A210
    clear A210
    obtain rfl := Option.some.inj H
    go_enter Try.func50, Try.ntmps50
    go_wp2_with (first | ((with_reducible refine uS (N := 1) rfl ?_); refine uR ?hg (N := 1) ?hd (cs := #[.int .i64 a0_0, .int .i64 a0_1, .int .i64 a0_2, .int .i64 a0_3, .int .i64 a0_4, .int .i64 a0_5]) (t := 37) ?hr ?_; (case hd => rfl); (case hg => rfl); (case hr => first | (go_simp; done) | (go_simp; rfl)); intro gb221 hg w22 hbox hb; have n0_ := Aside0.mk (uP (by repeat (first | (with_reducible first | exact HB.out | apply uC | apply uA | apply uB) | exact HB.out)) hb); have n1_ := Aside0.mk (hbox); have n2_ := Aside0.mk ((by rw [hg]; exact (uK (by repeat (first | (with_reducible first | exact HB.out | apply uC | apply uA | apply uB) | exact HB.out))) : w.heap.size ≤ gb221)); have n3_ := Aside0.mk ((by rw [hg]; exact (uK (by repeat (first | (with_reducible first | exact HB.out | apply uC | apply uA | apply uB) | exact HB.out))) : w.heap.size ≤ gb221)); clear HB; have HB := n0_; have BK221 := n1_; have GW221 := n2_; have GE221 := n3_; clear n0_ n1_ n2_ n3_; clear hb hbox hg; have hcz23_0 : w22.cell? ⟨gb221, 0, none⟩ = some (.int .i64 a0_0) := (uE BK221.out 0).trans rfl; have hcz23_1 : w22.cell? ⟨gb221, 1, none⟩ = some (.int .i64 a0_1) := (uE BK221.out 1).trans rfl; have hcz23_2 : w22.cell? ⟨gb221, 2, none⟩ = some (.int .i64 a0_2) := (uE BK221.out 2).trans rfl; have hcz23_3 : w22.cell? ⟨gb221, 3, none⟩ = some (.int .i64 a0_3) := (uE BK221.out 3).trans rfl; have hcz23_4 : w22.cell? ⟨gb221, 4, none⟩ = some (.int .i64 a0_4) := (uE BK221.out 4).trans rfl; have hcz23_5 : w22.cell? ⟨gb221, 5, none⟩ = some (.int .i64 a0_5) := (uE BK221.out 5).trans rfl; have hfz23_0 := uD BK221.out 0; have hfz23_1 := uD BK221.out 1; have hfz23_2 := uD BK221.out 2; have hfz23_3 := uD BK221.out 3; have hfz23_4 := uD BK221.out 4; have hfz23_5 := uD BK221.out 5) | ((with_reducible refine uU (f := 65) rfl ?_); refine vE (some 5) rfl rfl Try.func65 (by kernel_rfl) rfl #[.int .i64 a0_0, .int .i64 0, .int .i64 2] rfl (by (try simp only [vV, List.map_cons, List.map_nil]); first | done | rfl | (simp only [vX, vW]; rfl)) ?_; (with_reducible refine (impl_within.calls a0_0 0 2 true _ A2.out).mono ?_); rintro e w' ⟨rfl, ⟨nd, rfl⟩⟩; refine ⟨_, rfl, ?_⟩) | (go_at_call 65; (with_reducible refine (impl_within.calls a0_1 1 99 true _ A4.out).mono ?_); rintro e w' ⟨rfl, ⟨nd, rfl⟩⟩) | (go_at_call 65; (with_reducible refine (impl_within.calls a0_3 0 2 true _ A6.out).mono ?_); rintro e w' ⟨rfl, ⟨nd, rfl⟩⟩) | (go_at_call 65; (with_reducible refine (impl_within.calls a0_5 0 9 true _ A8.out).mono ?_); rintro e w' ⟨rfl, ⟨nd, rfl⟩⟩) | (go_at_call 65; (with_reducible refine (impl_within.calls a0_4 0 9 t227 _ A21.out).mono ?_); rintro e w' ⟨rfl, ⟨nd, rfl⟩⟩))
    go_ret
    exact ⟨by first | rfl | (simp [errW_none, errW_some] <;> rfl) | (simp [*, errW_none, errW_some] <;> rfl), by repeat (first | (with_reducible first | exact HB.out | apply uC | apply uA | apply uB | refine uF ?_ GE221.out) | exact HB.out)⟩
  rw [if_pos c10] at H
  have c10b0 : (a0_2 == 1) = true := beq_iff_eq.mpr c10
  have c10b1 : (a0_2 != 1) = false := bne_eq_false_iff_eq.mpr c10
  clear c10
  by_cases c11 : a0_4 = 0
  · rw [if_pos c11] at H
    have c11b0 : (a0_4 == 0) = true := beq_iff_eq.mpr c11
    have c11b1 : (a0_4 != 0) = false := bne_eq_false_iff_eq.mpr c11
    clear c11
    obtain rfl := Option.some.inj H
    go_enter Try.func50, Try.ntmps50
    go_wp2_with (first | ((with_reducible refine uS (N := 1) rfl ?_); refine uR ?hg (N := 1) ?hd (cs := #[.int .i64 a0_0, .int .i64 a0_1, .int .i64 a0_2, .int .i64 a0_3, .int .i64 a0_4, .int .i64 a0_5]) (t := 37) ?hr ?_; (case hd => rfl); (case hg => rfl); (case hr => first | (go_simp; done) | (go_simp; rfl)); intro gb221 hg w12 hbox hb; have n0_ := Aside0.mk (uP (by repeat (first | (with_reducible first | exact HB.out | apply uC | apply uA | apply uB) | exact HB.out)) hb); have n1_ := Aside0.mk (hbox); have n2_ := Aside0.mk ((by rw [hg]; exact (uK (by repeat (first | (with_reducible first | exact HB.out | apply uC | apply uA | apply uB) | exact HB.out))) : w.heap.size ≤ gb221)); have n3_ := Aside0.mk ((by rw [hg]; exact (uK (by repeat (first | (with_reducible first | exact HB.out | apply uC | apply uA | apply uB) | exact HB.out))) : w.heap.size ≤ gb221)); clear HB; have HB := n0_; have BK221 := n1_; have GW221 := n2_; have GE221 := n3_; clear n0_ n1_ n2_ n3_; clear hb hbox hg; have hcz13_0 : w12.cell? ⟨gb221, 0, none⟩ = some (.int .i64 a0_0) := (uE BK221.out 0).trans rfl; have hcz13_1 : w12.cell? ⟨gb221, 1, none⟩ = some (.int .i64 a0_1) := (uE BK221.out 1).trans rfl; have hcz13_2 : w12.cell? ⟨gb221, 2, none⟩ = some (.int .i64 a0_2) := (uE BK221.out 2).trans rfl; have hcz13_3 : w12.cell? ⟨gb221, 3, none⟩ = some (.int .i64 a0_3) := (uE BK221.out 3).trans rfl; have hcz13_4 : w12.cell? ⟨gb221, 4, none⟩ = some (.int .i64 a0_4) := (uE BK221.out 4).trans rfl; have hcz13_5 : w12.cell? ⟨gb221, 5, none⟩ = some (.int .i64 a0_5) := (uE BK221.out 5).trans rfl; have hfz13_0 := uD BK221.out 0; have hfz13_1 := uD BK221.out 1; have hfz13_2 := uD BK221.out 2; have hfz13_3 := uD BK221.out 3; have hfz13_4 := uD BK221.out 4; have hfz13_5 := uD BK221.out 5) | ((with_reducible refine uU (f := 65) rfl ?_); refine vE (some 5) rfl rfl Try.func65 (by kernel_rfl) rfl #[.int .i64 a0_0, .int .i64 0, .int .i64 2] rfl (by (try simp only [vV, List.map_cons, List.map_nil]); first | done | rfl | (simp only [vX, vW]; rfl)) ?_; (with_reducible refine (impl_within.calls a0_0 0 2 true _ A2.out).mono ?_); rintro e w' ⟨rfl, ⟨nd, rfl⟩⟩; refine ⟨_, rfl, ?_⟩) | (go_at_call 65; (with_reducible refine (impl_within.calls a0_1 1 99 true _ A4.out).mono ?_); rintro e w' ⟨rfl, ⟨nd, rfl⟩⟩) | (go_at_call 65; (with_reducible refine (impl_within.calls a0_3 0 2 true _ A6.out).mono ?_); rintro e w' ⟨rfl, ⟨nd, rfl⟩⟩) | (go_at_call 65; (with_reducible refine (impl_within.calls a0_5 0 9 true _ A8.out).mono ?_); rintro e w' ⟨rfl, ⟨nd, rfl⟩⟩))
    go_ret
    exact ⟨by first | rfl | (simp [errW_none, errW_some] <;> rfl) | (simp [*, errW_none, errW_some] <;> rfl), by repeat (first | (with_reducible first | exact HB.out | apply uC | apply uA | apply uB | refine uF ?_ GE221.out) | exact HB.out)⟩
  rw [if_neg c11] at H
  have c11b0 : (a0_4 == 0) = false := beq_eq_false_iff_ne.mpr c11
  have c11b1 : (a0_4 != 0) = true := bne_iff_ne.mpr c11
  by_cases c14 : a0_2 = 2
  rotate_left
  · rw [if_neg c14] at H
    have c14b0 : (a0_2 == 2) = false := beq_eq_false_iff_ne.mpr c14
    have c14b1 : (a0_2 != 2) = true := bne_iff_ne.mpr c14
    obtain rfl := Option.some.inj H
    go_enter Try.func50, Try.ntmps50
    go_wp2_with (first | ((with_reducible refine uS (N := 1) rfl ?_); refine uR ?hg (N := 1) ?hd (cs := #[.int .i64 a0_0, .int .i64 a0_1, .int .i64 a0_2, .int .i64 a0_3, .int .i64 a0_4, .int .i64 a0_5]) (t := 37) ?hr ?_; (case hd => rfl); (case hg => rfl); (case hr => first | (go_simp; done) | (go_simp; rfl)); intro gb221 hg w18 hbox hb; have n0_ := Aside0.mk (uP (by repeat (first | (with_reducible first | exact HB.out | apply uC | apply uA | apply uB) | exact HB.out)) hb); have n1_ := Aside0.mk (hbox); have n2_ := Aside0.mk ((by rw [hg]; exact (uK (by repeat (first | (with_reducible first | exact HB.out | apply uC | apply uA | apply uB) | exact HB.out))) : w.heap.size ≤ gb221)); have n3_ := Aside0.mk ((by rw [hg]; exact (uK (by repeat (first | (with_reducible first | exact HB.out | apply uC | apply uA | apply uB) | exact HB.out))) : w.heap.size ≤ gb221)); clear HB; have HB := n0_; have BK221 := n1_; have GW221 := n2_; have GE221 := n3_; clear n0_ n1_ n2_ n3_; clear hb hbox hg; have hcz19_0 : w18.cell? ⟨gb221, 0, none⟩ = some (.int .i64 a0_0) := (uE BK221.out 0).trans rfl; have hcz19_1 : w18.cell? ⟨gb221, 1, none⟩ = some (.int .i64 a0_1) := (uE BK221.out 1).trans rfl; have hcz19_2 : w18.cell? ⟨gb221, 2, none⟩ = some (.int .i64 a0_2) := (uE BK221.out 2).trans rfl; have hcz19_3 : w18.cell? ⟨gb221, 3, none⟩ = some (.int .i64 a0_3) := (uE BK221.out 3).trans rfl; have hcz19_4 : w18.cell? ⟨gb221, 4, none⟩ = some (.int .i64 a0_4) := (uE BK221.out 4).trans rfl; have hcz19_5 : w18.cell? ⟨gb221, 5, none⟩ = some (.int .i64 a0_5) := (uE BK221.out 5).trans rfl; have hfz19_0 := uD BK221.out 0; have hfz19_1 := uD BK221.out 1; have hfz19_2 := uD BK221.out 2; have hfz19_3 := uD BK221.out 3; have hfz19_4 := uD BK221.out 4; have hfz19_5 := uD BK221.out 5) | ((with_reducible refine uU (f := 65) rfl ?_); refine vE (some 5) rfl rfl Try.func65 (by kernel_rfl) rfl #[.int .i64 a0_0, .int .i64 0, .int .i64 2] rfl (by (try simp only [vV, List.map_cons, List.map_nil]); first | done | rfl | (simp only [vX, vW]; rfl)) ?_; (with_reducible refine (impl_within.calls a0_0 0 2 true _ A2.out).mono ?_); rintro e w' ⟨rfl, ⟨nd, rfl⟩⟩; refine ⟨_, rfl, ?_⟩) | (go_at_call 65; (with_reducible refine (impl_within.calls a0_1 1 99 true _ A4.out).mono ?_); rintro e w' ⟨rfl, ⟨nd, rfl⟩⟩) | (go_at_call 65; (with_reducible refine (impl_within.calls a0_3 0 2 true _ A6.out).mono ?_); rintro e w' ⟨rfl, ⟨nd, rfl⟩⟩) | (go_at_call 65; (with_reducible refine (impl_within.calls a0_5 0 9 true _ A8.out).mono ?_); rintro e w' ⟨rfl, ⟨nd, rfl⟩⟩))
    go_ret
    exact ⟨by first | rfl | (simp [errW_none, errW_some] <;> rfl) | (simp [*, errW_none, errW_some] <;> rfl), by repeat (first | (with_reducible first | exact HB.out | apply uC | apply uA | apply uB | refine uF ?_ GE221.out) | exact HB.out)⟩
  rw [if_pos c14] at H
  have c14b0 : (a0_2 == 2) = true := beq_iff_eq.mpr c14
  have c14b1 : (a0_2 != 2) = false := bne_eq_false_iff_eq.mpr c14
  clear c14
  replace H := Option.bind_eq_some_iff.mp H
  obtain ⟨t226, A150, H⟩ := H
  replace H : (some t226) = some r := H
  have A15 := Aside0.mk A150
  clear A150
  obtain rfl := Option.some.inj H
  go_enter Try.func50, Try.ntmps50
  go_wp2_with (first | ((with_reducible refine uS (N := 1) rfl ?_); refine uR ?hg (N := 1) ?hd (cs := #[.int .i64 a0_0, .int .i64 a0_1, .int .i64 a0_2, .int .i64 a0_3, .int .i64 a0_4, .int .i64 a0_5]) (t := 37) ?hr ?_; (case hd => rfl); (case hg => rfl); (case hr => first | (go_simp; done) | (go_simp; rfl)); intro gb221 hg w16 hbox hb; have n0_ := Aside0.mk (uP (by repeat (first | (with_reducible first | exact HB.out | apply uC | apply uA | apply uB) | exact HB.out)) hb); have n1_ := Aside0.mk (hbox); have n2_ := Aside0.mk ((by rw [hg]; exact (uK (by repeat (first | (with_reducible first | exact HB.out | apply uC | apply uA | apply uB) | exact HB.out))) : w.heap.size ≤ gb221)); have n3_ := Aside0.mk ((by rw [hg]; exact (uK (by repeat (first | (with_reducible first | exact HB.out | apply uC | apply uA | apply uB) | exact HB.out))) : w.heap.size ≤ gb221)); clear HB; have HB := n0_; have BK221 := n1_; have GW221 := n2_; have GE221 := n3_; clear n0_ n1_ n2_ n3_; clear hb hbox hg; have hcz17_0 : w16.cell? ⟨gb221, 0, none⟩ = some (.int .i64 a0_0) := (uE BK221.out 0).trans rfl; have hcz17_1 : w16.cell? ⟨gb221, 1, none⟩ = some (.int .i64 a0_1) := (uE BK221.out 1).trans rfl; have hcz17_2 : w16.cell? ⟨gb221, 2, none⟩ = some (.int .i64 a0_2) := (uE BK221.out 2).trans rfl; have hcz17_3 : w16.cell? ⟨gb221, 3, none⟩ = some (.int .i64 a0_3) := (uE BK221.out 3).trans rfl; have hcz17_4 : w16.cell? ⟨gb221, 4, none⟩ = some (.int .i64 a0_4) := (uE BK221.out 4).trans rfl; have hcz17_5 : w16.cell? ⟨gb221, 5, none⟩ = some (.int .i64 a0_5) := (uE BK221.out 5).trans rfl; have hfz17_0 := uD BK221.out 0; have hfz17_1 := uD BK221.out 1; have hfz17_2 := uD BK221.out 2; have hfz17_3 := uD BK221.out 3; have hfz17_4 := uD BK221.out 4; have hfz17_5 := uD BK221.out 5) | ((with_reducible refine uU (f := 65) rfl ?_); refine vE (some 5) rfl rfl Try.func65 (by kernel_rfl) rfl #[.int .i64 a0_0, .int .i64 0, .int .i64 2] rfl (by (try simp only [vV, List.map_cons, List.map_nil]); first | done | rfl | (simp only [vX, vW]; rfl)) ?_; (with_reducible refine (impl_within.calls a0_0 0 2 true _ A2.out).mono ?_); rintro e w' ⟨rfl, ⟨nd, rfl⟩⟩; refine ⟨_, rfl, ?_⟩) | (go_at_call 65; (with_reducible refine (impl_within.calls a0_1 1 99 true _ A4.out).mono ?_); rintro e w' ⟨rfl, ⟨nd, rfl⟩⟩) | (go_at_call 65; (with_reducible refine (impl_within.calls a0_3 0 2 true _ A6.out).mono ?_); rintro e w' ⟨rfl, ⟨nd, rfl⟩⟩) | (go_at_call 65; (with_reducible refine (impl_within.calls a0_5 0 9 true _ A8.out).mono ?_); rintro e w' ⟨rfl, ⟨nd, rfl⟩⟩) | (go_at_call 65; (with_reducible refine (impl_within.calls a0_4 0 9 t226 _ A15.out).mono ?_); rintro e w' ⟨rfl, ⟨nd, rfl⟩⟩))
  go_ret
  exact ⟨by first | rfl | (simp [errW_none, errW_some] <;> rfl) | (simp [*, errW_none, errW_some] <;> rfl), by repeat (first | (with_reducible first | exact HB.out | apply uC | apply uA | apply uB | refine uF ?_ GE221.out) | exact HB.out)⟩

/-! ### impl_SessionOf: function 22 -/
def impl_SessionOf.l0 : Nat → Int → List (S49) → Int → Int → Option (Int × Int × Bool × Int × Bool)
  | 0, _, _, _, _ => none
  | k + 1, x1, x9, x10, x11 => if x11 < x10 then (if 0 ≤ x11 then (if x11 < (x9.length : Int) then (if ((rd_T49 x9 x11).f0) = x1 then (some ((rd_T49 x9 x11).f0, (rd_T49 x9 x11).f1, (rd_T49 x9 x11).f2.f0, (rd_T49 x9 x11).f2.f1, true)) else (impl_SessionOf.l0 k x1 x9 x10 (wrap64 (x11 + 1)))) else (none)) else (none)) else (some (0, 0, false, 0, false))
def impl_SessionOf.f (k : Nat) (l0_0 : List Int) (l0_1 : List (S49)) (a1 : Int) : Option (Int × Int × Bool × Int × Bool) := impl_SessionOf.l0 k a1 l0_1 (l0_1.length : Int) 0
theorem impl_SessionOf.mono_l : ∀ k, (∀ y0 y1 y2 y3, uV (impl_SessionOf.l0 k y0 y1 y2 y3) (impl_SessionOf.l0 (k + 1) y0 y1 y2 y3))
  | 0 => fun _ _ _ _ r h => by simp [impl_SessionOf.l0] at h
  | k + 1 => by
    have ih0 := impl_SessionOf.mono_l k
    intro y0 y1 y2 y3
    unfold impl_SessionOf.l0
    repeat' first
    | (with_reducible exact ih0 _ _ _ _)
    | (with_reducible exact uV.refl _)
    | (with_reducible exact uV.none _)
    | (with_reducible refine uV.ite ?_ ?_)
    | (with_reducible refine uV.bind ?_ (fun _ => ?_))
    | exact ih0 _ _ _ _
    | exact uV.none _
    | refine uV.ite ?_ ?_
    | refine uV.bind ?_ (fun _ => ?_)
theorem impl_SessionOf.mono : ∀ a0 a1 a2 k, uV (impl_SessionOf.f k a0 a1 a2) (impl_SessionOf.f (k + 1) a0 a1 a2) := by
  intro a0 a1 a2 k
  have ih0 := impl_SessionOf.mono_l k
  unfold impl_SessionOf.f
  repeat' first
      | (with_reducible exact ih0 _ _ _ _)
      | (with_reducible exact uV.refl _)
      | (with_reducible exact uV.none _)
      | (with_reducible refine uV.ite ?_ ?_)
      | (with_reducible refine uV.bind ?_ (fun _ => ?_))
      | exact ih0 _ _ _ _
      | exact uV.none _
      | refine uV.ite ?_ ?_
      | refine uV.bind ?_ (fun _ => ?_)
set_option maxHeartbeats 8000000 in
set_option maxRecDepth 100000 in
theorem impl_SessionOf.calls (k : Nat) (A0_0 : Option Addr) (c0_0 : Nat) (l0_0 : List Int) (A0_1 : Option Addr) (c0_1 : Nat) (l0_1 : List (S49)) (a1 : Int) (r1 : Int) (r2 : Int) (r3 : Bool) (r4 : Int) (r5 : Bool) (w : World) (hr0_0 : Kd.C (Kd.int .i64) w A0_0 l0_0.length l0_0) (hc0_0 : l0_0.length ≤ c0_0) (hr0_1 : Kd.C k49 w A0_1 l0_1.length l0_1) (hc0_1 : l0_1.length ≤ c0_1) (h : impl_SessionOf.f k l0_0 l0_1 a1 = some (r1, r2, r3, r4, r5)) :
    Calls Try.prog 22 #[.agg #[.slice A0_0 l0_0.length c0_0, .slice A0_1 l0_1.length c0_1], .int .i64 a1] w fun e w' => e = .returned (.tuple #[.agg #[.int .i64 r1, .int .i64 r2, .bool r3, .int .i64 r4], .bool r5]) ∧ Below w.heap.size w w' := by
  have hu31 := Try.underlying31
  have hu49 := Try.underlying49
  have HR0_0 := Aside0.mk hr0_0
  have HC0_0 := Aside0.mk hc0_0
  clear hr0_0 hc0_0
  have HR0_1 := Aside0.mk hr0_1
  have HC0_1 := Aside0.mk hc0_1
  clear hr0_1 hc0_1
  have HB := Aside0.mk (Below.refl w.heap.size w)
  have H : (impl_SessionOf.l0 k a1 l0_1 (l0_1.length : Int) 0) = some (r1, r2, r3, r4, r5) := h
  clear h
  have H' := Aside0.mk H
  clear H
  go_enter Try.func22, Try.ntmps22
  go_wp2_with (first | ((with_reducible refine uS (N := 2) rfl ?_); refine uR ?hg (N := 2) ?hd (cs := #[.slice A0_0 l0_0.length c0_0, .slice A0_1 l0_1.length c0_1]) (t := 31) ?hr ?_; (case hd => rfl); (case hg => rfl); (case hr => first | (go_simp; done) | (go_simp; rfl)); intro gb228 hg w3 hbox hb; have n0_ := Aside0.mk (uP (by repeat (first | (with_reducible first | exact HB.out | apply uC | apply uA | apply uB) | exact HB.out)) hb); have n1_ := Aside0.mk (hbox); have n2_ := Aside0.mk ((by rw [hg]; exact (uK (by repeat (first | (with_reducible first | exact HB.out | apply uC | apply uA | apply uB) | exact HB.out))) : w.heap.size ≤ gb228)); have n3_ := Aside0.mk ((by rw [hg]; exact (uK (by repeat (first | (with_reducible first | exact HB.out | apply uC | apply uA | apply uB) | exact HB.out))) : w.heap.size ≤ gb228)); clear HB; have HB := n0_; have BK228 := n1_; have GW228 := n2_; have GE228 := n3_; clear n0_ n1_ n2_ n3_; clear hb hbox hg) | ((with_reducible refine uS (N := 4) rfl ?_); refine uR ?hg (N := 4) ?hd (cs := #[.int .i64 0, .int .i64 0, .bool false, .int .i64 0]) (t := 49) ?hr ?_; (case hd => rfl); (case hg => rfl); (case hr => first | (go_simp; done) | (go_simp; rfl)); intro gb229 hg w4 hbox hb; have n0_ := Aside0.mk (uT (g := gb228) (o := .cells #[.slice A0_0 l0_0.length c0_0, .slice A0_1 l0_1.length c0_1] 31 (0, 0)) (by (with_reducible repeat (first | refine uG ?_ _ | refine uI ?_ | refine uH ?_ _)); exact BK228.out) hb); have n1_ := Aside0.mk (uP (by repeat (first | (with_reducible first | exact HB.out | apply uC | apply uA | apply uB | refine uF ?_ GE228.out) | exact HB.out)) hb); have n2_ := Aside0.mk (hbox); have n3_ := Aside0.mk ((by rw [hg]; exact (uK (by repeat (first | (with_reducible first | exact HB.out | apply uC | apply uA | apply uB | refine uF ?_ GE228.out) | exact HB.out))) : w.heap.size ≤ gb229)); have n4_ := Aside0.mk ((by rw [hg]; exact (uK (by repeat (first | (with_reducible first | exact HB.out | apply uC | apply uA | apply uB | refine uF ?_ GE228.out) | exact HB.out))) : w.heap.size ≤ gb229)); have n5_ := Aside0.mk ((by rw [hg]; exact Nat.ne_of_lt (vG (g := gb228) (o := .cells #[.slice A0_0 l0_0.length c0_0, .slice A0_1 l0_1.length c0_1] 31 (0, 0)) (by (with_reducible repeat (first | refine uG ?_ _ | refine uI ?_ | refine uH ?_ _)); exact BK228.out)) : gb228 ≠ gb229)); have n6_ := Aside0.mk ((by rw [hg]; exact Nat.ne_of_gt (vG (g := gb228) (o := .cells #[.slice A0_0 l0_0.length c0_0, .slice A0_1 l0_1.length c0_1] 31 (0, 0)) (by (with_reducible repeat (first | refine uG ?_ _ | refine uI ?_ | refine uH ?_ _)); exact BK228.out)) : gb229 ≠ gb228)); clear BK228; clear HB; have BK228 := n0_; have HB := n1_; have BK229 := n2_; have GW229 := n3_; have GE229 := n4_; have NB228_229 := n5_; have NB229_228 := n6_; clear n0_ n1_ n2_ n3_ n4_ n5_ n6_; clear hb hbox hg; have hnb5 := NB228_229.out; have hnc5 := NB229_228.out; have hcz6_0 : w4.cell? ⟨gb228, 0, none⟩ = some (.slice A0_0 l0_0.length c0_0) := (uE BK228.out 0).trans rfl; have hcz6_1 : w4.cell? ⟨gb228, 1, none⟩ = some (.slice A0_1 l0_1.length c0_1) := (uE BK228.out 1).trans rfl; have hfz6_0 := uD BK228.out 0; have hfz6_1 := uD BK228.out 1))
  go_loopg [11] k (fun kq v11 w' => ∃ (x11_1 : Int) (x230000_1 : Int) (x230001_1 : Int) (x230002_1 : Bool) (x230003_1 : Int), v11 = .int .i64 x11_1 ∧ Aside0 (impl_SessionOf.l0 kq a1 l0_1 (l0_1.length : Int) x11_1 = some (r1, r2, r3, r4, r5)) ∧ Aside0 (kq ≤ k) ∧ Aside0 (w'.heap[gb228]? = some (.cells #[(.slice A0_0 l0_0.length c0_0), (.slice A0_1 l0_1.length c0_1)] 31 (0, 0))) ∧ Aside0 (w'.heap[gb229]? = some (.cells #[.int .i64 x230000_1, .int .i64 x230001_1, .bool x230002_1, .int .i64 x230003_1] 49 (0, 0))) ∧ Aside0 (Below w.heap.size w w'))
  case atStart => exact ⟨(0), (0), (0), (false), (0), (by first | rfl | (simp; done) | (simp [*]; done)), H', ⟨Nat.le_refl _⟩, ⟨by (with_reducible repeat (first | refine uG ?_ _ | refine uI ?_ | refine uH ?_ _)); exact BK228.out⟩, ⟨by (with_reducible repeat (first | refine uG ?_ _ | refine uI ?_ | refine uH ?_ _)); exact BK229.out⟩, ⟨by repeat (first | (with_reducible first | exact HB.out | apply uC | apply uA | apply uB | refine uF ?_ GE228.out | refine uF ?_ GE229.out) | exact HB.out)⟩⟩
  case round =>
    clear H'
    try clear c2
    try clear p2
    try clear c5
    try clear hcz6_0
    try clear hcz6_1
    try clear hfz6_0
    try clear hfz6_1
    obtain ⟨x11_1, x230000_1, x230001_1, x230002_1, x230003_1, rfl, HA, HK1, BK228, BK229, HB⟩ := hrel
    cases gk with
    | zero => exact absurd HA.out (by simp [impl_SessionOf.l0])
    | succ k1 =>
      have H := HA.out
      clear HA
      simp only [impl_SessionOf.l0] at H
      by_cases c7 : x11_1 < (l0_1.length : Int)
      rotate_left
      · rw [if_neg c7] at H
        have c7b0 : decide (x11_1 < (l0_1.length : Int)) = false := decide_eq_false c7
        clear c7
        simp only [Option.some.injEq, Prod.mk.injEq] at H
        obtain ⟨rfl, rfl, rfl, rfl, rfl⟩ := H
        have hnb21 := NB229_228.out
        have hnc21 := NB228_229.out
        have hcz22_0 : wr.cell? ⟨gb229, 0, none⟩ = some (.int .i64 x230000_1) := (uE BK229.out 0).trans rfl
        have hcz22_1 : wr.cell? ⟨gb229, 1, none⟩ = some (.int .i64 x230001_1) := (uE BK229.out 1).trans rfl
        have hcz22_2 : wr.cell? ⟨gb229, 2, none⟩ = some (.bool x230002_1) := (uE BK229.out 2).trans rfl
        have hcz22_3 : wr.cell? ⟨gb229, 3, none⟩ = some (.int .i64 x230003_1) := (uE BK229.out 3).trans rfl
        have hfz22_0 := uD BK229.out 0
        have hfz22_1 := uD BK229.out 1
        have hfz22_2 := uD BK229.out 2
        have hfz22_3 := uD BK229.out 3
        go_wp2
        refine bodyPost_ret (results_ct rfl _ _ gb229 49 #[.int .i64 0, .int .i64 0, .bool false, .int .i64 0] (0, 0) _ rfl (by (with_reducible repeat (first | refine uG ?_ _ | refine uI ?_ | refine uH ?_ _)); refine vB (cs := #[.int .i64 0, .int .i64 0, .bool false, .int .i64 x230003_1]) ?_ 3 _ rfl; (with_reducible repeat (first | refine uG ?_ _ | refine uI ?_ | refine uH ?_ _)); refine vB (cs := #[.int .i64 0, .int .i64 0, .bool x230002_1, .int .i64 x230003_1]) ?_ 2 _ rfl; (with_reducible repeat (first | refine uG ?_ _ | refine uI ?_ | refine uH ?_ _)); refine vB (cs := #[.int .i64 0, .int .i64 x230001_1, .bool x230002_1, .int .i64 x230003_1]) ?_ 1 _ rfl; (with_reducible repeat (first | refine uG ?_ _ | refine uI ?_ | refine uH ?_ _)); refine vB (cs := #[.int .i64 x230000_1, .int .i64 x230001_1, .bool x230002_1, .int .i64 x230003_1]) ?_ 0 _ rfl; (with_reducible repeat (first | refine uG ?_ _ | refine uI ?_ | refine uH ?_ _)); exact BK229.out) Try.underlying49 rfl (by kernel_rfl)) rfl ?_
        exact ⟨by first | rfl | (simp [errW_none, errW_some] <;> rfl) | (simp [*, errW_none, errW_some] <;> rfl), by repeat (first | (with_reducible first | exact HB.out | apply uC | apply uA | apply uB | refine uF ?_ GE228.out | refine uF ?_ GE229.out) | exact HB.out)⟩
      rw [if_pos c7] at H
      have c7b0 : decide (x11_1 < (l0_1.length : Int)) = true := decide_eq_true c7
      clear c7
      by_cases c8 : 0 ≤ x11_1
      rotate_left
      · rw [if_neg c8] at H
        exact absurd H (by simp)
      rw [if_pos c8] at H
      have c8b0 : decide (0 ≤ x11_1) = true := decide_eq_true c8
      clear c8
      by_cases c9 : x11_1 < (l0_1.length : Int)
      rotate_left
      · rw [if_neg c9] at H
        exact absurd H (by simp)
      rw [if_pos c9] at H
      have c9b0 : decide (x11_1 < (l0_1.length : Int)) = true := decide_eq_true c9
      clear c9
      by_cases c10 : ((rd_T49 l0_1 x11_1).f0) = a1
      rotate_left
      · rw [if_neg c10] at H
        have c10b0 : (((rd_T49 l0_1 x11_1).f0) == a1) = false := beq_eq_false_iff_ne.mpr c10
        have c10b1 : (((rd_T49 l0_1 x11_1).f0) != a1) = true := bne_iff_ne.mpr c10
        have H' := Aside0.mk H
        clear H
        have p230 : 0 ≤ (x11_1 : Int) := of_decide_eq_true (by first | (with_reducible assumption) | assumption)
        have q230 : x11_1 < (l0_1.length : Int) := of_decide_eq_true (by first | (with_reducible assumption) | assumption)
        obtain ⟨ad230, e230, hx230_0, hx230_1, hx230_2, hx230_3⟩ := at_T49 HR0_1.out x11_1 p230 q230
        cases e230
        replace hx230_0 := (HB.out.cell (vY w _ hx230_0)).trans hx230_0
        replace hx230_1 := (HB.out.cell (vY w _ hx230_1)).trans hx230_1
        replace hx230_2 := (HB.out.cell (vY w _ hx230_2)).trans hx230_2
        replace hx230_3 := (HB.out.cell (vY w _ hx230_3)).trans hx230_3
        replace p230 := eq_true p230
        replace q230 := eq_true q230
        go_wp2_with (first | ((with_reducible refine uS (N := 7) rfl ?_); refine uR ?hg (N := 7) ?hd (cs := #[.int .i64 0, .int .i64 0, .bool false, .int .i64 0]) (t := 49) ?hr ?_; (case hd => rfl); (case hg => rfl); (case hr => first | (go_simp; done) | (go_simp; rfl)); intro gb231 hg w17 hbox hb; have n0_ := Aside0.mk (uT (g := gb228) (o := .cells #[.slice A0_0 l0_0.length c0_0, .slice (some ad230) l0_1.length c0_1] 31 (0, 0)) (by (with_reducible repeat (first | refine uG ?_ _ | refine uI ?_ | refine uH ?_ _)); exact BK228.out) hb); have n1_ := Aside0.mk (uT (g := gb229) (o := .cells #[.int .i64 x230000_1, .int .i64 x230001_1, .bool x230002_1, .int .i64 x230003_1] 49 (0, 0)) (by (with_reducible repeat (first | refine uG ?_ _ | refine uI ?_ | refine uH ?_ _)); exact BK229.out) hb); have n2_ := Aside0.mk (uP (by repeat (first | (with_reducible first | exact HB.out | apply uC | apply uA | apply uB | refine uF ?_ GE228.out | refine uF ?_ GE229.out) | exact HB.out)) hb); have n3_ := Aside0.mk (hbox); have n4_ := Aside0.mk ((by rw [hg]; exact (uK (by repeat (first | (with_reducible first | exact HB.out | apply uC | apply uA | apply uB | refine uF ?_ GE228.out | refine uF ?_ GE229.out) | exact HB.out))) : w.heap.size ≤ gb231)); have n5_ := Aside0.mk ((by rw [hg]; exact (uK (by repeat (first | (with_reducible first | exact HB.out | apply uC | apply uA | apply uB | refine uF ?_ GE228.out | refine uF ?_ GE229.out) | exact HB.out))) : w.heap.size ≤ gb231)); have n6_ := Aside0.mk ((by rw [hg]; exact Nat.ne_of_lt (vG (g := gb228) (o := .cells #[.slice A0_0 l0_0.length c0_0, .slice (some ad230) l0_1.length c0_1] 31 (0, 0)) (by (with_reducible repeat (first | refine uG ?_ _ | refine uI ?_ | refine uH ?_ _)); exact BK228.out)) : gb228 ≠ gb231)); have n7_ := Aside0.mk ((by rw [hg]; exact Nat.ne_of_gt (vG (g := gb228) (o := .cells #[.slice A0_0 l0_0.length c0_0, .slice (some ad230) l0_1.length c0_1] 31 (0, 0)) (by (with_reducible repeat (first | refine uG ?_ _ | refine uI ?_ | refine uH ?_ _)); exact BK228.out)) : gb231 ≠ gb228)); have n8_ := Aside0.mk ((by rw [hg]; exact Nat.ne_of_lt (vG (g := gb229) (o := .cells #[.int .i64 x230000_1, .int .i64 x230001_1, .bool x230002_1, .int .i64 x230003_1] 49 (0, 0)) (by (with_reducible repeat (first | refine uG ?_ _ | refine uI ?_ | refine uH ?_ _)); exact BK229.out)) : gb229 ≠ gb231)); have n9_ := Aside0.mk ((by rw [hg]; exact Nat.ne_of_gt (vG (g := gb229) (o := .cells #[.int .i64 x230000_1, .int .i64 x230001_1, .bool x230002_1, .int .i64 x230003_1] 49 (0, 0)) (by (with_reducible repeat (first | refine uG ?_ _ | refine uI ?_ | refine uH ?_ _)); exact BK229.out)) : gb231 ≠ gb229)); clear BK228; clear BK229; clear HB; have BK228 := n0_; have BK229 := n1_; have HB := n2_; have BK231 := n3_; have GW231 := n4_; have GE231 := n5_; have NB228_231 := n6_; have NB231_228 := n7_; have NB229_231 := n8_; have NB231_229 := n9_; clear n0_ n1_ n2_ n3_ n4_ n5_ n6_ n7_ n8_ n9_; clear hb hbox hg; have hnb18 := NB231_228.out; have hnc18 := NB228_231.out; have hnb19 := NB231_229.out; have hnc19 := NB229_231.out; have hcz20_0 : w17.cell? ⟨gb231, 0, none⟩ = some (.int .i64 0) := (uE BK231.out 0).trans rfl; have hcz20_1 : w17.cell? ⟨gb231, 1, none⟩ = some (.int .i64 0) := (uE BK231.out 1).trans rfl; have hcz20_2 : w17.cell? ⟨gb231, 2, none⟩ = some (.bool false) := (uE BK231.out 2).trans rfl; have hcz20_3 : w17.cell? ⟨gb231, 3, none⟩ = some (.int .i64 0) := (uE BK231.out 3).trans rfl; have hfz20_0 := uD BK231.out 0; have hfz20_1 := uD BK231.out 1; have hfz20_2 := uD BK231.out 2; have hfz20_3 := uD BK231.out 3))
        go_roundg k1
        case measure => have := HK1.out; omega
        case rel => exact ⟨(wrap64 (x11_1 + 1)), (x230000_1), (x230001_1), (x230002_1), (x230003_1), (by first | rfl | (simp; done) | (simp [*]; done)), H', ⟨by have := HK1.out; omega⟩, ⟨by (with_reducible repeat (first | refine uG ?_ _ | refine uI ?_ | refine uH ?_ _)); refine vI ?_ NB228_231.out _; (with_reducible repeat (first | refine uG ?_ _ | refine uI ?_ | refine uH ?_ _)); refine vI ?_ NB228_231.out _; (with_reducible repeat (first | refine uG ?_ _ | refine uI ?_ | refine uH ?_ _)); refine vI ?_ NB228_231.out _; (with_reducible repeat (first | refine uG ?_ _ | refine uI ?_ | refine uH ?_ _)); refine vI ?_ NB228_231.out _; (with_reducible repeat (first | refine uG ?_ _ | refine uI ?_ | refine uH ?_ _)); exact BK228.out⟩, ⟨by (with_reducible repeat (first | refine uG ?_ _ | refine uI ?_ | refine uH ?_ _)); refine vI ?_ NB229_231.out _; (with_reducible repeat (first | refine uG ?_ _ | refine uI ?_ | refine uH ?_ _)); refine vI ?_ NB229_231.out _; (with_reducible repeat (first | refine uG ?_ _ | refine uI ?_ | refine uH ?_ _)); refine vI ?_ NB229_231.out _; (with_reducible repeat (first | refine uG ?_ _ | refine uI ?_ | refine uH ?_ _)); refine vI ?_ NB229_231.out _; (with_reducible repeat (first | refine uG ?_ _ | refine uI ?_ | refine uH ?_ _)); exact BK229.out⟩, ⟨by repeat (first | (with_reducible first | exact HB.out | apply uC | apply uA | apply uB | refine uF ?_ GE228.out | refine uF ?_ GE229.out | refine uF ?_ GE231.out) | exact HB.out)⟩⟩
      rw [if_pos c10] at H
      have c10b0 : (((rd_T49 l0_1 x11_1).f0) == a1) = true := beq_iff_eq.mpr c10
      have c10b1 : (((rd_T49 l0_1 x11_1).f0) != a1) = false := bne_eq_false_iff_eq.mpr c10
      clear c10
      simp only [Option.some.injEq, Prod.mk.injEq] at H
      obtain ⟨rfl, rfl, rfl, rfl, rfl⟩ := H
      have p230 : 0 ≤ (x11_1 : Int) := of_decide_eq_true (by first | (with_reducible assumption) | assumption)
      have q230 : x11_1 < (l0_1.length : Int) := of_decide_eq_true (by first | (with_reducible assumption) | assumption)
      obtain ⟨ad230, e230, hx230_0, hx230_1, hx230_2, hx230_3⟩ := at_T49 HR0_1.out x11_1 p230 q230
      cases e230
      replace hx230_0 := (HB.out.cell (vY w _ hx230_0)).trans hx230_0
      replace hx230_1 := (HB.out.cell (vY w _ hx230_1)).trans hx230_1
      replace hx230_2 := (HB.out.cell (vY w _ hx230_2)).trans hx230_2
      replace hx230_3 := (HB.out.cell (vY w _ hx230_3)).trans hx230_3
      replace p230 := eq_true p230
      replace q230 := eq_true q230
      go_wp2_with (first | ((with_reducible refine uS (N := 7) rfl ?_); refine uR ?hg (N := 7) ?hd (cs := #[.int .i64 0, .int .i64 0, .bool false, .int .i64 0]) (t := 49) ?hr ?_; (case hd => rfl); (case hg => rfl); (case hr => first | (go_simp; done) | (go_simp; rfl)); intro gb231 hg w11 hbox hb; have n0_ := Aside0.mk (uT (g := gb228) (o := .cells #[.slice A0_0 l0_0.length c0_0, .slice (some ad230) l0_1.length c0_1] 31 (0, 0)) (by (with_reducible repeat (first | refine uG ?_ _ | refine uI ?_ | refine uH ?_ _)); exact BK228.out) hb); have n1_ := Aside0.mk (uT (g := gb229) (o := .cells #[.int .i64 x230000_1, .int .i64 x230001_1, .bool x230002_1, .int .i64 x230003_1] 49 (0, 0)) (by (with_reducible repeat (first | refine uG ?_ _ | refine uI ?_ | refine uH ?_ _)); exact BK229.out) hb); have n2_ := Aside0.mk (uP (by repeat (first | (with_reducible first | exact HB.out | apply uC | apply uA | apply uB | refine uF ?_ GE228.out | refine uF ?_ GE229.out) | exact HB.out)) hb); have n3_ := Aside0.mk (hbox); have n4_ := Aside0.mk ((by rw [hg]; exact (uK (by repeat (first | (with_reducible first | exact HB.out | apply uC | apply uA | apply uB | refine uF ?_ GE228.out | refine uF ?_ GE229.out) | exact HB.out))) : w.heap.size ≤ gb231)); have n5_ := Aside0.mk ((by rw [hg]; exact (uK (by repeat (first | (with_reducible first | exact HB.out | apply uC | apply uA | apply uB | refine uF ?_ GE228.out | refine uF ?_ GE229.out) | exact HB.out))) : w.heap.size ≤ gb231)); have n6_ := Aside0.mk ((by rw [hg]; exact Nat.ne_of_lt (vG (g := gb228) (o := .cells #[.slice A0_0 l0_0.length c0_0, .slice (some ad230) l0_1.length c0_1] 31 (0, 0)) (by (with_reducible repeat (first | refine uG ?_ _ | refine uI ?_ | refine uH ?_ _)); exact BK228.out)) : gb228 ≠ gb231)); have n7_ := Aside0.mk ((by rw [hg]; exact Nat.ne_of_gt (vG (g := gb228) (o := .cells #[.slice A0_0 l0_0.length c0_0, .slice (some ad230) l0_1.length c0_1] 31 (0, 0)) (by (with_reducible repeat (first | refine uG ?_ _ | refine uI ?_ | refine uH ?_ _)); exact BK228.out)) : gb231 ≠ gb228)); have n8_ := Aside0.mk ((by rw [hg]; exact Nat.ne_of_lt (vG (g := gb229) (o := .cells #[.int .i64 x230000_1, .int .i64 x230001_1, .bool x230002_1, .int .i64 x230003_1] 49 (0, 0)) (by (with_reducible repeat (first | refine uG ?_ _ | refine uI ?_ | refine uH ?_ _)); exact BK229.out)) : gb229 ≠ gb231)); have n9_ := Aside0.mk ((by rw [hg]; exact Nat.ne_of_gt (vG (g := gb229) (o := .cells #[.int .i64 x230000_1, .int .i64 x230001_1, .bool x230002_1, .int .i64 x230003_1] 49 (0, 0)) (by (with_reducible repeat (first | refine uG ?_ _ | refine uI ?_ | refine uH ?_ _)); exact BK229.out)) : gb231 ≠ gb229)); clear BK228; clear BK229; clear HB; have BK228 := n0_; have BK229 := n1_; have HB := n2_; have BK231 := n3_; have GW231 := n4_; have GE231 := n5_; have NB228_231 := n6_; have NB231_228 := n7_; have NB229_231 := n8_; have NB231_229 := n9_; clear n0_ n1_ n2_ n3_ n4_ n5_ n6_ n7_ n8_ n9_; clear hb hbox hg; have hnb12 := NB231_228.out; have hnc12 := NB228_231.out; have hnb13 := NB231_229.out; have hnc13 := NB229_231.out; have hcz14_0 : w11.cell? ⟨gb231, 0, none⟩ = some (.int .i64 0) := (uE BK231.out 0).trans rfl; have hcz14_1 : w11.cell? ⟨gb231, 1, none⟩ = some (.int .i64 0) := (uE BK231.out 1).trans rfl; have hcz14_2 : w11.cell? ⟨gb231, 2, none⟩ = some (.bool false) := (uE BK231.out 2).trans rfl; have hcz14_3 : w11.cell? ⟨gb231, 3, none⟩ = some (.int .i64 0) := (uE BK231.out 3).trans rfl; have hfz14_0 := uD BK231.out 0; have hfz14_1 := uD BK231.out 1; have hfz14_2 := uD BK231.out 2; have hfz14_3 := uD BK231.out 3; have hnb15 := NB229_228.out; have hnc15 := NB228_229.out; have hcz16_0 : w11.cell? ⟨gb229, 0, none⟩ = some (.int .i64 x230000_1) := (uE BK229.out 0).trans rfl; have hcz16_1 : w11.cell? ⟨gb229, 1, none⟩ = some (.int .i64 x230001_1) := (uE BK229.out 1).trans rfl; have hcz16_2 : w11.cell? ⟨gb229, 2, none⟩ = some (.bool x230002_1) := (uE BK229.out 2).trans rfl; have hcz16_3 : w11.cell? ⟨gb229, 3, none⟩ = some (.int .i64 x230003_1) := (uE BK229.out 3).trans rfl; have hfz16_0 := uD BK229.out 0; have hfz16_1 := uD BK229.out 1; have hfz16_2 := uD BK229.out 2; have hfz16_3 := uD BK229.out 3))
      refine bodyPost_ret (results_ct rfl _ _ gb229 49 #[.int .i64 ((rd_T49 l0_1 x11_1).f0), .int .i64 ((rd_T49 l0_1 x11_1).f1), .bool ((rd_T49 l0_1 x11_1).f2.f0), .int .i64 ((rd_T49 l0_1 x11_1).f2.f1)] (0, 0) _ rfl (by (with_reducible repeat (first | refine uG ?_ _ | refine uI ?_ | refine uH ?_ _)); refine vB (cs := #[.int .i64 ((rd_T49 l0_1 x11_1).f0), .int .i64 ((rd_T49 l0_1 x11_1).f1), .bool ((rd_T49 l0_1 x11_1).f2.f0), .int .i64 x230003_1]) ?_ 3 _ rfl; (with_reducible repeat (first | refine uG ?_ _ | refine uI ?_ | refine uH ?_ _)); refine vB (cs := #[.int .i64 ((rd_T49 l0_1 x11_1).f0), .int .i64 ((rd_T49 l0_1 x11_1).f1), .bool x230002_1, .int .i64 x230003_1]) ?_ 2 _ rfl; (with_reducible repeat (first | refine uG ?_ _ | refine uI ?_ | refine uH ?_ _)); refine vB (cs := #[.int .i64 ((rd_T49 l0_1 x11_1).f0), .int .i64 x230001_1, .bool x230002_1, .int .i64 x230003_1]) ?_ 1 _ rfl; (with_reducible repeat (first | refine uG ?_ _ | refine uI ?_ | refine uH ?_ _)); refine vB (cs := #[.int .i64 x230000_1, .int .i64 x230001_1, .bool x230002_1, .int .i64 x230003_1]) ?_ 0 _ rfl; (with_reducible repeat (first | refine uG ?_ _ | refine uI ?_ | refine uH ?_ _)); refine vI ?_ NB229_231.out _; (with_reducible repeat (first | refine uG ?_ _ | refine uI ?_ | refine uH ?_ _)); refine vI ?_ NB229_231.out _; (with_reducible repeat (first | refine uG ?_ _ | refine uI ?_ | refine uH ?_ _)); refine vI ?_ NB229_231.out _; (with_reducible repeat (first | refine uG ?_ _ | refine uI ?_ | refine uH ?_ _)); refine vI ?_ NB229_231.out _; (with_reducible repeat (first | refine uG ?_ _ | refine uI ?_ | refine uH ?_ _)); exact BK229.out) Try.underlying49 rfl (by kernel_rfl)) rfl ?_
      exact ⟨by first | rfl | (simp [errW_none, errW_some] <;> rfl) | (simp [*, errW_none, errW_some] <;> rfl), by repeat (first | (with_reducible first | exact HB.out | apply uC | apply uA | apply uB | refine uF ?_ GE228.out | refine uF ?_ GE229.out | refine uF ?_ GE231.out) | exact HB.out)⟩

end Go.Proofs.Ytcikahnmiiichaa.R
