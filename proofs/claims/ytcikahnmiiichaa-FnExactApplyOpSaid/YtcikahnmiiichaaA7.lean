/- Go functions as Lean functions, and the proof that the code comes to them: written by a program of this session out of the translation. -/
import Derived.Test.YtcikahnmiiichaaA0
import Derived.Test.YtcikahnmiiichaaA3
import Derived.Test.YtcikahnmiiichaaA6
namespace Go.Proofs.Ytcikahnmiiichaa.A
open Go.RowKit Go.Proofs.YtcikahnmiiichaaW.PrintWords Go.Proofs.YtcikahnmiiichaaW.PrintLast Go.Proofs.YtcikahnmiiichaaW.PrintMore
attribute [local go_sem] max2_int min2_int max_two min_two max_three min_three max_four min_four   -- for this text's walks alone
set_option linter.unusedVariables false
set_option linter.unusedSimpArgs false

/-! ### impl_IsValidMachine: function 20 -/
def impl_IsValidMachine_1.f (a0 : Int) : Option (Bool) := (impl_within.f a0 0 9).bind fun t180 => (some (!t180))
set_option maxHeartbeats 8000000 in
set_option maxRecDepth 100000 in
theorem impl_IsValidMachine_1.calls (a0 : Int) (r : Bool) (w : World) (h : impl_IsValidMachine_1.f a0 = some r) :
    Calls Try.prog 64 #[.int .i64 a0] w fun e w' => e = .returned (.bool r) ∧ Drawn0 w w' := by
  have H : ((impl_within.f a0 0 9).bind fun t180 => (some (!t180))) = some r := h
  clear h
  replace H := Option.bind_eq_some_iff.mp H
  obtain ⟨t180, A20, H⟩ := H
  replace H : (some (!t180)) = some r := H
  have A2 := Aside0.mk A20
  clear A20
  obtain rfl := Option.some.inj H
  go_enter Try.func64, Try.ntmps64
  go_wp2_with (first | ((with_reducible refine gate_callee (f := 65) rfl ?_); refine goesL_ (some 4) rfl rfl Try.func65 (by kernel_rfl) rfl #[.int .i64 a0, .int .i64 0, .int .i64 9] rfl (by (try simp only [List.map_toArray, List.map_cons, List.map_nil]); first | done | rfl | (simp only [List.length_drop, List.length_take]; rfl)) ?_; (with_reducible refine (impl_within.calls a0 0 9 t180 _ A2.out).mono ?_); rintro e w' ⟨rfl, ⟨nd, rfl⟩⟩; refine ⟨_, rfl, ?_⟩))
  go_ret
  exact ⟨by first | rfl | (simp; done) | (simp [*]; done), by repeat (first | exact Drawn0.refl _ | apply Drawn0.step)⟩
def slices_IndexFunc_int_int_impl_IsValidMachine_1.l0 : Nat → List Int → Int → Int → Option (Int)
  | 0, _, _, _ => none
  | k + 1, x0, x7, x8 => if x8 < x7 then (if 0 ≤ x8 then (if x8 < (x0.length : Int) then ((impl_IsValidMachine_1.f (rd x0 x8)).bind fun t182 => (if t182 = true then (some x8) else (slices_IndexFunc_int_int_impl_IsValidMachine_1.l0 k x0 x7 (wrap64 (x8 + 1))))) else (none)) else (none)) else (some (-1))
def slices_IndexFunc_int_int_impl_IsValidMachine_1.f (k : Nat) (l0 : List Int) (a1 : Unit) : Option (Int) := slices_IndexFunc_int_int_impl_IsValidMachine_1.l0 k l0 (l0.length : Int) 0
theorem slices_IndexFunc_int_int_impl_IsValidMachine_1.mono_l : ∀ k, (∀ y0 y1 y2, LeO (slices_IndexFunc_int_int_impl_IsValidMachine_1.l0 k y0 y1 y2) (slices_IndexFunc_int_int_impl_IsValidMachine_1.l0 (k + 1) y0 y1 y2))
  | 0 => fun _ _ _ r h => by simp [slices_IndexFunc_int_int_impl_IsValidMachine_1.l0] at h
  | k + 1 => by
    have ih0 := slices_IndexFunc_int_int_impl_IsValidMachine_1.mono_l k
    · intro y0 y1 y2
      unfold slices_IndexFunc_int_int_impl_IsValidMachine_1.l0
      repeat' first
      | (with_reducible exact ih0 _ _ _)
      | (with_reducible exact LeO.refl _)
      | (with_reducible exact LeO.none _)
      | (with_reducible refine LeO.ite ?_ ?_)
      | (with_reducible refine LeO.bind ?_ (fun _ => ?_))
      | exact ih0 _ _ _
      | exact LeO.none _
      | refine LeO.ite ?_ ?_
      | refine LeO.bind ?_ (fun _ => ?_)
theorem slices_IndexFunc_int_int_impl_IsValidMachine_1.mono : ∀ a0 a1 k, LeO (slices_IndexFunc_int_int_impl_IsValidMachine_1.f k a0 a1) (slices_IndexFunc_int_int_impl_IsValidMachine_1.f (k + 1) a0 a1) := by
  intro a0 a1 k
  have ih0 := slices_IndexFunc_int_int_impl_IsValidMachine_1.mono_l k
  unfold slices_IndexFunc_int_int_impl_IsValidMachine_1.f
  repeat' first
      | (with_reducible exact ih0 _ _ _)
      | (with_reducible exact LeO.refl _)
      | (with_reducible exact LeO.none _)
      | (with_reducible refine LeO.ite ?_ ?_)
      | (with_reducible refine LeO.bind ?_ (fun _ => ?_))
      | exact ih0 _ _ _
      | exact LeO.none _
      | refine LeO.ite ?_ ?_
      | refine LeO.bind ?_ (fun _ => ?_)
set_option maxHeartbeats 8000000 in
set_option maxRecDepth 100000 in
theorem slices_IndexFunc_int_int_impl_IsValidMachine_1.calls (k : Nat) (A0 : Option Addr) (c0 : Nat) (l0 : List Int) (a1 : Unit) (r : Int) (w : World) (hr0 : Kd.C (Kd.int .i64) w A0 l0.length l0) (hc0 : l0.length ≤ c0) (h : slices_IndexFunc_int_int_impl_IsValidMachine_1.f k l0 a1 = some r) :
    Calls Try.prog 86 #[.slice A0 l0.length c0, .func (.func 64) #[] #[]] w fun e w' => e = .returned (.int .i64 r) ∧ Drawn0 w w' := by
  have HR0 := Aside0.mk hr0
  have HC0 := Aside0.mk hc0
  clear hr0 hc0
  have H : (slices_IndexFunc_int_int_impl_IsValidMachine_1.l0 k l0 (l0.length : Int) 0) = some r := h
  clear h
  have H' := Aside0.mk H
  clear H
  go_enter Try.func86, Try.ntmps86
  go_wp2
  go_loopg [8] k (fun kq v8 w' => ∃ (x8_1 : Int), v8 = .int .i64 x8_1 ∧ Aside0 (slices_IndexFunc_int_int_impl_IsValidMachine_1.l0 kq l0 (l0.length : Int) x8_1 = some r) ∧ Aside0 (kq ≤ k) ∧ Drawn0 w w')
  case atStart => exact ⟨(0), (by first | rfl | (simp; done) | (simp [*]; done)), H', ⟨Nat.le_refl _⟩, by repeat (first | exact Drawn0.refl _ | apply Drawn0.step)⟩
  case round =>
    clear H'
    try clear p2
    obtain ⟨x8_1, rfl, HA, HK1, ⟨m1, rfl⟩⟩ := hrel
    cases gk with
    | zero => exact absurd HA.out (by simp [slices_IndexFunc_int_int_impl_IsValidMachine_1.l0])
    | succ k1 =>
      have H := HA.out
      clear HA
      simp only [slices_IndexFunc_int_int_impl_IsValidMachine_1.l0] at H
      by_cases c3 : x8_1 < (l0.length : Int)
      · rw [if_pos c3] at H
        have c3b0 : decide (x8_1 < (l0.length : Int)) = true := decide_eq_true c3
        clear c3
        by_cases c4 : 0 ≤ x8_1
        · rw [if_pos c4] at H
          have c4b0 : decide (0 ≤ x8_1) = true := decide_eq_true c4
          clear c4
          by_cases c5 : x8_1 < (l0.length : Int)
          · rw [if_pos c5] at H
            have c5b0 : decide (x8_1 < (l0.length : Int)) = true := decide_eq_true c5
            clear c5
            replace H := Option.bind_eq_some_iff.mp H
            obtain ⟨t182, A60, H⟩ := H
            replace H : (if t182 = true then (some x8_1) else (slices_IndexFunc_int_int_impl_IsValidMachine_1.l0 k1 l0 (l0.length : Int) (wrap64 (x8_1 + 1)))) = some r := H
            have A6 := Aside0.mk A60
            clear A60
            by_cases c7 : t182 = true
            · subst c7
              have H1 : (some x8_1) = some r := by first | (rw [if_pos rfl] at H; exact H) | rfl
              clear H
              have H := H1
              clear H1
              obtain rfl := Option.some.inj H
              have p181 : 0 ≤ (x8_1 : Int) := of_decide_eq_true (by first | (with_reducible assumption) | assumption)
              have q181 : x8_1 < (l0.length : Int) := of_decide_eq_true (by first | (with_reducible assumption) | assumption)
              obtain ⟨ad181, e181, hx181_0⟩ := Kd.at_int HR0.out x8_1 p181 q181
              cases e181
              replace p181 := eq_true p181
              replace q181 := eq_true q181
              go_wp2_with (first | (go_at_call 64; (with_reducible refine (impl_IsValidMachine_1.calls (rd l0 x8_1) true _ A6.out).mono ?_); rintro e w' ⟨rfl, ⟨nd, rfl⟩⟩))
              go_ret
              exact ⟨by first | rfl | (simp; done) | (simp [*]; done), by repeat (first | exact Drawn0.refl _ | apply Drawn0.step)⟩
            · replace c7 := Bool.eq_false_iff.mpr c7
              subst c7
              have H1 : (slices_IndexFunc_int_int_impl_IsValidMachine_1.l0 k1 l0 (l0.length : Int) (wrap64 (x8_1 + 1))) = some r := by first | (rw [if_neg (show ¬ (false = true) by decide)] at H; exact H) | rfl
              clear H
              have H := H1
              clear H1
              have H' := Aside0.mk H
              clear H
              have p181 : 0 ≤ (x8_1 : Int) := of_decide_eq_true (by first | (with_reducible assumption) | assumption)
              have q181 : x8_1 < (l0.length : Int) := of_decide_eq_true (by first | (with_reducible assumption) | assumption)
              obtain ⟨ad181, e181, hx181_0⟩ := Kd.at_int HR0.out x8_1 p181 q181
              cases e181
              replace p181 := eq_true p181
              replace q181 := eq_true q181
              go_wp2_with (first | (go_at_call 64; (with_reducible refine (impl_IsValidMachine_1.calls (rd l0 x8_1) false _ A6.out).mono ?_); rintro e w' ⟨rfl, ⟨nd, rfl⟩⟩))
              go_roundg k1
              case measure => have := HK1.out; omega
              case rel => exact ⟨(wrap64 (x8_1 + 1)), (by first | rfl | (simp; done) | (simp [*]; done)), H', ⟨by have := HK1.out; omega⟩, by repeat (first | exact Drawn0.refl _ | apply Drawn0.step)⟩
          · rw [if_neg c5] at H
            exact absurd H (by simp)
        · rw [if_neg c4] at H
          exact absurd H (by simp)
      · rw [if_neg c3] at H
        have c3b0 : decide (x8_1 < (l0.length : Int)) = false := decide_eq_false c3
        clear c3
        obtain rfl := Option.some.inj H
        go_wp2
        go_ret
        exact ⟨by first | rfl | (simp; done) | (simp [*]; done), by repeat (first | exact Drawn0.refl _ | apply Drawn0.step)⟩
def slices_ContainsFunc_int_int_impl_IsValidMachine_1.f (k : Nat) (l0 : List Int) (a1 : Unit) : Option (Bool) := (slices_IndexFunc_int_int_impl_IsValidMachine_1.f k l0 ()).bind fun t183 => (some (decide (t183 ≥ 0)))
theorem slices_ContainsFunc_int_int_impl_IsValidMachine_1.mono : ∀ a0 a1 k, LeO (slices_ContainsFunc_int_int_impl_IsValidMachine_1.f k a0 a1) (slices_ContainsFunc_int_int_impl_IsValidMachine_1.f (k + 1) a0 a1) := by
  intro a0 a1 k
  unfold slices_ContainsFunc_int_int_impl_IsValidMachine_1.f
  repeat' first
      | (with_reducible exact slices_IndexFunc_int_int_impl_IsValidMachine_1.mono _ _ _)
      | (with_reducible exact LeO.refl _)
      | (with_reducible exact LeO.none _)
      | (with_reducible refine LeO.ite ?_ ?_)
      | (with_reducible refine LeO.bind ?_ (fun _ => ?_))
      | exact slices_IndexFunc_int_int_impl_IsValidMachine_1.mono _ _ _
      | exact LeO.none _
      | refine LeO.ite ?_ ?_
      | refine LeO.bind ?_ (fun _ => ?_)
set_option maxHeartbeats 8000000 in
set_option maxRecDepth 100000 in
theorem slices_ContainsFunc_int_int_impl_IsValidMachine_1.calls (k : Nat) (A0 : Option Addr) (c0 : Nat) (l0 : List Int) (a1 : Unit) (r : Bool) (w : World) (hr0 : Kd.C (Kd.int .i64) w A0 l0.length l0) (hc0 : l0.length ≤ c0) (h : slices_ContainsFunc_int_int_impl_IsValidMachine_1.f k l0 a1 = some r) :
    Calls Try.prog 63 #[.slice A0 l0.length c0, .func (.func 64) #[] #[]] w fun e w' => e = .returned (.bool r) ∧ Drawn0 w w' := by
  have HR0 := Aside0.mk hr0
  have HC0 := Aside0.mk hc0
  clear hr0 hc0
  have H : ((slices_IndexFunc_int_int_impl_IsValidMachine_1.f k l0 ()).bind fun t183 => (some (decide (t183 ≥ 0)))) = some r := h
  clear h
  replace H := Option.bind_eq_some_iff.mp H
  obtain ⟨t183, A30, H⟩ := H
  replace H : (some (decide (t183 ≥ 0))) = some r := H
  have A3 := Aside0.mk A30
  clear A30
  obtain rfl := Option.some.inj H
  go_enter Try.func63, Try.ntmps63
  go_wp2_with (first | ((with_reducible refine gate_callee (f := 86) rfl ?_); refine goesL_ (some 7) rfl rfl Try.func86 (by kernel_rfl) rfl #[.slice A0 l0.length c0, .func (.func 64) #[] #[]] rfl (by (try simp only [List.map_toArray, List.map_cons, List.map_nil]); first | done | rfl | (simp only [List.length_drop, List.length_take]; rfl)) ?_; (with_reducible refine (slices_IndexFunc_int_int_impl_IsValidMachine_1.calls k _ _ l0 () t183 _ ?side1 ?side2 A3.out).mono ?_); (case side1 => repeat (first | exact HR0.out | (with_reducible refine Kd.C_alloc ?_ _) | (with_reducible refine Kd.C_drewN ?_ _) | (with_reducible refine Kd.C_drew ?_))); (case side2 => exact HC0.out); rintro e w' ⟨rfl, ⟨nd, rfl⟩⟩; refine ⟨_, rfl, ?_⟩))
  go_ret
  exact ⟨by first | rfl | (simp; done) | (simp [*]; done), by repeat (first | exact Drawn0.refl _ | apply Drawn0.step)⟩
theorem idxv (os : List Int) (hl : os.length ≤ 9223372036854775807) : ∀ d i : Nat, i + d = os.length → ∃ r, slices_IndexFunc_int_int_impl_IsValidMachine_1.l0 (d + 1) os (os.length : Int) (i : Int) = some r ∧ (r ≥ 0 ↔ ¬ ∀ j : Nat, i ≤ j → j < os.length → 0 ≤ rd os (j : Int) ∧ rd os (j : Int) ≤ 9)
  | 0, i, h => ⟨-1, by simp only [slices_IndexFunc_int_int_impl_IsValidMachine_1.l0, if_neg (show ¬ ((i : Int) < (os.length : Int)) by omega)], by
    constructor
    · intro h; omega
    · intro h1; exact absurd (fun j h2 h3 => by omega) h1⟩
  | d + 1, i, h => by
    have hw : wrap64 ((i : Int) + 1) = ((i + 1 : Nat) : Int) := by unfold wrap64; omega
    have c1 : (i : Int) < (os.length : Int) := by omega
    have c2 : (0 : Int) ≤ (i : Int) := by omega
    by_cases hb : 0 ≤ rd os (i : Int) ∧ rd os (i : Int) ≤ 9
    · obtain ⟨r, h1, h2⟩ := idxv os hl d (i + 1) (by omega)
      refine ⟨r, ?_, h2.trans ⟨fun h3 h4 => h3 (fun j h5 h6 => h4 j (by omega) h6), fun h3 h4 => h3 (fun j h5 h6 => ?_)⟩⟩
      · rw [slices_IndexFunc_int_int_impl_IsValidMachine_1.l0, if_pos c1, if_pos c2, if_pos c1, impl_IsValidMachine_1.f, impl_within.f, if_pos hb.1, decide_eq_true hb.2]
        simp only [Option.bind_some, Bool.not_true, Bool.false_eq_true, if_false, hw]
        exact h1
      · rcases Nat.lt_or_eq_of_le h5 with h7 | rfl
        · exact h4 j h7 h6
        · exact hb
    · refine ⟨(i : Int), ?_, ⟨fun _ h4 => hb (h4 i (Nat.le_refl _) (by omega)), fun _ => by omega⟩⟩
      have hf : impl_within.f (rd os (i : Int)) 0 9 = some false := by
        unfold impl_within.f
        by_cases h1 : 0 ≤ rd os (i : Int)
        · rw [if_pos h1, decide_eq_false (fun h2 => hb ⟨h1, h2⟩)]
        · rw [if_neg h1]
      rw [slices_IndexFunc_int_int_impl_IsValidMachine_1.l0, if_pos c1, if_pos c2, if_pos c1, impl_IsValidMachine_1.f, hf]
      simp only [Option.bind_some, Bool.not_false, if_true]
theorem conv (os : List Int) (hl : os.length ≤ 9223372036854775807) : ∃ k b, slices_ContainsFunc_int_int_impl_IsValidMachine_1.f k os () = some b ∧ (b = true ↔ ¬ ∀ j : Nat, j < os.length → 0 ≤ rd os (j : Int) ∧ rd os (j : Int) ≤ 9) := by
  obtain ⟨r, h1, h2⟩ := idxv os hl os.length 0 (by omega)
  refine ⟨os.length + 1, decide (r ≥ 0), ?_, ?_⟩
  · unfold slices_ContainsFunc_int_int_impl_IsValidMachine_1.f slices_IndexFunc_int_int_impl_IsValidMachine_1.f
    rw [show ((0 : Nat) : Int) = 0 from rfl] at h1
    rw [h1]; rfl
  · rw [decide_eq_true_iff, h2]
    exact ⟨fun h3 h4 => h3 (fun j _ h5 => h4 j h5), fun h3 h4 => h3 (fun j h5 => h4 j (Nat.zero_le _) h5)⟩
theorem impl_within.yes {a b c : Int} (h : b ≤ a ∧ a ≤ c) (w : World) : Calls Try.prog 65 #[.int .i64 a, .int .i64 b, .int .i64 c] w fun e w' => e = .returned (.bool true) ∧ Drawn0 w w' := impl_within.calls a b c true w (by unfold impl_within.f; rw [if_pos (show b ≤ a from h.1), decide_eq_true h.2])
theorem impl_within.no {a b c : Int} (h : ¬ (b ≤ a ∧ a ≤ c)) (w : World) : Calls Try.prog 65 #[.int .i64 a, .int .i64 b, .int .i64 c] w fun e w' => e = .returned (.bool false) ∧ Drawn0 w w' := impl_within.calls a b c false w (by
  unfold impl_within.f
  by_cases h1 : b ≤ a
  · rw [if_pos h1, decide_eq_false (fun h2 => h ⟨h1, h2⟩)]
  · rw [if_neg h1])
theorem impl_within.yesq {a b c : Int} (h : b ≤ a ∧ a ≤ c) (w : World) (n : Nat) : Calls Try.prog 65 #[.int .i64 a, .int .i64 b, .int .i64 c] (w.drewN n) fun e w'' => e = .returned (.bool true) ∧ ∃ m, w'' = w.drewN m := (impl_within.yes h _).mono (by rintro e w' ⟨he, ⟨m, rfl⟩⟩; exact ⟨he, n + m, World.drewN_drewN ..⟩)
theorem impl_within.noq {a b c : Int} (h : ¬ (b ≤ a ∧ a ≤ c)) (w : World) (n : Nat) : Calls Try.prog 65 #[.int .i64 a, .int .i64 b, .int .i64 c] (w.drewN n) fun e w'' => e = .returned (.bool false) ∧ ∃ m, w'' = w.drewN m := (impl_within.no h _).mono (by rintro e w' ⟨he, ⟨m, rfl⟩⟩; exact ⟨he, n + m, World.drewN_drewN ..⟩)
def impl_IsValidMachine.f (k : Nat) (l0_0 : List Int) (l0_1 : List S49) : Option Bool := some (decide (vM_ l0_0 l0_1))
theorem impl_IsValidMachine.mono : ∀ a0 a1 k, LeO (impl_IsValidMachine.f k a0 a1) (impl_IsValidMachine.f (k + 1) a0 a1) := fun _ _ _ => LeO.refl _
set_option maxHeartbeats 8000000 in
set_option maxRecDepth 100000 in
theorem impl_IsValidMachine.calls (k : Nat) (A0_0 : Option Addr) (c0_0 : Nat) (l0_0 : List Int) (A0_1 : Option Addr) (c0_1 : Nat) (l0_1 : List (S49)) (r : Bool) (w : World) (hr0_0 : Kd.C (Kd.int .i64) w A0_0 l0_0.length l0_0) (hc0_0 : l0_0.length ≤ c0_0) (hr0_1 : Kd.C k49 w A0_1 l0_1.length l0_1) (hc0_1 : l0_1.length ≤ c0_1) (h : impl_IsValidMachine.f k l0_0 l0_1 = some r) :
    Calls Try.prog 20 #[.agg #[.slice A0_0 l0_0.length c0_0, .slice A0_1 l0_1.length c0_1]] w fun e w' => e = .returned (.bool r) ∧ Below w.heap.size w w' := by
  obtain rfl := Option.some.inj h
  clear h
  have hu31 := Try.underlying31
  have HR0_0 := Aside0.mk hr0_0
  have HR0_1 := Aside0.mk hr0_1
  have HL0 := Aside0.mk hr0_0.2.1
  have HL1 := Aside0.mk hr0_1.2.1
  have HC0 := Aside0.mk hc0_0
  clear hr0_0 hc0_0 hr0_1 hc0_1
  have HV := Aside0.mk (show decide (vM_ l0_0 l0_1) = decide (vM_ l0_0 l0_1) from rfl)
  generalize hV : decide (vM_ l0_0 l0_1) = V at HV ⊢
  replace HV := Aside0.mk hV
  clear hV
  obtain ⟨kc, b, hcf, hcb⟩ := conv l0_0 HL0.out
  have HCF := Aside0.mk hcf
  have HCB := Aside0.mk hcb
  clear hcf hcb
  by_cases h3n : l0_0.length = 3
  · have h3b : ((l0_0.length : Int) == 3) = true := beq_iff_eq.2 (by omega)
    have h3c := eq_true (show (l0_0.length : Int) = 3 by omega)
    have h3d : ((l0_0.length : Int) != 3) = false := by rw [bne, h3b]; rfl
    have H3N := Aside0.mk h3n
    clear h3n
    cases b with
    | true =>
      have hv : V = false := by rw [← HV.out, decide_eq_false (fun h => HCB.out.1 rfl h.2.1)]
      go_enter Try.func20, Try.ntmps20
      go_wp2_with (first
        | ((with_reducible refine gate_dst (N := 1) rfl ?_); refine box_event ?hg (N := 1) ?hd (cs := #[.slice A0_0 l0_0.length c0_0, .slice A0_1 l0_1.length c0_1]) (t := 31) ?hr ?_; (case hd => rfl); (case hg => rfl); (case hr => first | (go_simp; done) | (go_simp; rfl)); intro gM hg wM hbox hb; have BM := Aside0.mk hbox; have HB := Aside0.mk hb; have HG := Aside0.mk (show w.heap.size ≤ gM by omega); have hcM_0 : wM.cell? ⟨gM, 0, none⟩ = some (.slice A0_0 l0_0.length c0_0) := (blk_cell BM.out 0).trans rfl; have hcM_1 : wM.cell? ⟨gM, 1, none⟩ = some (.slice A0_1 l0_1.length c0_1) := (blk_cell BM.out 1).trans rfl; clear hbox hb hg)
        | (go_at_call 63; refine (slices_ContainsFunc_int_int_impl_IsValidMachine_1.calls kc _ _ l0_0 () _ _ (Kd.C_below HR0_0.out HB.out) HC0.out HCF.out).mono ?_; rintro e w' ⟨rfl, ⟨nd, rfl⟩⟩))
      go_ret
      exact ⟨by rw [hv]; rfl, by repeat (first | exact HB.out | apply pw_below_drewN | apply below_drew1)⟩
    | false =>
      have HO := Aside0.mk (show ∀ j : Nat, j < l0_0.length → 0 ≤ rd l0_0 (j : Int) ∧ rd l0_0 (j : Int) ≤ 9 from Classical.not_not.1 (fun h => by simpa using HCB.out.2 h))
      go_enter Try.func20, Try.ntmps20
      go_wp2_with (first
        | ((with_reducible refine gate_dst (N := 1) rfl ?_); refine box_event ?hg (N := 1) ?hd (cs := #[.slice A0_0 l0_0.length c0_0, .slice A0_1 l0_1.length c0_1]) (t := 31) ?hr ?_; (case hd => rfl); (case hg => rfl); (case hr => first | (go_simp; done) | (go_simp; rfl)); intro gM hg wM hbox hb; have BM := Aside0.mk hbox; have HB := Aside0.mk hb; have HG := Aside0.mk (show w.heap.size ≤ gM by omega); have hcM_0 : wM.cell? ⟨gM, 0, none⟩ = some (.slice A0_0 l0_0.length c0_0) := (blk_cell BM.out 0).trans rfl; have hcM_1 : wM.cell? ⟨gM, 1, none⟩ = some (.slice A0_1 l0_1.length c0_1) := (blk_cell BM.out 1).trans rfl; clear hbox hb hg)
        | (go_at_call 63; refine (slices_ContainsFunc_int_int_impl_IsValidMachine_1.calls kc _ _ l0_0 () _ _ (Kd.C_below HR0_0.out HB.out) HC0.out HCF.out).mono ?_; rintro e w' ⟨rfl, ⟨nd, rfl⟩⟩))
      clear hcM_0 hcM_1
      have BM1 : Aside0 ((wM.drewN nd).heap[gM]? = some (.cells #[.slice A0_0 l0_0.length c0_0, .slice A0_1 l0_1.length c0_1] 31 (0, 0))) := ⟨BM.out⟩
      have HB1 := Aside0.mk (pw_below_drewN HB.out nd)
      clear BM HB
      have BM := BM1
      have HB := HB1
      clear BM1 HB1
      go_loopg [17] l0_1.length (fun gg s wr => ∃ kk : Nat, s = .int .i64 kk ∧ Aside0 (kk ≤ l0_1.length ∧ l0_1.length - kk ≤ gg) ∧ Aside0 (wr.heap[gM]? = some (.cells #[.slice A0_0 l0_0.length c0_0, .slice A0_1 l0_1.length c0_1] 31 (0, 0))) ∧ Aside0 (Below w.heap.size w wr) ∧ Aside0 (∀ j, j < kk → okS_ l0_1 j))
      case atStart => exact ⟨0, rfl, ⟨by omega, by omega⟩, BM, HB, ⟨fun j hj => by omega⟩⟩
      case round =>
        clear BM HB
        obtain ⟨kk, rfl, HK, BM, HB, HA⟩ := hrel
        have hcM_0 : wr.cell? ⟨gM, 0, none⟩ = some (.slice A0_0 l0_0.length c0_0) := (blk_cell BM.out 0).trans rfl
        have hcM_1 : wr.cell? ⟨gM, 1, none⟩ = some (.slice A0_1 l0_1.length c0_1) := (blk_cell BM.out 1).trans rfl
        have hkz : (0 : Int) ≤ (kk : Int) := by omega
        by_cases hlt : (kk : Int) < (l0_1.length : Int)
        · obtain ⟨ad2, e2, hx_0, hx_1, hx_2, hx_3⟩ := at_T49 HR0_1.out (kk : Int) hkz hlt
          subst e2
          simp only [Int.toNat_natCast] at hx_0 hx_1 hx_2 hx_3
          replace hx_0 := (HB.out.cell (World.block_lt_of_cell? w _ hx_0)).trans hx_0
          replace hx_1 := (HB.out.cell (World.block_lt_of_cell? w _ hx_1)).trans hx_1
          replace hx_2 := (HB.out.cell (World.block_lt_of_cell? w _ hx_2)).trans hx_2
          replace hx_3 := (HB.out.cell (World.block_lt_of_cell? w _ hx_3)).trans hx_3
          have hltb := eq_true hlt
          have hkzb := eq_true hkz
          go_wp2_with (first
            | ((with_reducible refine gate_dst (N := 4) rfl ?_); refine box_event ?hg (N := 4) ?hd (cs := #[.int .i64 0, .int .i64 0, .bool false, .int .i64 0]) (t := 49) ?hr ?_; (case hd => rfl); (case hg => rfl); (case hr => first | (go_simp; done) | (go_simp; rfl)); intro gS hg wS hbox hb; have NE := Aside0.mk (show gM ≠ gS by rw [hg]; exact Nat.ne_of_lt (blk_lt BM.out)); have BM1 := Aside0.mk (blk_below BM.out hb); have BS := Aside0.mk hbox; have HB1 := Aside0.mk (below_step HB.out hb); have GS := Aside0.mk (show w.heap.size ≤ gS by rw [hg]; exact HB.out.size); clear hbox hb hg BM HB hcM_0 hcM_1 hx_0 hx_1 hx_2 hx_3; have BM := BM1; have HB := HB1; clear BM1 HB1; have hcS_0 : wS.cell? ⟨gS, 0, none⟩ = some (.int .i64 0) := (blk_cell BS.out 0).trans rfl; have hcS_1 : wS.cell? ⟨gS, 1, none⟩ = some (.int .i64 0) := (blk_cell BS.out 1).trans rfl; have hcS_2 : wS.cell? ⟨gS, 2, none⟩ = some (.bool false) := (blk_cell BS.out 2).trans rfl; have hcS_3 : wS.cell? ⟨gS, 3, none⟩ = some (.int .i64 0) := (blk_cell BS.out 3).trans rfl; have hfS_0 := blk_frozen BS.out 0; have hfS_1 := blk_frozen BS.out 1; have hfS_2 := blk_frozen BS.out 2; have hfS_3 := blk_frozen BS.out 3)
            | ((with_reducible refine gate_store (t := 49) (p := 4) rfl ?_); refine store_event (t := 49) (p := 4) (v := ?vo_1) (w1 := ((((wS.setCell ⟨gS, 0, none⟩ (.int .i64 (rd_T49 l0_1 (kk : Int)).f0)).setCell ⟨gS, 1, none⟩ (.int .i64 (rd_T49 l0_1 (kk : Int)).f1)).setCell ⟨gS, 2, none⟩ (.bool (rd_T49 l0_1 (kk : Int)).f2.f0)).setCell ⟨gS, 3, none⟩ (.int .i64 (rd_T49 l0_1 (kk : Int)).f2.f1))) ?hg ?ho ?hn ?hr ?_; (case ho => rfl); (case hg => rfl); (case hn => rfl); (case hr => first | (go_simp; done) | (go_simp; rfl)); intro wG hw_; clear hcS_0 hcS_1 hcS_2 hcS_3 hfS_0 hfS_1 hfS_2 hfS_3; have BM1 := Aside0.mk (show wG.heap[gM]? = some (.cells #[.slice A0_0 l0_0.length c0_0, .slice (some ad2) l0_1.length c0_1] 31 (0, 0)) from hw_ ▸ blk_far (blk_far (blk_far (blk_far BM.out NE.out _) NE.out _) NE.out _) NE.out _); have BS1 := Aside0.mk (show wG.heap[gS]? = some (.cells #[.int .i64 (rd_T49 l0_1 (kk : Int)).f0, .int .i64 (rd_T49 l0_1 (kk : Int)).f1, .bool (rd_T49 l0_1 (kk : Int)).f2.f0, .int .i64 (rd_T49 l0_1 (kk : Int)).f2.f1] 49 (0, 0)) from hw_ ▸ blk_put (blk_put (blk_put (blk_put BS.out 0 _ rfl) 1 _ rfl) 2 _ rfl) 3 _ rfl); have HB1 := Aside0.mk (show Below w.heap.size w wG from hw_ ▸ below_set (below_set (below_set (below_set HB.out GS.out) GS.out) GS.out) GS.out); clear hw_ BM BS HB; have BM := BM1; have BS := BS1; have HB := HB1; clear BM1 BS1 HB1))
          have hcS_0 : wG.cell? ⟨gS, 0, none⟩ = some (.int .i64 (rd_T49 l0_1 (kk : Int)).f0) := (blk_cell BS.out 0).trans rfl
          have hcS_1 : wG.cell? ⟨gS, 1, none⟩ = some (.int .i64 (rd_T49 l0_1 (kk : Int)).f1) := (blk_cell BS.out 1).trans rfl
          have hcS_3 : wG.cell? ⟨gS, 3, none⟩ = some (.int .i64 (rd_T49 l0_1 (kk : Int)).f2.f1) := (blk_cell BS.out 3).trans rfl
          have hcM_1 : wG.cell? ⟨gM, 1, none⟩ = some (.slice (some ad2) l0_1.length c0_1) := (blk_cell BM.out 1).trans rfl
          have hnot : ∀ (p : Prop), (okS_ l0_1 kk → p) → ¬ p → V = false := fun p h hp => by rw [← HV.out]; exact decide_eq_false (fun h2 => hp (h (h2.2.2 kk (by omega))))
          have hPREV : 0 < kk → ∃ v, wG.cell? (ad2.add ((kk - 1) * 4)) = some (.int .i64 v) ∧ v = (rd_T49 l0_1 ((kk : Int) - 1)).f0 := fun h => by
            obtain ⟨ad3, e3, hy, _⟩ := at_T49 HR0_1.out ((kk : Int) - 1) (by omega) (by omega)
            cases e3
            rw [show ((kk : Int) - 1).toNat = kk - 1 by omega] at hy
            exact ⟨_, (HB.out.cell (World.block_lt_of_cell? w _ hy)).trans hy, rfl⟩
          have HPV := Aside0.mk @hPREV
          have HNO := Aside0.mk hnot
          clear hPREV hnot hcS_0 hcS_1 hcS_3 hcM_1
          have e1 : wrap64 ((kk : Int) - 1) = (kk : Int) - 1 := by have := HL1.out; unfold wrap64; omega
          have e1b := i64_w ((kk : Int) - 1)
          rw [e1] at e1b
          obtain ⟨pv, HPV2⟩ : ∃ pv : Int, Aside0 (0 < kk → wG.cell? (ad2.add ((kk - 1) * 4)) = some (.int .i64 pv) ∧ pv = (rd_T49 l0_1 ((kk : Int) - 1)).f0) := by
            by_cases h0 : 0 < kk
            · obtain ⟨v, h1, h2⟩ := HPV.out h0
              exact ⟨v, ⟨fun _ => ⟨h1, h2⟩⟩⟩
            · exact ⟨0, ⟨fun h => absurd h h0⟩⟩
          refine start_ (n := 33) (S := fun w' => w'.cell? ⟨gS, 0, none⟩ = some (.int .i64 (rd_T49 l0_1 (kk : Int)).f0) ∧ w'.cell? ⟨gS, 1, none⟩ = some (.int .i64 (rd_T49 l0_1 (kk : Int)).f1) ∧ w'.cell? ⟨gS, 3, none⟩ = some (.int .i64 (rd_T49 l0_1 (kk : Int)).f2.f1) ∧ w'.cell? ⟨gM, 1, none⟩ = some (.slice (some ad2) l0_1.length c0_1) ∧ (0 < kk → w'.cell? (ad2.add ((kk - 1) * 4)) = some (.int .i64 pv))) (ds := []) (bA 33 0) (by kernel_rfl) rfl rfl ⟨(blk_cell BS.out 0).trans rfl, (blk_cell BS.out 1).trans rfl, (blk_cell BS.out 3).trans rfl, (blk_cell BM.out 1).trans rfl, fun h => (HPV2.out h).1⟩ (fun hHeld => ?_)
          refine pureTk 0 (some 22) (bA 33 1) ?_
          refine take_ (i := 1) (N := some 23) (v := ?_) (a' := ?_) (bA 33 3) rfl rfl (by kernel_rfl) (fun _ _ _ h => h) (Or.inl ⟨by rfl, ?_⟩) hHeld ?_ ?_
          rotate_left
          · rintro w' ⟨s0, s1, s2, s3, s4⟩; clear s4; go_simp; with_reducible rfl
          rotate_left
          · simp only [Act.put, List.setIfInBounds_toArray, List.set_cons_zero, List.set_cons_succ, i64_w, i32_w]; rfl
          by_cases h1 : 0 ≤ (rd_T49 l0_1 (kk : Int)).f0 ∧ (rd_T49 l0_1 (kk : Int)).f0 ≤ 2
          · refine one_ (i := 2) (N := some 24) (bA 33 7) rfl rfl (by kernel_rfl) (by decide) (fun K hK => ?_)
            refine goesT Try.func65 #[.int .i64 (rd_T49 l0_1 (kk : Int)).f0, .int .i64 0, .int .i64 2] ?_
            refine (impl_within.yes h1 _).mono ?_
            rintro e w' ⟨rfl, ⟨nd2, rfl⟩⟩
            refine ⟨_, rfl, ?_⟩
            refine hK.out _ _ hHeld (fun hHeld => ?_)
            clear hK K
            refine norm_ (a' := ?_) ?_ ?_
            rotate_left
            · show Act.put _ (some 24) _ = _; simp only [Act.put, List.setIfInBounds_toArray, List.set_cons_zero, List.set_cons_succ, i64_w, i32_w]; rfl
            refine pureTk 3 (some 25) (bA 33 15) ?_
            refine pureTk 4 (some 26) (bA 33 31) ?_
            refine pureTk 5 (some 27) (bA 33 63) ?_
            by_cases h0 : 0 < kk
            · have hp0 := eq_true (show (kk : Int) > 0 by omega)
              have hp3 := eq_true (show (0 : Int) < (kk : Int) by omega)
              have hp1 := eq_true (show (0 : Int) ≤ (kk : Int) - 1 by omega)
              have hp5 := eq_true (show (1 : Int) ≤ (kk : Int) by omega)
              have hp2 := eq_true (show (kk : Int) - 1 < (l0_1.length : Int) by omega)
              refine pureTk 6 (some 28) (bA 33 127) ?_
              refine pureTk 7 (some 29) (bA 33 255) ?_
              refine pureTk 8 (some 30) (bA 33 511) ?_
              refine take_ (i := 9) (N := some 31) (v := ?_) (a' := ?_) (bA 33 1023) rfl rfl (by kernel_rfl) (fun _ _ _ h => h) (Or.inl ⟨by rfl, ?_⟩) hHeld ?_ ?_
              rotate_left
              · rintro w' ⟨s0, s1, s2, s3, s4⟩; clear s4; go_simp; with_reducible rfl
              rotate_left
              · simp only [Act.put, List.setIfInBounds_toArray, List.set_cons_zero, List.set_cons_succ, i64_w, i32_w]; rfl
              refine pureTk 10 (some 32) (bA 33 2047) ?_
              refine take_ (i := 11) (N := some 33) (v := ?_) (a' := ?_) (bA 33 4095) rfl rfl (by kernel_rfl) (fun _ _ _ h => h) (Or.inl ⟨by rfl, ?_⟩) hHeld ?_ ?_
              rotate_left
              · rintro w' ⟨s0, s1, s2, s3, s4⟩; clear s4; go_simp; with_reducible rfl
              rotate_left
              · simp only [Act.put, List.setIfInBounds_toArray, List.set_cons_zero, List.set_cons_succ, i64_w, i32_w]; rfl
              refine pureTk 12 (some 34) (bA 33 8191) ?_
              refine pureTk 13 (some 35) (bA 33 16383) ?_
              refine pureTk 14 (some 36) (bA 33 32767) ?_
              refine pureTk 15 (some 37) (bA 33 65535) ?_
              refine take_ (i := 16) (N := some 38) (v := ?_) (a' := ?_) (bA 33 131071) rfl rfl (by kernel_rfl) (fun _ _ _ h => h) (Or.inl ⟨by rfl, ?_⟩) hHeld ?_ ?_
              rotate_left
              · rintro w' ⟨s0, s1, s2, s3, s4⟩; replace s4 := s4 h0; go_simp; with_reducible rfl
              rotate_left
              · simp only [Act.put, List.setIfInBounds_toArray, List.set_cons_zero, List.set_cons_succ, i64_w, i32_w]; rfl
              by_cases h4 : pv < (rd_T49 l0_1 (kk : Int)).f0
              · have h4c := eq_false (show ¬ ((rd_T49 l0_1 (kk : Int)).f0 ≤ pv) by omega)
                have h4d := decide_eq_false (show ¬ ((rd_T49 l0_1 (kk : Int)).f0 ≤ pv) by omega)
                refine pureTk 17 (some 39) (bA 33 262143) ?_
                refine pureTk 18 (some 40) (bA 33 524287) ?_
                refine pureTk 19 (some 41) (bA 33 1048575) ?_
                refine pureTk 20 (some 42) (bA 33 2097151) ?_
                refine pureTk 21 (some 43) (bA 33 4194303) ?_
                refine take_ (i := 22) (N := some 44) (v := ?_) (a' := ?_) (bA 33 8388607) rfl rfl (by kernel_rfl) (fun _ _ _ h => h) (Or.inl ⟨by rfl, ?_⟩) hHeld ?_ ?_
                rotate_left
                · rintro w' ⟨s0, s1, s2, s3, s4⟩; clear s4; go_simp; with_reducible rfl
                rotate_left
                · simp only [Act.put, List.setIfInBounds_toArray, List.set_cons_zero, List.set_cons_succ, i64_w, i32_w]; rfl
                by_cases h2 : 1 ≤ (rd_T49 l0_1 (kk : Int)).f1 ∧ (rd_T49 l0_1 (kk : Int)).f1 ≤ 99
                · refine one_ (i := 23) (N := some 45) (bA 33 16777215) rfl rfl (by kernel_rfl) (by decide) (fun K hK => ?_)
                  refine goesT Try.func65 #[.int .i64 (rd_T49 l0_1 (kk : Int)).f1, .int .i64 1, .int .i64 99] ?_
                  refine (impl_within.yes h2 _).mono ?_
                  rintro e w' ⟨rfl, ⟨nd23, rfl⟩⟩
                  refine ⟨_, rfl, ?_⟩
                  refine hK.out _ _ hHeld (fun hHeld => ?_)
                  clear hK K
                  refine norm_ (a' := ?_) ?_ ?_
                  rotate_left
                  · show Act.put _ (some 45) _ = _; simp only [Act.put, List.setIfInBounds_toArray, List.set_cons_zero, List.set_cons_succ, i64_w, i32_w]; rfl
                  refine pureTk 24 (some 46) (bA 33 33554431) ?_
                  refine pureTk 25 (some 47) (bA 33 67108863) ?_
                  refine pureTk 26 (some 48) (bA 33 134217727) ?_
                  refine pureTk 27 (some 49) (bA 33 268435455) ?_
                  refine pureTk 28 (some 50) (bA 33 536870911) ?_
                  refine take_ (i := 29) (N := some 51) (v := ?_) (a' := ?_) (bA 33 1073741823) rfl rfl (by kernel_rfl) (fun _ _ _ h => h) (Or.inl ⟨by rfl, ?_⟩) hHeld ?_ ?_
                  rotate_left
                  · rintro w' ⟨s0, s1, s2, s3, s4⟩; clear s4; go_simp; with_reducible rfl
                  rotate_left
                  · simp only [Act.put, List.setIfInBounds_toArray, List.set_cons_zero, List.set_cons_succ, i64_w, i32_w]; rfl
                  by_cases h3 : 0 ≤ (rd_T49 l0_1 (kk : Int)).f2.f1 ∧ (rd_T49 l0_1 (kk : Int)).f2.f1 ≤ 9
                  · refine one_ (i := 30) (N := some 52) (bA 33 2147483647) rfl rfl (by kernel_rfl) (by decide) (fun K hK => ?_)
                    refine goesT Try.func65 #[.int .i64 (rd_T49 l0_1 (kk : Int)).f2.f1, .int .i64 0, .int .i64 9] ?_
                    refine (impl_within.yes h3 _).mono ?_
                    rintro e w' ⟨rfl, ⟨nd30, rfl⟩⟩
                    refine ⟨_, rfl, ?_⟩
                    refine hK.out _ _ hHeld (fun hHeld => ?_)
                    clear hK K
                    refine norm_ (a' := ?_) ?_ ?_
                    rotate_left
                    · show Act.put _ (some 52) _ = _; simp only [Act.put, List.setIfInBounds_toArray, List.set_cons_zero, List.set_cons_succ, i64_w, i32_w]; rfl
                    refine pureTk 31 (some 53) (bA 33 4294967295) ?_
                    refine pureTk 32 (some 54) (bA 33 8589934591) ?_
                    refine done_ (by kernel_rfl) ?_
                    go_wp2
                    go_roundg (l0_1.length - (kk + 1))
                    case measure => have := HK.out; omega
                    case rel =>
                      refine ⟨kk + 1, by first | (rw [show wrap64 ((kk : Int) + 1) = ((kk + 1 : Nat) : Int) by have := HL1.out; unfold wrap64; omega]) | rfl, ⟨by have := HK.out; omega, by have := HK.out; omega⟩, ⟨BM.out⟩, ⟨by repeat (first | exact HB.out | apply pw_below_drewN | apply below_drew1)⟩, ⟨fun j hj => ?_⟩⟩
                      rcases Nat.lt_succ_iff_lt_or_eq.1 hj with hj | rfl
                      · exact HA.out j hj
                      · exact ⟨h1, h2, h3, fun h => by first | exact absurd h h0 | (rw [← (HPV2.out h).2]; exact h4)⟩
                  · refine one_ (i := 30) (N := some 52) (bA 33 2147483647) rfl rfl (by kernel_rfl) (by decide) (fun K hK => ?_)
                    refine goesT Try.func65 #[.int .i64 (rd_T49 l0_1 (kk : Int)).f2.f1, .int .i64 0, .int .i64 9] ?_
                    refine (impl_within.no h3 _).mono ?_
                    rintro e w' ⟨rfl, ⟨nd30, rfl⟩⟩
                    refine ⟨_, rfl, ?_⟩
                    refine hK.out _ _ hHeld (fun hHeld => ?_)
                    clear hK K
                    refine norm_ (a' := ?_) ?_ ?_
                    rotate_left
                    · show Act.put _ (some 52) _ = _; simp only [Act.put, List.setIfInBounds_toArray, List.set_cons_zero, List.set_cons_succ, i64_w, i32_w]; rfl
                    refine pureTk 31 (some 53) (bA 33 4294967295) ?_
                    refine pureTk 32 (some 54) (bA 33 8589934591) ?_
                    refine done_ (by kernel_rfl) ?_
                    go_wp2
                    go_ret
                    exact ⟨by rw [HNO.out (0 ≤ (rd_T49 l0_1 (kk : Int)).f2.f1 ∧ (rd_T49 l0_1 (kk : Int)).f2.f1 ≤ 9) (fun h => h.2.2.1) h3]; rfl, by repeat (first | exact HB.out | apply pw_below_drewN | apply below_drew1)⟩
                · refine one_ (i := 23) (N := some 45) (bA 33 16777215) rfl rfl (by kernel_rfl) (by decide) (fun K hK => ?_)
                  refine goesT Try.func65 #[.int .i64 (rd_T49 l0_1 (kk : Int)).f1, .int .i64 1, .int .i64 99] ?_
                  refine (impl_within.no h2 _).mono ?_
                  rintro e w' ⟨rfl, ⟨nd23, rfl⟩⟩
                  refine ⟨_, rfl, ?_⟩
                  refine hK.out _ _ hHeld (fun hHeld => ?_)
                  clear hK K
                  refine norm_ (a' := ?_) ?_ ?_
                  rotate_left
                  · show Act.put _ (some 45) _ = _; simp only [Act.put, List.setIfInBounds_toArray, List.set_cons_zero, List.set_cons_succ, i64_w, i32_w]; rfl
                  refine pureTk 24 (some 46) (bA 33 33554431) ?_
                  refine pureTk 25 (some 47) (bA 33 67108863) ?_
                  refine pureTk 26 (some 48) (bA 33 134217727) ?_
                  refine pureUh 27 (some 49) (bA 33 268435455) ?_
                  refine pureUh 28 (some 50) (bA 33 536870911) ?_
                  refine pureUh 29 (some 51) (bA 33 1073741823) ?_
                  refine pureUh 30 (some 52) (bA 33 2147483647) ?_
                  refine pureUh 31 (some 53) (bA 33 4294967295) ?_
                  refine pureTk 32 (some 54) (bA 33 8589934591) ?_
                  refine done_ (by kernel_rfl) ?_
                  go_wp2
                  go_ret
                  exact ⟨by rw [HNO.out (1 ≤ (rd_T49 l0_1 (kk : Int)).f1 ∧ (rd_T49 l0_1 (kk : Int)).f1 ≤ 99) (fun h => h.2.1) h2]; rfl, by repeat (first | exact HB.out | apply pw_below_drewN | apply below_drew1)⟩
              · have h4c := eq_true (show (rd_T49 l0_1 (kk : Int)).f0 ≤ pv by omega)
                have h4d := decide_eq_true (show (rd_T49 l0_1 (kk : Int)).f0 ≤ pv by omega)
                refine pureTk 17 (some 39) (bA 33 262143) ?_
                refine pureTk 18 (some 40) (bA 33 524287) ?_
                refine pureTk 19 (some 41) (bA 33 1048575) ?_
                refine pureTk 20 (some 42) (bA 33 2097151) ?_
                refine pureUh 21 (some 43) (bA 33 4194303) ?_
                refine pureUh 22 (some 44) (bA 33 8388607) ?_
                refine pureUh 23 (some 45) (bA 33 16777215) ?_
                refine pureUh 24 (some 46) (bA 33 33554431) ?_
                refine pureTk 25 (some 47) (bA 33 67108863) ?_
                refine pureTk 26 (some 48) (bA 33 134217727) ?_
                refine pureUh 27 (some 49) (bA 33 268435455) ?_
                refine pureUh 28 (some 50) (bA 33 536870911) ?_
                refine pureUh 29 (some 51) (bA 33 1073741823) ?_
                refine pureUh 30 (some 52) (bA 33 2147483647) ?_
                refine pureUh 31 (some 53) (bA 33 4294967295) ?_
                refine pureTk 32 (some 54) (bA 33 8589934591) ?_
                refine done_ (by kernel_rfl) ?_
                go_wp2
                go_ret
                exact ⟨by rw [HNO.out (pv < (rd_T49 l0_1 (kk : Int)).f0) (fun h => by rw [(HPV2.out h0).2]; exact h.2.2.2 h0) (by omega)]; rfl, by repeat (first | exact HB.out | apply pw_below_drewN | apply below_drew1)⟩
            · have hp0 := eq_false (show ¬ ((kk : Int) > 0) by omega)
              have hp3 := eq_false (show ¬ ((0 : Int) < (kk : Int)) by omega)
              refine pureTk 6 (some 28) (bA 33 127) ?_
              refine pureTk 7 (some 29) (bA 33 255) ?_
              refine pureUh 8 (some 30) (bA 33 511) ?_
              refine pureUh 9 (some 31) (bA 33 1023) ?_
              refine pureUh 10 (some 32) (bA 33 2047) ?_
              refine pureUh 11 (some 33) (bA 33 4095) ?_
              refine pureUh 12 (some 34) (bA 33 8191) ?_
              refine pureUh 13 (some 35) (bA 33 16383) ?_
              refine pureUh 14 (some 36) (bA 33 32767) ?_
              refine pureUh 15 (some 37) (bA 33 65535) ?_
              refine pureUh 16 (some 38) (bA 33 131071) ?_
              refine pureUh 17 (some 39) (bA 33 262143) ?_
              refine pureTk 18 (some 40) (bA 33 524287) ?_
              refine pureTk 19 (some 41) (bA 33 1048575) ?_
              refine pureTk 20 (some 42) (bA 33 2097151) ?_
              refine pureTk 21 (some 43) (bA 33 4194303) ?_
              refine take_ (i := 22) (N := some 44) (v := ?_) (a' := ?_) (bA 33 8388607) rfl rfl (by kernel_rfl) (fun _ _ _ h => h) (Or.inl ⟨by rfl, ?_⟩) hHeld ?_ ?_
              rotate_left
              · rintro w' ⟨s0, s1, s2, s3, s4⟩; clear s4; go_simp; with_reducible rfl
              rotate_left
              · simp only [Act.put, List.setIfInBounds_toArray, List.set_cons_zero, List.set_cons_succ, i64_w, i32_w]; rfl
              by_cases h2 : 1 ≤ (rd_T49 l0_1 (kk : Int)).f1 ∧ (rd_T49 l0_1 (kk : Int)).f1 ≤ 99
              · refine one_ (i := 23) (N := some 45) (bA 33 16777215) rfl rfl (by kernel_rfl) (by decide) (fun K hK => ?_)
                refine goesT Try.func65 #[.int .i64 (rd_T49 l0_1 (kk : Int)).f1, .int .i64 1, .int .i64 99] ?_
                refine (impl_within.yes h2 _).mono ?_
                rintro e w' ⟨rfl, ⟨nd23, rfl⟩⟩
                refine ⟨_, rfl, ?_⟩
                refine hK.out _ _ hHeld (fun hHeld => ?_)
                clear hK K
                refine norm_ (a' := ?_) ?_ ?_
                rotate_left
                · show Act.put _ (some 45) _ = _; simp only [Act.put, List.setIfInBounds_toArray, List.set_cons_zero, List.set_cons_succ, i64_w, i32_w]; rfl
                refine pureTk 24 (some 46) (bA 33 33554431) ?_
                refine pureTk 25 (some 47) (bA 33 67108863) ?_
                refine pureTk 26 (some 48) (bA 33 134217727) ?_
                refine pureTk 27 (some 49) (bA 33 268435455) ?_
                refine pureTk 28 (some 50) (bA 33 536870911) ?_
                refine take_ (i := 29) (N := some 51) (v := ?_) (a' := ?_) (bA 33 1073741823) rfl rfl (by kernel_rfl) (fun _ _ _ h => h) (Or.inl ⟨by rfl, ?_⟩) hHeld ?_ ?_
                rotate_left
                · rintro w' ⟨s0, s1, s2, s3, s4⟩; clear s4; go_simp; with_reducible rfl
                rotate_left
                · simp only [Act.put, List.setIfInBounds_toArray, List.set_cons_zero, List.set_cons_succ, i64_w, i32_w]; rfl
                by_cases h3 : 0 ≤ (rd_T49 l0_1 (kk : Int)).f2.f1 ∧ (rd_T49 l0_1 (kk : Int)).f2.f1 ≤ 9
                · refine one_ (i := 30) (N := some 52) (bA 33 2147483647) rfl rfl (by kernel_rfl) (by decide) (fun K hK => ?_)
                  refine goesT Try.func65 #[.int .i64 (rd_T49 l0_1 (kk : Int)).f2.f1, .int .i64 0, .int .i64 9] ?_
                  refine (impl_within.yes h3 _).mono ?_
                  rintro e w' ⟨rfl, ⟨nd30, rfl⟩⟩
                  refine ⟨_, rfl, ?_⟩
                  refine hK.out _ _ hHeld (fun hHeld => ?_)
                  clear hK K
                  refine norm_ (a' := ?_) ?_ ?_
                  rotate_left
                  · show Act.put _ (some 52) _ = _; simp only [Act.put, List.setIfInBounds_toArray, List.set_cons_zero, List.set_cons_succ, i64_w, i32_w]; rfl
                  refine pureTk 31 (some 53) (bA 33 4294967295) ?_
                  refine pureTk 32 (some 54) (bA 33 8589934591) ?_
                  refine done_ (by kernel_rfl) ?_
                  go_wp2
                  go_roundg (l0_1.length - (kk + 1))
                  case measure => have := HK.out; omega
                  case rel =>
                    refine ⟨kk + 1, by first | (rw [show wrap64 ((kk : Int) + 1) = ((kk + 1 : Nat) : Int) by have := HL1.out; unfold wrap64; omega]) | rfl, ⟨by have := HK.out; omega, by have := HK.out; omega⟩, ⟨BM.out⟩, ⟨by repeat (first | exact HB.out | apply pw_below_drewN | apply below_drew1)⟩, ⟨fun j hj => ?_⟩⟩
                    rcases Nat.lt_succ_iff_lt_or_eq.1 hj with hj | rfl
                    · exact HA.out j hj
                    · exact ⟨h1, h2, h3, fun h => by first | exact absurd h h0 | (rw [← (HPV2.out h).2]; exact h4)⟩
                · refine one_ (i := 30) (N := some 52) (bA 33 2147483647) rfl rfl (by kernel_rfl) (by decide) (fun K hK => ?_)
                  refine goesT Try.func65 #[.int .i64 (rd_T49 l0_1 (kk : Int)).f2.f1, .int .i64 0, .int .i64 9] ?_
                  refine (impl_within.no h3 _).mono ?_
                  rintro e w' ⟨rfl, ⟨nd30, rfl⟩⟩
                  refine ⟨_, rfl, ?_⟩
                  refine hK.out _ _ hHeld (fun hHeld => ?_)
                  clear hK K
                  refine norm_ (a' := ?_) ?_ ?_
                  rotate_left
                  · show Act.put _ (some 52) _ = _; simp only [Act.put, List.setIfInBounds_toArray, List.set_cons_zero, List.set_cons_succ, i64_w, i32_w]; rfl
                  refine pureTk 31 (some 53) (bA 33 4294967295) ?_
                  refine pureTk 32 (some 54) (bA 33 8589934591) ?_
                  refine done_ (by kernel_rfl) ?_
                  go_wp2
                  go_ret
                  exact ⟨by rw [HNO.out (0 ≤ (rd_T49 l0_1 (kk : Int)).f2.f1 ∧ (rd_T49 l0_1 (kk : Int)).f2.f1 ≤ 9) (fun h => h.2.2.1) h3]; rfl, by repeat (first | exact HB.out | apply pw_below_drewN | apply below_drew1)⟩
              · refine one_ (i := 23) (N := some 45) (bA 33 16777215) rfl rfl (by kernel_rfl) (by decide) (fun K hK => ?_)
                refine goesT Try.func65 #[.int .i64 (rd_T49 l0_1 (kk : Int)).f1, .int .i64 1, .int .i64 99] ?_
                refine (impl_within.no h2 _).mono ?_
                rintro e w' ⟨rfl, ⟨nd23, rfl⟩⟩
                refine ⟨_, rfl, ?_⟩
                refine hK.out _ _ hHeld (fun hHeld => ?_)
                clear hK K
                refine norm_ (a' := ?_) ?_ ?_
                rotate_left
                · show Act.put _ (some 45) _ = _; simp only [Act.put, List.setIfInBounds_toArray, List.set_cons_zero, List.set_cons_succ, i64_w, i32_w]; rfl
                refine pureTk 24 (some 46) (bA 33 33554431) ?_
                refine pureTk 25 (some 47) (bA 33 67108863) ?_
                refine pureTk 26 (some 48) (bA 33 134217727) ?_
                refine pureUh 27 (some 49) (bA 33 268435455) ?_
                refine pureUh 28 (some 50) (bA 33 536870911) ?_
                refine pureUh 29 (some 51) (bA 33 1073741823) ?_
                refine pureUh 30 (some 52) (bA 33 2147483647) ?_
                refine pureUh 31 (some 53) (bA 33 4294967295) ?_
                refine pureTk 32 (some 54) (bA 33 8589934591) ?_
                refine done_ (by kernel_rfl) ?_
                go_wp2
                go_ret
                exact ⟨by rw [HNO.out (1 ≤ (rd_T49 l0_1 (kk : Int)).f1 ∧ (rd_T49 l0_1 (kk : Int)).f1 ≤ 99) (fun h => h.2.1) h2]; rfl, by repeat (first | exact HB.out | apply pw_below_drewN | apply below_drew1)⟩
          · refine one_ (i := 2) (N := some 24) (bA 33 7) rfl rfl (by kernel_rfl) (by decide) (fun K hK => ?_)
            refine goesT Try.func65 #[.int .i64 (rd_T49 l0_1 (kk : Int)).f0, .int .i64 0, .int .i64 2] ?_
            refine (impl_within.no h1 _).mono ?_
            rintro e w' ⟨rfl, ⟨nd2, rfl⟩⟩
            refine ⟨_, rfl, ?_⟩
            refine hK.out _ _ hHeld (fun hHeld => ?_)
            clear hK K
            refine norm_ (a' := ?_) ?_ ?_
            rotate_left
            · show Act.put _ (some 24) _ = _; simp only [Act.put, List.setIfInBounds_toArray, List.set_cons_zero, List.set_cons_succ, i64_w, i32_w]; rfl
            refine pureTk 3 (some 25) (bA 33 15) ?_
            refine pureTk 4 (some 26) (bA 33 31) ?_
            refine pureUh 5 (some 27) (bA 33 63) ?_
            refine pureUh 6 (some 28) (bA 33 127) ?_
            refine pureUh 7 (some 29) (bA 33 255) ?_
            refine pureUh 8 (some 30) (bA 33 511) ?_
            refine pureUh 9 (some 31) (bA 33 1023) ?_
            refine pureUh 10 (some 32) (bA 33 2047) ?_
            refine pureUh 11 (some 33) (bA 33 4095) ?_
            refine pureUh 12 (some 34) (bA 33 8191) ?_
            refine pureUh 13 (some 35) (bA 33 16383) ?_
            refine pureUh 14 (some 36) (bA 33 32767) ?_
            refine pureUh 15 (some 37) (bA 33 65535) ?_
            refine pureUh 16 (some 38) (bA 33 131071) ?_
            refine pureUh 17 (some 39) (bA 33 262143) ?_
            refine pureUh 18 (some 40) (bA 33 524287) ?_
            refine pureTk 19 (some 41) (bA 33 1048575) ?_
            refine pureTk 20 (some 42) (bA 33 2097151) ?_
            refine pureUh 21 (some 43) (bA 33 4194303) ?_
            refine pureUh 22 (some 44) (bA 33 8388607) ?_
            refine pureUh 23 (some 45) (bA 33 16777215) ?_
            refine pureUh 24 (some 46) (bA 33 33554431) ?_
            refine pureTk 25 (some 47) (bA 33 67108863) ?_
            refine pureTk 26 (some 48) (bA 33 134217727) ?_
            refine pureUh 27 (some 49) (bA 33 268435455) ?_
            refine pureUh 28 (some 50) (bA 33 536870911) ?_
            refine pureUh 29 (some 51) (bA 33 1073741823) ?_
            refine pureUh 30 (some 52) (bA 33 2147483647) ?_
            refine pureUh 31 (some 53) (bA 33 4294967295) ?_
            refine pureTk 32 (some 54) (bA 33 8589934591) ?_
            refine done_ (by kernel_rfl) ?_
            go_wp2
            go_ret
            exact ⟨by rw [HNO.out (0 ≤ (rd_T49 l0_1 (kk : Int)).f0 ∧ (rd_T49 l0_1 (kk : Int)).f0 ≤ 2) (fun h => h.1) h1]; rfl, by repeat (first | exact HB.out | apply pw_below_drewN | apply below_drew1)⟩
        · have hltb := eq_false hlt
          have hall : ∀ j, j < l0_1.length → okS_ l0_1 j := fun j hj => HA.out j (by have := HK.out; omega)
          have HALL := Aside0.mk hall
          clear hall HA
          go_wp2
          go_ret
          have hv : V = true := by rw [← HV.out]; exact decide_eq_true (show vM_ l0_0 l0_1 from ⟨H3N.out, HO.out, HALL.out⟩)
          exact ⟨by rw [hv]; rfl, HB.out⟩
  · have h3b : ((l0_0.length : Int) == 3) = false := beq_eq_false_iff_ne.2 (by omega)
    have h3c := eq_false (show ¬ ((l0_0.length : Int) = 3) by omega)
    have h3d : ((l0_0.length : Int) != 3) = true := by rw [bne, h3b]; rfl
    have H3N := Aside0.mk h3n
    clear h3n
    go_enter Try.func20, Try.ntmps20
    go_wp2_with ((with_reducible refine gate_dst (N := 1) rfl ?_); refine box_event ?hg (N := 1) ?hd (cs := #[.slice A0_0 l0_0.length c0_0, .slice A0_1 l0_1.length c0_1]) (t := 31) ?hr ?_; (case hd => rfl); (case hg => rfl); (case hr => first | (go_simp; done) | (go_simp; rfl)); intro gM hg wM hbox hb; have BM := Aside0.mk hbox; have HB := Aside0.mk hb; have HG := Aside0.mk (show w.heap.size ≤ gM by omega); have hcM_0 : wM.cell? ⟨gM, 0, none⟩ = some (.slice A0_0 l0_0.length c0_0) := (blk_cell BM.out 0).trans rfl; have hcM_1 : wM.cell? ⟨gM, 1, none⟩ = some (.slice A0_1 l0_1.length c0_1) := (blk_cell BM.out 1).trans rfl; clear hbox hb hg)
    go_ret
    exact ⟨by rw [← HV.out, decide_eq_false (fun h => H3N.out h.1)]; rfl, by repeat (first | exact HB.out | apply pw_below_drewN | apply below_drew1)⟩


end Go.Proofs.Ytcikahnmiiichaa.A
