/- Go functions as Lean functions, and the proof that the code comes to them: written by a program of this session out of the translation. -/
import Derived.Test.YtcikahnmiiichaaDoorP0
import Derived.Test.YtcikahnmiiichaaDoorP7
import Derived.Laws.RangeAny
import Derived.Laws.Runes
import Derived.Lib.IndexAny
import Derived.Lib.OthersKept
import Derived.Test.YtcikahnmiiichaaDoorShelf
namespace Go.Proofs.YtcikahnmiiichaaDoor.P
open List renaming setIfInBounds_toArray → uZ, set_cons_zero → vA, set_cons_succ → vB
open Go.World renaming block_lt_of_cell? → vF
open Go.Proofs.YtcikahnmiiichaaDoor.Given
open Go.RowKit Go.Proofs.YtcikahnmiiichaaDoorW.PrintWords Go.Proofs.YtcikahnmiiichaaDoorW.PrintLast Go.Proofs.YtcikahnmiiichaaDoorW.PrintMore
attribute [local go_sem] max2_int min2_int max_two min_two max_three min_three max_four min_four   -- for this text's walks alone
set_option linter.unusedVariables false
set_option linter.unusedSimpArgs false

/-! ### impl_ParseInt: function 103 -/
mutual
def impl_ParseInt.j0 : Nat → ByteArray → ByteArray → Int → Bool → Option (Int × Bool)
 | 0, _, _, _, _ => none
 | k + 1, x0, x4, x5, x16 => if x16 = true then (if 1 ≤ (x0.size : Int) then (impl_ParseInt.j1 k x0 (x0.extract 1 x0.size) (-1)) else (none)) else (impl_ParseInt.j1 k x0 x4 x5)
def impl_ParseInt.j1 : Nat → ByteArray → ByteArray → Int → Option (Int × Bool)
 | 0, _, _, _ => none
 | k + 1, x0, x4, x5 => (impl_within.f (x4.size : Int) 1 9).bind fun t180 => (if t180 = true then (impl_ParseInt.l0 k x0 x4 x5 0 (x4.size : Int) 0) else (some (0, false)))
def impl_ParseInt.l0 : Nat → ByteArray → ByteArray → Int → Int → Int → Int → Option (Int × Bool)
 | 0, _, _, _, _, _, _ => none
 | k + 1, x0, x4, x5, x6, x24, x25 => if x25 < x24 then (if 0 ≤ x25 then (if x25 < (x4.size : Int) then (if (bt x4 x25) < 48 then (some (0, false)) else (if (bt x4 x25) > 57 then (some (0, false)) else (impl_ParseInt.l0 k x0 x4 x5 (wrap64 ((wrap64 (10 * x6)) + (((bt x4 x25) - 48) % 256))) x24 (wrap64 (x25 + 1))))) else (none)) else (none)) else ((impl_FormatInt.f (wrap64 (x5 * x6))).bind fun t181 => (if t181.toList = x0.toList then (some (wrap64 (x5 * x6), true)) else (some (0, false))))
end
def impl_ParseInt.f (k : Nat) (a0 : ByteArray) : Option (Int × Bool) := if (a0.size : Int) > 0 then (if 0 < (a0.size : Int) then (impl_ParseInt.j0 k a0 a0 1 ((bt a0 0) == 45)) else (none)) else (impl_ParseInt.j0 k a0 a0 1 false)
theorem impl_ParseInt.mono_l : ∀ k, (∀ y0 y1 y2 y3, uA (impl_ParseInt.j0 k y0 y1 y2 y3) (impl_ParseInt.j0 (k + 1) y0 y1 y2 y3)) ∧ (∀ y0 y1 y2, uA (impl_ParseInt.j1 k y0 y1 y2) (impl_ParseInt.j1 (k + 1) y0 y1 y2)) ∧ (∀ y0 y1 y2 y3 y4 y5, uA (impl_ParseInt.l0 k y0 y1 y2 y3 y4 y5) (impl_ParseInt.l0 (k + 1) y0 y1 y2 y3 y4 y5))
 | 0 => ⟨fun _ _ _ _ r h => by simp [impl_ParseInt.j0] at h, fun _ _ _ r h => by simp [impl_ParseInt.j1] at h, fun _ _ _ _ _ _ r h => by simp [impl_ParseInt.l0] at h⟩
 | k + 1 => by
  obtain ⟨ih0, ih1, ih2⟩ := impl_ParseInt.mono_l k
  refine ⟨?_, ?_, ?_⟩
  ·intro y0 y1 y2 y3
   unfold impl_ParseInt.j0
   repeat' first
   | (with_reducible exact ih0 _ _ _ _)
   | (with_reducible exact ih1 _ _ _)
   | (with_reducible exact ih2 _ _ _ _ _ _)
   | (with_reducible exact uA.refl _)
   | (with_reducible exact uA.none _)
   | (with_reducible refine uA.ite ?_ ?_)
   | (with_reducible refine uA.bind ?_ (fun _ => ?_))
   | exact ih0 _ _ _ _
   | exact ih1 _ _ _
   | exact ih2 _ _ _ _ _ _
   | exact uA.none _
   | refine uA.ite ?_ ?_
   | refine uA.bind ?_ (fun _ => ?_)
  ·intro y0 y1 y2
   unfold impl_ParseInt.j1
   repeat' first
   | (with_reducible exact ih0 _ _ _ _)
   | (with_reducible exact ih1 _ _ _)
   | (with_reducible exact ih2 _ _ _ _ _ _)
   | (with_reducible exact uA.refl _)
   | (with_reducible exact uA.none _)
   | (with_reducible refine uA.ite ?_ ?_)
   | (with_reducible refine uA.bind ?_ (fun _ => ?_))
   | exact ih0 _ _ _ _
   | exact ih1 _ _ _
   | exact ih2 _ _ _ _ _ _
   | exact uA.none _
   | refine uA.ite ?_ ?_
   | refine uA.bind ?_ (fun _ => ?_)
  intro y0 y1 y2 y3 y4 y5
  unfold impl_ParseInt.l0
  repeat' first
  | (with_reducible exact ih0 _ _ _ _)
  | (with_reducible exact ih1 _ _ _)
  | (with_reducible exact ih2 _ _ _ _ _ _)
  | (with_reducible exact uA.refl _)
  | (with_reducible exact uA.none _)
  | (with_reducible refine uA.ite ?_ ?_)
  | (with_reducible refine uA.bind ?_ (fun _ => ?_))
  | exact ih0 _ _ _ _
  | exact ih1 _ _ _
  | exact ih2 _ _ _ _ _ _
  | exact uA.none _
  | refine uA.ite ?_ ?_
  | refine uA.bind ?_ (fun _ => ?_)
theorem impl_ParseInt.mono : ∀ a0 k, uA (impl_ParseInt.f k a0) (impl_ParseInt.f (k + 1) a0) := by
 intro a0 k
 obtain ⟨ih0, ih1, ih2⟩ := impl_ParseInt.mono_l k
 unfold impl_ParseInt.f
 repeat' first
   | (with_reducible exact ih0 _ _ _ _)
   | (with_reducible exact ih1 _ _ _)
   | (with_reducible exact ih2 _ _ _ _ _ _)
   | (with_reducible exact uA.refl _)
   | (with_reducible exact uA.none _)
   | (with_reducible refine uA.ite ?_ ?_)
   | (with_reducible refine uA.bind ?_ (fun _ => ?_))
   | exact ih0 _ _ _ _
   | exact ih1 _ _ _
   | exact ih2 _ _ _ _ _ _
   | exact uA.none _
   | refine uA.ite ?_ ?_
   | refine uA.bind ?_ (fun _ => ?_)
set_option maxHeartbeats 8000000 in
set_option maxRecDepth 100000 in
theorem impl_ParseInt.calls (k : Nat) (a0 : ByteArray) (r1 : Int) (r2 : Bool) (w : World) (hWF : WF w) (h : impl_ParseInt.f k a0 = some (r1, r2)) :
  Calls Tryd.prog 103 #[.string a0] w fun e w' => e = .returned (.tuple #[.int .i64 r1, .bool r2]) ∧ Below w.heap.size w w' := by
 have HB := Aside0.mk (Below.refl w.heap.size w)
 have H : (if (a0.size : Int) > 0 then (if 0 < (a0.size : Int) then (impl_ParseInt.j0 k a0 a0 1 ((bt a0 0) == 45)) else (none)) else (impl_ParseInt.j0 k a0 a0 1 false)) = some (r1, r2) := h
 clear h
 have HC2 := Aside0.mk H
 clear H
 go_enter Tryd.func103, Tryd.ntmps103
 go_upto_region 2 with (fail)
 go_cut [16] (fun v16 wc => ∃ (kq : Nat) (x16_1 : Bool), v16 = .bool x16_1 ∧ Aside0 (impl_ParseInt.j0 kq a0 a0 1 x16_1 = some (r1, r2)) ∧ Aside0 (kq ≤ k) ∧ Aside0 (Below w.heap.size w wc))
 case first =>
  have H := HC2.out
  clear HC2
  by_cases c3 : (a0.size : Int) > 0
  rotate_left
  ·rw [if_neg c3] at H
   have c3b0 := decide_eq_false c3
   have c3b1 : decide (0 < a0.size) = false := decide_eq_false (by omega)
   clear c3
   (first | rw [c3b0] | (simp only [uQ, i32_w]; rw [c3b0]) | skip)
   have H' := Aside0.mk H
   clear H
   go_wp2
   go_meet
   case rel => exact ⟨_, (false), cq3, H', ⟨by first | omega | exact Nat.le_refl _⟩, ⟨cq1⟩⟩
  rw [if_pos c3] at H
  have c3b0 := decide_eq_true c3
  have c3b1 : decide (0 < a0.size) = true := decide_eq_true (by omega)
  clear c3
  (first | rw [c3b0] | (simp only [uQ, i32_w]; rw [c3b0]) | skip)
  by_cases c4 : 0 < (a0.size : Int)
  rotate_left
  ·rw [if_neg c4] at H
   exact absurd H (by simp)
  rw [if_pos c4] at H
  have c4b0 := decide_eq_true c4
  have c4b1 : decide (0 < a0.size) = true := decide_eq_true (by omega)
  clear c4
  have H' := Aside0.mk H
  clear H
  have p5 : 0 ≤ (0 : Int) := (by omega)
  have q5 : 0 < a0.size := (by have : (0 : Int) < (a0.size : Int) := of_decide_eq_true uJ; omega)
  have hx5 : ∀ h : 0 < a0.size, ((a0[0]'h).toNat : Int) = bt a0 0 := bt_at a0 0
  clear p5
  have qi5 : (0 < (a0.size : Int)) = True := eq_true (of_decide_eq_true uJ)
  replace q5 := eq_true q5
  go_wp2
  go_meet
  case rel => exact ⟨_, (((bt a0 0) == 45)), cq3, H', ⟨by first | omega | exact Nat.le_refl _⟩, ⟨cq1⟩⟩
 case rest =>
  clear HC2
  obtain ⟨kq, x16_1, rfl, HA, HJ1, HB⟩ := hcut
  cases kq with
  | zero => exact absurd HA.out (by simp [impl_ParseInt.j0])
  | succ kj1 =>
   have H := HA.out
   clear HA
   simp only [impl_ParseInt.j0] at H
   have HC6 := Aside0.mk H
   clear H
   go_upto_if 16 with (fail)
   go_cut [4, 5] (fun v4 v5 wc => ∃ (kq : Nat) (x4_5 : ByteArray) (x5_5 : Int), v4 = .string x4_5 ∧ v5 = .int .i64 x5_5 ∧ Aside0 (impl_ParseInt.j1 kq a0 x4_5 x5_5 = some (r1, r2)) ∧ Aside0 (kq ≤ kj1) ∧ Aside0 (Below w.heap.size w wc))
   case first =>
    have H := HC6.out
    clear HC6
    by_cases c7 : x16_1 = true
    rotate_left
    ·replace c7 := Bool.eq_false_iff.mpr c7
     subst c7
     try rw [if_neg (show ¬ (false = true) by decide)] at H
     have H' := Aside0.mk H
     clear H
     go_wp2
     go_meet
     case rel => exact ⟨_, (a0), (1), cq3, cq3, H', ⟨by have := HJ1.out; first | omega | exact Nat.le_refl _⟩, ⟨cq1⟩⟩
    subst c7
    try rw [if_pos rfl] at H
    by_cases c8 : 1 ≤ (a0.size : Int)
    rotate_left
    ·rw [if_neg c8] at H
     exact absurd H (by simp)
    rw [if_pos c8] at H
    have c8b0 := eq_true c8
    have c8b1 := decide_eq_true c8
    clear c8
    have H' := Aside0.mk H
    clear H
    go_wp2
    go_meet
    case rel => exact ⟨_, (a0.extract 1 a0.size), ((-1)), cq3, cq3, H', ⟨by have := HJ1.out; first | omega | exact Nat.le_refl _⟩, ⟨cq1⟩⟩
   case rest =>
    clear HC6
    obtain ⟨kq, x4_5, x5_5, rfl, rfl, HA, HJ5, HB⟩ := hcut
    cases kq with
    | zero => exact absurd HA.out (by simp [impl_ParseInt.j1])
    | succ kj5 =>
     have H := HA.out
     clear HA
     simp only [impl_ParseInt.j1] at H
     replace H := Option.bind_eq_some_iff.mp H
     obtain ⟨t180, A90, H⟩ := H
     try dsimp only at H
     have A9 := Aside0.mk A90
     clear A90
     by_cases c10 : t180 = true
     rotate_left
     ·replace c10 := Bool.eq_false_iff.mpr c10
      subst c10
      try rw [if_neg (show ¬ (false = true) by decide)] at H
      simp only [Option.some.injEq, Prod.mk.injEq] at H
      obtain ⟨rfl, rfl⟩ := H
      go_wp2_with (first | ((with_reducible refine uI (f := 55) rfl ?_); refine goesM (some 21) Tryd.func55 #[.int .i64 (x4_5.size : Int), .int .i64 1, .int .i64 9] ?_; (with_reducible refine (impl_within.calls (x4_5.size : Int) 1 9 false _ A9.out).mono ?_); rintro e w' ⟨rfl, ⟨nd, rfl⟩⟩; refine ⟨_, rfl, ?_⟩))
      go_ret2
      exact ⟨cq4, cq1⟩
     subst c10
     try rw [if_pos rfl] at H
     have H' := Aside0.mk H
     clear H
     go_wp2_with (first | ((with_reducible refine uI (f := 55) rfl ?_); refine goesM (some 21) Tryd.func55 #[.int .i64 (x4_5.size : Int), .int .i64 1, .int .i64 9] ?_; (with_reducible refine (impl_within.calls (x4_5.size : Int) 1 9 true _ A9.out).mono ?_); rintro e w' ⟨rfl, ⟨nd, rfl⟩⟩; refine ⟨_, rfl, ?_⟩))
     go_loopg [6, 25] kj5 (fun kq v6 v25 w' => ∃ (x6_3 : Int) (x25_3 : Int), v6 = .int .i64 x6_3 ∧ v25 = .int .i64 x25_3 ∧ Aside0 (impl_ParseInt.l0 kq a0 x4_5 x5_5 x6_3 (x4_5.size : Int) x25_3 = some (r1, r2)) ∧ Aside0 (kq ≤ kj5) ∧ Aside0 (Below w.heap.size w w'))
     case atStart => exact ⟨(0), (0), cq3, cq3, H', ⟨Nat.le_refl _⟩, ⟨cq1⟩⟩
     case round =>
      clear H'
      try clear c10
      obtain ⟨x6_3, x25_3, rfl, rfl, HA, HK3, HB⟩ := hrel
      cases gk with
      | zero => exact absurd HA.out (by simp [impl_ParseInt.l0])
      | succ k3 =>
       have H := HA.out
       clear HA
       simp only [impl_ParseInt.l0] at H
       by_cases c11 : x25_3 < (x4_5.size : Int)
       rotate_left
       ·rw [if_neg c11] at H
        have c11b0 := decide_eq_false c11
        clear c11
        replace H := Option.bind_eq_some_iff.mp H
        obtain ⟨t181, A190, H⟩ := H
        try dsimp only at H
        have A19 := Aside0.mk A190
        clear A190
        go_wp2_with (first | ((with_reducible refine uI (f := 87) rfl ?_); refine goesM (some 50) Tryd.func87 #[.int .i64 (wrap64 (x5_5 * x6_3))] ?_; (with_reducible refine (impl_FormatInt.calls (wrap64 (x5_5 * x6_3)) t181 _ ?side1 A19.out).mono ?_); (case side1 => exact cq48); rintro e w22 ⟨rfl, hb⟩; refine ⟨_, rfl, ?_⟩; replace HB := uP HB hb; (try clear hb); refine ?roundEnd))
        case roundEnd =>
        by_cases c20 : t181.toList = a0.toList
        rotate_left
        ·rw [if_neg c20] at H
         have c20b0 : (t181.toList == a0.toList) = false := beq_eq_false_iff_ne.mpr c20
         have c20b1 : (t181.toList != a0.toList) = true := bne_iff_ne.mpr c20
         simp only [Option.some.injEq, Prod.mk.injEq] at H
         obtain ⟨rfl, rfl⟩ := H
         go_wp2
         go_ret2
         exact ⟨cq4, cq1⟩
        rw [if_pos c20] at H
        have c20b0 : (t181.toList == a0.toList) = true := beq_iff_eq.mpr c20
        have c20b1 : (t181.toList != a0.toList) = false := bne_eq_false_iff_eq.mpr c20
        clear c20
        simp only [Option.some.injEq, Prod.mk.injEq] at H
        obtain ⟨rfl, rfl⟩ := H
        go_wp2
        go_ret2
        exact ⟨cq4, cq1⟩
       rw [if_pos c11] at H
       have c11b0 := decide_eq_true c11
       clear c11
       obtain ⟨c12b0, H⟩ := ifD H
       obtain ⟨c13b0, H⟩ := ifD H
       by_cases c15 : (bt x4_5 x25_3) < 48
       ·rw [if_pos c15] at H
        have c15b0 := decide_eq_true c15
        clear c15
        simp only [Option.some.injEq, Prod.mk.injEq] at H
        obtain ⟨rfl, rfl⟩ := H
        have p14 : 0 ≤ (x25_3 : Int) := of_decide_eq_true uJ
        have q14 : x25_3 < (x4_5.size : Int) := of_decide_eq_true uJ
        have hx14 := bt_at x4_5 x25_3
        replace p14 := eq_true p14
        replace q14 := eq_true q14
        go_wp2
        go_ret2
        exact ⟨cq4, cq1⟩
       rw [if_neg c15] at H
       have c15b0 := decide_eq_false c15
       clear c15
       by_cases c17 : (bt x4_5 x25_3) > 57
       ·rw [if_pos c17] at H
        have c17b0 := decide_eq_true c17
        clear c17
        simp only [Option.some.injEq, Prod.mk.injEq] at H
        obtain ⟨rfl, rfl⟩ := H
        have p14 : 0 ≤ (x25_3 : Int) := of_decide_eq_true uJ
        have q14 : x25_3 < (x4_5.size : Int) := of_decide_eq_true uJ
        have hx14 := bt_at x4_5 x25_3
        replace p14 := eq_true p14
        replace q14 := eq_true q14
        have p16 : 0 ≤ (x25_3 : Int) := of_decide_eq_true uJ
        have q16 : x25_3 < (x4_5.size : Int) := of_decide_eq_true uJ
        have hx16 := bt_at x4_5 x25_3
        replace p16 := eq_true p16
        replace q16 := eq_true q16
        go_wp2
        go_ret2
        exact ⟨cq4, cq1⟩
       rw [if_neg c17] at H
       have c17b0 := decide_eq_false c17
       clear c17
       have H' := Aside0.mk H
       clear H
       have p14 : 0 ≤ (x25_3 : Int) := of_decide_eq_true uJ
       have q14 : x25_3 < (x4_5.size : Int) := of_decide_eq_true uJ
       have hx14 := bt_at x4_5 x25_3
       replace p14 := eq_true p14
       replace q14 := eq_true q14
       have p16 : 0 ≤ (x25_3 : Int) := of_decide_eq_true uJ
       have q16 : x25_3 < (x4_5.size : Int) := of_decide_eq_true uJ
       have hx16 := bt_at x4_5 x25_3
       replace p16 := eq_true p16
       replace q16 := eq_true q16
       have p18 : 0 ≤ (x25_3 : Int) := of_decide_eq_true uJ
       have q18 : x25_3 < (x4_5.size : Int) := of_decide_eq_true uJ
       have hx18 := bt_at x4_5 x25_3
       replace p18 := eq_true p18
       replace q18 := eq_true q18
       go_wp2
       go_roundg k3
       case measure => have := HJ1.out; have := HJ5.out; have := HK3.out; omega
       case rel => exact ⟨(wrap64 ((wrap64 (10 * x6_3)) + (((bt x4_5 x25_3) - 48) % 256))), (wrap64 (x25_3 + 1)), cq3, cq3, H', ⟨by have := HJ1.out; have := HJ5.out; have := HK3.out; omega⟩, ⟨cq1⟩⟩

/-! ### impl_number: function 72 -/
def impl_number.f (k : Nat) (a0 : ByteArray) : Option (Int) := (impl_ParseInt.f k a0).bind fun bt182 => (if bt182.2 = true then (some bt182.1) else (some (-1)))
theorem impl_number.mono : ∀ a0 k, uA (impl_number.f k a0) (impl_number.f (k + 1) a0) := by
 intro a0 k
 unfold impl_number.f
 repeat' first
   | (with_reducible exact impl_ParseInt.mono _ _)
   | (with_reducible exact uA.refl _)
   | (with_reducible exact uA.none _)
   | (with_reducible refine uA.ite ?_ ?_)
   | (with_reducible refine uA.bind ?_ (fun _ => ?_))
   | exact uA.none _
   | refine uA.ite ?_ ?_
   | refine uA.bind ?_ (fun _ => ?_)
set_option maxHeartbeats 8000000 in
set_option maxRecDepth 100000 in
theorem impl_number.calls (k : Nat) (a0 : ByteArray) (r : Int) (w : World) (hWF : WF w) (h : impl_number.f k a0 = some r) :
  Calls Tryd.prog 72 #[.string a0] w fun e w' => e = .returned (.int .i64 r) ∧ Below w.heap.size w w' := by
 have HB := Aside0.mk (Below.refl w.heap.size w)
 have H : ((impl_ParseInt.f k a0).bind fun bt182 => (if bt182.2 = true then (some bt182.1) else (some (-1)))) = some r := h
 clear h
 replace H := Option.bind_eq_some_iff.mp H
 obtain ⟨⟨t182, t183⟩, A20, H⟩ := H
 try dsimp only at H
 have A2 := Aside0.mk A20
 clear A20
 by_cases c3 : t183 = true
 ·subst c3
  try rw [if_pos rfl] at H
  obtain rfl := Option.some.inj H
  go_enter Tryd.func72, Tryd.ntmps72
  go_wp2_with (first | ((with_reducible refine uI (f := 103) rfl ?_); refine goesM (some 7) Tryd.func103 #[.string a0] ?_; (with_reducible refine (impl_ParseInt.calls k a0 t182 true _ ?side1 A2.out).mono ?_); (case side1 => exact cq48); rintro e w4 ⟨rfl, hb⟩; refine ⟨_, rfl, ?_⟩; replace HB := uP HB hb; (try clear hb)))
  go_ret
  exact ⟨cq4, cq1⟩
 replace c3 := Bool.eq_false_iff.mpr c3
 subst c3
 try rw [if_neg (show ¬ (false = true) by decide)] at H
 obtain rfl := Option.some.inj H
 go_enter Tryd.func72, Tryd.ntmps72
 go_wp2_with (first | ((with_reducible refine uI (f := 103) rfl ?_); refine goesM (some 7) Tryd.func103 #[.string a0] ?_; (with_reducible refine (impl_ParseInt.calls k a0 t182 false _ ?side1 A2.out).mono ?_); (case side1 => exact cq48); rintro e w5 ⟨rfl, hb⟩; refine ⟨_, rfl, ?_⟩; replace HB := uP HB hb; (try clear hb)))
 go_ret
 exact ⟨cq4, cq1⟩

/-! ### strings_IndexAny: function 76 -/
theorem iter_below (w : World) (s : ByteArray) (p : Nat) : Below w.heap.size w (w.iter s p) := by
  unfold World.iter
  exact below_alloc (Below.refl _ _) _
theorem iter_at (w : World) (s : ByteArray) (p : Nat) : (w.iter s p).heap[w.heap.size]? = some (.stringIter s p) := blk_new w _
theorem enc_form (r : Int) (hv : Utf8.valid r = true) (h128 : 128 ≤ r) : ∃ x y z u : UInt8, 128 ≤ y.toNat ∧ (Utf8.encode r = ⟨#[x, y]⟩ ∨ Utf8.encode r = ⟨#[x, z, y]⟩ ∨ Utf8.encode r = ⟨#[x, z, u, y]⟩) := by
  have hc : ¬ r.toNat < 128 := by omega
  unfold Utf8.encode
  simp only [hv, if_true, hc, if_false]
  have hy : 128 ≤ (UInt8.ofNat (128 + r.toNat % 64)).toNat := by simp; omega
  split
  · exact ⟨_, UInt8.ofNat (128 + r.toNat % 64), 0, 0, hy, .inl rfl⟩
  · split
    · exact ⟨_, UInt8.ofNat (128 + r.toNat % 64), _, 0, hy, .inr (.inl rfl)⟩
    · exact ⟨_, UInt8.ofNat (128 + r.toNat % 64), _, _, hy, .inr (.inr rfl)⟩
set_option maxHeartbeats 8000000 in
set_option maxRecDepth 100000 in
theorem idxRune (hIB : ∀ (s : ByteArray) (c : Int) (w : World), Calls Tryd.prog 123 #[.string s, .int .u8 c] w fun e w' => e = .returned (.int .i64 (Lib.indexByte s.data.toList c.toNat.toUInt8)) ∧ Drawn0 w w')
   (hVR : ∀ (r : Int) (w : World), Calls Tryd.prog 124 #[.int .i32 r] w fun e w' => e = .returned (.bool (Utf8.valid r)) ∧ w' = w)
   (r : Int) (h0 : 128 ≤ r) (hne : r ≠ 65533) (hv : Utf8.valid r = true) (w : World) :
   Calls Tryd.prog 106 #[.string ⟨#[43, 45]⟩, .int .i32 r] w fun e w' => e = .returned (.int .i64 (-1)) ∧ Below w.heap.size w w' := by
  obtain ⟨x, y, z, u, hy, hE⟩ := enc_form r hv h0
  have c1 : decide (r < 128) = false := decide_eq_false (by omega)
  have c0 : decide (0 ≤ r) = true := decide_eq_true (by omega)
  have c2 : (r == 65533) = false := beq_eq_false_iff_ne.2 hne
  have c3 : ((45 : Int) != (y.toNat : Int)) = true := bne_iff_ne.2 (by omega)
  obtain ⟨E, hEE⟩ : ∃ E, Utf8.encode r = E := ⟨_, rfl⟩
  have f1 : 2 ≤ E.size := by rw [← hEE]; exact (encode_facts r hv h0).1
  have f2 : E.size ≤ 4 := by rw [← hEE]; exact (encode_facts r hv h0).2.1
  go_enter Tryd.func106, Tryd.ntmps106
  go_wp2_with (go_at_call 124; refine (hVR _ _).mono ?_; rintro e w' ⟨rfl, rfl⟩; rw [hv])
  refine wp_scope_straight ?_
  go_wp2
  rw [hEE] at hE
  rcases hE with hE | hE | hE
  · subst hE
    refine wp_loop_rounds 1 ?_
    rw [rounds_succ]
    have e2 : ((⟨#[x, y]⟩ : ByteArray).size : Int) = 2 := rfl
    simp only [e2, Int.reduceSub]
    go_wp2
    refine wp_scope_straight ?_
    go_wp2
    go_quiet (fail)
    have c4 : ((((⟨#[43, 45]⟩ : ByteArray)[1]'(by decide)).toNat : Int) != (((⟨#[x, y]⟩ : ByteArray)[1]'(by show 1 < 2; decide)).toNat : Int)) = true := c3
    simp only [c4]
    go_wp2
    go_quiet (first | (go_at_call 123; (refine (hIB _ _ _).mono ?_); rintro e w' ⟨rfl, ⟨nd, rfl⟩⟩; (try first | exact ⟨rfl, _, World.drewN_drewN _ _ _⟩ | exact ⟨rfl, _, Eq.trans (World.drewN_drewN _ _ _) (congrArg (World.drewN _) (Nat.add_assoc _ _ _))⟩)))
    have c5 : ∀ c, Lib.indexByte ByteArray.empty.data.toList c = -1 := fun _ => rfl
    simp only [c5]
    go_wp2
    simp only [Exit.noGoto, Exit.inBlock, Exit.then]
    first | go_ret | go_ret2
    first | exact ⟨rfl, uR (uR (Below.refl _ _) _) _⟩ | exact ⟨rfl, uR (Below.refl _ _) _⟩
  · subst hE
    refine wp_loop_rounds 1 ?_
    rw [rounds_succ]
    have e2 : ((⟨#[x, z, y]⟩ : ByteArray).size : Int) = 3 := rfl
    simp only [e2, Int.reduceSub]
    go_wp2
    simp only [Exit.noGoto]
    first | go_ret | go_ret2
    exact ⟨rfl, Below.refl _ _⟩
  · subst hE
    refine wp_loop_rounds 1 ?_
    rw [rounds_succ]
    have e2 : ((⟨#[x, z, u, y]⟩ : ByteArray).size : Int) = 4 := rfl
    simp only [e2, Int.reduceSub]
    go_wp2
    simp only [Exit.noGoto]
    first | go_ret | go_ret2
    exact ⟨rfl, Below.refl _ _⟩
set_option maxHeartbeats 8000000 in
set_option maxRecDepth 100000 in
theorem idxRuneE (w : World) :
   Calls Tryd.prog 106 #[.string ⟨#[43, 45]⟩, .int .i32 65533] w fun e w' => e = .returned (.int .i64 (-1)) ∧ Below w.heap.size w w' := by
  have n0 := fun ty => run_next_ascii (P := Tryd.prog) w ⟨#[43, 45]⟩ 0 ty (by show 0 < 2; decide) (by show 43 < 128; decide)
  have n1 := fun ty => run_next_ascii (P := Tryd.prog) w ⟨#[43, 45]⟩ 1 ty (by show 1 < 2; decide) (by show 45 < 128; decide)
  have n2 := fun ty => run_next_end (P := Tryd.prog) w ⟨#[43, 45]⟩ 2 ty (by show ¬ 2 < 2; decide)
  have hb : Below w.heap.size w (w.iter ⟨#[43, 45]⟩ 2) := by exact iter_below w _ _
  go_enter Tryd.func106, Tryd.ntmps106
  go_wp2
  refine wp_loop_rounds 3 ?_
  rw [rounds_succ]
  go_wp2
  rw [rounds_succ]
  go_wp2
  rw [rounds_succ]
  go_wp2
  first | go_ret | go_ret2
  exact ⟨rfl, hb⟩
/-- A rune of more than one byte: all of its bytes are of 128 and more; it is a rune that can be written. -/
theorem decode_bytes (s : ByteArray) (pos : Nat) (h : pos < s.size) (ha : 128 ≤ (s[pos]'h).toNat) :
    pos + (Utf8.decode s pos).2 ≤ s.size ∧ (∀ j (hj : j < s.size), pos ≤ j → j < pos + (Utf8.decode s pos).2 → 128 ≤ (s[j]'hj).toNat) ∧ Utf8.valid ((Utf8.decode s pos).1 : Int) = true := by
  have get : ∀ k (hk : pos + k < s.size), s.get! (pos + k) = s[pos + k]'hk := fun k hk => by
    show s.get! (pos + k) = _
    simp [ByteArray.get!, getElem!_pos, hk]
    rfl
  have one : pos + 1 ≤ s.size ∧ (∀ j (hj : j < s.size), pos ≤ j → j < pos + 1 → 128 ≤ (s[j]'hj).toNat) ∧ Utf8.valid ((65533 : Nat) : Int) = true := by
    refine ⟨h, fun j hj h1 h2 => ?_, by decide⟩
    obtain rfl : j = pos := by omega
    exact ha
  have hn : ¬ (s[pos]'h).toNat < 128 := by omega
  have g0 := get 0 h
  simp only [Nat.add_zero] at g0
  simp only [Utf8.decode, Nat.add_zero, g0, hn, if_false]
  split
  · rename_i h1
    simp only [Bool.and_eq_true, beq_iff_eq, decide_eq_true_eq] at h1
    obtain ⟨h1, h2, h3⟩ := h1
    rw [get 1 h2] at h3 ⊢
    split
    · refine ⟨h2, fun j hj p1 p2 => ?_, ?_⟩
      · rcases Nat.lt_or_ge j (pos + 1) with q | q
        · obtain rfl : j = pos := by omega
          exact ha
        · obtain rfl : j = pos + 1 := by omega
          omega
      · have := (s[pos + 1]'h2).toNat_lt
        simp only [Utf8.valid, Bool.or_eq_true, Bool.and_eq_true, decide_eq_true_eq]
        left; omega
    · exact one
  · split
    · rename_i h1
      simp only [Bool.and_eq_true, beq_iff_eq, decide_eq_true_eq] at h1
      obtain ⟨⟨h1, h2, h3⟩, h4, h5⟩ := h1
      rw [get 1 h2] at h3 ⊢
      rw [get 2 h4] at h5 ⊢
      split
      · rename_i h6
        simp only [Bool.and_eq_true, decide_eq_true_eq] at h6
        refine ⟨h4, fun j hj p1 p2 => ?_, h6.2⟩
        rcases Nat.lt_or_ge j (pos + 1) with q | q
        · obtain rfl : j = pos := by omega
          exact ha
        · rcases Nat.lt_or_ge j (pos + 2) with q | q
          · obtain rfl : j = pos + 1 := by omega
            omega
          · obtain rfl : j = pos + 2 := by omega
            omega
      · exact one
    · split
      · rename_i h1
        simp only [Bool.and_eq_true, beq_iff_eq, decide_eq_true_eq] at h1
        obtain ⟨⟨⟨h1, h2, h3⟩, h4, h5⟩, h6, h7⟩ := h1
        rw [get 1 h2] at h3 ⊢
        rw [get 2 h4] at h5 ⊢
        rw [get 3 h6] at h7 ⊢
        split
        · rename_i h8
          simp only [Bool.and_eq_true, decide_eq_true_eq] at h8
          refine ⟨h6, fun j hj p1 p2 => ?_, h8.2⟩
          rcases Nat.lt_or_ge j (pos + 1) with q | q
          · obtain rfl : j = pos := by omega
            exact ha
          · rcases Nat.lt_or_ge j (pos + 2) with q | q
            · obtain rfl : j = pos + 1 := by omega
              omega
            · rcases Nat.lt_or_ge j (pos + 3) with q | q
              · obtain rfl : j = pos + 2 := by omega
                omega
              · obtain rfl : j = pos + 3 := by omega
                omega
        · exact one
      · exact one
theorem noAny_skip (s chars : List UInt8) (i k : Nat) (h : Lib.NoAny s chars i) (hk : ∀ j b, i ≤ j → j < i + k → s[j]? = some b → chars.contains b = false) : Lib.NoAny s chars (i + k) := fun j b hj hb => by
  rcases Nat.lt_or_ge j i with q | q
  · exact h j b q hb
  · exact hk j b q hj hb
set_option maxHeartbeats 8000000 in
set_option maxRecDepth 100000 in
theorem idxAnyShort (hSU : ∀ (n : Int) (w : World), Calls Tryd.prog 107 #[.int .i64 n] w fun e w' => e = .returned (.bool (decide (8 < n))) ∧ w' = w)
    (hA : ∀ (r : Int) (w : World), 0 ≤ r → r < 128 → Calls Tryd.prog 106 #[.string ⟨#[43, 45]⟩, .int .i32 r] w fun e w' => e = .returned (.int .i64 (Lib.indexByte [43, 45] r.toNat.toUInt8)) ∧ w' = w)
    (hR : ∀ (r : Int) (w : World), 128 ≤ r → Utf8.valid r = true → Calls Tryd.prog 106 #[.string ⟨#[43, 45]⟩, .int .i32 r] w fun e w' => e = .returned (.int .i64 (-1)) ∧ Below w.heap.size w w')
    (s : ByteArray) (h8 : s.size ≤ 8) (w : World) :
    Calls Tryd.prog 76 #[.string s, .string ⟨#[43, 45]⟩] w fun e w' => e = .returned (.int .i64 (Lib.indexAny s.data.toList [43, 45])) ∧ Below w.heap.size w w' := by
  have h8z : decide ((8 : Int) < (s.size : Int)) = false := decide_eq_false (by omega)
  go_enter Tryd.func76, Tryd.ntmps76
  go_wp2_with (go_at_call 107; refine (hSU _ _).mono ?_; rintro e w' ⟨rfl, hw⟩; rw [hw, h8z])
  go_loopg [9, 10] s.size (fun g _ _ wx => ∃ i : Nat, i ≤ s.size ∧ s.size ≤ i + g ∧ wx.heap[w.heap.size]? = some (.stringIter s i) ∧ Below w.heap.size w wx ∧ Lib.NoAny s.data.toList [43, 45] i)
  case atStart => exact ⟨0, by omega, by omega, iter_at w s 0, iter_below w s 0, Lib.NoAny.zero _ _⟩
  case round =>
    obtain ⟨i, hi1, hi2, hit, hbel, hno⟩ := hrel
    have HN : Aside0 (Lib.NoAny s.data.toList [43, 45] i) := ⟨hno⟩
    have HT := Aside0.mk hit
    have HBL := Aside0.mk hbel
    clear hno hit hbel
    rcases Nat.lt_or_ge i s.size with hi | hi
    · cases gk with
      | zero => omega
      | succ g =>
        obtain ⟨x, hx⟩ : ∃ x : UInt8, s[i]'hi = x := ⟨_, rfl⟩
        have hxl : s.data.toList[i]? = some x := by rw [← hx]; exact Lib.data_getElem? s i hi
        have HX := Aside0.mk hxl
        clear hxl
        have HSZ := Aside0.mk (uY HBL.out)
        rcases Nat.lt_or_ge x.toNat 128 with h1 | h1
        · have hnx := fun ty => Lib.run_next_ascii_at (P := Tryd.prog) wr w.heap.size s i ty HT.out hi (by rw [hx]; exact h1)
          rw [hx] at hnx
          have HB2 := Aside0.mk (Lib.below_iterAt HBL.out (k := w.heap.size) (Nat.le_refl _) s (i + 1))
          have HI2 := Aside0.mk (Lib.iterAt_heap wr w.heap.size s i (i + 1) HT.out)
          generalize wr.iterAt w.heap.size s (i + 1) = w2 at hnx HB2 HI2
          have hback : ((x.toNat : Int)).toNat.toUInt8 = x := by simp
          have hcon := Lib.contains_iff_indexByte [43, 45] x
          cases hin : ([43, 45] : List UInt8).contains x
          · rw [hin] at hcon
            have hlt : ¬ ((0 : Int) ≤ Lib.indexByte [43, 45] x) := of_decide_eq_false hcon.symm
            clear hcon
            go_wp2_with (go_at_call 106; refine (hA _ _ (by omega) (by omega)).mono ?_; rintro e w' ⟨rfl, hw⟩; rw [hw, hback])
            go_roundg g
            case measure => omega
            case rel => exact ⟨i + 1, by omega, by omega, HI2.out, HB2.out, HN.out.succ HX.out hin⟩
          · rw [hin] at hcon
            have hge : (0 : Int) ≤ Lib.indexByte [43, 45] x := of_decide_eq_true hcon.symm
            clear hcon
            go_wp2_with (go_at_call 106; refine (hA _ _ (by omega) (by omega)).mono ?_; rintro e w' ⟨rfl, hw⟩; rw [hw, hback])
            first | go_ret | go_ret2
            exact ⟨by rw [Lib.indexAny_hit HN.out HX.out hin]; rfl, HB2.out⟩
        · obtain ⟨d1, d2, d3⟩ := decode_bytes s i hi (by rw [hx]; exact h1)
          obtain ⟨d4, d5⟩ := decode_high s i hi (by rw [hx]; exact h1)
          have hnx := fun ty => Lib.run_next_any_at (P := Tryd.prog) wr w.heap.size s i ty HT.out hi
          have HB2 := Aside0.mk (Lib.below_iterAt HBL.out (k := w.heap.size) (Nat.le_refl _) s (i + (Utf8.decode s i).2))
          have HI2 := Aside0.mk (Lib.iterAt_heap wr w.heap.size s i (i + (Utf8.decode s i).2) HT.out)
          have HN2 := Aside0.mk (noAny_skip s.data.toList [43, 45] i (Utf8.decode s i).2 HN.out (fun j b p1 p2 hj => by
            have hjs : j < s.size := by omega
            have := d2 j hjs p1 p2
            rw [Lib.data_getElem? s j hjs] at hj
            obtain rfl := Option.some.inj hj
            have n1 : s[j] ≠ 43 := fun e => by rw [e] at this; exact absurd this (by decide)
            have n2 : s[j] ≠ 45 := fun e => by rw [e] at this; exact absurd this (by decide)
            simp [n1, n2]))
          have hneg : ¬ ((0 : Int) ≤ -1) := by decide
          generalize (Utf8.decode s i).2 = kw at hnx HB2 HI2 HN2 d1 d2 d5
          generalize wr.iterAt w.heap.size s (i + kw) = w2 at hnx HB2 HI2
          generalize ((Utf8.decode s i).1 : Nat) = rr at hnx d3 d4
          clear d2
          go_wp2_with (go_at_call 106; refine (hR _ _ (by omega) d3).mono ?_; rintro e w3 ⟨rfl, hb3⟩)
          go_roundg g
          case measure => omega
          case rel =>
            have hlt : w.heap.size < w2.heap.size := (Array.getElem?_eq_some_iff.1 HI2.out).1
            exact ⟨i + kw, by omega, by omega, (hb3.block _ hlt).trans HI2.out, below_then HB2.out HB2.out.size hb3, HN2.out⟩
    · obtain rfl : i = s.size := by omega
      have hnx := fun ty => Lib.run_next_end_at (P := Tryd.prog) wr w.heap.size s s.size ty HT.out (by omega)
      go_wp2
      first | go_ret | go_ret2
      exact ⟨by rw [Lib.indexAny_none (by rw [← Lib.size_eq]; exact HN.out)]; rfl, HBL.out⟩
theorem val_eq (r : Int) : Lib.validRune r = Utf8.valid r := by
  simp only [Utf8.valid, Lib.validRune]
  by_cases h : (0 ≤ r ∧ r < 55296) ∨ (57343 < r ∧ r ≤ 1114111)
  · rw [decide_eq_true h]; rcases h with h | h <;> simp <;> omega
  · rw [decide_eq_false h]; simp; omega
/-- The first place of a plus or a minus. -/
def strings_IndexAny.f (a0 a1 : ByteArray) : Option Int := if a1.toList = [43, 45] ∧ a0.size < 4294967281 then some (Lib.indexAny a0.data.toList [43, 45]) else none
theorem strings_IndexAny.calls (a0 a1 : ByteArray) (r : Int) (w : World) (h : strings_IndexAny.f a0 a1 = some r) :
    Calls Tryd.prog 76 #[.string a0, .string a1] w fun e w' => e = .returned (.int .i64 r) ∧ Below w.heap.size w w' := by
  unfold strings_IndexAny.f at h
  by_cases c : a1.toList = [43, 45] ∧ a0.size < 4294967281
  · rw [if_pos c] at h
    obtain rfl := Option.some.inj h
    obtain ⟨c1, c2⟩ := c
    rw [ByteArray.toList_eq] at c1
    obtain ⟨⟨l⟩⟩ := a1
    simp only at c1
    subst c1
    rcases Nat.lt_or_ge 8 a0.size with h8 | h8
    · refine (Tryd.strings_IndexAny_long (zero_of_info (P := Tryd.prog) (n := 256) (by kernel_rfl)).1 a0 ⟨#[43, 45]⟩ w (by decide) h8 c2 (by decide) ?_).mono ?_
      · intro j b hb
        have : b ∈ ([43, 45] : List UInt8) := List.mem_of_getElem? hb
        simp only [List.mem_cons, List.not_mem_nil, or_false] at this
        rcases this with rfl | rfl <;> decide
      · rintro e w' ⟨rfl, rfl⟩
        exact ⟨rfl, below_alloc (below_alloc (Below.refl _ _) _) _⟩
    · have hIB : ∀ (s : ByteArray) (c : Int) (w : World), Calls Tryd.prog 123 #[.string s, .int .u8 c] w fun e w' => e = .returned (.int .i64 (Lib.indexByte s.data.toList c.toNat.toUInt8)) ∧ Drawn0 w w' := fun s c w => (Tryd.strings_IndexByte s c w).mono (by rintro e w' ⟨rfl, rfl⟩; exact ⟨rfl, ⟨0, rfl⟩⟩)
      have hVR : ∀ (r : Int) (w : World), Calls Tryd.prog 124 #[.int .i32 r] w fun e w' => e = .returned (.bool (Utf8.valid r)) ∧ w' = w := fun r w => (Tryd.utf8_ValidRune r w).mono (by rintro e w' ⟨rfl, rfl⟩; exact ⟨by rw [val_eq], rfl⟩)
      refine idxAnyShort (fun n w => Tryd.strings_shouldUseASCIISet n w) (fun r w h0 h1 => Tryd.strings_IndexRune_ascii ⟨#[43, 45]⟩ r w h0 h1) (fun r w h0 hv => ?_) a0 h8 w
      by_cases he : r = 65533
      · subst he; exact idxRuneE w
      · exact idxRune hIB hVR r h0 he hv w
  · rw [if_neg c] at h
    exact absurd h (by simp)

end Go.Proofs.YtcikahnmiiichaaDoor.P
