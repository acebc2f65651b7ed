/- Go functions as Lean functions, and the proof that the code comes to them: written by a program of this session out of the translation. -/
import Derived.Test.YtcikahnmiiichaaDoorK0
import Derived.Test.YtcikahnmiiichaaDoorK1
import Derived.Test.YtcikahnmiiichaaDoorK2
namespace Go.Proofs.YtcikahnmiiichaaDoor.K
open List renaming setIfInBounds_toArray → vZ, set_cons_zero → yA, set_cons_succ → yB
open Go.World renaming block_lt_of_cell? → yF
open Go.Proofs.YtcikahnmiiichaaDoor.Given
open Go.RowKit Go.Proofs.YtcikahnmiiichaaDoorW.PrintWords Go.Proofs.YtcikahnmiiichaaDoorW.PrintLast Go.Proofs.YtcikahnmiiichaaDoorW.PrintMore
attribute [local go_sem] max2_int min2_int max_two min_two vW vV max_four min_four   -- for this text's walks alone
set_option linter.unusedVariables false
set_option linter.unusedSimpArgs false

/-! ### spec_l7Read: function 60 -/
mutual
def spec_l7Read.j1 : Nat → ByteArray → Int → Option (Int × Int × ByteArray × Bool)
 | 0, _, _ => none
 | k + 1, x0, x6 => spec_l7Read.l1 k x0 x6 x6
def spec_l7Read.j3 : Nat → ByteArray → Int → Int → Option (Int × Int × ByteArray × Bool)
 | 0, _, _, _ => none
 | k + 1, x0, x6, x7 => spec_l7Read.l2 k x0 x6 x7 (wrap64 ((x0.size : Int) - 1))
def spec_l7Read.j5 : Nat → ByteArray → Int → Int → Int → Option (Int × Int × ByteArray × Bool)
 | 0, _, _, _, _ => none
 | k + 1, x0, x6, x7, x8 => if x7 ≥ (x0.size : Int) then (spec_l7Read.j6 k x0 x6 x7 x8 true) else (spec_l7Read.j6 k x0 x6 x7 x8 (decide (x8 ≤ x7)))
def spec_l7Read.j6 : Nat → ByteArray → Int → Int → Int → Bool → Option (Int × Int × ByteArray × Bool)
 | 0, _, _, _, _, _ => none
 | k + 1, x0, x6, x7, x8, x58 => if x58 = true then (some (0, 0, (⟨#[]⟩ : ByteArray), false)) else (if 0 ≤ x6 then (if x6 ≤ (x0.size : Int) then ((spec_l3Num.f k (x0.extract 0 (x6 : Int).toNat)).bind fun t135 => (if 0 ≤ (wrap64 (x6 + 1)) then (if (wrap64 (x6 + 1)) ≤ x7 then (if x7 ≤ (x0.size : Int) then ((spec_l3Num.f k (x0.extract ((wrap64 (x6 + 1)) : Int).toNat (x7 : Int).toNat)).bind fun t136 => ((spec_l1In.f t136 1 40).bind fun t137 => (if t137 = true then ((spec_l1In.f t135 0 (wrap64 (t136 - 1))).bind fun t138 => (if t138 = true then (if t136 > 1 then (if x8 = (wrap64 (x7 + 1)) then (some (0, 0, (⟨#[]⟩ : ByteArray), false)) else (if 0 ≤ (wrap64 (x7 + 1)) then (if (wrap64 (x7 + 1)) ≤ x8 then (if x8 ≤ (x0.size : Int) then ((spec_l7Chunk.f k t135 t136 (x0.extract ((wrap64 (x7 + 1)) : Int).toNat (x8 : Int).toNat)).bind fun t139 => (if t139.toList = x0.toList then (some (t135, t136, x0.extract ((wrap64 (x7 + 1)) : Int).toNat (x8 : Int).toNat, true)) else (some (0, 0, (⟨#[]⟩ : ByteArray), false)))) else (none)) else (none)) else (none))) else (if 0 ≤ (wrap64 (x7 + 1)) then (if (wrap64 (x7 + 1)) ≤ x8 then (if x8 ≤ (x0.size : Int) then ((spec_l7Chunk.f k t135 t136 (x0.extract ((wrap64 (x7 + 1)) : Int).toNat (x8 : Int).toNat)).bind fun t140 => (if t140.toList = x0.toList then (some (t135, t136, x0.extract ((wrap64 (x7 + 1)) : Int).toNat (x8 : Int).toNat, true)) else (some (0, 0, (⟨#[]⟩ : ByteArray), false)))) else (none)) else (none)) else (none))) else (some (0, 0, (⟨#[]⟩ : ByteArray), false)))) else (some (0, 0, (⟨#[]⟩ : ByteArray), false))))) else (none)) else (none)) else (none))) else (none)) else (none))
def spec_l7Read.l2 : Nat → ByteArray → Int → Int → Int → Option (Int × Int × ByteArray × Bool)
 | 0, _, _, _, _ => none
 | k + 1, x0, x6, x7, x8 => if x8 > x7 then (if 0 ≤ x8 then (if x8 < (x0.size : Int) then (if (bt x0 x8) = 35 then (spec_l7Read.j5 k x0 x6 x7 x8) else (spec_l7Read.l2 k x0 x6 x7 (wrap64 (x8 - 1)))) else (none)) else (none)) else (spec_l7Read.j5 k x0 x6 x7 x8)
def spec_l7Read.l1 : Nat → ByteArray → Int → Int → Option (Int × Int × ByteArray × Bool)
 | 0, _, _, _ => none
 | k + 1, x0, x6, x7 => if x7 < (x0.size : Int) then (if 0 ≤ x7 then (if (bt x0 x7) = 58 then (spec_l7Read.j3 k x0 x6 x7) else (spec_l7Read.l1 k x0 x6 (wrap64 (x7 + 1)))) else (none)) else (spec_l7Read.j3 k x0 x6 x7)
def spec_l7Read.l0 : Nat → ByteArray → Int → Option (Int × Int × ByteArray × Bool)
 | 0, _, _ => none
 | k + 1, x0, x6 => if x6 < (x0.size : Int) then (if 0 ≤ x6 then (if (bt x0 x6) = 47 then (spec_l7Read.j1 k x0 x6) else (spec_l7Read.l0 k x0 (wrap64 (x6 + 1)))) else (none)) else (spec_l7Read.j1 k x0 x6)
end
def spec_l7Read.f (k : Nat) (a0 : ByteArray) : Option (Int × Int × ByteArray × Bool) := spec_l7Read.l0 k a0 0
theorem spec_l7Read.mono_l : ∀ k, (∀ y0 y1, uA (spec_l7Read.j1 k y0 y1) (spec_l7Read.j1 (k + 1) y0 y1)) ∧ (∀ y0 y1 y2, uA (spec_l7Read.j3 k y0 y1 y2) (spec_l7Read.j3 (k + 1) y0 y1 y2)) ∧ (∀ y0 y1 y2 y3, uA (spec_l7Read.j5 k y0 y1 y2 y3) (spec_l7Read.j5 (k + 1) y0 y1 y2 y3)) ∧ (∀ y0 y1 y2 y3 y4, uA (spec_l7Read.j6 k y0 y1 y2 y3 y4) (spec_l7Read.j6 (k + 1) y0 y1 y2 y3 y4)) ∧ (∀ y0 y1 y2 y3, uA (spec_l7Read.l2 k y0 y1 y2 y3) (spec_l7Read.l2 (k + 1) y0 y1 y2 y3)) ∧ (∀ y0 y1 y2, uA (spec_l7Read.l1 k y0 y1 y2) (spec_l7Read.l1 (k + 1) y0 y1 y2)) ∧ (∀ y0 y1, uA (spec_l7Read.l0 k y0 y1) (spec_l7Read.l0 (k + 1) y0 y1))
 | 0 => ⟨fun _ _ r h => by simp [spec_l7Read.j1] at h, fun _ _ _ r h => by simp [spec_l7Read.j3] at h, fun _ _ _ _ r h => by simp [spec_l7Read.j5] at h, fun _ _ _ _ _ r h => by simp [spec_l7Read.j6] at h, fun _ _ _ _ r h => by simp [spec_l7Read.l2] at h, fun _ _ _ r h => by simp [spec_l7Read.l1] at h, fun _ _ r h => by simp [spec_l7Read.l0] at h⟩
 | k + 1 => by
  obtain ⟨ih0, ih1, ih2, ih3, ih4, ih5, ih6⟩ := spec_l7Read.mono_l k
  refine ⟨?_, ?_, ?_, ?_, ?_, ?_, ?_⟩
  ·intro y0 y1
   unfold spec_l7Read.j1
   repeat' first
   | (with_reducible exact ih0 _ _)
   | (with_reducible exact ih1 _ _ _)
   | (with_reducible exact ih2 _ _ _ _)
   | (with_reducible exact ih3 _ _ _ _ _)
   | (with_reducible exact ih4 _ _ _ _)
   | (with_reducible exact ih5 _ _ _)
   | (with_reducible exact ih6 _ _)
   | (with_reducible exact spec_l3Num.mono _ _)
   | (with_reducible exact spec_l7Chunk.mono _ _ _ _)
   | (with_reducible exact uA.refl _)
   | (with_reducible exact uA.none _)
   | (with_reducible refine uA.vA ?_ ?_)
   | (with_reducible refine uA.bind ?_ (fun _ => ?_))
   | exact ih0 _ _
   | exact ih1 _ _ _
   | exact ih2 _ _ _ _
   | exact ih3 _ _ _ _ _
   | exact ih4 _ _ _ _
   | exact ih5 _ _ _
   | exact ih6 _ _
   | exact uA.none _
   | refine uA.vA ?_ ?_
   | refine uA.bind ?_ (fun _ => ?_)
  ·intro y0 y1 y2
   unfold spec_l7Read.j3
   repeat' first
   | (with_reducible exact ih0 _ _)
   | (with_reducible exact ih1 _ _ _)
   | (with_reducible exact ih2 _ _ _ _)
   | (with_reducible exact ih3 _ _ _ _ _)
   | (with_reducible exact ih4 _ _ _ _)
   | (with_reducible exact ih5 _ _ _)
   | (with_reducible exact ih6 _ _)
   | (with_reducible exact spec_l3Num.mono _ _)
   | (with_reducible exact spec_l7Chunk.mono _ _ _ _)
   | (with_reducible exact uA.refl _)
   | (with_reducible exact uA.none _)
   | (with_reducible refine uA.vA ?_ ?_)
   | (with_reducible refine uA.bind ?_ (fun _ => ?_))
   | exact ih0 _ _
   | exact ih1 _ _ _
   | exact ih2 _ _ _ _
   | exact ih3 _ _ _ _ _
   | exact ih4 _ _ _ _
   | exact ih5 _ _ _
   | exact ih6 _ _
   | exact uA.none _
   | refine uA.vA ?_ ?_
   | refine uA.bind ?_ (fun _ => ?_)
  ·intro y0 y1 y2 y3
   unfold spec_l7Read.j5
   repeat' first
   | (with_reducible exact ih0 _ _)
   | (with_reducible exact ih1 _ _ _)
   | (with_reducible exact ih2 _ _ _ _)
   | (with_reducible exact ih3 _ _ _ _ _)
   | (with_reducible exact ih4 _ _ _ _)
   | (with_reducible exact ih5 _ _ _)
   | (with_reducible exact ih6 _ _)
   | (with_reducible exact spec_l3Num.mono _ _)
   | (with_reducible exact spec_l7Chunk.mono _ _ _ _)
   | (with_reducible exact uA.refl _)
   | (with_reducible exact uA.none _)
   | (with_reducible refine uA.vA ?_ ?_)
   | (with_reducible refine uA.bind ?_ (fun _ => ?_))
   | exact ih0 _ _
   | exact ih1 _ _ _
   | exact ih2 _ _ _ _
   | exact ih3 _ _ _ _ _
   | exact ih4 _ _ _ _
   | exact ih5 _ _ _
   | exact ih6 _ _
   | exact uA.none _
   | refine uA.vA ?_ ?_
   | refine uA.bind ?_ (fun _ => ?_)
  ·intro y0 y1 y2 y3 y4
   unfold spec_l7Read.j6
   repeat' first
   | (with_reducible exact ih0 _ _)
   | (with_reducible exact ih1 _ _ _)
   | (with_reducible exact ih2 _ _ _ _)
   | (with_reducible exact ih3 _ _ _ _ _)
   | (with_reducible exact ih4 _ _ _ _)
   | (with_reducible exact ih5 _ _ _)
   | (with_reducible exact ih6 _ _)
   | (with_reducible exact spec_l3Num.mono _ _)
   | (with_reducible exact spec_l7Chunk.mono _ _ _ _)
   | (with_reducible exact uA.refl _)
   | (with_reducible exact uA.none _)
   | (with_reducible refine uA.vA ?_ ?_)
   | (with_reducible refine uA.bind ?_ (fun _ => ?_))
   | exact ih0 _ _
   | exact ih1 _ _ _
   | exact ih2 _ _ _ _
   | exact ih3 _ _ _ _ _
   | exact ih4 _ _ _ _
   | exact ih5 _ _ _
   | exact ih6 _ _
   | exact uA.none _
   | refine uA.vA ?_ ?_
   | refine uA.bind ?_ (fun _ => ?_)
  ·intro y0 y1 y2 y3
   unfold spec_l7Read.l2
   repeat' first
   | (with_reducible exact ih0 _ _)
   | (with_reducible exact ih1 _ _ _)
   | (with_reducible exact ih2 _ _ _ _)
   | (with_reducible exact ih3 _ _ _ _ _)
   | (with_reducible exact ih4 _ _ _ _)
   | (with_reducible exact ih5 _ _ _)
   | (with_reducible exact ih6 _ _)
   | (with_reducible exact spec_l3Num.mono _ _)
   | (with_reducible exact spec_l7Chunk.mono _ _ _ _)
   | (with_reducible exact uA.refl _)
   | (with_reducible exact uA.none _)
   | (with_reducible refine uA.vA ?_ ?_)
   | (with_reducible refine uA.bind ?_ (fun _ => ?_))
   | exact ih0 _ _
   | exact ih1 _ _ _
   | exact ih2 _ _ _ _
   | exact ih3 _ _ _ _ _
   | exact ih4 _ _ _ _
   | exact ih5 _ _ _
   | exact ih6 _ _
   | exact uA.none _
   | refine uA.vA ?_ ?_
   | refine uA.bind ?_ (fun _ => ?_)
  ·intro y0 y1 y2
   unfold spec_l7Read.l1
   repeat' first
   | (with_reducible exact ih0 _ _)
   | (with_reducible exact ih1 _ _ _)
   | (with_reducible exact ih2 _ _ _ _)
   | (with_reducible exact ih3 _ _ _ _ _)
   | (with_reducible exact ih4 _ _ _ _)
   | (with_reducible exact ih5 _ _ _)
   | (with_reducible exact ih6 _ _)
   | (with_reducible exact spec_l3Num.mono _ _)
   | (with_reducible exact spec_l7Chunk.mono _ _ _ _)
   | (with_reducible exact uA.refl _)
   | (with_reducible exact uA.none _)
   | (with_reducible refine uA.vA ?_ ?_)
   | (with_reducible refine uA.bind ?_ (fun _ => ?_))
   | exact ih0 _ _
   | exact ih1 _ _ _
   | exact ih2 _ _ _ _
   | exact ih3 _ _ _ _ _
   | exact ih4 _ _ _ _
   | exact ih5 _ _ _
   | exact ih6 _ _
   | exact uA.none _
   | refine uA.vA ?_ ?_
   | refine uA.bind ?_ (fun _ => ?_)
  intro y0 y1
  unfold spec_l7Read.l0
  repeat' first
  | (with_reducible exact ih0 _ _)
  | (with_reducible exact ih1 _ _ _)
  | (with_reducible exact ih2 _ _ _ _)
  | (with_reducible exact ih3 _ _ _ _ _)
  | (with_reducible exact ih4 _ _ _ _)
  | (with_reducible exact ih5 _ _ _)
  | (with_reducible exact ih6 _ _)
  | (with_reducible exact spec_l3Num.mono _ _)
  | (with_reducible exact spec_l7Chunk.mono _ _ _ _)
  | (with_reducible exact uA.refl _)
  | (with_reducible exact uA.none _)
  | (with_reducible refine uA.vA ?_ ?_)
  | (with_reducible refine uA.bind ?_ (fun _ => ?_))
  | exact ih0 _ _
  | exact ih1 _ _ _
  | exact ih2 _ _ _ _
  | exact ih3 _ _ _ _ _
  | exact ih4 _ _ _ _
  | exact ih5 _ _ _
  | exact ih6 _ _
  | exact uA.none _
  | refine uA.vA ?_ ?_
  | refine uA.bind ?_ (fun _ => ?_)
theorem spec_l7Read.mono : ∀ a0 k, uA (spec_l7Read.f k a0) (spec_l7Read.f (k + 1) a0) := by
 intro a0 k
 obtain ⟨ih0, ih1, ih2, ih3, ih4, ih5, ih6⟩ := spec_l7Read.mono_l k
 unfold spec_l7Read.f
 repeat' first
   | (with_reducible exact ih0 _ _)
   | (with_reducible exact ih1 _ _ _)
   | (with_reducible exact ih2 _ _ _ _)
   | (with_reducible exact ih3 _ _ _ _ _)
   | (with_reducible exact ih4 _ _ _ _)
   | (with_reducible exact ih5 _ _ _)
   | (with_reducible exact ih6 _ _)
   | (with_reducible exact spec_l3Num.mono _ _)
   | (with_reducible exact spec_l7Chunk.mono _ _ _ _)
   | (with_reducible exact uA.refl _)
   | (with_reducible exact uA.none _)
   | (with_reducible refine uA.vA ?_ ?_)
   | (with_reducible refine uA.bind ?_ (fun _ => ?_))
   | exact ih0 _ _
   | exact ih1 _ _ _
   | exact ih2 _ _ _ _
   | exact ih3 _ _ _ _ _
   | exact ih4 _ _ _ _
   | exact ih5 _ _ _
   | exact ih6 _ _
   | exact uA.none _
   | refine uA.vA ?_ ?_
   | refine uA.bind ?_ (fun _ => ?_)
set_option maxHeartbeats 8000000 in
set_option maxRecDepth 100000 in
theorem spec_l7Read.calls (k : Nat) (a0 : ByteArray) (r1 : Int) (r2 : Int) (r3 : ByteArray) (r4 : Bool) (w : World) (h : spec_l7Read.f k a0 = some (r1, r2, r3, r4)) :
  Calls Tryd.prog 60 #[.string a0] w fun e w' => e = .returned (.tuple #[.int .i64 r1, .int .i64 r2, .string r3, .bool r4]) ∧ Below w.heap.size w w' := by
 have HB := Aside0.mk (Below.refl w.heap.size w)
 have H : (spec_l7Read.l0 k a0 0) = some (r1, r2, r3, r4) := h
 clear h
 have HC2 := Aside0.mk H
 clear H
 go_enter Tryd.func60, Tryd.ntmps60
 go_upto_block 0 with (fail)
 repeat (go_quiet (fail); go_upto_block 0 with (fail))
 go_cut [6] (fun v6 wc => ∃ (kq : Nat) (x6_1 : Int), v6 = .int .i64 x6_1 ∧ Aside0 (spec_l7Read.j1 kq a0 x6_1 = some (r1, r2, r3, r4)) ∧ Aside0 (kq ≤ k) ∧ Aside0 (Below w.heap.size w wc))
 case first =>
  have H := HC2.out
  clear HC2
  have H' := Aside0.mk H
  clear H
  go_wp2
  repeat (go_quiet (fail); try go_wp2)
  go_loopg [6] k (fun kq v6 w' => ∃ (x6_1 : Int), v6 = .int .i64 x6_1 ∧ Aside0 (spec_l7Read.l0 kq a0 x6_1 = some (r1, r2, r3, r4)) ∧ Aside0 (kq ≤ k) ∧ Aside0 (Below w.heap.size w w'))
  case atStart => exact ⟨(0), vD, H', ⟨Nat.le_refl _⟩, ⟨uW⟩⟩
  case round =>
   clear H'
   obtain ⟨x6_1, rfl, HA, HK1, HB⟩ := hrel
   cases gk with
   | zero => exact absurd HA.out (by simp [spec_l7Read.l0])
   | succ k1 =>
    have H := HA.out
    clear HA
    simp only [spec_l7Read.l0] at H
    by_cases c3 : x6_1 < (a0.size : Int)
    rotate_left
    ·rw [if_neg c3] at H
     have c3b0 := decide_eq_false c3
     clear c3
     (first | rw [c3b0] | (simp only [vM, vO]; rw [c3b0]) | skip)
     have H' := Aside0.mk H
     clear H
     go_wp2
     repeat (go_quiet (fail); try go_wp2)
     go_meet
     case rel => exact ⟨_, (x6_1), vD, H', ⟨by have := HK1.out; first | omega | exact Nat.le_refl _⟩, ⟨uW⟩⟩
    rw [if_pos c3] at H
    have c3b0 := decide_eq_true c3
    clear c3
    (first | rw [c3b0] | (simp only [vM, vO]; rw [c3b0]) | skip)
    obtain ⟨c4b0, H⟩ := ifD H
    by_cases c6 : (bt a0 x6_1) = 47
    ·rw [if_pos c6] at H
     have c6b0 := beq_iff_eq.mpr c6
     have c6b1 := bne_eq_false_iff_eq.mpr c6
     clear c6
     have H' := Aside0.mk H
     clear H
     have p5 : 0 ≤ (x6_1 : Int) := of_decide_eq_true vC
     have q5 : x6_1 < (a0.size : Int) := of_decide_eq_true vC
     have hx5 := bt_at a0 x6_1
     replace p5 := eq_true p5
     replace q5 := eq_true q5
     go_wp2
     repeat (go_quiet (fail); try go_wp2)
     go_meet
     case rel => exact ⟨_, (x6_1), vD, H', ⟨by have := HK1.out; first | omega | exact Nat.le_refl _⟩, ⟨uW⟩⟩
    rw [if_neg c6] at H
    have c6b0 := beq_eq_false_iff_ne.mpr c6
    have c6b1 := bne_iff_ne.mpr c6
    have H' := Aside0.mk H
    clear H
    have p5 : 0 ≤ (x6_1 : Int) := of_decide_eq_true vC
    have q5 : x6_1 < (a0.size : Int) := of_decide_eq_true vC
    have hx5 := bt_at a0 x6_1
    replace p5 := eq_true p5
    replace q5 := eq_true q5
    go_wp2
    repeat (go_quiet (fail); try go_wp2)
    go_roundg k1
    case measure => have := HK1.out; omega
    case rel => exact ⟨(wrap64 (x6_1 + 1)), vD, H', ⟨by have := HK1.out; omega⟩, ⟨uW⟩⟩
 case rest =>
  clear HC2
  obtain ⟨kq, x6_1, rfl, HA, HJ1, HB⟩ := hcut
  cases kq with
  | zero => exact absurd HA.out (by simp [spec_l7Read.j1])
  | succ kj1 =>
   have H := HA.out
   clear HA
   simp only [spec_l7Read.j1] at H
   have HC7 := Aside0.mk H
   clear H
   go_upto_block 2 with (fail)
   repeat (go_quiet (fail); go_upto_block 2 with (fail))
   go_cut [7] (fun v7 wc => ∃ (kq : Nat) (x7_6 : Int), v7 = .int .i64 x7_6 ∧ Aside0 (spec_l7Read.j3 kq a0 x6_1 x7_6 = some (r1, r2, r3, r4)) ∧ Aside0 (kq ≤ kj1) ∧ Aside0 (Below w.heap.size w wc))
   case first =>
    have H := HC7.out
    clear HC7
    have H' := Aside0.mk H
    clear H
    go_wp2
    repeat (go_quiet (fail); try go_wp2)
    go_loopg [7] kj1 (fun kq v7 w' => ∃ (x7_2 : Int), v7 = .int .i64 x7_2 ∧ Aside0 (spec_l7Read.l1 kq a0 x6_1 x7_2 = some (r1, r2, r3, r4)) ∧ Aside0 (kq ≤ kj1) ∧ Aside0 (Below w.heap.size w w'))
    case atStart => exact ⟨(x6_1), vD, H', ⟨Nat.le_refl _⟩, ⟨uW⟩⟩
    case round =>
     clear H'
     obtain ⟨x7_2, rfl, HA, HK2, HB⟩ := hrel
     cases gk with
     | zero => exact absurd HA.out (by simp [spec_l7Read.l1])
     | succ k2 =>
      have H := HA.out
      clear HA
      simp only [spec_l7Read.l1] at H
      by_cases c8 : x7_2 < (a0.size : Int)
      rotate_left
      ·rw [if_neg c8] at H
       have c8b0 := decide_eq_false c8
       clear c8
       (first | rw [c8b0] | (simp only [vM, vO]; rw [c8b0]) | skip)
       have H' := Aside0.mk H
       clear H
       go_wp2
       repeat (go_quiet (fail); try go_wp2)
       go_meet
       case rel => exact ⟨_, (x7_2), vD, H', ⟨by have := HJ1.out; have := HK2.out; first | omega | exact Nat.le_refl _⟩, ⟨uW⟩⟩
      rw [if_pos c8] at H
      have c8b0 := decide_eq_true c8
      clear c8
      (first | rw [c8b0] | (simp only [vM, vO]; rw [c8b0]) | skip)
      obtain ⟨c9b0, H⟩ := ifD H
      by_cases c11 : (bt a0 x7_2) = 58
      ·rw [if_pos c11] at H
       have c11b0 := beq_iff_eq.mpr c11
       have c11b1 := bne_eq_false_iff_eq.mpr c11
       clear c11
       have H' := Aside0.mk H
       clear H
       have p10 : 0 ≤ (x7_2 : Int) := of_decide_eq_true vC
       have q10 : x7_2 < (a0.size : Int) := of_decide_eq_true vC
       have hx10 := bt_at a0 x7_2
       replace p10 := eq_true p10
       replace q10 := eq_true q10
       go_wp2
       repeat (go_quiet (fail); try go_wp2)
       go_meet
       case rel => exact ⟨_, (x7_2), vD, H', ⟨by have := HJ1.out; have := HK2.out; first | omega | exact Nat.le_refl _⟩, ⟨uW⟩⟩
      rw [if_neg c11] at H
      have c11b0 := beq_eq_false_iff_ne.mpr c11
      have c11b1 := bne_iff_ne.mpr c11
      have H' := Aside0.mk H
      clear H
      have p10 : 0 ≤ (x7_2 : Int) := of_decide_eq_true vC
      have q10 : x7_2 < (a0.size : Int) := of_decide_eq_true vC
      have hx10 := bt_at a0 x7_2
      replace p10 := eq_true p10
      replace q10 := eq_true q10
      go_wp2
      repeat (go_quiet (fail); try go_wp2)
      go_roundg k2
      case measure => have := HJ1.out; have := HK2.out; omega
      case rel => exact ⟨(wrap64 (x7_2 + 1)), vD, H', ⟨by have := HJ1.out; have := HK2.out; omega⟩, ⟨uW⟩⟩
   case rest =>
    clear HC7
    obtain ⟨kq, x7_6, rfl, HA, HJ6, HB⟩ := hcut
    cases kq with
    | zero => exact absurd HA.out (by simp [spec_l7Read.j3])
    | succ kj6 =>
     have H := HA.out
     clear HA
     simp only [spec_l7Read.j3] at H
     have HC12 := Aside0.mk H
     clear H
     go_upto_block 4 with (fail)
     repeat (go_quiet (fail); go_upto_block 4 with (fail))
     go_cut [8] (fun v8 wc => ∃ (kq : Nat) (x8_11 : Int), v8 = .int .i64 x8_11 ∧ Aside0 (spec_l7Read.j5 kq a0 x6_1 x7_6 x8_11 = some (r1, r2, r3, r4)) ∧ Aside0 (kq ≤ kj6) ∧ Aside0 (Below w.heap.size w wc))
     case first =>
      have H := HC12.out
      clear HC12
      have H' := Aside0.mk H
      clear H
      go_wp2
      repeat (go_quiet (fail); try go_wp2)
      go_loopg [8] kj6 (fun kq v8 w' => ∃ (x8_3 : Int), v8 = .int .i64 x8_3 ∧ Aside0 (spec_l7Read.l2 kq a0 x6_1 x7_6 x8_3 = some (r1, r2, r3, r4)) ∧ Aside0 (kq ≤ kj6) ∧ Aside0 (Below w.heap.size w w'))
      case atStart => exact ⟨(wrap64 ((a0.size : Int) - 1)), vD, H', ⟨Nat.le_refl _⟩, ⟨uW⟩⟩
      case round =>
       clear H'
       obtain ⟨x8_3, rfl, HA, HK3, HB⟩ := hrel
       cases gk with
       | zero => exact absurd HA.out (by simp [spec_l7Read.l2])
       | succ k3 =>
        have H := HA.out
        clear HA
        simp only [spec_l7Read.l2] at H
        by_cases c13 : x8_3 > x7_6
        rotate_left
        ·rw [if_neg c13] at H
         have c13b0 := decide_eq_false c13
         clear c13
         (first | rw [c13b0] | (simp only [vM, vO]; rw [c13b0]) | skip)
         have H' := Aside0.mk H
         clear H
         go_wp2
         repeat (go_quiet (fail); try go_wp2)
         go_meet
         case rel => exact ⟨_, (x8_3), vD, H', ⟨by have := HJ1.out; have := HJ6.out; have := HK3.out; first | omega | exact Nat.le_refl _⟩, ⟨uW⟩⟩
        rw [if_pos c13] at H
        have c13b0 := decide_eq_true c13
        clear c13
        (first | rw [c13b0] | (simp only [vM, vO]; rw [c13b0]) | skip)
        obtain ⟨c14b0, H⟩ := ifD H
        obtain ⟨c15b0, H⟩ := ifD H
        by_cases c17 : (bt a0 x8_3) = 35
        ·rw [if_pos c17] at H
         have c17b0 := beq_iff_eq.mpr c17
         have c17b1 := bne_eq_false_iff_eq.mpr c17
         clear c17
         have H' := Aside0.mk H
         clear H
         have p16 : 0 ≤ (x8_3 : Int) := of_decide_eq_true vC
         have q16 : x8_3 < (a0.size : Int) := of_decide_eq_true vC
         have hx16 := bt_at a0 x8_3
         replace p16 := eq_true p16
         replace q16 := eq_true q16
         go_wp2
         repeat (go_quiet (fail); try go_wp2)
         go_meet
         case rel => exact ⟨_, (x8_3), vD, H', ⟨by have := HJ1.out; have := HJ6.out; have := HK3.out; first | omega | exact Nat.le_refl _⟩, ⟨uW⟩⟩
        rw [if_neg c17] at H
        have c17b0 := beq_eq_false_iff_ne.mpr c17
        have c17b1 := bne_iff_ne.mpr c17
        have H' := Aside0.mk H
        clear H
        have p16 : 0 ≤ (x8_3 : Int) := of_decide_eq_true vC
        have q16 : x8_3 < (a0.size : Int) := of_decide_eq_true vC
        have hx16 := bt_at a0 x8_3
        replace p16 := eq_true p16
        replace q16 := eq_true q16
        go_wp2
        repeat (go_quiet (fail); try go_wp2)
        go_roundg k3
        case measure => have := HJ1.out; have := HJ6.out; have := HK3.out; omega
        case rel => exact ⟨(wrap64 (x8_3 - 1)), vD, H', ⟨by have := HJ1.out; have := HJ6.out; have := HK3.out; omega⟩, ⟨uW⟩⟩
     case rest =>
      clear HC12
      obtain ⟨kq, x8_11, rfl, HA, HJ11, HB⟩ := hcut
      cases kq with
      | zero => exact absurd HA.out (by simp [spec_l7Read.j5])
      | succ kj11 =>
       have H := HA.out
       clear HA
       simp only [spec_l7Read.j5] at H
       have HC18 := Aside0.mk H
       clear H
       go_upto_region 10 with (fail)
       repeat (go_quiet (fail); go_upto_region 10 with (fail))
       go_cut [58] (fun v58 wc => ∃ (kq : Nat) (x58_17 : Bool), v58 = .bool x58_17 ∧ Aside0 (spec_l7Read.j6 kq a0 x6_1 x7_6 x8_11 x58_17 = some (r1, r2, r3, r4)) ∧ Aside0 (kq ≤ kj11) ∧ Aside0 (Below w.heap.size w wc))
       case first =>
        have H := HC18.out
        clear HC18
        by_cases c19 : x7_6 ≥ (a0.size : Int)
        ·rw [if_pos c19] at H
         have c19b0 := decide_eq_true c19
         clear c19
         (first | rw [c19b0] | (simp only [vM, vO]; rw [c19b0]) | skip)
         have H' := Aside0.mk H
         clear H
         go_wp2
         repeat (go_quiet (fail); try go_wp2)
         go_meet
         case rel => exact ⟨_, (true), vD, H', ⟨by have := HJ1.out; have := HJ6.out; have := HJ11.out; first | omega | exact Nat.le_refl _⟩, ⟨uW⟩⟩
        rw [if_neg c19] at H
        have c19b0 := decide_eq_false c19
        clear c19
        (first | rw [c19b0] | (simp only [vM, vO]; rw [c19b0]) | skip)
        have H' := Aside0.mk H
        clear H
        go_wp2
        repeat (go_quiet (fail); try go_wp2)
        go_meet
        case rel => exact ⟨_, (decide (x8_11 ≤ x7_6)), vD, H', ⟨by have := HJ1.out; have := HJ6.out; have := HJ11.out; first | omega | exact Nat.le_refl _⟩, ⟨uW⟩⟩
       case rest =>
        clear HC18
        obtain ⟨kq, x58_17, rfl, HA, HJ17, HB⟩ := hcut
        cases kq with
        | zero => exact absurd HA.out (by simp [spec_l7Read.j6])
        | succ kj17 =>
         have H := HA.out
         clear HA
         simp only [spec_l7Read.j6] at H
         by_cases c20 : x58_17 = true
         ·subst c20
          try rw [if_pos rfl] at H
          simp only [Option.some.injEq, Prod.mk.injEq] at H
          obtain ⟨rfl, rfl, rfl, rfl⟩ := H
          go_wp2
          repeat (go_quiet (fail); try go_wp2)
          refine bodyPost_ret (vY (rs := [.tmp 2, .tmp 3, .tmp 4, .tmp 5]) rfl (by simp) (.tmp (.tmp (.tmp (.tmp .nil))))) rfl ?_
          exact ⟨cq5, uW⟩
         replace c20 := Bool.eq_false_iff.mpr c20
         subst c20
         try rw [if_neg (show ¬ (false = true) by decide)] at H
         by_cases c21 : 0 ≤ x6_1
         rotate_left
         ·rw [if_neg c21] at H
          exact absurd H (by simp)
         rw [if_pos c21] at H
         have c21b0 := eq_true c21
         have c21b1 := decide_eq_true c21
         clear c21
         by_cases c22 : x6_1 ≤ (a0.size : Int)
         rotate_left
         ·rw [if_neg c22] at H
          exact absurd H (by simp)
         rw [if_pos c22] at H
         have c22b0 := eq_true c22
         have c22b1 := decide_eq_true c22
         clear c22
         replace H := Option.bind_eq_some_iff.mp H
         obtain ⟨t135, A230, H⟩ := H
         try dsimp only at H
         have A23 := Aside0.mk A230
         clear A230
         obtain ⟨ji24, hji24⟩ : ∃ j_ : Int, (wrap64 (x6_1 + 1)) = j_ := ⟨_, rfl⟩
         replace H : (if 0 ≤ (ji24) then (if (ji24) ≤ x7_6 then (if x7_6 ≤ (a0.size : Int) then ((spec_l3Num.f kj17 (a0.extract ((ji24) : Int).toNat (x7_6 : Int).toNat)).bind fun t136 => ((spec_l1In.f t136 1 40).bind fun t137 => (if t137 = true then ((spec_l1In.f t135 0 (wrap64 (t136 - 1))).bind fun t138 => (if t138 = true then (if t136 > 1 then (if x8_11 = (wrap64 (x7_6 + 1)) then (some (0, 0, (⟨#[]⟩ : ByteArray), false)) else (if 0 ≤ (wrap64 (x7_6 + 1)) then (if (wrap64 (x7_6 + 1)) ≤ x8_11 then (if x8_11 ≤ (a0.size : Int) then ((spec_l7Chunk.f kj17 t135 t136 (a0.extract ((wrap64 (x7_6 + 1)) : Int).toNat (x8_11 : Int).toNat)).bind fun t139 => (if t139.toList = a0.toList then (some (t135, t136, a0.extract ((wrap64 (x7_6 + 1)) : Int).toNat (x8_11 : Int).toNat, true)) else (some (0, 0, (⟨#[]⟩ : ByteArray), false)))) else (none)) else (none)) else (none))) else (if 0 ≤ (wrap64 (x7_6 + 1)) then (if (wrap64 (x7_6 + 1)) ≤ x8_11 then (if x8_11 ≤ (a0.size : Int) then ((spec_l7Chunk.f kj17 t135 t136 (a0.extract ((wrap64 (x7_6 + 1)) : Int).toNat (x8_11 : Int).toNat)).bind fun t140 => (if t140.toList = a0.toList then (some (t135, t136, a0.extract ((wrap64 (x7_6 + 1)) : Int).toNat (x8_11 : Int).toNat, true)) else (some (0, 0, (⟨#[]⟩ : ByteArray), false)))) else (none)) else (none)) else (none))) else (some (0, 0, (⟨#[]⟩ : ByteArray), false)))) else (some (0, 0, (⟨#[]⟩ : ByteArray), false))))) else (none)) else (none)) else (none)) = some (r1, r2, r3, r4) := by first | (rw [hji24] at H; exact H) | (simp only [hji24] at H ⊢; exact H) | rfl
         (try rw [hji24] at A23)
         have hji24w : (IntKind.i64.wrap (x6_1 + 1)) = ji24 := (vM _).trans hji24
         by_cases c25 : 0 ≤ (ji24)
         rotate_left
         ·rw [if_neg c25] at H
          exact absurd H (by simp)
         rw [if_pos c25] at H
         have c25b0 := eq_true c25
         have c25b1 := decide_eq_true c25
         clear c25
         by_cases c26 : (ji24) ≤ x7_6
         rotate_left
         ·rw [if_neg c26] at H
          exact absurd H (by simp)
         rw [if_pos c26] at H
         have c26b0 := eq_true c26
         have c26b1 := decide_eq_true c26
         clear c26
         by_cases c27 : x7_6 ≤ (a0.size : Int)
         rotate_left
         ·rw [if_neg c27] at H
          exact absurd H (by simp)
         rw [if_pos c27] at H
         have c27b0 := eq_true c27
         have c27b1 := decide_eq_true c27
         clear c27
         replace H := Option.bind_eq_some_iff.mp H
         obtain ⟨t136, A280, H⟩ := H
         try dsimp only at H
         have A28 := Aside0.mk A280
         clear A280
         replace H := Option.bind_eq_some_iff.mp H
         obtain ⟨t137, A290, H⟩ := H
         try dsimp only at H
         have A29 := Aside0.mk A290
         clear A290
         by_cases c30 : t137 = true
         rotate_left
         ·replace c30 := Bool.eq_false_iff.mpr c30
          subst c30
          try rw [if_neg (show ¬ (false = true) by decide)] at H
          simp only [Option.some.injEq, Prod.mk.injEq] at H
          obtain ⟨rfl, rfl, rfl, rfl⟩ := H
          go_wp2_with (first | (go_at_call 68; (with_reducible refine (spec_l3Num.calls kj17 (a0.extract 0 (x6_1 : Int).toNat) t135 _ A23.out).mono ?_); rintro e w69 ⟨rfl, hb⟩; replace HB := uH HB hb; (try clear hb)) | (go_at_call 68; (with_reducible refine (spec_l3Num.calls kj17 (a0.extract ((ji24) : Int).toNat (x7_6 : Int).toNat) t136 _ A28.out).mono ?_); rintro e w70 ⟨rfl, hb⟩; replace HB := uH HB hb; (try clear hb)) | (go_at_call 48; (with_reducible refine (spec_l1In.calls t136 1 40 false _ A29.out).mono ?_); rintro e w' ⟨rfl, ⟨nd, rfl⟩⟩; (try exact dwN)))
          repeat (go_quiet (first | (go_at_call 68; (with_reducible refine (spec_l3Num.calls kj17 (a0.extract 0 (x6_1 : Int).toNat) t135 _ A23.out).mono ?_); rintro e w69 ⟨rfl, hb⟩; replace HB := uH HB hb; (try clear hb)) | (go_at_call 68; (with_reducible refine (spec_l3Num.calls kj17 (a0.extract ((ji24) : Int).toNat (x7_6 : Int).toNat) t136 _ A28.out).mono ?_); rintro e w70 ⟨rfl, hb⟩; replace HB := uH HB hb; (try clear hb)) | (go_at_call 48; (with_reducible refine (spec_l1In.calls t136 1 40 false _ A29.out).mono ?_); rintro e w' ⟨rfl, ⟨nd, rfl⟩⟩; (try exact dwN))); try go_wp2_with (first | (go_at_call 68; (with_reducible refine (spec_l3Num.calls kj17 (a0.extract 0 (x6_1 : Int).toNat) t135 _ A23.out).mono ?_); rintro e w69 ⟨rfl, hb⟩; replace HB := uH HB hb; (try clear hb)) | (go_at_call 68; (with_reducible refine (spec_l3Num.calls kj17 (a0.extract ((ji24) : Int).toNat (x7_6 : Int).toNat) t136 _ A28.out).mono ?_); rintro e w70 ⟨rfl, hb⟩; replace HB := uH HB hb; (try clear hb)) | (go_at_call 48; (with_reducible refine (spec_l1In.calls t136 1 40 false _ A29.out).mono ?_); rintro e w' ⟨rfl, ⟨nd, rfl⟩⟩; (try exact dwN))))
          refine bodyPost_ret (vY (rs := [.tmp 2, .tmp 3, .tmp 4, .tmp 5]) rfl (by simp) (.tmp (.tmp (.tmp (.tmp .nil))))) rfl ?_
          exact ⟨cq74, uW⟩
         subst c30
         try rw [if_pos rfl] at H
         replace H := Option.bind_eq_some_iff.mp H
         obtain ⟨t138, A310, H⟩ := H
         try dsimp only at H
         have A31 := Aside0.mk A310
         clear A310
         by_cases c32 : t138 = true
         rotate_left
         ·replace c32 := Bool.eq_false_iff.mpr c32
          subst c32
          try rw [if_neg (show ¬ (false = true) by decide)] at H
          simp only [Option.some.injEq, Prod.mk.injEq] at H
          obtain ⟨rfl, rfl, rfl, rfl⟩ := H
          go_wp2_with (first | (go_at_call 68; (with_reducible refine (spec_l3Num.calls kj17 (a0.extract 0 (x6_1 : Int).toNat) t135 _ A23.out).mono ?_); rintro e w67 ⟨rfl, hb⟩; replace HB := uH HB hb; (try clear hb)) | (go_at_call 68; (with_reducible refine (spec_l3Num.calls kj17 (a0.extract ((ji24) : Int).toNat (x7_6 : Int).toNat) t136 _ A28.out).mono ?_); rintro e w68 ⟨rfl, hb⟩; replace HB := uH HB hb; (try clear hb)) | (go_at_call 48; (with_reducible refine (spec_l1In.calls t136 1 40 true _ A29.out).mono ?_); rintro e w' ⟨rfl, ⟨nd, rfl⟩⟩; (try exact dwN)) | (go_at_call 48; (with_reducible refine (spec_l1In.calls t135 0 (wrap64 (t136 - 1)) false _ A31.out).mono ?_); rintro e w' ⟨rfl, ⟨nd, rfl⟩⟩; (try exact dwN)))
          repeat (go_quiet (first | (go_at_call 68; (with_reducible refine (spec_l3Num.calls kj17 (a0.extract 0 (x6_1 : Int).toNat) t135 _ A23.out).mono ?_); rintro e w67 ⟨rfl, hb⟩; replace HB := uH HB hb; (try clear hb)) | (go_at_call 68; (with_reducible refine (spec_l3Num.calls kj17 (a0.extract ((ji24) : Int).toNat (x7_6 : Int).toNat) t136 _ A28.out).mono ?_); rintro e w68 ⟨rfl, hb⟩; replace HB := uH HB hb; (try clear hb)) | (go_at_call 48; (with_reducible refine (spec_l1In.calls t136 1 40 true _ A29.out).mono ?_); rintro e w' ⟨rfl, ⟨nd, rfl⟩⟩; (try exact dwN)) | (go_at_call 48; (with_reducible refine (spec_l1In.calls t135 0 (wrap64 (t136 - 1)) false _ A31.out).mono ?_); rintro e w' ⟨rfl, ⟨nd, rfl⟩⟩; (try exact dwN))); try go_wp2_with (first | (go_at_call 68; (with_reducible refine (spec_l3Num.calls kj17 (a0.extract 0 (x6_1 : Int).toNat) t135 _ A23.out).mono ?_); rintro e w67 ⟨rfl, hb⟩; replace HB := uH HB hb; (try clear hb)) | (go_at_call 68; (with_reducible refine (spec_l3Num.calls kj17 (a0.extract ((ji24) : Int).toNat (x7_6 : Int).toNat) t136 _ A28.out).mono ?_); rintro e w68 ⟨rfl, hb⟩; replace HB := uH HB hb; (try clear hb)) | (go_at_call 48; (with_reducible refine (spec_l1In.calls t136 1 40 true _ A29.out).mono ?_); rintro e w' ⟨rfl, ⟨nd, rfl⟩⟩; (try exact dwN)) | (go_at_call 48; (with_reducible refine (spec_l1In.calls t135 0 (wrap64 (t136 - 1)) false _ A31.out).mono ?_); rintro e w' ⟨rfl, ⟨nd, rfl⟩⟩; (try exact dwN))))
          refine bodyPost_ret (vY (rs := [.tmp 2, .tmp 3, .tmp 4, .tmp 5]) rfl (by simp) (.tmp (.tmp (.tmp (.tmp .nil))))) rfl ?_
          exact ⟨cq74, uW⟩
         subst c32
         try rw [if_pos rfl] at H
         by_cases c33 : t136 > 1
         rotate_left
         ·rw [if_neg c33] at H
          have c33b0 := decide_eq_false c33
          clear c33
          obtain ⟨ji52, hji52⟩ : ∃ j_ : Int, (wrap64 (x7_6 + 1)) = j_ := ⟨_, rfl⟩
          replace H : (if 0 ≤ (ji52) then (if (ji52) ≤ x8_11 then (if x8_11 ≤ (a0.size : Int) then ((spec_l7Chunk.f kj17 t135 t136 (a0.extract ((ji52) : Int).toNat (x8_11 : Int).toNat)).bind fun t140 => (if t140.toList = a0.toList then (some (t135, t136, a0.extract ((ji52) : Int).toNat (x8_11 : Int).toNat, true)) else (some (0, 0, (⟨#[]⟩ : ByteArray), false)))) else (none)) else (none)) else (none)) = some (r1, r2, r3, r4) := by first | (rw [hji52] at H; exact H) | (simp only [hji52] at H ⊢; exact H) | rfl
          (try rw [hji52] at A23)
          (try rw [hji52] at A28)
          (try rw [hji52] at A29)
          (try rw [hji52] at A31)
          have hji52w : (IntKind.i64.wrap (x7_6 + 1)) = ji52 := (vM _).trans hji52
          go_wp2_with (first | (go_at_call 68; (with_reducible refine (spec_l3Num.calls kj17 (a0.extract 0 (x6_1 : Int).toNat) t135 _ A23.out).mono ?_); rintro e w64 ⟨rfl, hb⟩; replace HB := uH HB hb; (try clear hb)) | (go_at_call 68; (with_reducible refine (spec_l3Num.calls kj17 (a0.extract ((ji24) : Int).toNat (x7_6 : Int).toNat) t136 _ A28.out).mono ?_); rintro e w65 ⟨rfl, hb⟩; replace HB := uH HB hb; (try clear hb)) | (go_at_call 48; (with_reducible refine (spec_l1In.calls t136 1 40 true _ A29.out).mono ?_); rintro e w' ⟨rfl, ⟨nd, rfl⟩⟩; (try exact dwN)) | (go_at_call 48; (with_reducible refine (spec_l1In.calls t135 0 (wrap64 (t136 - 1)) true _ A31.out).mono ?_); rintro e w' ⟨rfl, ⟨nd, rfl⟩⟩; (try exact dwN); refine ?roundEnd))
          case roundEnd =>
          by_cases c53 : 0 ≤ (ji52)
          rotate_left
          ·rw [if_neg c53] at H
           exact absurd H (by simp)
          rw [if_pos c53] at H
          have c53b0 := eq_true c53
          have c53b1 := decide_eq_true c53
          clear c53
          by_cases c54 : (ji52) ≤ x8_11
          rotate_left
          ·rw [if_neg c54] at H
           exact absurd H (by simp)
          rw [if_pos c54] at H
          have c54b0 := eq_true c54
          have c54b1 := decide_eq_true c54
          clear c54
          by_cases c55 : x8_11 ≤ (a0.size : Int)
          rotate_left
          ·rw [if_neg c55] at H
           exact absurd H (by simp)
          rw [if_pos c55] at H
          have c55b0 := eq_true c55
          have c55b1 := decide_eq_true c55
          clear c55
          replace H := Option.bind_eq_some_iff.mp H
          obtain ⟨t140, A560, H⟩ := H
          try dsimp only at H
          have A56 := Aside0.mk A560
          clear A560
          go_wp2_with (first | (go_at_call 64; (with_reducible refine (spec_l7Chunk.calls kj17 t135 t136 (a0.extract ((ji52) : Int).toNat (x8_11 : Int).toNat) t140 _ A56.out).mono ?_); rintro e w66 ⟨rfl, hb⟩; replace HB := uH HB hb; (try clear hb); refine ?roundEnd))
          case roundEnd =>
          by_cases c57 : t140.toList = a0.toList
          rotate_left
          ·rw [if_neg c57] at H
           have c57b0 : (t140.toList == a0.toList) = false := beq_eq_false_iff_ne.mpr c57
           have c57b1 : (t140.toList != a0.toList) = true := bne_iff_ne.mpr c57
           simp only [Option.some.injEq, Prod.mk.injEq] at H
           obtain ⟨rfl, rfl, rfl, rfl⟩ := H
           go_wp2
           repeat (go_quiet (first | (go_at_call 68; (with_reducible refine (spec_l3Num.calls kj17 (a0.extract 0 (x6_1 : Int).toNat) t135 _ A23.out).mono ?_); rintro e w64 ⟨rfl, hb⟩; replace HB := uH HB hb; (try clear hb)) | (go_at_call 68; (with_reducible refine (spec_l3Num.calls kj17 (a0.extract ((ji24) : Int).toNat (x7_6 : Int).toNat) t136 _ A28.out).mono ?_); rintro e w65 ⟨rfl, hb⟩; replace HB := uH HB hb; (try clear hb)) | (go_at_call 48; (with_reducible refine (spec_l1In.calls t136 1 40 true _ A29.out).mono ?_); rintro e w' ⟨rfl, ⟨nd, rfl⟩⟩; (try exact dwN)) | (go_at_call 48; (with_reducible refine (spec_l1In.calls t135 0 (wrap64 (t136 - 1)) true _ A31.out).mono ?_); rintro e w' ⟨rfl, ⟨nd, rfl⟩⟩; (try exact dwN)) | (go_at_call 64; (with_reducible refine (spec_l7Chunk.calls kj17 t135 t136 (a0.extract ((ji52) : Int).toNat (x8_11 : Int).toNat) t140 _ A56.out).mono ?_); rintro e w66 ⟨rfl, hb⟩; replace HB := uH HB hb; (try clear hb))); try go_wp2_with (first | (go_at_call 68; (with_reducible refine (spec_l3Num.calls kj17 (a0.extract 0 (x6_1 : Int).toNat) t135 _ A23.out).mono ?_); rintro e w64 ⟨rfl, hb⟩; replace HB := uH HB hb; (try clear hb)) | (go_at_call 68; (with_reducible refine (spec_l3Num.calls kj17 (a0.extract ((ji24) : Int).toNat (x7_6 : Int).toNat) t136 _ A28.out).mono ?_); rintro e w65 ⟨rfl, hb⟩; replace HB := uH HB hb; (try clear hb)) | (go_at_call 48; (with_reducible refine (spec_l1In.calls t136 1 40 true _ A29.out).mono ?_); rintro e w' ⟨rfl, ⟨nd, rfl⟩⟩; (try exact dwN)) | (go_at_call 48; (with_reducible refine (spec_l1In.calls t135 0 (wrap64 (t136 - 1)) true _ A31.out).mono ?_); rintro e w' ⟨rfl, ⟨nd, rfl⟩⟩; (try exact dwN)) | (go_at_call 64; (with_reducible refine (spec_l7Chunk.calls kj17 t135 t136 (a0.extract ((ji52) : Int).toNat (x8_11 : Int).toNat) t140 _ A56.out).mono ?_); rintro e w66 ⟨rfl, hb⟩; replace HB := uH HB hb; (try clear hb))))
           refine bodyPost_ret (vY (rs := [.tmp 2, .tmp 3, .tmp 4, .tmp 5]) rfl (by simp) (.tmp (.tmp (.tmp (.tmp .nil))))) rfl ?_
           exact ⟨by first | rfl | (simp [errW_none, errW_some] <;> rfl) | (simp only [← hji24, ← hji52]; first | rfl | (simp [errW_none, errW_some] <;> rfl)) | (simp [*, errW_none, errW_some] <;> rfl), uW⟩
          rw [if_pos c57] at H
          have c57b0 : (t140.toList == a0.toList) = true := beq_iff_eq.mpr c57
          have c57b1 : (t140.toList != a0.toList) = false := bne_eq_false_iff_eq.mpr c57
          clear c57
          have c58b0 := eq_true (of_decide_eq_true vC : 0 ≤ (ji52))
          have c59b0 := eq_true (of_decide_eq_true vC : (ji52) ≤ x8_11)
          have c60b0 := eq_true (of_decide_eq_true vC : x8_11 ≤ (a0.size : Int))
          simp only [Option.some.injEq, Prod.mk.injEq] at H
          obtain ⟨rfl, rfl, rfl, rfl⟩ := H
          go_wp2
          repeat (go_quiet (first | (go_at_call 68; (with_reducible refine (spec_l3Num.calls kj17 (a0.extract 0 (x6_1 : Int).toNat) t135 _ A23.out).mono ?_); rintro e w64 ⟨rfl, hb⟩; replace HB := uH HB hb; (try clear hb)) | (go_at_call 68; (with_reducible refine (spec_l3Num.calls kj17 (a0.extract ((ji24) : Int).toNat (x7_6 : Int).toNat) t136 _ A28.out).mono ?_); rintro e w65 ⟨rfl, hb⟩; replace HB := uH HB hb; (try clear hb)) | (go_at_call 48; (with_reducible refine (spec_l1In.calls t136 1 40 true _ A29.out).mono ?_); rintro e w' ⟨rfl, ⟨nd, rfl⟩⟩; (try exact dwN)) | (go_at_call 48; (with_reducible refine (spec_l1In.calls t135 0 (wrap64 (t136 - 1)) true _ A31.out).mono ?_); rintro e w' ⟨rfl, ⟨nd, rfl⟩⟩; (try exact dwN)) | (go_at_call 64; (with_reducible refine (spec_l7Chunk.calls kj17 t135 t136 (a0.extract ((ji52) : Int).toNat (x8_11 : Int).toNat) t140 _ A56.out).mono ?_); rintro e w66 ⟨rfl, hb⟩; replace HB := uH HB hb; (try clear hb))); try go_wp2_with (first | (go_at_call 68; (with_reducible refine (spec_l3Num.calls kj17 (a0.extract 0 (x6_1 : Int).toNat) t135 _ A23.out).mono ?_); rintro e w64 ⟨rfl, hb⟩; replace HB := uH HB hb; (try clear hb)) | (go_at_call 68; (with_reducible refine (spec_l3Num.calls kj17 (a0.extract ((ji24) : Int).toNat (x7_6 : Int).toNat) t136 _ A28.out).mono ?_); rintro e w65 ⟨rfl, hb⟩; replace HB := uH HB hb; (try clear hb)) | (go_at_call 48; (with_reducible refine (spec_l1In.calls t136 1 40 true _ A29.out).mono ?_); rintro e w' ⟨rfl, ⟨nd, rfl⟩⟩; (try exact dwN)) | (go_at_call 48; (with_reducible refine (spec_l1In.calls t135 0 (wrap64 (t136 - 1)) true _ A31.out).mono ?_); rintro e w' ⟨rfl, ⟨nd, rfl⟩⟩; (try exact dwN)) | (go_at_call 64; (with_reducible refine (spec_l7Chunk.calls kj17 t135 t136 (a0.extract ((ji52) : Int).toNat (x8_11 : Int).toNat) t140 _ A56.out).mono ?_); rintro e w66 ⟨rfl, hb⟩; replace HB := uH HB hb; (try clear hb))))
          refine bodyPost_ret (vY (rs := [.tmp 2, .tmp 3, .tmp 4, .tmp 5]) rfl (by simp) (.tmp (.tmp (.tmp (.tmp .nil))))) rfl ?_
          exact ⟨by first | rfl | (simp [errW_none, errW_some] <;> rfl) | (simp only [← hji24, ← hji52]; first | rfl | (simp [errW_none, errW_some] <;> rfl)) | (simp [*, errW_none, errW_some] <;> rfl), uW⟩
         rw [if_pos c33] at H
         have c33b0 := decide_eq_true c33
         clear c33
         by_cases c34 : x8_11 = (wrap64 (x7_6 + 1))
         ·rw [if_pos c34] at H
          have c34b0 := beq_iff_eq.mpr c34
          have c34b1 := bne_eq_false_iff_eq.mpr c34
          clear c34
          simp only [Option.some.injEq, Prod.mk.injEq] at H
          obtain ⟨rfl, rfl, rfl, rfl⟩ := H
          go_wp2_with (first | (go_at_call 68; (with_reducible refine (spec_l3Num.calls kj17 (a0.extract 0 (x6_1 : Int).toNat) t135 _ A23.out).mono ?_); rintro e w35 ⟨rfl, hb⟩; replace HB := uH HB hb; (try clear hb)) | (go_at_call 68; (with_reducible refine (spec_l3Num.calls kj17 (a0.extract ((ji24) : Int).toNat (x7_6 : Int).toNat) t136 _ A28.out).mono ?_); rintro e w36 ⟨rfl, hb⟩; replace HB := uH HB hb; (try clear hb)) | (go_at_call 48; (with_reducible refine (spec_l1In.calls t136 1 40 true _ A29.out).mono ?_); rintro e w' ⟨rfl, ⟨nd, rfl⟩⟩; (try exact dwN)) | (go_at_call 48; (with_reducible refine (spec_l1In.calls t135 0 (wrap64 (t136 - 1)) true _ A31.out).mono ?_); rintro e w' ⟨rfl, ⟨nd, rfl⟩⟩; (try exact dwN)))
          repeat (go_quiet (first | (go_at_call 68; (with_reducible refine (spec_l3Num.calls kj17 (a0.extract 0 (x6_1 : Int).toNat) t135 _ A23.out).mono ?_); rintro e w35 ⟨rfl, hb⟩; replace HB := uH HB hb; (try clear hb)) | (go_at_call 68; (with_reducible refine (spec_l3Num.calls kj17 (a0.extract ((ji24) : Int).toNat (x7_6 : Int).toNat) t136 _ A28.out).mono ?_); rintro e w36 ⟨rfl, hb⟩; replace HB := uH HB hb; (try clear hb)) | (go_at_call 48; (with_reducible refine (spec_l1In.calls t136 1 40 true _ A29.out).mono ?_); rintro e w' ⟨rfl, ⟨nd, rfl⟩⟩; (try exact dwN)) | (go_at_call 48; (with_reducible refine (spec_l1In.calls t135 0 (wrap64 (t136 - 1)) true _ A31.out).mono ?_); rintro e w' ⟨rfl, ⟨nd, rfl⟩⟩; (try exact dwN))); try go_wp2_with (first | (go_at_call 68; (with_reducible refine (spec_l3Num.calls kj17 (a0.extract 0 (x6_1 : Int).toNat) t135 _ A23.out).mono ?_); rintro e w35 ⟨rfl, hb⟩; replace HB := uH HB hb; (try clear hb)) | (go_at_call 68; (with_reducible refine (spec_l3Num.calls kj17 (a0.extract ((ji24) : Int).toNat (x7_6 : Int).toNat) t136 _ A28.out).mono ?_); rintro e w36 ⟨rfl, hb⟩; replace HB := uH HB hb; (try clear hb)) | (go_at_call 48; (with_reducible refine (spec_l1In.calls t136 1 40 true _ A29.out).mono ?_); rintro e w' ⟨rfl, ⟨nd, rfl⟩⟩; (try exact dwN)) | (go_at_call 48; (with_reducible refine (spec_l1In.calls t135 0 (wrap64 (t136 - 1)) true _ A31.out).mono ?_); rintro e w' ⟨rfl, ⟨nd, rfl⟩⟩; (try exact dwN))))
          refine bodyPost_ret (vY (rs := [.tmp 2, .tmp 3, .tmp 4, .tmp 5]) rfl (by simp) (.tmp (.tmp (.tmp (.tmp .nil))))) rfl ?_
          exact ⟨cq74, uW⟩
         rw [if_neg c34] at H
         have c34b0 := beq_eq_false_iff_ne.mpr c34
         have c34b1 := bne_iff_ne.mpr c34
         obtain ⟨ji37, hji37⟩ : ∃ j_ : Int, (wrap64 (x7_6 + 1)) = j_ := ⟨_, rfl⟩
         replace H : (if 0 ≤ (ji37) then (if (ji37) ≤ x8_11 then (if x8_11 ≤ (a0.size : Int) then ((spec_l7Chunk.f kj17 t135 t136 (a0.extract ((ji37) : Int).toNat (x8_11 : Int).toNat)).bind fun t139 => (if t139.toList = a0.toList then (some (t135, t136, a0.extract ((ji37) : Int).toNat (x8_11 : Int).toNat, true)) else (some (0, 0, (⟨#[]⟩ : ByteArray), false)))) else (none)) else (none)) else (none)) = some (r1, r2, r3, r4) := by first | (rw [hji37] at H; exact H) | (simp only [hji37] at H ⊢; exact H) | rfl
         (try rw [hji37] at c34b0)
         (try rw [hji37] at c34b1)
         (try rw [hji37] at A23)
         (try rw [hji37] at A28)
         (try rw [hji37] at A29)
         (try rw [hji37] at A31)
         have hji37w : (IntKind.i64.wrap (x7_6 + 1)) = ji37 := (vM _).trans hji37
         go_wp2_with (first | (go_at_call 68; (with_reducible refine (spec_l3Num.calls kj17 (a0.extract 0 (x6_1 : Int).toNat) t135 _ A23.out).mono ?_); rintro e w49 ⟨rfl, hb⟩; replace HB := uH HB hb; (try clear hb)) | (go_at_call 68; (with_reducible refine (spec_l3Num.calls kj17 (a0.extract ((ji24) : Int).toNat (x7_6 : Int).toNat) t136 _ A28.out).mono ?_); rintro e w50 ⟨rfl, hb⟩; replace HB := uH HB hb; (try clear hb)) | (go_at_call 48; (with_reducible refine (spec_l1In.calls t136 1 40 true _ A29.out).mono ?_); rintro e w' ⟨rfl, ⟨nd, rfl⟩⟩; (try exact dwN)) | (go_at_call 48; (with_reducible refine (spec_l1In.calls t135 0 (wrap64 (t136 - 1)) true _ A31.out).mono ?_); rintro e w' ⟨rfl, ⟨nd, rfl⟩⟩; (try exact dwN); refine ?roundEnd))
         case roundEnd =>
         by_cases c38 : 0 ≤ (ji37)
         rotate_left
         ·rw [if_neg c38] at H
          exact absurd H (by simp)
         rw [if_pos c38] at H
         have c38b0 := eq_true c38
         have c38b1 := decide_eq_true c38
         clear c38
         by_cases c39 : (ji37) ≤ x8_11
         rotate_left
         ·rw [if_neg c39] at H
          exact absurd H (by simp)
         rw [if_pos c39] at H
         have c39b0 := eq_true c39
         have c39b1 := decide_eq_true c39
         clear c39
         by_cases c40 : x8_11 ≤ (a0.size : Int)
         rotate_left
         ·rw [if_neg c40] at H
          exact absurd H (by simp)
         rw [if_pos c40] at H
         have c40b0 := eq_true c40
         have c40b1 := decide_eq_true c40
         clear c40
         replace H := Option.bind_eq_some_iff.mp H
         obtain ⟨t139, A410, H⟩ := H
         try dsimp only at H
         have A41 := Aside0.mk A410
         clear A410
         go_wp2_with (first | (go_at_call 64; (with_reducible refine (spec_l7Chunk.calls kj17 t135 t136 (a0.extract ((ji37) : Int).toNat (x8_11 : Int).toNat) t139 _ A41.out).mono ?_); rintro e w51 ⟨rfl, hb⟩; replace HB := uH HB hb; (try clear hb); refine ?roundEnd))
         case roundEnd =>
         by_cases c42 : t139.toList = a0.toList
         rotate_left
         ·rw [if_neg c42] at H
          have c42b0 : (t139.toList == a0.toList) = false := beq_eq_false_iff_ne.mpr c42
          have c42b1 : (t139.toList != a0.toList) = true := bne_iff_ne.mpr c42
          simp only [Option.some.injEq, Prod.mk.injEq] at H
          obtain ⟨rfl, rfl, rfl, rfl⟩ := H
          go_wp2
          repeat (go_quiet (first | (go_at_call 68; (with_reducible refine (spec_l3Num.calls kj17 (a0.extract 0 (x6_1 : Int).toNat) t135 _ A23.out).mono ?_); rintro e w49 ⟨rfl, hb⟩; replace HB := uH HB hb; (try clear hb)) | (go_at_call 68; (with_reducible refine (spec_l3Num.calls kj17 (a0.extract ((ji24) : Int).toNat (x7_6 : Int).toNat) t136 _ A28.out).mono ?_); rintro e w50 ⟨rfl, hb⟩; replace HB := uH HB hb; (try clear hb)) | (go_at_call 48; (with_reducible refine (spec_l1In.calls t136 1 40 true _ A29.out).mono ?_); rintro e w' ⟨rfl, ⟨nd, rfl⟩⟩; (try exact dwN)) | (go_at_call 48; (with_reducible refine (spec_l1In.calls t135 0 (wrap64 (t136 - 1)) true _ A31.out).mono ?_); rintro e w' ⟨rfl, ⟨nd, rfl⟩⟩; (try exact dwN)) | (go_at_call 64; (with_reducible refine (spec_l7Chunk.calls kj17 t135 t136 (a0.extract ((ji37) : Int).toNat (x8_11 : Int).toNat) t139 _ A41.out).mono ?_); rintro e w51 ⟨rfl, hb⟩; replace HB := uH HB hb; (try clear hb))); try go_wp2_with (first | (go_at_call 68; (with_reducible refine (spec_l3Num.calls kj17 (a0.extract 0 (x6_1 : Int).toNat) t135 _ A23.out).mono ?_); rintro e w49 ⟨rfl, hb⟩; replace HB := uH HB hb; (try clear hb)) | (go_at_call 68; (with_reducible refine (spec_l3Num.calls kj17 (a0.extract ((ji24) : Int).toNat (x7_6 : Int).toNat) t136 _ A28.out).mono ?_); rintro e w50 ⟨rfl, hb⟩; replace HB := uH HB hb; (try clear hb)) | (go_at_call 48; (with_reducible refine (spec_l1In.calls t136 1 40 true _ A29.out).mono ?_); rintro e w' ⟨rfl, ⟨nd, rfl⟩⟩; (try exact dwN)) | (go_at_call 48; (with_reducible refine (spec_l1In.calls t135 0 (wrap64 (t136 - 1)) true _ A31.out).mono ?_); rintro e w' ⟨rfl, ⟨nd, rfl⟩⟩; (try exact dwN)) | (go_at_call 64; (with_reducible refine (spec_l7Chunk.calls kj17 t135 t136 (a0.extract ((ji37) : Int).toNat (x8_11 : Int).toNat) t139 _ A41.out).mono ?_); rintro e w51 ⟨rfl, hb⟩; replace HB := uH HB hb; (try clear hb))))
          refine bodyPost_ret (vY (rs := [.tmp 2, .tmp 3, .tmp 4, .tmp 5]) rfl (by simp) (.tmp (.tmp (.tmp (.tmp .nil))))) rfl ?_
          exact ⟨by first | rfl | (simp [errW_none, errW_some] <;> rfl) | (simp only [← hji24, ← hji37]; first | rfl | (simp [errW_none, errW_some] <;> rfl)) | (simp [*, errW_none, errW_some] <;> rfl), uW⟩
         rw [if_pos c42] at H
         have c42b0 : (t139.toList == a0.toList) = true := beq_iff_eq.mpr c42
         have c42b1 : (t139.toList != a0.toList) = false := bne_eq_false_iff_eq.mpr c42
         clear c42
         have c43b0 := eq_true (of_decide_eq_true vC : 0 ≤ (ji37))
         have c44b0 := eq_true (of_decide_eq_true vC : (ji37) ≤ x8_11)
         have c45b0 := eq_true (of_decide_eq_true vC : x8_11 ≤ (a0.size : Int))
         simp only [Option.some.injEq, Prod.mk.injEq] at H
         obtain ⟨rfl, rfl, rfl, rfl⟩ := H
         go_wp2
         repeat (go_quiet (first | (go_at_call 68; (with_reducible refine (spec_l3Num.calls kj17 (a0.extract 0 (x6_1 : Int).toNat) t135 _ A23.out).mono ?_); rintro e w49 ⟨rfl, hb⟩; replace HB := uH HB hb; (try clear hb)) | (go_at_call 68; (with_reducible refine (spec_l3Num.calls kj17 (a0.extract ((ji24) : Int).toNat (x7_6 : Int).toNat) t136 _ A28.out).mono ?_); rintro e w50 ⟨rfl, hb⟩; replace HB := uH HB hb; (try clear hb)) | (go_at_call 48; (with_reducible refine (spec_l1In.calls t136 1 40 true _ A29.out).mono ?_); rintro e w' ⟨rfl, ⟨nd, rfl⟩⟩; (try exact dwN)) | (go_at_call 48; (with_reducible refine (spec_l1In.calls t135 0 (wrap64 (t136 - 1)) true _ A31.out).mono ?_); rintro e w' ⟨rfl, ⟨nd, rfl⟩⟩; (try exact dwN)) | (go_at_call 64; (with_reducible refine (spec_l7Chunk.calls kj17 t135 t136 (a0.extract ((ji37) : Int).toNat (x8_11 : Int).toNat) t139 _ A41.out).mono ?_); rintro e w51 ⟨rfl, hb⟩; replace HB := uH HB hb; (try clear hb))); try go_wp2_with (first | (go_at_call 68; (with_reducible refine (spec_l3Num.calls kj17 (a0.extract 0 (x6_1 : Int).toNat) t135 _ A23.out).mono ?_); rintro e w49 ⟨rfl, hb⟩; replace HB := uH HB hb; (try clear hb)) | (go_at_call 68; (with_reducible refine (spec_l3Num.calls kj17 (a0.extract ((ji24) : Int).toNat (x7_6 : Int).toNat) t136 _ A28.out).mono ?_); rintro e w50 ⟨rfl, hb⟩; replace HB := uH HB hb; (try clear hb)) | (go_at_call 48; (with_reducible refine (spec_l1In.calls t136 1 40 true _ A29.out).mono ?_); rintro e w' ⟨rfl, ⟨nd, rfl⟩⟩; (try exact dwN)) | (go_at_call 48; (with_reducible refine (spec_l1In.calls t135 0 (wrap64 (t136 - 1)) true _ A31.out).mono ?_); rintro e w' ⟨rfl, ⟨nd, rfl⟩⟩; (try exact dwN)) | (go_at_call 64; (with_reducible refine (spec_l7Chunk.calls kj17 t135 t136 (a0.extract ((ji37) : Int).toNat (x8_11 : Int).toNat) t139 _ A41.out).mono ?_); rintro e w51 ⟨rfl, hb⟩; replace HB := uH HB hb; (try clear hb))))
         refine bodyPost_ret (vY (rs := [.tmp 2, .tmp 3, .tmp 4, .tmp 5]) rfl (by simp) (.tmp (.tmp (.tmp (.tmp .nil))))) rfl ?_
         exact ⟨by first | rfl | (simp [errW_none, errW_some] <;> rfl) | (simp only [← hji24, ← hji37]; first | rfl | (simp [errW_none, errW_some] <;> rfl)) | (simp [*, errW_none, errW_some] <;> rfl), uW⟩

end Go.Proofs.YtcikahnmiiichaaDoor.K
