/- Go functions as Lean functions, and the proof that the code comes to them: written by a program of this session out of the translation. -/
import Derived.Test.YtcikahnmiiichaaDoorP0
import Derived.Test.YtcikahnmiiichaaDoorP1
import Derived.Test.YtcikahnmiiichaaDoorP3
import Derived.Test.YtcikahnmiiichaaDoorP5
import Derived.Test.YtcikahnmiiichaaDoorShelf
namespace Go.Proofs.YtcikahnmiiichaaDoor.P
open List renaming setIfInBounds_toArray → uZ, set_cons_zero → vA, set_cons_succ → vB
open Go.World renaming block_lt_of_cell? → vF
open Go.Proofs.YtcikahnmiiichaaDoor.Given
open Go.RowKit Go.Proofs.YtcikahnmiiichaaDoorW.PrintWords Go.Proofs.YtcikahnmiiichaaDoorW.PrintLast Go.Proofs.YtcikahnmiiichaaDoorW.PrintMore
attribute [local go_sem] max2_int min2_int max_two min_two max_three min_three max_four min_four   -- for this text's walks alone
set_option linter.unusedVariables false
set_option linter.unusedSimpArgs false

/-! ### spec_ParseMachine: function 37 -/
mutual
def spec_ParseMachine.j1 : Nat → ByteArray → List ByteArray → List Int → Option (List Int × (List (S97)) × Bool)
 | 0, _, _, _ => none
 | k + 1, x0, x4, x136000 => spec_ParseMachine.l1 k x0 x4 1 x136000 ([] : List (S97))
def spec_ParseMachine.j3 : Nat → ByteArray → List Int → List (S97) → Option (List Int × (List (S97)) × Bool)
 | 0, _, _, _ => none
 | k + 1, x0, x136000, x136001 => if x0.toList = ([] : List UInt8) then (some (([] : List Int), ([] : List (S97)), false)) else ((spec_FormatMachine.f k x136000 x136001).bind fun t150 => (if t150.toList = x0.toList then (some (x136000, x136001, true)) else (some (([] : List Int), ([] : List (S97)), false))))
def spec_ParseMachine.l1 : Nat → ByteArray → List ByteArray → Int → List Int → List (S97) → Option (List Int × (List (S97)) × Bool)
 | 0, _, _, _, _, _ => none
 | k + 1, x0, x4, x7, x136000, x136001 => if x7 < (x4.length : Int) then (if x7 < 9 then (if 0 ≤ x7 then ((spec_l4Session.f k (rdOf ByteArray.empty x4 x7)).bind fun bt142 => (if x136001.length < 4398046511104 then (spec_ParseMachine.l1 k x0 x4 (wrap64 (x7 + 1)) x136000 (x136001 ++ [(⟨bt142.1, bt142.2.1, (⟨bt142.2.2.1, bt142.2.2.2⟩ : S95)⟩ : S97)])) else (none))) else (none)) else (spec_ParseMachine.j3 k x0 x136000 x136001)) else (spec_ParseMachine.j3 k x0 x136000 x136001)
def spec_ParseMachine.l0 : Nat → ByteArray → List ByteArray → Int → List Int → Option (List Int × (List (S97)) × Bool)
 | 0, _, _, _, _ => none
 | k + 1, x0, x4, x6, x136000 => if 0 < (x4.length : Int) then (if x6 < ((rdOf ByteArray.empty x4 0).size : Int) then (if x6 < 9 then (if 0 ≤ x6 then (if x136000.length < 17592186044416 then (spec_ParseMachine.l0 k x0 x4 (wrap64 (x6 + 1)) (x136000 ++ [wrap64 ((wrap64 (bt (rdOf ByteArray.empty x4 0) x6)) - 48)])) else (none)) else (none)) else (spec_ParseMachine.j1 k x0 x4 x136000)) else (spec_ParseMachine.j1 k x0 x4 x136000)) else (none)
end
def spec_ParseMachine.f (k : Nat) (a0 : ByteArray) : Option (List Int × (List (S97)) × Bool) := (spec_l2Cut.f k a0 32).bind fun t132 => (spec_ParseMachine.l0 k a0 t132 0 ([] : List Int))
theorem spec_ParseMachine.mono_l : ∀ k, (∀ y0 y1 y2, uA (spec_ParseMachine.j1 k y0 y1 y2) (spec_ParseMachine.j1 (k + 1) y0 y1 y2)) ∧ (∀ y0 y1 y2, uA (spec_ParseMachine.j3 k y0 y1 y2) (spec_ParseMachine.j3 (k + 1) y0 y1 y2)) ∧ (∀ y0 y1 y2 y3 y4, uA (spec_ParseMachine.l1 k y0 y1 y2 y3 y4) (spec_ParseMachine.l1 (k + 1) y0 y1 y2 y3 y4)) ∧ (∀ y0 y1 y2 y3, uA (spec_ParseMachine.l0 k y0 y1 y2 y3) (spec_ParseMachine.l0 (k + 1) y0 y1 y2 y3))
 | 0 => ⟨fun _ _ _ r h => by simp [spec_ParseMachine.j1] at h, fun _ _ _ r h => by simp [spec_ParseMachine.j3] at h, fun _ _ _ _ _ r h => by simp [spec_ParseMachine.l1] at h, fun _ _ _ _ r h => by simp [spec_ParseMachine.l0] at h⟩
 | k + 1 => by
  obtain ⟨ih0, ih1, ih2, ih3⟩ := spec_ParseMachine.mono_l k
  refine ⟨?_, ?_, ?_, ?_⟩
  ·intro y0 y1 y2
   unfold spec_ParseMachine.j1
   repeat' first
   | (with_reducible exact ih0 _ _ _)
   | (with_reducible exact ih1 _ _ _)
   | (with_reducible exact ih2 _ _ _ _ _)
   | (with_reducible exact ih3 _ _ _ _)
   | (with_reducible exact spec_FormatMachine.mono _ _ _)
   | (with_reducible exact spec_l2Cut.mono _ _ _)
   | (with_reducible exact spec_l4Session.mono _ _)
   | (with_reducible exact uA.refl _)
   | (with_reducible exact uA.none _)
   | (with_reducible refine uA.ite ?_ ?_)
   | (with_reducible refine uA.bind ?_ (fun _ => ?_))
   | exact ih0 _ _ _
   | exact ih1 _ _ _
   | exact ih2 _ _ _ _ _
   | exact ih3 _ _ _ _
   | exact uA.none _
   | refine uA.ite ?_ ?_
   | refine uA.bind ?_ (fun _ => ?_)
  ·intro y0 y1 y2
   unfold spec_ParseMachine.j3
   repeat' first
   | (with_reducible exact ih0 _ _ _)
   | (with_reducible exact ih1 _ _ _)
   | (with_reducible exact ih2 _ _ _ _ _)
   | (with_reducible exact ih3 _ _ _ _)
   | (with_reducible exact spec_FormatMachine.mono _ _ _)
   | (with_reducible exact spec_l2Cut.mono _ _ _)
   | (with_reducible exact spec_l4Session.mono _ _)
   | (with_reducible exact uA.refl _)
   | (with_reducible exact uA.none _)
   | (with_reducible refine uA.ite ?_ ?_)
   | (with_reducible refine uA.bind ?_ (fun _ => ?_))
   | exact ih0 _ _ _
   | exact ih1 _ _ _
   | exact ih2 _ _ _ _ _
   | exact ih3 _ _ _ _
   | exact uA.none _
   | refine uA.ite ?_ ?_
   | refine uA.bind ?_ (fun _ => ?_)
  ·intro y0 y1 y2 y3 y4
   unfold spec_ParseMachine.l1
   repeat' first
   | (with_reducible exact ih0 _ _ _)
   | (with_reducible exact ih1 _ _ _)
   | (with_reducible exact ih2 _ _ _ _ _)
   | (with_reducible exact ih3 _ _ _ _)
   | (with_reducible exact spec_FormatMachine.mono _ _ _)
   | (with_reducible exact spec_l2Cut.mono _ _ _)
   | (with_reducible exact spec_l4Session.mono _ _)
   | (with_reducible exact uA.refl _)
   | (with_reducible exact uA.none _)
   | (with_reducible refine uA.ite ?_ ?_)
   | (with_reducible refine uA.bind ?_ (fun _ => ?_))
   | exact ih0 _ _ _
   | exact ih1 _ _ _
   | exact ih2 _ _ _ _ _
   | exact ih3 _ _ _ _
   | exact uA.none _
   | refine uA.ite ?_ ?_
   | refine uA.bind ?_ (fun _ => ?_)
  intro y0 y1 y2 y3
  unfold spec_ParseMachine.l0
  repeat' first
  | (with_reducible exact ih0 _ _ _)
  | (with_reducible exact ih1 _ _ _)
  | (with_reducible exact ih2 _ _ _ _ _)
  | (with_reducible exact ih3 _ _ _ _)
  | (with_reducible exact spec_FormatMachine.mono _ _ _)
  | (with_reducible exact spec_l2Cut.mono _ _ _)
  | (with_reducible exact spec_l4Session.mono _ _)
  | (with_reducible exact uA.refl _)
  | (with_reducible exact uA.none _)
  | (with_reducible refine uA.ite ?_ ?_)
  | (with_reducible refine uA.bind ?_ (fun _ => ?_))
  | exact ih0 _ _ _
  | exact ih1 _ _ _
  | exact ih2 _ _ _ _ _
  | exact ih3 _ _ _ _
  | exact uA.none _
  | refine uA.ite ?_ ?_
  | refine uA.bind ?_ (fun _ => ?_)
theorem spec_ParseMachine.mono : ∀ a0 k, uA (spec_ParseMachine.f k a0) (spec_ParseMachine.f (k + 1) a0) := by
 intro a0 k
 obtain ⟨ih0, ih1, ih2, ih3⟩ := spec_ParseMachine.mono_l k
 unfold spec_ParseMachine.f
 repeat' first
   | (with_reducible exact ih0 _ _ _)
   | (with_reducible exact ih1 _ _ _)
   | (with_reducible exact ih2 _ _ _ _ _)
   | (with_reducible exact ih3 _ _ _ _)
   | (with_reducible exact spec_FormatMachine.mono _ _ _)
   | (with_reducible exact spec_l2Cut.mono _ _ _)
   | (with_reducible exact spec_l4Session.mono _ _)
   | (with_reducible exact uA.refl _)
   | (with_reducible exact uA.none _)
   | (with_reducible refine uA.ite ?_ ?_)
   | (with_reducible refine uA.bind ?_ (fun _ => ?_))
   | exact ih0 _ _ _
   | exact ih1 _ _ _
   | exact ih2 _ _ _ _ _
   | exact ih3 _ _ _ _
   | exact uA.none _
   | refine uA.ite ?_ ?_
   | refine uA.bind ?_ (fun _ => ?_)
def spec_ParseMachine.T6 : Bool × List (List Nat × List Nat) := (true, [([], []), ([0], [0]), ([], []), ([2], [2]), ([3], [3]), ([], []), ([4, 5], [4, 5]), ([6], [6]), ([7], [7]), ([8], [8]), ([1, 9], [1, 9]), ([0, 1, 2, 3, 4, 5, 6, 7, 8, 9, 10], []), ([11, 10, 10, 0, 1, 2, 3, 4, 5, 6, 7, 8, 9, 10], [10, 11])])
def spec_ParseMachine.B6 : List Nat := [0, 1, 0, 4, 12, 0, 60, 124, 252, 508, 1023, 2047, 4095]
theorem spec_ParseMachine.tab6 : rtab .any (opsOf Tryd.f37 6) = spec_ParseMachine.T6 := by kernel_rfl
theorem spec_ParseMachine.bits6 : waitsOk spec_ParseMachine.T6.2 spec_ParseMachine.B6 = true := by kernel_rfl
set_option maxHeartbeats 8000000 in
set_option maxRecDepth 100000 in
theorem spec_ParseMachine.calls (k : Nat) (a0 : ByteArray) (r1 : List Int) (r2 : List (S97)) (r3 : Bool) (w : World) (h : spec_ParseMachine.f k a0 = some (r1, r2, r3)) :
  Calls Tryd.prog 37 #[.string a0] w fun e w' => ∃ v0_ v1_ : Value, e = .returned (.tuple #[.agg #[v0_, v1_], .bool r3]) ∧ Kd.R (Kd.int .i64) 3 w' w.heap.size (fun _ => True) v0_ r1 ∧ Kd.R k97 97 w' w.heap.size (fun _ => True) v1_ r2 ∧ Below w.heap.size w w' := by
 have hu56 := Tryd.underlying56
 have hu97 := Tryd.underlying97
 have HB := Aside0.mk (Below.refl w.heap.size w)
 have H : ((spec_l2Cut.f k a0 32).bind fun t132 => (spec_ParseMachine.l0 k a0 t132 0 ([] : List Int))) = some (r1, r2, r3) := h
 clear h
 replace H := Option.bind_eq_some_iff.mp H
 obtain ⟨t132, A20, H⟩ := H
 try dsimp only at H
 have A2 := Aside0.mk A20
 clear A20
 have HC3 := Aside0.mk H
 clear H
 go_enter Tryd.func37, Tryd.ntmps37
 go_upto_block 0 with (first | ((with_reducible refine uU (N := 2) rfl ?_); refine bxe 2 #[.slice none 0 0, .slice none 0 0] 56 ?_; intro gb131 hg w4 hbox hb; have n0_ := uP HB hb; have n1_ := Aside0.mk (hbox); have n2_ := tGe HB hg; have n3_ := tGe HB hg; clear HB; have HB := n0_; have BK131 := n1_; have GW131 := n2_; have GE131 := n3_; clear n0_ n1_ n2_ n3_; clear hb hbox hg) | ((with_reducible refine uI (f := 66) rfl ?_); refine goesM (some 10) Tryd.func66 #[.string a0, .int .u8 32] ?_; (with_reducible refine (spec_l2Cut.calls k a0 32 t132 _ A2.out).mono ?_); rintro e w5 ⟨v133, rfl, ho0, hb⟩; refine ⟨_, rfl, ?_⟩; have n0_ := Aside0.mk (Kd.R_lower ho0 (uY cq0)); have n1_ := tBlk BK131 hb; have n2_ := uP HB hb; clear BK131; clear HB; have HO134 := n0_; have BK131 := n1_; have HB := n2_; clear n0_ n1_ n2_; (try clear hb); (try clear ho0)) | ((with_reducible refine uU (N := 5) rfl ?_); refine bxe 5 #[.slice none 0 0, .slice none 0 0] 56 ?_; intro gb135 hg w6 hbox hb; have n0_ := Kd.tR HO134 hb; have n1_ := tBlk BK131 hb; have n2_ := uP HB hb; have n3_ := Aside0.mk (hbox); have n4_ := tGe HB hg; have n5_ := tGe HB hg; have n6_ := tNl BK131 hg; have n7_ := tNg BK131 hg; clear HO134; clear BK131; clear HB; have HO134 := n0_; have BK131 := n1_; have HB := n2_; have BK135 := n3_; have GW135 := n4_; have GE135 := n5_; have NB131_135 := n6_; have NB135_131 := n7_; clear n0_ n1_ n2_ n3_ n4_ n5_ n6_ n7_; clear hb hbox hg; have hnb7 := NB135_131.out; have hnc7 := NB131_135.out; have hcz8_0 : w6.cell? ⟨gb135, 0, none⟩ = some (.slice none 0 0) := (uE BK135.out 0).trans rfl; have hcz8_1 : w6.cell? ⟨gb135, 1, none⟩ = some (.slice none 0 0) := (uE BK135.out 1).trans rfl; have hfz8_0 := uX BK135.out 0; have hfz8_1 := uX BK135.out 1))
 (try simp only [Act.put, uZ, vA, vB])
 go_cut [] (fun wc => ∃ (kq : Nat) (x136000_2 : List Int) (u136000 : Value), Aside0 (spec_ParseMachine.j1 kq a0 t132 x136000_2 = some (r1, r2, r3)) ∧ Aside0 (kq ≤ k) ∧ Aside0 (Kd.R Kd.string 9 wc w.heap.size (fun _ => True) v133 t132) ∧ Aside0 (Kd.R (Kd.int .i64) 3 wc w.heap.size (fun _ => True) u136000 x136000_2) ∧ Aside0 (wc.heap[gb131]? = some (.cells #[(.slice none 0 0), (.slice none 0 0)] 56 (0, 0))) ∧ Aside0 (wc.heap[gb135]? = some (.cells #[u136000, (.slice none 0 0)] 56 (0, 0))) ∧ Aside0 (Below w.heap.size w wc))
 case first =>
  have H := HC3.out
  clear HC3
  have H' := Aside0.mk H
  clear H
  go_wp2
  go_loopg [6] k (fun kq v6 w' => ∃ (x6_1 : Int) (x136000_1 : List Int) (u136000 : Value), v6 = .int .i64 x6_1 ∧ Aside0 (spec_ParseMachine.l0 kq a0 t132 x6_1 x136000_1 = some (r1, r2, r3)) ∧ Aside0 (kq ≤ k) ∧ Aside0 (Kd.R Kd.string 9 w' w.heap.size (fun _ => True) v133 t132) ∧ Aside0 (Kd.R (Kd.int .i64) 3 w' w.heap.size (fun _ => True) u136000 x136000_1) ∧ Aside0 (w'.heap[gb131]? = some (.cells #[(.slice none 0 0), (.slice none 0 0)] 56 (0, 0))) ∧ Aside0 (w'.heap[gb135]? = some (.cells #[u136000, (.slice none 0 0)] 56 (0, 0))) ∧ Aside0 (Below w.heap.size w w'))
  case atStart => exact ⟨(0), (([] : List Int)), (.slice none 0 0), cq3, H', ⟨Nat.le_refl _⟩, ⟨by (with_reducible repeat (first | apply Kd.uL | apply Kd.uK | apply Kd.uM)); exact Kd.uS (Kd.uV (p := ⟨gb135, 1, none⟩) (Kd.uV (p := ⟨gb135, 0, none⟩) (Kd.R_types HO134.out BK135.out (by decide)) (fun _ hk => hk.2) (.slice none 0 0)) (fun _ hk => hk.2) (.slice none 0 0)) (fun _ hk => trivial)⟩, ⟨cq6⟩, ⟨by (with_reducible repeat (first | refine uC ?_ _ | refine uD ?_ | refine uB ?_ _)); refine uT ?_ NB131_135.out _; (with_reducible repeat (first | refine uC ?_ _ | refine uD ?_ | refine uB ?_ _)); refine uT ?_ NB131_135.out _; (with_reducible repeat (first | refine uC ?_ _ | refine uD ?_ | refine uB ?_ _)); exact BK131.out⟩, ⟨by (with_reducible repeat (first | refine uC ?_ _ | refine uD ?_ | refine uB ?_ _)); refine uO (cs := #[.slice none 0 0, .slice none 0 0]) ?_ 1 _ rfl; (with_reducible repeat (first | refine uC ?_ _ | refine uD ?_ | refine uB ?_ _)); refine uO (cs := #[.slice none 0 0, .slice none 0 0]) ?_ 0 _ rfl; (with_reducible repeat (first | refine uC ?_ _ | refine uD ?_ | refine uB ?_ _)); exact BK135.out⟩, ⟨cq0⟩⟩
  case round =>
   clear H'
   try clear hcz8_0
   try clear hcz8_1
   try clear hfz8_0
   try clear hfz8_1
   obtain ⟨x6_1, x136000_1, u136000, rfl, HA, HK1, HO_4, HO_136000, BK131, BK135, HB⟩ := hrel
   cases gk with
   | zero => exact absurd HA.out (by simp [spec_ParseMachine.l0])
   | succ k1 =>
    have H := HA.out
    clear HA
    simp only [spec_ParseMachine.l0] at H
    by_cases c9 : 0 < (t132.length : Int)
    rotate_left
    ·rw [if_neg c9] at H
     exact absurd H (by simp)
    rw [if_pos c9] at H
    have c9b0 := decide_eq_true c9
    have c9b1 : decide (0 < t132.length) = true := decide_eq_true (by omega)
    clear c9
    (first | rw [c9b0] | (simp only [uQ, i32_w]; rw [c9b0]) | skip)
    by_cases c10 : x6_1 < ((rdOf ByteArray.empty t132 0).size : Int)
    rotate_left
    ·rw [if_neg c10] at H
     have c10b0 := decide_eq_false c10
     clear c10
     have H' := Aside0.mk H
     clear H
     obtain ⟨Ao21, co21, eo21⟩ := Kd.R_slice HO_4.out
     subst eo21
     have p136 : 0 ≤ (0 : Int) := (by omega)
     have q136 : 0 < (t132.length : Int) := of_decide_eq_true uJ
     obtain ⟨ad136, e136, hx136_0⟩ := Kd.at_string (Kd.uH HO_4.out).2.2 0 p136 q136
     cases e136
     have qi136 : (0 < t132.length) = True := eq_true (by omega)
     (try rw [show ((0 : Int)).toNat = 0 from rfl] at hx136_0)
     (try rw [Addr.add_zero'] at hx136_0)
     replace p136 := eq_true p136
     replace q136 := eq_true q136
     go_wp2
     go_meet
     case rel => exact ⟨_, (x136000_1), (u136000), H', ⟨by have := HK1.out; first | omega | exact Nat.le_refl _⟩, ⟨cq83⟩, ⟨cq52⟩, ⟨cq50⟩, ⟨cq51⟩, ⟨cq0⟩⟩
    rw [if_pos c10] at H
    have c10b0 := decide_eq_true c10
    clear c10
    by_cases c11 : x6_1 < 9
    rotate_left
    ·rw [if_neg c11] at H
     have c11b0 := decide_eq_false c11
     clear c11
     have H' := Aside0.mk H
     clear H
     obtain ⟨Ao20, co20, eo20⟩ := Kd.R_slice HO_4.out
     subst eo20
     have p136 : 0 ≤ (0 : Int) := (by omega)
     have q136 : 0 < (t132.length : Int) := of_decide_eq_true uJ
     obtain ⟨ad136, e136, hx136_0⟩ := Kd.at_string (Kd.uH HO_4.out).2.2 0 p136 q136
     cases e136
     have qi136 : (0 < t132.length) = True := eq_true (by omega)
     (try rw [show ((0 : Int)).toNat = 0 from rfl] at hx136_0)
     (try rw [Addr.add_zero'] at hx136_0)
     replace p136 := eq_true p136
     replace q136 := eq_true q136
     go_wp2
     go_meet
     case rel => exact ⟨_, (x136000_1), (u136000), H', ⟨by have := HK1.out; first | omega | exact Nat.le_refl _⟩, ⟨cq83⟩, ⟨cq52⟩, ⟨cq50⟩, ⟨cq51⟩, ⟨cq0⟩⟩
    rw [if_pos c11] at H
    have c11b0 := decide_eq_true c11
    clear c11
    obtain ⟨c12b0, H⟩ := ifD H
    obtain ⟨LMc14, H⟩ := ifL H
    obtain ⟨y138, hy138⟩ : ∃ y_ : List Int, y_ = (x136000_1 ++ [wrap64 ((wrap64 (bt (rdOf ByteArray.empty t132 0) x6_1)) - 48)]) := ⟨_, rfl⟩
    replace H : (spec_ParseMachine.l0 k1 a0 t132 (wrap64 (x6_1 + 1)) y138) = some (r1, r2, r3) := rpl hy138 H
    have Ny138 := Aside0.mk hy138
    clear hy138
    have H' := Aside0.mk H
    clear H
    obtain ⟨Ao15, co15, eo15⟩ := Kd.R_slice HO_4.out
    subst eo15
    have p136 : 0 ≤ (0 : Int) := (by omega)
    have q136 : 0 < (t132.length : Int) := of_decide_eq_true uJ
    obtain ⟨ad136, e136, hx136_0⟩ := Kd.at_string (Kd.uH HO_4.out).2.2 0 p136 q136
    cases e136
    have qi136 : (0 < t132.length) = True := eq_true (by omega)
    (try rw [show ((0 : Int)).toNat = 0 from rfl] at hx136_0)
    (try rw [Addr.add_zero'] at hx136_0)
    replace p136 := eq_true p136
    replace q136 := eq_true q136
    try go_wp2
    replace HO_4 := Aside0.mk (Kd.uM HO_4.out)
    replace HO_136000 := Aside0.mk (Kd.uM HO_136000.out)
    replace BK131 := Aside0.mk (uD BK131.out)
    replace BK135 := Aside0.mk (uD BK135.out)
    replace HB := Aside0.mk (uW HB.out)
    have p137 : 0 ≤ (0 : Int) := (by omega)
    have q137 : 0 < (t132.length : Int) := of_decide_eq_true uJ
    obtain ⟨ad137, e137, hx137_0⟩ := Kd.at_string (Kd.uH HO_4.out).2.2 0 p137 q137
    obtain rfl : ad136 = ad137 := (by injection e137)
    have qi137 : (0 < t132.length) = True := eq_true (by omega)
    (try rw [show ((0 : Int)).toNat = 0 from rfl] at hx137_0)
    (try rw [Addr.add_zero'] at hx137_0)
    replace p137 := eq_true p137
    replace q137 := eq_true q137
    have p13 : 0 ≤ (x6_1 : Int) := of_decide_eq_true uJ
    have q13 : x6_1 < ((rdOf ByteArray.empty t132 0).size : Int) := of_decide_eq_true uJ
    have hx13 := bt_at (rdOf ByteArray.empty t132 0) x6_1
    replace p13 := eq_true p13
    replace q13 := eq_true q13
    refine start_ (n := 13) (S := fun w' => w'.cell? ⟨gb135, 0, none⟩ = some (u136000) ∧ w'.cell? ⟨gb135, 1, none⟩ = some (.slice none 0 0) ∧ w'.cell? ad136 = some (.string (rdOf ByteArray.empty t132 0))) (ds := [10, 12]) tb7 (by kernel_rfl) rfl rfl ⟨(uE BK135.out 0).trans rfl, (uE BK135.out 1).trans rfl, hx137_0⟩ (fun hHeld => ?_); refine with_tabW spec_ParseMachine.tab6 spec_ParseMachine.bits6 (fun HT_ HW_ => ?_)
    generalize wr.drew = w16 at HO_4 HO_136000 BK131 BK135 HB hx137_0 hHeld ⊢
    refine uN 0 (some 24) tb8 ?_
    refine uN 2 (some 26) tb9 ?_
    refine uN 3 (some 27) tb10 ?_
    refine uN 5 (some 29) tb11 ?_
    refine takeT 1 (some 25) tb12 ?_
    refine takeT 4 (some 28) tb13 ?_
    refine takeT 6 (some 30) tb14 ?_
    refine uN 7 (some 31) tb15 ?_
    refine uN 8 (some 32) tb16 ?_
    refine oneT 9 (some 33) tb17 (fun K hK => ?_)
    refine value_ (w1 := ?_) (v := ?_) (by rfl) rfl ?_ ?_
    rotate_left 2
    ·go_simp
     constructor
     ·rfl
     rfl
    refine hK.out _ _ ⟨(uE (uB BK135.out _) 0).trans rfl, (uE (uB BK135.out _) 1).trans rfl, (World.cell?_alloc_lt _ _ _ (vF _ _ (hHeld.2.2))).trans (hHeld.2.2)⟩ (fun hHeld => ?_)
    clear hK K
    refine normT (some 33) ?_
    refine last_ (i := 10) (N := some 34) tb18 rfl rfl (one_of HT_.out (by kernel_rfl)) (by decide) (fun K hK => ?_)
    refine Kd.R_append_step (Kd.int .i64) (w0 := w) w.heap.size (by rfl) (.tmp 25) (.tmp 33) 27 3 (.int .i64 0) 8 rfl Tryd.underlying27 info3 rfl (by decide) (by omega) u136000 x136000_1 (wrap64 ((wrap64 (bt (rdOf ByteArray.empty t132 0) x6_1)) - 48)) [.int .i64 (wrap64 ((wrap64 (bt (rdOf ByteArray.empty t132 0) x6_1)) - 48))] (fun _ => True) (fun _ => False) rfl rfl ?aP (fun _ hk => hk.elim) ?aF ?aO ?aB ?aS ?aL ?_
    (case aP => exact rfl)
    (case aB => exact cq41)
    (case aF => exact (fun _ _ => trivial))
    (case aO => exact (rSR HO_136000.out))
    (case aS => exact cq40)
    (case aL => have := LMc14.out; omega)
    intro v139 w17 ho hb hg hat
    rw [← Ny138.out] at ho
    have n0_ := Aside0.mk (Kd.R_over' (rSR HO_4.out) (Kd.R_typed (rSR HO_136000.out)) (by decide) hg)
    have n1_ := tGr BK131 hg (Kd.R_ne HO_136000.out BK131.out (by decide))
    have n2_ := tGr BK135 hg (Kd.R_ne HO_136000.out BK135.out (by decide))
    have n3_ := Aside0.mk (hb)
    have n4_ := Aside0.mk (ho)
    clear HO_4
    clear BK131
    clear BK135
    clear HB
    clear HO_136000
    have HO_4 := n0_
    have BK131 := n1_
    have BK135 := n2_
    have HB := n3_
    have HO140 := n4_
    clear n0_ n1_ n2_ n3_ n4_
    clear ho hb hg hat
    obtain ⟨Ao18, co18, eo18⟩ := Kd.R_slice HO140.out
    (first | subst eo18 | (injection eo18 with f1_ f2_ f3_; have f4_ := f1_.symm; have f5_ := f3_.symm; clear f1_ f2_ f3_; subst f4_; subst f5_))
    refine hK.out _ _ ?_
    clear hK K
    refine normT (some 34) ?_
    refine uN 11 (some 35) tb21 ?_
    refine last_ (i := 12) (N := none) tb24 rfl rfl (one_of HT_.out (by kernel_rfl)) (by decide) (fun K hK => ?_)
    have hs19 : w17.cell? ⟨gb135, 0, none⟩ = some (u136000) := (uE BK135.out 0).trans rfl
    have hfs19 := uX BK135.out 0
    have hns19_0 := NB131_135.out
    have hms19_0 := NB135_131.out
    refine skip_ (w1 := ?_) (by rfl) rfl ?_ ?_
    rotate_left
    ·go_simp
     rfl
    refine hK.out _ _ ?_
    clear hK K
    refine done_ (done_of HT_.out (by kernel_rfl)) ?_
    try go_wp2
    go_roundg k1
    case measure => have := HK1.out; omega
    case rel => exact ⟨(wrap64 (x6_1 + 1)), (y138), (.slice Ao18 y138.length co18), cq3, H', ⟨by have := HK1.out; omega⟩, ⟨by (with_reducible repeat (first | apply Kd.uL | apply Kd.uK | apply Kd.uM)); exact Kd.uS (Kd.uV (p := ⟨gb135, 0, none⟩) (Kd.R_types HO_4.out BK135.out (by decide)) (fun _ hk => hk.2) (.slice Ao18 y138.length co18)) (fun _ hk => trivial)⟩, ⟨by (with_reducible repeat (first | apply Kd.uL | apply Kd.uK | apply Kd.uM)); exact Kd.uS (Kd.uV (p := ⟨gb135, 0, none⟩) (Kd.R_types HO140.out BK135.out (by decide)) (fun _ hk => hk.2) (.slice Ao18 y138.length co18)) (fun _ hk => trivial)⟩, ⟨by (with_reducible repeat (first | refine uC ?_ _ | refine uD ?_ | refine uB ?_ _)); refine uT ?_ NB131_135.out _; (with_reducible repeat (first | refine uC ?_ _ | refine uD ?_ | refine uB ?_ _)); exact BK131.out⟩, ⟨by (with_reducible repeat (first | refine uC ?_ _ | refine uD ?_ | refine uB ?_ _)); refine uO (cs := #[u136000, .slice none 0 0]) ?_ 0 _ rfl; (with_reducible repeat (first | refine uC ?_ _ | refine uD ?_ | refine uB ?_ _)); exact BK135.out⟩, ⟨cq0⟩⟩
 case rest =>
  clear HC3
  try clear hcz8_0
  try clear hcz8_1
  try clear hfz8_0
  try clear hfz8_1
  obtain ⟨kq, x136000_2, u136000, HA, HJ2, HO_4, HO_136000, BK131, BK135, HB⟩ := hcut
  cases kq with
  | zero => exact absurd HA.out (by simp [spec_ParseMachine.j1])
  | succ kj2 =>
   have H := HA.out
   clear HA
   simp only [spec_ParseMachine.j1] at H
   have HC22 := Aside0.mk H
   clear H
   go_upto_block 2 with (fail)
   go_cut [] (fun wc => ∃ (kq : Nat) (x136001_21 : List (S97)) (u136001 : Value), Aside0 (spec_ParseMachine.j3 kq a0 x136000_2 x136001_21 = some (r1, r2, r3)) ∧ Aside0 (kq ≤ kj2) ∧ Aside0 (Kd.R (Kd.int .i64) 3 wc w.heap.size (fun _ => True) u136000 x136000_2) ∧ Aside0 (Kd.R k97 97 wc w.heap.size (fun _ => True) u136001 x136001_21) ∧ Aside0 (wc.heap[gb131]? = some (.cells #[(.slice none 0 0), (.slice none 0 0)] 56 (0, 0))) ∧ Aside0 (wc.heap[gb135]? = some (.cells #[u136000, u136001] 56 (0, 0))) ∧ Aside0 (Below w.heap.size w wc))
   case first =>
    have H := HC22.out
    clear HC22
    have H' := Aside0.mk H
    clear H
    go_wp2
    go_loopg [7] kj2 (fun kq v7 w' => ∃ (x7_2 : Int) (x136001_2 : List (S97)) (u136001 : Value), v7 = .int .i64 x7_2 ∧ Aside0 (spec_ParseMachine.l1 kq a0 t132 x7_2 x136000_2 x136001_2 = some (r1, r2, r3)) ∧ Aside0 (kq ≤ kj2) ∧ Aside0 (Kd.R Kd.string 9 w' w.heap.size (fun _ => True) v133 t132) ∧ Aside0 (Kd.R (Kd.int .i64) 3 w' w.heap.size (fun _ => True) u136000 x136000_2) ∧ Aside0 (Kd.R k97 97 w' w.heap.size (fun _ => True) u136001 x136001_2) ∧ Aside0 (w'.heap[gb131]? = some (.cells #[(.slice none 0 0), (.slice none 0 0)] 56 (0, 0))) ∧ Aside0 (w'.heap[gb135]? = some (.cells #[u136000, u136001] 56 (0, 0))) ∧ Aside0 (Below w.heap.size w w'))
    case atStart => exact ⟨(1), (([] : List (S97))), (.slice none 0 0), cq3, H', ⟨Nat.le_refl _⟩, ⟨cq83⟩, ⟨cq52⟩, ⟨cq6⟩, ⟨cq50⟩, ⟨cq51⟩, ⟨cq0⟩⟩
    case round =>
     clear H'
     try clear hcz8_0
     try clear hcz8_1
     try clear hfz8_0
     try clear hfz8_1
     obtain ⟨x7_2, x136001_2, u136001, rfl, HA, HK2, HO_4, HO_136000, HO_136001, BK131, BK135, HB⟩ := hrel
     cases gk with
     | zero => exact absurd HA.out (by simp [spec_ParseMachine.l1])
     | succ k2 =>
      have H := HA.out
      clear HA
      simp only [spec_ParseMachine.l1] at H
      by_cases c23 : x7_2 < (t132.length : Int)
      rotate_left
      ·rw [if_neg c23] at H
       have c23b0 := decide_eq_false c23
       clear c23
       (first | rw [c23b0] | (simp only [uQ, i32_w]; rw [c23b0]) | skip)
       have H' := Aside0.mk H
       clear H
       obtain ⟨Ao40, co40, eo40⟩ := Kd.R_slice HO_4.out
       subst eo40
       go_wp2
       go_meet
       case rel => exact ⟨_, (x136001_2), (u136001), H', ⟨by have := HJ2.out; have := HK2.out; first | omega | exact Nat.le_refl _⟩, ⟨cq52⟩, ⟨by (with_reducible repeat (first | apply Kd.uL | apply Kd.uK | apply Kd.uM)); exact HO_136001.out⟩, ⟨cq50⟩, ⟨cq51⟩, ⟨cq0⟩⟩
      rw [if_pos c23] at H
      have c23b0 := decide_eq_true c23
      clear c23
      (first | rw [c23b0] | (simp only [uQ, i32_w]; rw [c23b0]) | skip)
      by_cases c24 : x7_2 < 9
      rotate_left
      ·rw [if_neg c24] at H
       have c24b0 := decide_eq_false c24
       clear c24
       have H' := Aside0.mk H
       clear H
       obtain ⟨Ao39, co39, eo39⟩ := Kd.R_slice HO_4.out
       subst eo39
       go_wp2
       go_meet
       case rel => exact ⟨_, (x136001_2), (u136001), H', ⟨by have := HJ2.out; have := HK2.out; first | omega | exact Nat.le_refl _⟩, ⟨cq52⟩, ⟨by (with_reducible repeat (first | apply Kd.uL | apply Kd.uK | apply Kd.uM)); exact HO_136001.out⟩, ⟨cq50⟩, ⟨cq51⟩, ⟨cq0⟩⟩
      rw [if_pos c24] at H
      have c24b0 := decide_eq_true c24
      clear c24
      obtain ⟨c25b0, H⟩ := ifD H
      replace H := Option.bind_eq_some_iff.mp H
      obtain ⟨⟨t142, t143, t144, t145⟩, A260, H⟩ := H
      try dsimp only at H
      have A26 := Aside0.mk A260
      clear A260
      obtain ⟨LMc27, H⟩ := ifL H
      obtain ⟨y147, hy147⟩ : ∃ y_ : List (S97), y_ = (x136001_2 ++ [(⟨t142, t143, (⟨t144, t145⟩ : S95)⟩ : S97)]) := ⟨_, rfl⟩
      replace H : (spec_ParseMachine.l1 k2 a0 t132 (wrap64 (x7_2 + 1)) x136000_2 y147) = some (r1, r2, r3) := rpl hy147 H
      have Ny147 := Aside0.mk hy147
      clear hy147
      have H' := Aside0.mk H
      clear H
      obtain ⟨Ao28, co28, eo28⟩ := Kd.R_slice HO_4.out
      subst eo28
      have p141 : 0 ≤ (x7_2 : Int) := of_decide_eq_true uJ
      have q141 : x7_2 < (t132.length : Int) := of_decide_eq_true uJ
      obtain ⟨ad141, e141, hx141_0⟩ := Kd.at_string (Kd.uH HO_4.out).2.2 x7_2 p141 q141
      cases e141
      replace p141 := eq_true p141
      replace q141 := eq_true q141
      go_wp2_with (first | ((with_reducible refine uI (f := 74) rfl ?_); refine goesM (some 50) Tryd.func74 #[.string (rdOf ByteArray.empty t132 x7_2)] ?_; (with_reducible refine (spec_l4Session.calls k2 (rdOf ByteArray.empty t132 x7_2) t142 t143 t144 t145 _ A26.out).mono ?_); rintro e w29 ⟨rfl, hb⟩; refine ⟨_, rfl, ?_⟩; replace HO_4 := Kd.tR HO_4 hb; replace HO_136000 := Kd.tR HO_136000 hb; replace HO_136001 := Kd.tR HO_136001 hb; replace BK131 := tBlk BK131 hb; replace BK135 := tBlk BK135 hb; replace HB := uP HB hb; (try clear hb)) | ((with_reducible refine uU (N := 8) rfl ?_); refine bxe 8 #[.int .i64 0, .int .i64 0, .bool false, .int .i64 0] 97 ?_; intro gb146 hg w30 hbox hb; have BK146 := Aside0.mk (hbox); have GW146 := tGe HB hg; have GE146 := tGe HB hg; have NB131_146 := tNl BK131 hg; have NB146_131 := tNg BK131 hg; have NB135_146 := tNl BK135 hg; have NB146_135 := tNg BK135 hg; replace HO_4 := Kd.tR HO_4 hb; replace HO_136000 := Kd.tR HO_136000 hb; replace HO_136001 := Aside0.mk (Kd.R_below (Kd.R_elderB (rSR HO_136001.out) gb146 (Nat.le_of_eq hg.symm)) hb); replace BK131 := tBlk BK131 hb; replace BK135 := tBlk BK135 hb; replace HB := uP HB hb; clear hb hbox hg; have hnb31 := NB146_131.out; have hnc31 := NB131_146.out; have hnb32 := NB146_135.out; have hnc32 := NB135_146.out; obtain ⟨hcz33_0, hcz33_1, hcz33_2, hcz33_3, hfz33_0, hfz33_1, hfz33_2, hfz33_3⟩ := cz4 BK146; have hnb34 := NB135_131.out; have hnc34 := NB131_135.out; obtain ⟨hcz35_0, hcz35_1, hfz35_0, hfz35_1⟩ := cz2 BK135) | ((with_reducible refine gate_builtin (b := .append) (xs := #[.tmp 52, .tmp 54]) rfl ?_); at_builtin; refine Kd.R_append k97 (w0 := w) w.heap.size rfl (.tmp 52) (.tmp 54) 54 97 (.agg #[(.int .i64 0), (.int .i64 0), (.bool false), (.int .i64 0)]) 32 rfl Tryd.underlying54 info97 rfl (by decide) (by omega) u136001 x136001_2 (⟨t142, t143, (⟨t144, t145⟩ : S95)⟩ : S97) [.int .i64 t142, .int .i64 t143, .bool t144, .int .i64 t145] (fun k_ => k_ ≠ gb146) (fun _ => False) rfl (by first | (go_simp; done) | (go_simp; rfl)) ?aP (fun _ hk => hk.elim) ?aF ?aO ?aB ?aS ?aL ?_; (case aP => exact k97_mkM _ _ _ (⟨t142, t143, (⟨t144, t145⟩ : S95)⟩ : S97)); (case aB => exact cq41); (case aF => exact (fun k_ hk => Kd.freshB (g := gb146) (o := .cells #[.int .i64 t142, .int .i64 t143, .bool t144, .int .i64 t145] 97 (0, 0)) (by (with_reducible repeat (first | refine uC ?_ _ | refine uD ?_ | refine uB ?_ _)); refine uO (cs := #[.int .i64 t142, .int .i64 t143, .bool t144, .int .i64 0]) ?_ 3 _ rfl; (with_reducible repeat (first | refine uC ?_ _ | refine uD ?_ | refine uB ?_ _)); refine uO (cs := #[.int .i64 t142, .int .i64 t143, .bool false, .int .i64 0]) ?_ 2 _ rfl; (with_reducible repeat (first | refine uC ?_ _ | refine uD ?_ | refine uB ?_ _)); refine uO (cs := #[.int .i64 t142, .int .i64 0, .bool false, .int .i64 0]) ?_ 1 _ rfl; (with_reducible repeat (first | refine uC ?_ _ | refine uD ?_ | refine uB ?_ _)); refine uO (cs := #[.int .i64 0, .int .i64 0, .bool false, .int .i64 0]) ?_ 0 _ rfl; (with_reducible repeat (first | refine uC ?_ _ | refine uD ?_ | refine uB ?_ _)); exact BK146.out) k_ hk)); (case aO => exact (by (with_reducible repeat (first | apply Kd.uL | apply Kd.uK | apply Kd.uM)); exact Kd.uS (Kd.uV (p := ⟨gb146, 3, none⟩) (Kd.uV (p := ⟨gb146, 2, none⟩) (Kd.uV (p := ⟨gb146, 1, none⟩) (Kd.uV (p := ⟨gb146, 0, none⟩) (Kd.uS HO_136001.out (fun k_ hk => (⟨hk, hk.2⟩ : _ ∧ k_ ≠ gb146))) (fun _ hk => hk.2) (.int .i64 t142)) (fun _ hk => hk.2) (.int .i64 t143)) (fun _ hk => hk.2) (.bool t144)) (fun _ hk => hk.2) (.int .i64 t145)) (fun _ hk => hk.1.2))); (case aS => exact cq40); (case aL => have := LMc27.out; omega); intro v148 w36 ho hb hg hat; rw [← Ny147.out] at ho; have n0_ := Aside0.mk (Kd.R_over' (by (with_reducible repeat (first | apply Kd.uL | apply Kd.uK | apply Kd.uM)); exact (Kd.uS (Kd.uV (p := ⟨gb146, 3, none⟩) (Kd.uV (p := ⟨gb146, 2, none⟩) (Kd.uV (p := ⟨gb146, 1, none⟩) (Kd.uV (p := ⟨gb146, 0, none⟩) (Kd.R_types HO_4.out BK146.out (by decide)) (fun _ hk => hk.2) (.int .i64 t142)) (fun _ hk => hk.2) (.int .i64 t143)) (fun _ hk => hk.2) (.bool t144)) (fun _ hk => hk.2) (.int .i64 t145)) (fun _ h_ => h_.1))) (Kd.R_typed (by (with_reducible repeat (first | apply Kd.uL | apply Kd.uK | apply Kd.uM)); exact (Kd.uS (Kd.uV (p := ⟨gb146, 3, none⟩) (Kd.uV (p := ⟨gb146, 2, none⟩) (Kd.uV (p := ⟨gb146, 1, none⟩) (Kd.uV (p := ⟨gb146, 0, none⟩) (Kd.uS HO_136001.out (fun k_ hk => (⟨hk, hk.2⟩ : _ ∧ k_ ≠ gb146))) (fun _ hk => hk.2) (.int .i64 t142)) (fun _ hk => hk.2) (.int .i64 t143)) (fun _ hk => hk.2) (.bool t144)) (fun _ hk => hk.2) (.int .i64 t145)) (fun _ h_ => h_.1)))) (by decide) hg); have n1_ := Aside0.mk (Kd.R_over' (by (with_reducible repeat (first | apply Kd.uL | apply Kd.uK | apply Kd.uM)); exact (Kd.uS (Kd.uV (p := ⟨gb146, 3, none⟩) (Kd.uV (p := ⟨gb146, 2, none⟩) (Kd.uV (p := ⟨gb146, 1, none⟩) (Kd.uV (p := ⟨gb146, 0, none⟩) (Kd.R_types HO_136000.out BK146.out (by decide)) (fun _ hk => hk.2) (.int .i64 t142)) (fun _ hk => hk.2) (.int .i64 t143)) (fun _ hk => hk.2) (.bool t144)) (fun _ hk => hk.2) (.int .i64 t145)) (fun _ h_ => h_.1))) (Kd.R_typed (by (with_reducible repeat (first | apply Kd.uL | apply Kd.uK | apply Kd.uM)); exact (Kd.uS (Kd.uV (p := ⟨gb146, 3, none⟩) (Kd.uV (p := ⟨gb146, 2, none⟩) (Kd.uV (p := ⟨gb146, 1, none⟩) (Kd.uV (p := ⟨gb146, 0, none⟩) (Kd.uS HO_136001.out (fun k_ hk => (⟨hk, hk.2⟩ : _ ∧ k_ ≠ gb146))) (fun _ hk => hk.2) (.int .i64 t142)) (fun _ hk => hk.2) (.int .i64 t143)) (fun _ hk => hk.2) (.bool t144)) (fun _ hk => hk.2) (.int .i64 t145)) (fun _ h_ => h_.1)))) (by decide) hg); have n2_ := tGrF BK131 hg (Kd.R_ne HO_136001.out BK131.out (by decide)); have n3_ := tGrF BK135 hg (Kd.R_ne HO_136001.out BK135.out (by decide)); have n4_ := tGrP BK146 #[.int .i64 t142, .int .i64 t143, .bool t144, .int .i64 t145] hg (Kd.R_away HO_136001.out (fun _ hk => hk.2)); have n5_ := Aside0.mk (hb); have n6_ := Aside0.mk (ho); clear HO_4; clear HO_136000; clear BK131; clear BK135; clear BK146; clear HB; clear HO_136001; have HO_4 := n0_; have HO_136000 := n1_; have BK131 := n2_; have BK135 := n3_; have BK146 := n4_; have HB := n5_; have HO149 := n6_; clear n0_ n1_ n2_ n3_ n4_ n5_ n6_; clear ho hb hg hat; obtain ⟨Ao37, co37, eo37⟩ := Kd.R_slice HO149.out; subst eo37; obtain ⟨hcz38_0, hcz38_1, hfz38_0, hfz38_1⟩ := cz2 BK135))
      go_roundg k2
      case measure => have := HJ2.out; have := HK2.out; omega
      case rel => exact ⟨(wrap64 (x7_2 + 1)), (y147), (.slice Ao37 y147.length co37), cq3, H', ⟨by have := HJ2.out; have := HK2.out; omega⟩, ⟨by (with_reducible repeat (first | apply Kd.uL | apply Kd.uK | apply Kd.uM)); exact Kd.uS (Kd.uV (p := ⟨gb135, 1, none⟩) (Kd.R_types HO_4.out BK135.out (by decide)) (fun _ hk => hk.2) (.slice Ao37 y147.length co37)) (fun _ hk => trivial)⟩, ⟨by (with_reducible repeat (first | apply Kd.uL | apply Kd.uK | apply Kd.uM)); exact Kd.uS (Kd.uV (p := ⟨gb135, 1, none⟩) (Kd.R_types HO_136000.out BK135.out (by decide)) (fun _ hk => hk.2) (.slice Ao37 y147.length co37)) (fun _ hk => trivial)⟩, ⟨by (with_reducible repeat (first | apply Kd.uL | apply Kd.uK | apply Kd.uM)); exact Kd.uS (Kd.uV (p := ⟨gb135, 1, none⟩) (Kd.R_types HO149.out BK135.out (by decide)) (fun _ hk => hk.2) (.slice Ao37 y147.length co37)) (fun _ hk => trivial)⟩, ⟨by (with_reducible repeat (first | refine uC ?_ _ | refine uD ?_ | refine uB ?_ _)); refine uT ?_ NB131_135.out _; (with_reducible repeat (first | refine uC ?_ _ | refine uD ?_ | refine uB ?_ _)); exact BK131.out⟩, ⟨by (with_reducible repeat (first | refine uC ?_ _ | refine uD ?_ | refine uB ?_ _)); refine uO (cs := #[u136000, u136001]) ?_ 1 _ rfl; (with_reducible repeat (first | refine uC ?_ _ | refine uD ?_ | refine uB ?_ _)); exact BK135.out⟩, ⟨cq0⟩⟩
   case rest =>
    clear HC22
    try clear hcz8_0
    try clear hcz8_1
    try clear hfz8_0
    try clear hfz8_1
    obtain ⟨kq, x136001_21, u136001, HA, HJ21, HO_136000, HO_136001, BK131, BK135, HB⟩ := hcut
    cases kq with
    | zero => exact absurd HA.out (by simp [spec_ParseMachine.j3])
    | succ kj21 =>
     have H := HA.out
     clear HA
     simp only [spec_ParseMachine.j3] at H
     by_cases c41 : a0.toList = ([] : List UInt8)
     ·rw [if_pos c41] at H
      have c41b0 : (a0.toList == ([] : List UInt8)) = true := beq_iff_eq.mpr c41
      have c41b1 : (a0.toList != ([] : List UInt8)) = false := bne_eq_false_iff_eq.mpr c41
      clear c41
      simp only [Option.some.injEq, Prod.mk.injEq] at H
      obtain ⟨rfl, rfl, rfl⟩ := H
      have hnb42 := NB131_135.out
      have hnc42 := NB135_131.out
      obtain ⟨hcz43_0, hcz43_1, hfz43_0, hfz43_1⟩ := cz2 BK131
      go_wp2
      refine bodyPost_ret (results_ct rfl _ _ gb131 56 #[.slice none 0 0, .slice none 0 0] (0, 0) _ rfl (by (with_reducible repeat (first | refine uC ?_ _ | refine uD ?_ | refine uB ?_ _)); refine uO (cs := #[.slice none 0 0, .slice none 0 0]) ?_ 1 _ rfl; (with_reducible repeat (first | refine uC ?_ _ | refine uD ?_ | refine uB ?_ _)); refine uO (cs := #[.slice none 0 0, .slice none 0 0]) ?_ 0 _ rfl; (with_reducible repeat (first | refine uC ?_ _ | refine uD ?_ | refine uB ?_ _)); exact BK131.out) Tryd.underlying56 rfl (by kernel_rfl)) rfl ?_
      exact ⟨_, _, cq4, cq6, cq6, cq0⟩
     rw [if_neg c41] at H
     have c41b0 : (a0.toList == ([] : List UInt8)) = false := beq_eq_false_iff_ne.mpr c41
     have c41b1 : (a0.toList != ([] : List UInt8)) = true := bne_iff_ne.mpr c41
     replace H := Option.bind_eq_some_iff.mp H
     obtain ⟨t150, A440, H⟩ := H
     try dsimp only at H
     have A44 := Aside0.mk A440
     clear A440
     have hnb53 := NB135_131.out
     have hnc53 := NB131_135.out
     obtain ⟨hcz54_0, hcz54_1, hfz54_0, hfz54_1⟩ := cz2 BK135
     obtain ⟨Ao55, co55, eo55⟩ := Kd.R_slice HO_136000.out
     subst eo55
     obtain ⟨Ao56, co56, eo56⟩ := Kd.R_slice HO_136001.out
     subst eo56
     go_wp2_with (first | (go_at_call 75; (with_reducible refine (spec_FormatMachine.calls kj21 _ _ x136000_2 _ _ x136001_21 t150 _ ?side1 ?side2 ?side3 ?side4 A44.out).mono ?_); (case side1 => repeat (first | exact (Kd.uH HO_136000.out).2.2 | (with_reducible refine Kd.C_alloc ?_ _) | (with_reducible refine Kd.C_drewN ?_ _) | (with_reducible refine Kd.C_drew ?_))); (case side2 => exact (Kd.uH HO_136000.out).2.1); (case side3 => repeat (first | exact (Kd.uH HO_136001.out).2.2 | (with_reducible refine Kd.C_alloc ?_ _) | (with_reducible refine Kd.C_drewN ?_ _) | (with_reducible refine Kd.C_drew ?_))); (case side4 => exact (Kd.uH HO_136001.out).2.1); rintro e w57 ⟨rfl, hb⟩; replace HO_136000 := Kd.tR HO_136000 hb; replace HO_136001 := Kd.tR HO_136001 hb; replace BK131 := tBlk BK131 hb; replace BK135 := tBlk BK135 hb; replace HB := uP HB hb; (try clear hb); refine ?roundEnd))
     case roundEnd =>
     by_cases c45 : t150.toList = a0.toList
     rotate_left
     ·rw [if_neg c45] at H
      have c45b0 : (t150.toList == a0.toList) = false := beq_eq_false_iff_ne.mpr c45
      have c45b1 : (t150.toList != a0.toList) = true := bne_iff_ne.mpr c45
      simp only [Option.some.injEq, Prod.mk.injEq] at H
      obtain ⟨rfl, rfl, rfl⟩ := H
      obtain ⟨hcz58_0, hcz58_1, hfz58_0, hfz58_1⟩ := cz2 BK131
      go_wp2
      refine bodyPost_ret (results_ct rfl _ _ gb131 56 #[.slice none 0 0, .slice none 0 0] (0, 0) _ rfl (by (with_reducible repeat (first | refine uC ?_ _ | refine uD ?_ | refine uB ?_ _)); refine uO (cs := #[.slice none 0 0, .slice none 0 0]) ?_ 1 _ rfl; (with_reducible repeat (first | refine uC ?_ _ | refine uD ?_ | refine uB ?_ _)); refine uO (cs := #[.slice none 0 0, .slice none 0 0]) ?_ 0 _ rfl; (with_reducible repeat (first | refine uC ?_ _ | refine uD ?_ | refine uB ?_ _)); exact BK131.out) Tryd.underlying56 rfl (by kernel_rfl)) rfl ?_
      exact ⟨_, _, cq4, cq6, cq6, cq0⟩
     rw [if_pos c45] at H
     have c45b0 : (t150.toList == a0.toList) = true := beq_iff_eq.mpr c45
     have c45b1 : (t150.toList != a0.toList) = false := bne_eq_false_iff_eq.mpr c45
     clear c45
     simp only [Option.some.injEq, Prod.mk.injEq] at H
     obtain ⟨rfl, rfl, rfl⟩ := H
     obtain ⟨hcz51_0, hcz51_1, hfz51_0, hfz51_1⟩ := cz2 BK135
     obtain ⟨hcz52_0, hcz52_1, hfz52_0, hfz52_1⟩ := cz2 BK131
     go_wp2
     refine bodyPost_ret (results_ct rfl _ _ gb131 56 #[.slice Ao55 x136000_2.length co55, .slice Ao56 x136001_21.length co56] (0, 0) _ rfl (by (with_reducible repeat (first | refine uC ?_ _ | refine uD ?_ | refine uB ?_ _)); refine uO (cs := #[.slice Ao55 x136000_2.length co55, .slice none 0 0]) ?_ 1 _ rfl; (with_reducible repeat (first | refine uC ?_ _ | refine uD ?_ | refine uB ?_ _)); refine uO (cs := #[.slice none 0 0, .slice none 0 0]) ?_ 0 _ rfl; (with_reducible repeat (first | refine uC ?_ _ | refine uD ?_ | refine uB ?_ _)); exact BK131.out) Tryd.underlying56 rfl (by kernel_rfl)) rfl ?_
     exact ⟨_, _, cq4, by (with_reducible repeat (first | apply Kd.uL | apply Kd.uK | apply Kd.uM)); exact Kd.uS (Kd.uV (p := ⟨gb131, 1, none⟩) (Kd.uV (p := ⟨gb131, 0, none⟩) (Kd.R_types HO_136000.out BK131.out (by decide)) (fun _ hk => hk.2) (.slice Ao55 x136000_2.length co55)) (fun _ hk => hk.2) (.slice Ao56 x136001_21.length co56)) (fun _ hk => trivial), by (with_reducible repeat (first | apply Kd.uL | apply Kd.uK | apply Kd.uM)); exact Kd.uS (Kd.uV (p := ⟨gb131, 1, none⟩) (Kd.uV (p := ⟨gb131, 0, none⟩) (Kd.R_types HO_136001.out BK131.out (by decide)) (fun _ hk => hk.2) (.slice Ao55 x136000_2.length co55)) (fun _ hk => hk.2) (.slice Ao56 x136001_21.length co56)) (fun _ hk => trivial), cq0⟩

/-! ### strings_explode: function 119 -/
/-- Not told. -/
def strings_explode.f (a0 : ByteArray) (a1 : Int) : Option (List ByteArray) := none
theorem strings_explode.calls (a0 : ByteArray) (a1 : Int) (r : List ByteArray) (w : World) (h : strings_explode.f a0 a1 = some r) :
    Calls Tryd.prog 119 #[.string a0, .int .i64 a1] w fun e w' => ∃ v0_ : Value, e = .returned (v0_) ∧ Kd.R Kd.string 9 w' w.heap.size (fun _ => True) v0_ r ∧ Below w.heap.size w w' := absurd h (by simp [strings_explode.f])

/-! ### strings_Count: function 120 -/
/-- How often a string of one byte stands in another. -/
def strings_Count.f (a0 : ByteArray) (a1 : ByteArray) : Option Int := match a1.data.toList with
  | [c] => some (Lib.countByte a0.data.toList c : Int)
  | _ => none
theorem strings_Count.calls (a0 a1 : ByteArray) (r : Int) (w : World) (h : strings_Count.f a0 a1 = some r) :
    Calls Tryd.prog 120 #[.string a0, .string a1] w fun e w' => e = .returned (.int .i64 r) ∧ Drawn0 w w' := by
  unfold strings_Count.f at h
  obtain ⟨⟨l⟩⟩ := a1
  match l, h with
  | [c], h =>
    have h := Option.some.inj h
    subst h
    refine (Tryd.strings_Count_one a0 c w).mono ?_
    rintro e w' ⟨rfl, rfl⟩
    exact ⟨rfl, ⟨0, rfl⟩⟩
  | [], h => cases h
  | _ :: _ :: _, h => cases h

/-! ### internal_stringslite_Index: function 122 -/
/-- The place of a string of one byte. -/
def internal_stringslite_Index.f (a0 : ByteArray) (a1 : ByteArray) : Option Int := match a1.data.toList with
  | [c] => some (Lib.indexByte a0.data.toList c)
  | _ => none
theorem internal_stringslite_Index.calls (a0 a1 : ByteArray) (r : Int) (w : World) (h : internal_stringslite_Index.f a0 a1 = some r) :
    Calls Tryd.prog 122 #[.string a0, .string a1] w fun e w' => e = .returned (.int .i64 r) ∧ Drawn0 w w' := by
  unfold internal_stringslite_Index.f at h
  obtain ⟨⟨l⟩⟩ := a1
  match l, h with
  | [c], h =>
    have h := Option.some.inj h
    subst h
    refine (Tryd.stringslite_Index_one a0 c w).mono ?_
    rintro e w' ⟨rfl, rfl⟩
    exact ⟨rfl, ⟨0, rfl⟩⟩
  | [], h => cases h
  | _ :: _ :: _, h => cases h

/-! ### strings_Index: function 121 -/
def strings_Index.f (a0 : ByteArray) (a1 : ByteArray) : Option (Int) := (internal_stringslite_Index.f a0 a1).bind fun t151 => (some t151)
set_option maxHeartbeats 8000000 in
set_option maxRecDepth 100000 in
theorem strings_Index.calls (a0 : ByteArray) (a1 : ByteArray) (r : Int) (w : World) (h : strings_Index.f a0 a1 = some r) :
  Calls Tryd.prog 121 #[.string a0, .string a1] w fun e w' => e = .returned (.int .i64 r) ∧ Drawn0 w w' := by
 have H : ((internal_stringslite_Index.f a0 a1).bind fun t151 => (some t151)) = some r := h
 clear h
 replace H := Option.bind_eq_some_iff.mp H
 obtain ⟨t151, A30, H⟩ := H
 try dsimp only at H
 have A3 := Aside0.mk A30
 clear A30
 obtain rfl := Option.some.inj H
 go_enter Tryd.func121, Tryd.ntmps121
 go_wp2_with (first | ((with_reducible refine uI (f := 122) rfl ?_); refine goesM (some 7) Tryd.func122 #[.string a0, .string a1] ?_; (with_reducible refine (internal_stringslite_Index.calls a0 a1 t151 _ A3.out).mono ?_); rintro e w' ⟨rfl, ⟨nd, rfl⟩⟩; refine ⟨_, rfl, ?_⟩))
 go_ret
 exact ⟨cq3, cq18⟩

end Go.Proofs.YtcikahnmiiichaaDoor.P
