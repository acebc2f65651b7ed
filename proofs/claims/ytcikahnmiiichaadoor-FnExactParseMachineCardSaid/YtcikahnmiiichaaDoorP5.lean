/- Go functions as Lean functions, and the proof that the code comes to them: written by a program of this session out of the translation. -/
import Derived.Test.YtcikahnmiiichaaDoorP0
import Derived.Test.YtcikahnmiiichaaDoorP1
import Derived.Test.YtcikahnmiiichaaDoorP4
namespace Go.Proofs.YtcikahnmiiichaaDoor.P
open List renaming setIfInBounds_toArray → uZ, set_cons_zero → vA, set_cons_succ → vB
open Go.World renaming block_lt_of_cell? → vF
open Go.Proofs.YtcikahnmiiichaaDoor.Given
open Go.RowKit Go.Proofs.YtcikahnmiiichaaDoorW.PrintWords Go.Proofs.YtcikahnmiiichaaDoorW.PrintLast Go.Proofs.YtcikahnmiiichaaDoorW.PrintMore
attribute [local go_sem] max2_int min2_int max_two min_two max_three min_three max_four min_four   -- for this text's walks alone
set_option linter.unusedVariables false
set_option linter.unusedSimpArgs false

/-! ### spec_FormatMachine: function 75 -/
mutual
def spec_FormatMachine.l0 : Nat → ByteArray → Int → List Int → List (S97) → Option (ByteArray)
 | 0, _, _, _, _ => none
 | k + 1, x3, x4, x123000, x123001 => if x4 < (x123000.length : Int) then (if 0 ≤ x4 then ((spec_FormatInt.f k (rd x123000 x4)).bind fun t125 => (if x3.size + t125.size ≤ 9223372036854775807 then (spec_FormatMachine.l0 k (x3 ++ t125) (wrap64 (x4 + 1)) x123000 x123001) else (none))) else (none)) else (spec_FormatMachine.l1 k x3 0 x123000 x123001)
def spec_FormatMachine.l1 : Nat → ByteArray → Int → List Int → List (S97) → Option (ByteArray)
 | 0, _, _, _, _ => none
 | k + 1, x3, x5, x123000, x123001 => if x5 < (x123001.length : Int) then (if 0 ≤ x5 then (if (rd_T97 x123001 x5).f2.f0 = true then (spec_FormatMachine.j2 k x3 x5 (⟨#[43]⟩ : ByteArray) x123000 x123001 ((rd_T97 x123001 x5).f0) ((rd_T97 x123001 x5).f1) ((rd_T97 x123001 x5).f2.f0) ((rd_T97 x123001 x5).f2.f1)) else (spec_FormatMachine.j2 k x3 x5 (⟨#[45]⟩ : ByteArray) x123000 x123001 ((rd_T97 x123001 x5).f0) ((rd_T97 x123001 x5).f1) ((rd_T97 x123001 x5).f2.f0) ((rd_T97 x123001 x5).f2.f1))) else (none)) else (some x3)
def spec_FormatMachine.j2 : Nat → ByteArray → Int → ByteArray → List Int → List (S97) → Int → Int → Bool → Int → Option (ByteArray)
 | 0, _, _, _, _, _, _, _, _, _ => none
 | k + 1, x3, x5, x7, x123000, x123001, x128000, x128001, x128002, x128003 => if x3.size + 1 ≤ 9223372036854775807 then ((spec_FormatInt.f k x128000).bind fun t128 => (if (x3 ++ (⟨#[32]⟩ : ByteArray)).size + t128.size ≤ 9223372036854775807 then (if ((x3 ++ (⟨#[32]⟩ : ByteArray)) ++ t128).size + 1 ≤ 9223372036854775807 then ((spec_FormatInt.f k x128001).bind fun t129 => (if (((x3 ++ (⟨#[32]⟩ : ByteArray)) ++ t128) ++ (⟨#[46]⟩ : ByteArray)).size + t129.size ≤ 9223372036854775807 then (if ((((x3 ++ (⟨#[32]⟩ : ByteArray)) ++ t128) ++ (⟨#[46]⟩ : ByteArray)) ++ t129).size + x7.size ≤ 9223372036854775807 then ((spec_FormatInt.f k x128003).bind fun t130 => (if (((((x3 ++ (⟨#[32]⟩ : ByteArray)) ++ t128) ++ (⟨#[46]⟩ : ByteArray)) ++ t129) ++ x7).size + t130.size ≤ 9223372036854775807 then (spec_FormatMachine.l1 k ((((((x3 ++ (⟨#[32]⟩ : ByteArray)) ++ t128) ++ (⟨#[46]⟩ : ByteArray)) ++ t129) ++ x7) ++ t130) (wrap64 (x5 + 1)) x123000 x123001) else (none))) else (none)) else (none))) else (none)) else (none))) else (none)
end
def spec_FormatMachine.f (k : Nat) (l0_0 : List Int) (l0_1 : List (S97)) : Option (ByteArray) := (spec_IsValidMachine.f k l0_0 l0_1).bind fun t123 => (if t123 = true then (spec_FormatMachine.l0 k (⟨#[]⟩ : ByteArray) 0 l0_0 l0_1) else (some (⟨#[]⟩ : ByteArray)))
theorem spec_FormatMachine.mono_l : ∀ k, (∀ y0 y1 y2 y3, uA (spec_FormatMachine.l0 k y0 y1 y2 y3) (spec_FormatMachine.l0 (k + 1) y0 y1 y2 y3)) ∧ (∀ y0 y1 y2 y3, uA (spec_FormatMachine.l1 k y0 y1 y2 y3) (spec_FormatMachine.l1 (k + 1) y0 y1 y2 y3)) ∧ (∀ y0 y1 y2 y3 y4 y5 y6 y7 y8, uA (spec_FormatMachine.j2 k y0 y1 y2 y3 y4 y5 y6 y7 y8) (spec_FormatMachine.j2 (k + 1) y0 y1 y2 y3 y4 y5 y6 y7 y8))
 | 0 => ⟨fun _ _ _ _ r h => by simp [spec_FormatMachine.l0] at h, fun _ _ _ _ r h => by simp [spec_FormatMachine.l1] at h, fun _ _ _ _ _ _ _ _ _ r h => by simp [spec_FormatMachine.j2] at h⟩
 | k + 1 => by
  obtain ⟨ih0, ih1, ih2⟩ := spec_FormatMachine.mono_l k
  refine ⟨?_, ?_, ?_⟩
  ·intro y0 y1 y2 y3
   unfold spec_FormatMachine.l0
   repeat' first
   | (with_reducible exact ih0 _ _ _ _)
   | (with_reducible exact ih1 _ _ _ _)
   | (with_reducible exact ih2 _ _ _ _ _ _ _ _ _)
   | (with_reducible exact spec_FormatInt.mono _ _)
   | (with_reducible exact spec_IsValidMachine.mono _ _ _)
   | (with_reducible exact uA.refl _)
   | (with_reducible exact uA.none _)
   | (with_reducible refine uA.ite ?_ ?_)
   | (with_reducible refine uA.bind ?_ (fun _ => ?_))
   | exact ih0 _ _ _ _
   | exact ih1 _ _ _ _
   | exact ih2 _ _ _ _ _ _ _ _ _
   | exact uA.none _
   | refine uA.ite ?_ ?_
   | refine uA.bind ?_ (fun _ => ?_)
  ·intro y0 y1 y2 y3
   unfold spec_FormatMachine.l1
   repeat' first
   | (with_reducible exact ih0 _ _ _ _)
   | (with_reducible exact ih1 _ _ _ _)
   | (with_reducible exact ih2 _ _ _ _ _ _ _ _ _)
   | (with_reducible exact spec_FormatInt.mono _ _)
   | (with_reducible exact spec_IsValidMachine.mono _ _ _)
   | (with_reducible exact uA.refl _)
   | (with_reducible exact uA.none _)
   | (with_reducible refine uA.ite ?_ ?_)
   | (with_reducible refine uA.bind ?_ (fun _ => ?_))
   | exact ih0 _ _ _ _
   | exact ih1 _ _ _ _
   | exact ih2 _ _ _ _ _ _ _ _ _
   | exact uA.none _
   | refine uA.ite ?_ ?_
   | refine uA.bind ?_ (fun _ => ?_)
  intro y0 y1 y2 y3 y4 y5 y6 y7 y8
  unfold spec_FormatMachine.j2
  repeat' first
  | (with_reducible exact ih0 _ _ _ _)
  | (with_reducible exact ih1 _ _ _ _)
  | (with_reducible exact ih2 _ _ _ _ _ _ _ _ _)
  | (with_reducible exact spec_FormatInt.mono _ _)
  | (with_reducible exact spec_IsValidMachine.mono _ _ _)
  | (with_reducible exact uA.refl _)
  | (with_reducible exact uA.none _)
  | (with_reducible refine uA.ite ?_ ?_)
  | (with_reducible refine uA.bind ?_ (fun _ => ?_))
  | exact ih0 _ _ _ _
  | exact ih1 _ _ _ _
  | exact ih2 _ _ _ _ _ _ _ _ _
  | exact uA.none _
  | refine uA.ite ?_ ?_
  | refine uA.bind ?_ (fun _ => ?_)
theorem spec_FormatMachine.mono : ∀ a0 a1 k, uA (spec_FormatMachine.f k a0 a1) (spec_FormatMachine.f (k + 1) a0 a1) := by
 intro a0 a1 k
 obtain ⟨ih0, ih1, ih2⟩ := spec_FormatMachine.mono_l k
 unfold spec_FormatMachine.f
 repeat' first
   | (with_reducible exact ih0 _ _ _ _)
   | (with_reducible exact ih1 _ _ _ _)
   | (with_reducible exact ih2 _ _ _ _ _ _ _ _ _)
   | (with_reducible exact spec_FormatInt.mono _ _)
   | (with_reducible exact spec_IsValidMachine.mono _ _ _)
   | (with_reducible exact uA.refl _)
   | (with_reducible exact uA.none _)
   | (with_reducible refine uA.ite ?_ ?_)
   | (with_reducible refine uA.bind ?_ (fun _ => ?_))
   | exact ih0 _ _ _ _
   | exact ih1 _ _ _ _
   | exact ih2 _ _ _ _ _ _ _ _ _
   | exact uA.none _
   | refine uA.ite ?_ ?_
   | refine uA.bind ?_ (fun _ => ?_)
def spec_FormatMachine.T15 : Bool × List (List Nat × List Nat) := (true, [([], []), ([0], [0]), ([], []), ([2], [2]), ([3], [3]), ([1, 4], [1, 4]), ([5], [5]), ([], []), ([7], [7]), ([8, 4], [8]), ([6, 9], [6, 9]), ([], []), ([10, 11], [10, 11]), ([], []), ([13], [13]), ([14], [14]), ([15, 9], [15]), ([12, 16], [12, 16]), ([17, 16, 0, 1, 2, 3, 4, 5, 6, 7, 8, 9, 10, 11, 12, 13, 14, 15, 16, 17], [0, 17])])
def spec_FormatMachine.B15 : List Nat := [0, 1, 0, 4, 12, 31, 63, 0, 128, 412, 1023, 0, 4095, 0, 8192, 24576, 58268, 131071, 262143]
theorem spec_FormatMachine.tab15 : rtab .any (opsOf Tryd.f75 15) = spec_FormatMachine.T15 := by kernel_rfl
theorem spec_FormatMachine.bits15 : waitsOk spec_FormatMachine.T15.2 spec_FormatMachine.B15 = true := by kernel_rfl
set_option maxHeartbeats 8000000 in
set_option maxRecDepth 100000 in
theorem spec_FormatMachine.calls (k : Nat) (A0_0 : Option Addr) (c0_0 : Nat) (l0_0 : List Int) (A0_1 : Option Addr) (c0_1 : Nat) (l0_1 : List (S97)) (r : ByteArray) (w : World) (hr0_0 : Kd.C (Kd.int .i64) w A0_0 l0_0.length l0_0) (hc0_0 : l0_0.length ≤ c0_0) (hr0_1 : Kd.C k97 w A0_1 l0_1.length l0_1) (hc0_1 : l0_1.length ≤ c0_1) (h : spec_FormatMachine.f k l0_0 l0_1 = some r) :
  Calls Tryd.prog 75 #[.agg #[.slice A0_0 l0_0.length c0_0, .slice A0_1 l0_1.length c0_1]] w fun e w' => e = .returned (.string r) ∧ Below w.heap.size w w' := by
 have hu56 := Tryd.underlying56
 have hu97 := Tryd.underlying97
 have HR0_0 := Aside0.mk hr0_0
 have HC0_0 := Aside0.mk hc0_0
 clear hr0_0 hc0_0
 have HR0_1 := Aside0.mk hr0_1
 have HC0_1 := Aside0.mk hc0_1
 clear hr0_1 hc0_1
 have HB := Aside0.mk (Below.refl w.heap.size w)
 have H : ((spec_IsValidMachine.f k l0_0 l0_1).bind fun t123 => (if t123 = true then (spec_FormatMachine.l0 k (⟨#[]⟩ : ByteArray) 0 l0_0 l0_1) else (some (⟨#[]⟩ : ByteArray)))) = some r := h
 clear h
 replace H := Option.bind_eq_some_iff.mp H
 obtain ⟨t123, A20, H⟩ := H
 try dsimp only at H
 have A2 := Aside0.mk A20
 clear A20
 go_enter Tryd.func75, Tryd.ntmps75
 go_wp2_with (first | ((with_reducible refine uU (N := 1) rfl ?_); refine bxe 1 #[.slice A0_0 l0_0.length c0_0, .slice A0_1 l0_1.length c0_1] 56 ?_; intro gb122 hg w37 hbox hb; have BK122 := Aside0.mk (hbox); have GW122 := tGe HB hg; have GE122 := tGe HB hg; replace HB := uP HB hb; clear hb hbox hg; obtain ⟨hcz38_0, hcz38_1, hfz38_0, hfz38_1⟩ := cz2 BK122; refine ?roundEnd))
 case roundEnd =>
 by_cases c3 : t123 = true
 rotate_left
 ·replace c3 := Bool.eq_false_iff.mpr c3
  subst c3
  try rw [if_neg (show ¬ (false = true) by decide)] at H
  obtain rfl := Option.some.inj H
  go_wp2_with (first | ((with_reducible refine uI (f := 105) rfl ?_); refine goesM (some 9) Tryd.func105 #[.agg #[.slice A0_0 l0_0.length c0_0, .slice A0_1 l0_1.length c0_1]] ?_; (with_reducible refine (spec_IsValidMachine.calls k _ _ l0_0 _ _ l0_1 false _ ?side1 ?side2 ?side3 ?side4 A2.out).mono ?_); (case side1 => exact cq22); (case side2 => exact HC0_0.out); (case side3 => exact cq43); (case side4 => exact HC0_1.out); rintro e w39 ⟨rfl, hb⟩; refine ⟨_, rfl, ?_⟩; replace BK122 := tBlk BK122 hb; replace HB := uP HB hb; (try clear hb)))
  go_ret
  exact ⟨cq4, cq0⟩
 subst c3
 try rw [if_pos rfl] at H
 have H' := Aside0.mk H
 clear H
 go_wp2_with (first | ((with_reducible refine uI (f := 105) rfl ?_); refine goesM (some 9) Tryd.func105 #[.agg #[.slice A0_0 l0_0.length c0_0, .slice A0_1 l0_1.length c0_1]] ?_; (with_reducible refine (spec_IsValidMachine.calls k _ _ l0_0 _ _ l0_1 true _ ?side1 ?side2 ?side3 ?side4 A2.out).mono ?_); (case side1 => exact cq22); (case side2 => exact HC0_0.out); (case side3 => exact cq43); (case side4 => exact HC0_1.out); rintro e w6 ⟨rfl, hb⟩; refine ⟨_, rfl, ?_⟩; replace BK122 := tBlk BK122 hb; replace HB := uP HB hb; (try clear hb)))
 go_loopg [3, 4] k (fun kq v3 v4 w' => ∃ (x3_1 : ByteArray) (x4_1 : Int), v3 = .string x3_1 ∧ v4 = .int .i64 x4_1 ∧ Aside0 (spec_FormatMachine.l0 kq x3_1 x4_1 l0_0 l0_1 = some r) ∧ Aside0 (kq ≤ k) ∧ Aside0 (w'.heap[gb122]? = some (.cells #[(.slice A0_0 l0_0.length c0_0), (.slice A0_1 l0_1.length c0_1)] 56 (0, 0))) ∧ Aside0 (Below w.heap.size w w'))
 case atStart => exact ⟨((⟨#[]⟩ : ByteArray)), (0), cq3, cq3, H', ⟨Nat.le_refl _⟩, ⟨cq63⟩, ⟨cq0⟩⟩
 case round =>
  clear H'
  try clear c3
  try clear hcz38_0
  try clear hcz38_1
  try clear hfz38_0
  try clear hfz38_1
  obtain ⟨x3_1, x4_1, rfl, rfl, HA, HK1, BK122, HB⟩ := hrel
  cases gk with
  | zero => exact absurd HA.out (by simp [spec_FormatMachine.l0])
  | succ k1 =>
   have H := HA.out
   clear HA
   simp only [spec_FormatMachine.l0] at H
   by_cases c7 : x4_1 < (l0_0.length : Int)
   ·rw [if_pos c7] at H
    have c7b0 := decide_eq_true c7
    clear c7
    obtain ⟨c8b0, H⟩ := ifD H
    replace H := Option.bind_eq_some_iff.mp H
    obtain ⟨t125, A90, H⟩ := H
    try dsimp only at H
    have A9 := Aside0.mk A90
    clear A90
    by_cases c10 : x3_1.size + t125.size ≤ 9223372036854775807
    rotate_left
    ·rw [if_neg c10] at H
     exact absurd H (by simp)
    rw [if_pos c10] at H
    have c10b0 := eq_true c10
    have c10b1 := decide_eq_true c10
    try have c10b2 : (9223372036854775807 < x3_1.size + t125.size) = False := eq_false (Nat.not_lt.2 c10)
    have H' := Aside0.mk H
    clear H
    obtain ⟨hcz11_0, hcz11_1, hfz11_0, hfz11_1⟩ := cz2 BK122
    have p124 : 0 ≤ (x4_1 : Int) := of_decide_eq_true uJ
    have q124 : x4_1 < (l0_0.length : Int) := of_decide_eq_true uJ
    obtain ⟨ad124, e124, hx124_0⟩ := Kd.at_int HR0_0.out x4_1 p124 q124
    cases e124
    replace hx124_0 := (HB.out.cell (vF w _ hx124_0)).trans hx124_0
    replace p124 := eq_true p124
    replace q124 := eq_true q124
    go_wp2_with (first | ((with_reducible refine uI (f := 90) rfl ?_); refine goesM (some 24) Tryd.func90 #[.int .i64 (rd l0_0 x4_1)] ?_; (with_reducible refine (spec_FormatInt.calls k1 (rd l0_0 x4_1) t125 _ A9.out).mono ?_); rintro e w12 ⟨rfl, hb⟩; refine ⟨_, rfl, ?_⟩; replace BK122 := tBlk BK122 hb; replace HB := uP HB hb; (try clear hb)))
    go_roundg k1
    case measure => have := HK1.out; omega
    case rel => exact ⟨(x3_1 ++ t125), (wrap64 (x4_1 + 1)), cq3, cq3, H', ⟨by have := HK1.out; omega⟩, ⟨cq63⟩, ⟨cq0⟩⟩
   rw [if_neg c7] at H
   have c7b0 := decide_eq_false c7
   clear c7
   have H' := Aside0.mk H
   clear H
   obtain ⟨hcz13_0, hcz13_1, hfz13_0, hfz13_1⟩ := cz2 BK122
   go_wp2
   go_loopg [3, 5] k1 (fun kq v3 v5 w' => ∃ (x3_2 : ByteArray) (x5_2 : Int), v3 = .string x3_2 ∧ v5 = .int .i64 x5_2 ∧ Aside0 (spec_FormatMachine.l1 kq x3_2 x5_2 l0_0 l0_1 = some r) ∧ Aside0 (kq ≤ k1) ∧ Aside0 (w'.heap[gb122]? = some (.cells #[(.slice A0_0 l0_0.length c0_0), (.slice A0_1 l0_1.length c0_1)] 56 (0, 0))) ∧ Aside0 (Below w.heap.size w w'))
   case atStart => exact ⟨(x3_1), (0), cq3, cq3, H', ⟨Nat.le_refl _⟩, ⟨cq63⟩, ⟨cq0⟩⟩
   case round =>
    clear H'
    try clear c3
    try clear c7
    try clear c7b0
    try clear hcz13_0
    try clear hcz13_1
    try clear hcz38_0
    try clear hcz38_1
    try clear hfz13_0
    try clear hfz13_1
    try clear hfz38_0
    try clear hfz38_1
    obtain ⟨x3_2, x5_2, rfl, rfl, HA, HK2, BK122, HB⟩ := hrel
    cases gk with
    | zero => exact absurd HA.out (by simp [spec_FormatMachine.l1])
    | succ k2 =>
     have H := HA.out
     clear HA
     simp only [spec_FormatMachine.l1] at H
     by_cases c14 : x5_2 < (l0_1.length : Int)
     rotate_left
     ·rw [if_neg c14] at H
      have c14b0 := decide_eq_false c14
      clear c14
      obtain rfl := Option.some.inj H
      obtain ⟨hcz36_0, hcz36_1, hfz36_0, hfz36_1⟩ := cz2 BK122
      go_wp2
      go_ret
      exact ⟨cq4, cq0⟩
     rw [if_pos c14] at H
     have c14b0 := decide_eq_true c14
     clear c14
     obtain ⟨c15b0, H⟩ := ifD H
     have HC16 := Aside0.mk H
     clear H
     obtain ⟨hcz17_0, hcz17_1, hfz17_0, hfz17_1⟩ := cz2 BK122
     have p126 : 0 ≤ (x5_2 : Int) := of_decide_eq_true uJ
     have q126 : x5_2 < (l0_1.length : Int) := of_decide_eq_true uJ
     obtain ⟨ad126, e126, hx126_0, hx126_1, hx126_2, hx126_3⟩ := at_T97 HR0_1.out x5_2 p126 q126
     cases e126
     replace hx126_0 := (HB.out.cell (vF w _ hx126_0)).trans hx126_0
     replace hx126_1 := (HB.out.cell (vF w _ hx126_1)).trans hx126_1
     replace hx126_2 := (HB.out.cell (vF w _ hx126_2)).trans hx126_2
     replace hx126_3 := (HB.out.cell (vF w _ hx126_3)).trans hx126_3
     replace p126 := eq_true p126
     replace q126 := eq_true q126
     go_upto_if 40 with (first | ((with_reducible refine uU (N := 6) rfl ?_); refine bxe 6 #[.int .i64 0, .int .i64 0, .bool false, .int .i64 0] 97 ?_; intro gb127 hg w18 hbox hb; have n0_ := tBlk BK122 hb; have n1_ := uP HB hb; have n2_ := Aside0.mk (hbox); have n3_ := tGe HB hg; have n4_ := tGe HB hg; have n5_ := tNl BK122 hg; have n6_ := tNg BK122 hg; clear BK122; clear HB; have BK122 := n0_; have HB := n1_; have BK127 := n2_; have GW127 := n3_; have GE127 := n4_; have NB122_127 := n5_; have NB127_122 := n6_; clear n0_ n1_ n2_ n3_ n4_ n5_ n6_; clear hb hbox hg; have hnb19 := NB127_122.out; have hnc19 := NB122_127.out; have hcz20_0 : w18.cell? ⟨gb127, 0, none⟩ = some (.int .i64 0) := (uE BK127.out 0).trans rfl; have hcz20_1 : w18.cell? ⟨gb127, 1, none⟩ = some (.int .i64 0) := (uE BK127.out 1).trans rfl; have hcz20_2 : w18.cell? ⟨gb127, 2, none⟩ = some (.bool false) := (uE BK127.out 2).trans rfl; have hcz20_3 : w18.cell? ⟨gb127, 3, none⟩ = some (.int .i64 0) := (uE BK127.out 3).trans rfl; have hfz20_0 := uX BK127.out 0; have hfz20_1 := uX BK127.out 1; have hfz20_2 := uX BK127.out 2; have hfz20_3 := uX BK127.out 3))
     (try simp only [Act.put, uZ, vA, vB])
     go_cut [7] (fun v7 wc => ∃ (kq : Nat) (x7_15 : ByteArray), v7 = .string x7_15 ∧ Aside0 (spec_FormatMachine.j2 kq x3_2 x5_2 x7_15 l0_0 l0_1 ((rd_T97 l0_1 x5_2).f0) ((rd_T97 l0_1 x5_2).f1) ((rd_T97 l0_1 x5_2).f2.f0) ((rd_T97 l0_1 x5_2).f2.f1) = some r) ∧ Aside0 (kq ≤ k2) ∧ Aside0 (wc.heap[gb122]? = some (.cells #[(.slice A0_0 l0_0.length c0_0), (.slice (some ad126) l0_1.length c0_1)] 56 (0, 0))) ∧ Aside0 (wc.heap[gb127]? = some (.cells #[.int .i64 ((rd_T97 l0_1 x5_2).f0), .int .i64 ((rd_T97 l0_1 x5_2).f1), .bool ((rd_T97 l0_1 x5_2).f2.f0), .int .i64 ((rd_T97 l0_1 x5_2).f2.f1)] 97 (0, 0))) ∧ Aside0 (Below w.heap.size w wc))
     case first =>
      have H := HC16.out
      clear HC16
      obtain ⟨bq21, hbq21⟩ : ∃ b_ : Bool, b_ = ((rd_T97 l0_1 x5_2).f2.f0) := ⟨_, rfl⟩
      replace H : (if bq21 = true then (spec_FormatMachine.j2 k2 x3_2 x5_2 (⟨#[43]⟩ : ByteArray) l0_0 l0_1 ((rd_T97 l0_1 x5_2).f0) ((rd_T97 l0_1 x5_2).f1) bq21 ((rd_T97 l0_1 x5_2).f2.f1)) else (spec_FormatMachine.j2 k2 x3_2 x5_2 (⟨#[45]⟩ : ByteArray) l0_0 l0_1 ((rd_T97 l0_1 x5_2).f0) ((rd_T97 l0_1 x5_2).f1) bq21 ((rd_T97 l0_1 x5_2).f2.f1))) = some r := by first | (rw [← hbq21] at H; exact H) | rfl
      have Nbq21 := Aside0.mk hbq21
      clear hbq21
      (try rw [← Nbq21.out])
      by_cases c22 : bq21 = true
      ·subst c22
       try rw [if_pos rfl] at H
       have H' := Aside0.mk H
       clear H
       go_wp2
       go_meet
       case rel => (try rw [← Nbq21.out]); exact ⟨_, ((⟨#[43]⟩ : ByteArray)), cq3, H', ⟨by have := HK1.out; have := HK2.out; first | omega | exact Nat.le_refl _⟩, ⟨by (with_reducible repeat (first | refine uC ?_ _ | refine uD ?_ | refine uB ?_ _)); refine uT ?_ NB122_127.out _; (with_reducible repeat (first | refine uC ?_ _ | refine uD ?_ | refine uB ?_ _)); refine uT ?_ NB122_127.out _; (with_reducible repeat (first | refine uC ?_ _ | refine uD ?_ | refine uB ?_ _)); refine uT ?_ NB122_127.out _; (with_reducible repeat (first | refine uC ?_ _ | refine uD ?_ | refine uB ?_ _)); refine uT ?_ NB122_127.out _; (with_reducible repeat (first | refine uC ?_ _ | refine uD ?_ | refine uB ?_ _)); exact BK122.out⟩, ⟨by (with_reducible repeat (first | refine uC ?_ _ | refine uD ?_ | refine uB ?_ _)); refine uO (cs := #[.int .i64 ((rd_T97 l0_1 x5_2).f0), .int .i64 ((rd_T97 l0_1 x5_2).f1), .bool (true), .int .i64 0]) ?_ 3 _ rfl; (with_reducible repeat (first | refine uC ?_ _ | refine uD ?_ | refine uB ?_ _)); refine uO (cs := #[.int .i64 ((rd_T97 l0_1 x5_2).f0), .int .i64 ((rd_T97 l0_1 x5_2).f1), .bool false, .int .i64 0]) ?_ 2 _ rfl; (with_reducible repeat (first | refine uC ?_ _ | refine uD ?_ | refine uB ?_ _)); refine uO (cs := #[.int .i64 ((rd_T97 l0_1 x5_2).f0), .int .i64 0, .bool false, .int .i64 0]) ?_ 1 _ rfl; (with_reducible repeat (first | refine uC ?_ _ | refine uD ?_ | refine uB ?_ _)); refine uO (cs := #[.int .i64 0, .int .i64 0, .bool false, .int .i64 0]) ?_ 0 _ rfl; (with_reducible repeat (first | refine uC ?_ _ | refine uD ?_ | refine uB ?_ _)); exact BK127.out⟩, ⟨cq0⟩⟩
      replace c22 := Bool.eq_false_iff.mpr c22
      subst c22
      try rw [if_neg (show ¬ (false = true) by decide)] at H
      have H' := Aside0.mk H
      clear H
      go_wp2
      go_meet
      case rel => (try rw [← Nbq21.out]); exact ⟨_, ((⟨#[45]⟩ : ByteArray)), cq3, H', ⟨by have := HK1.out; have := HK2.out; first | omega | exact Nat.le_refl _⟩, ⟨by (with_reducible repeat (first | refine uC ?_ _ | refine uD ?_ | refine uB ?_ _)); refine uT ?_ NB122_127.out _; (with_reducible repeat (first | refine uC ?_ _ | refine uD ?_ | refine uB ?_ _)); refine uT ?_ NB122_127.out _; (with_reducible repeat (first | refine uC ?_ _ | refine uD ?_ | refine uB ?_ _)); refine uT ?_ NB122_127.out _; (with_reducible repeat (first | refine uC ?_ _ | refine uD ?_ | refine uB ?_ _)); refine uT ?_ NB122_127.out _; (with_reducible repeat (first | refine uC ?_ _ | refine uD ?_ | refine uB ?_ _)); exact BK122.out⟩, ⟨by (with_reducible repeat (first | refine uC ?_ _ | refine uD ?_ | refine uB ?_ _)); refine uO (cs := #[.int .i64 ((rd_T97 l0_1 x5_2).f0), .int .i64 ((rd_T97 l0_1 x5_2).f1), .bool (false), .int .i64 0]) ?_ 3 _ rfl; (with_reducible repeat (first | refine uC ?_ _ | refine uD ?_ | refine uB ?_ _)); refine uO (cs := #[.int .i64 ((rd_T97 l0_1 x5_2).f0), .int .i64 ((rd_T97 l0_1 x5_2).f1), .bool false, .int .i64 0]) ?_ 2 _ rfl; (with_reducible repeat (first | refine uC ?_ _ | refine uD ?_ | refine uB ?_ _)); refine uO (cs := #[.int .i64 ((rd_T97 l0_1 x5_2).f0), .int .i64 0, .bool false, .int .i64 0]) ?_ 1 _ rfl; (with_reducible repeat (first | refine uC ?_ _ | refine uD ?_ | refine uB ?_ _)); refine uO (cs := #[.int .i64 0, .int .i64 0, .bool false, .int .i64 0]) ?_ 0 _ rfl; (with_reducible repeat (first | refine uC ?_ _ | refine uD ?_ | refine uB ?_ _)); exact BK127.out⟩, ⟨cq0⟩⟩
     case rest =>
      clear HC16
      try clear c3
      try clear c7
      try clear c7b0
      try clear c14
      try clear c14b0
      try clear c15b0
      try clear hcz13_0
      try clear hcz13_1
      try clear hcz17_0
      try clear hcz17_1
      try clear hcz20_0
      try clear hcz20_1
      try clear hcz20_2
      try clear hcz20_3
      try clear hcz38_0
      try clear hcz38_1
      try clear hfz13_0
      try clear hfz13_1
      try clear hfz17_0
      try clear hfz17_1
      try clear hfz20_0
      try clear hfz20_1
      try clear hfz20_2
      try clear hfz20_3
      try clear hfz38_0
      try clear hfz38_1
      try clear hx126_0
      try clear hx126_1
      try clear hx126_2
      try clear hx126_3
      try clear p126
      try clear q126
      obtain ⟨kq, x7_15, rfl, HA, HJ15, BK122, BK127, HB⟩ := hcut
      cases kq with
      | zero => exact absurd HA.out (by simp [spec_FormatMachine.j2])
      | succ kj15 =>
       have H := HA.out
       clear HA
       simp only [spec_FormatMachine.j2] at H
       by_cases c23 : x3_2.size + 1 ≤ 9223372036854775807
       rotate_left
       ·rw [if_neg c23] at H
        exact absurd H (by simp)
       rw [if_pos c23] at H
       have c23b0 := eq_true c23
       have c23b1 := decide_eq_true c23
       try have c23b2 : (9223372036854775807 < x3_2.size + 1) = False := eq_false (Nat.not_lt.2 c23)
       replace H := Option.bind_eq_some_iff.mp H
       obtain ⟨t128, A240, H⟩ := H
       try dsimp only at H
       have A24 := Aside0.mk A240
       clear A240
       by_cases c25 : (x3_2 ++ (⟨#[32]⟩ : ByteArray)).size + t128.size ≤ 9223372036854775807
       rotate_left
       ·rw [if_neg c25] at H
        exact absurd H (by simp)
       rw [if_pos c25] at H
       have c25b0 := eq_true c25
       have c25b1 := decide_eq_true c25
       try have c25b2 : (9223372036854775807 < (x3_2 ++ (⟨#[32]⟩ : ByteArray)).size + t128.size) = False := eq_false (Nat.not_lt.2 c25)
       have c25b3 : (9223372036854775807 < x3_2.size + 1 + t128.size) = False := eq_false (Nat.not_lt.2 (by have z_ := c25; (repeat rw [ByteArray.size_append] at z_); exact z_))
       by_cases c26 : ((x3_2 ++ (⟨#[32]⟩ : ByteArray)) ++ t128).size + 1 ≤ 9223372036854775807
       rotate_left
       ·rw [if_neg c26] at H
        exact absurd H (by simp)
       rw [if_pos c26] at H
       have c26b0 := eq_true c26
       have c26b1 := decide_eq_true c26
       try have c26b2 : (9223372036854775807 < ((x3_2 ++ (⟨#[32]⟩ : ByteArray)) ++ t128).size + 1) = False := eq_false (Nat.not_lt.2 c26)
       have c26b3 : (9223372036854775807 < x3_2.size + 1 + t128.size + 1) = False := eq_false (Nat.not_lt.2 (by have z_ := c26; (repeat rw [ByteArray.size_append] at z_); exact z_))
       replace H := Option.bind_eq_some_iff.mp H
       obtain ⟨t129, A270, H⟩ := H
       try dsimp only at H
       have A27 := Aside0.mk A270
       clear A270
       by_cases c28 : (((x3_2 ++ (⟨#[32]⟩ : ByteArray)) ++ t128) ++ (⟨#[46]⟩ : ByteArray)).size + t129.size ≤ 9223372036854775807
       rotate_left
       ·rw [if_neg c28] at H
        exact absurd H (by simp)
       rw [if_pos c28] at H
       have c28b0 := eq_true c28
       have c28b1 := decide_eq_true c28
       try have c28b2 : (9223372036854775807 < (((x3_2 ++ (⟨#[32]⟩ : ByteArray)) ++ t128) ++ (⟨#[46]⟩ : ByteArray)).size + t129.size) = False := eq_false (Nat.not_lt.2 c28)
       have c28b3 : (9223372036854775807 < x3_2.size + 1 + t128.size + 1 + t129.size) = False := eq_false (Nat.not_lt.2 (by have z_ := c28; (repeat rw [ByteArray.size_append] at z_); exact z_))
       by_cases c29 : ((((x3_2 ++ (⟨#[32]⟩ : ByteArray)) ++ t128) ++ (⟨#[46]⟩ : ByteArray)) ++ t129).size + x7_15.size ≤ 9223372036854775807
       rotate_left
       ·rw [if_neg c29] at H
        exact absurd H (by simp)
       rw [if_pos c29] at H
       have c29b0 := eq_true c29
       have c29b1 := decide_eq_true c29
       try have c29b2 : (9223372036854775807 < ((((x3_2 ++ (⟨#[32]⟩ : ByteArray)) ++ t128) ++ (⟨#[46]⟩ : ByteArray)) ++ t129).size + x7_15.size) = False := eq_false (Nat.not_lt.2 c29)
       have c29b3 : (9223372036854775807 < x3_2.size + 1 + t128.size + 1 + t129.size + x7_15.size) = False := eq_false (Nat.not_lt.2 (by have z_ := c29; (repeat rw [ByteArray.size_append] at z_); exact z_))
       replace H := Option.bind_eq_some_iff.mp H
       obtain ⟨t130, A300, H⟩ := H
       try dsimp only at H
       have A30 := Aside0.mk A300
       clear A300
       by_cases c31 : (((((x3_2 ++ (⟨#[32]⟩ : ByteArray)) ++ t128) ++ (⟨#[46]⟩ : ByteArray)) ++ t129) ++ x7_15).size + t130.size ≤ 9223372036854775807
       rotate_left
       ·rw [if_neg c31] at H
        exact absurd H (by simp)
       rw [if_pos c31] at H
       have c31b0 := eq_true c31
       have c31b1 := decide_eq_true c31
       try have c31b2 : (9223372036854775807 < (((((x3_2 ++ (⟨#[32]⟩ : ByteArray)) ++ t128) ++ (⟨#[46]⟩ : ByteArray)) ++ t129) ++ x7_15).size + t130.size) = False := eq_false (Nat.not_lt.2 c31)
       have c31b3 : (9223372036854775807 < x3_2.size + 1 + t128.size + 1 + t129.size + x7_15.size + t130.size) = False := eq_false (Nat.not_lt.2 (by have z_ := c31; (repeat rw [ByteArray.size_append] at z_); exact z_))
       have H' := Aside0.mk H
       clear H
       try go_wp2
       replace BK122 := Aside0.mk (uD BK122.out)
       replace BK127 := Aside0.mk (uD BK127.out)
       replace HB := Aside0.mk (uW HB.out)
       refine start_ (n := 19) (S := fun w' => w'.cell? ⟨gb127, 0, none⟩ = some (.int .i64 ((rd_T97 l0_1 x5_2).f0)) ∧ w'.cell? ⟨gb127, 1, none⟩ = some (.int .i64 ((rd_T97 l0_1 x5_2).f1)) ∧ w'.cell? ⟨gb127, 2, none⟩ = some (.bool ((rd_T97 l0_1 x5_2).f2.f0)) ∧ w'.cell? ⟨gb127, 3, none⟩ = some (.int .i64 ((rd_T97 l0_1 x5_2).f2.f1))) (ds := []) tb0 (by kernel_rfl) rfl rfl ⟨(uE BK127.out 0).trans rfl, (uE BK127.out 1).trans rfl, (uE BK127.out 2).trans rfl, (uE BK127.out 3).trans rfl⟩ (fun hHeld => ?_); refine with_tabW spec_FormatMachine.tab15 spec_FormatMachine.bits15 (fun HT_ HW_ => ?_)
       generalize wc.drew = w32 at BK122 BK127 HB hHeld ⊢
       refine uN 0 (some 41) tb1 ?_
       refine uN 1 (some 42) tb2 ?_
       refine uN 2 (some 43) #[true, true, true, false, false, false, false, false, false, false, false, false, false, false, false, false, false, false, false] ?_
       refine uN 7 (some 48) #[true, true, true, false, false, false, false, true, false, false, false, false, false, false, false, false, false, false, false] ?_
       refine uN 11 (some 52) #[true, true, true, false, false, false, false, true, false, false, false, true, false, false, false, false, false, false, false] ?_
       refine uN 13 (some 54) #[true, true, true, false, false, false, false, true, false, false, false, true, false, true, false, false, false, false, false] ?_
       refine uN 14 (some 55) #[true, true, true, false, false, false, false, true, false, false, false, true, false, true, true, false, false, false, false] ?_
       refine takeT 3 (some 44) #[true, true, true, true, false, false, false, true, false, false, false, true, false, true, true, false, false, false, false] ?_
       refine takeT 8 (some 49) #[true, true, true, true, false, false, false, true, true, false, false, true, false, true, true, false, false, false, false] ?_
       refine takeT 15 (some 56) #[true, true, true, true, false, false, false, true, true, false, false, true, false, true, true, true, false, false, false] ?_
       refine oneT 4 (some 45) #[true, true, true, true, true, false, false, true, true, false, false, true, false, true, true, true, false, false, false] (fun K hK => ?_)
       refine goesT Tryd.func90 #[.int .i64 ((rd_T97 l0_1 x5_2).f0)] ?_
       with_reducible refine (spec_FormatInt.calls kj15 ((rd_T97 l0_1 x5_2).f0) t128 _ A24.out).mono ?_
       rintro e w33 ⟨rfl, hb⟩
       refine ⟨_, rfl, ?_⟩
       replace BK122 := tBlk BK122 hb
       replace BK127 := tBlk BK127 hb
       replace HB := uP HB hb
       (try clear hb)
       refine hK.out _ _ ⟨(uE BK127.out 0).trans rfl, (uE BK127.out 1).trans rfl, (uE BK127.out 2).trans rfl, (uE BK127.out 3).trans rfl⟩ (fun hHeld => ?_)
       clear hK K
       refine normT (some 45) ?_
       refine uN 5 (some 46) #[true, true, true, true, true, true, false, true, true, false, false, true, false, true, true, true, false, false, false] ?_
       refine uN 6 (some 47) #[true, true, true, true, true, true, true, true, true, false, false, true, false, true, true, true, false, false, false] ?_
       refine oneT 9 (some 50) #[true, true, true, true, true, true, true, true, true, true, false, true, false, true, true, true, false, false, false] (fun K hK => ?_)
       refine goesT Tryd.func90 #[.int .i64 ((rd_T97 l0_1 x5_2).f1)] ?_
       with_reducible refine (spec_FormatInt.calls kj15 ((rd_T97 l0_1 x5_2).f1) t129 _ A27.out).mono ?_
       rintro e w34 ⟨rfl, hb⟩
       refine ⟨_, rfl, ?_⟩
       replace BK122 := tBlk BK122 hb
       replace BK127 := tBlk BK127 hb
       replace HB := uP HB hb
       (try clear hb)
       refine hK.out _ _ ⟨(uE BK127.out 0).trans rfl, (uE BK127.out 1).trans rfl, (uE BK127.out 2).trans rfl, (uE BK127.out 3).trans rfl⟩ (fun hHeld => ?_)
       clear hK K
       refine normT (some 50) ?_
       refine uN 10 (some 51) #[true, true, true, true, true, true, true, true, true, true, true, true, false, true, true, true, false, false, false] ?_
       refine uN 12 (some 53) tb3 ?_
       refine oneT 16 (some 57) tb4 (fun K hK => ?_)
       refine goesT Tryd.func90 #[.int .i64 ((rd_T97 l0_1 x5_2).f2.f1)] ?_
       with_reducible refine (spec_FormatInt.calls kj15 ((rd_T97 l0_1 x5_2).f2.f1) t130 _ A30.out).mono ?_
       rintro e w35 ⟨rfl, hb⟩
       refine ⟨_, rfl, ?_⟩
       replace BK122 := tBlk BK122 hb
       replace BK127 := tBlk BK127 hb
       replace HB := uP HB hb
       (try clear hb)
       refine hK.out _ _ ⟨(uE BK127.out 0).trans rfl, (uE BK127.out 1).trans rfl, (uE BK127.out 2).trans rfl, (uE BK127.out 3).trans rfl⟩ (fun hHeld => ?_)
       clear hK K
       refine normT (some 57) ?_
       refine uN 17 (some 58) tb5 ?_
       refine uN 18 (some 3) tb6 ?_
       refine done_ (done_of HT_.out (by kernel_rfl)) ?_
       try go_wp2
       go_roundg kj15
       case measure => have := HK1.out; have := HK2.out; have := HJ15.out; omega
       case rel => exact ⟨((((((x3_2 ++ (⟨#[32]⟩ : ByteArray)) ++ t128) ++ (⟨#[46]⟩ : ByteArray)) ++ t129) ++ x7_15) ++ t130), (wrap64 (x5_2 + 1)), cq3, cq3, H', ⟨by have := HK1.out; have := HK2.out; have := HJ15.out; omega⟩, ⟨cq63⟩, ⟨cq0⟩⟩

end Go.Proofs.YtcikahnmiiichaaDoor.P
