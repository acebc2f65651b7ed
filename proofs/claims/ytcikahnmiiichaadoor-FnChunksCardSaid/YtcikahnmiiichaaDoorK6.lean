/- Go functions as Lean functions, and the proof that the code comes to them: written by a program of this session out of the translation. -/
import Derived.Test.YtcikahnmiiichaaDoorK0
import Derived.Test.YtcikahnmiiichaaDoorK1
import Derived.Test.YtcikahnmiiichaaDoorK5
namespace Go.Proofs.YtcikahnmiiichaaDoor.K
open List renaming setIfInBounds_toArray → vZ, set_cons_zero → yA, set_cons_succ → yB
open Go.World renaming block_lt_of_cell? → yF
open Go.Proofs.YtcikahnmiiichaaDoor.Given
open Go.RowKit Go.Proofs.YtcikahnmiiichaaDoorW.PrintWords Go.Proofs.YtcikahnmiiichaaDoorW.PrintLast Go.Proofs.YtcikahnmiiichaaDoorW.PrintMore
attribute [local go_sem] max2_int min2_int max_two min_two vW vV max_four min_four   -- for this text's walks alone
set_option linter.unusedVariables false
set_option linter.unusedSimpArgs false

/-! ### spec_FormatMachine: function 75 -/
mutual
def spec_FormatMachine.l0 : Nat → ByteArray → Int → List Int → List (S97) → Option (ByteArray)
 | 0, _, _, _, _ => none
 | k + 1, x3, x4, x164000, x164001 => if x4 < (x164000.length : Int) then (if 0 ≤ x4 then ((spec_FormatInt.f k (rd x164000 x4)).bind fun t166 => (if x3.size + t166.size ≤ 9223372036854775807 then (spec_FormatMachine.l0 k (x3 ++ t166) (wrap64 (x4 + 1)) x164000 x164001) else (none))) else (none)) else (spec_FormatMachine.l1 k x3 0 x164000 x164001)
def spec_FormatMachine.l1 : Nat → ByteArray → Int → List Int → List (S97) → Option (ByteArray)
 | 0, _, _, _, _ => none
 | k + 1, x3, x5, x164000, x164001 => if x5 < (x164001.length : Int) then (if 0 ≤ x5 then (if (rd_T97 x164001 x5).f2.f0 = true then (spec_FormatMachine.j2 k x3 x5 (⟨#[43]⟩ : ByteArray) x164000 x164001 ((rd_T97 x164001 x5).f0) ((rd_T97 x164001 x5).f1) ((rd_T97 x164001 x5).f2.f0) ((rd_T97 x164001 x5).f2.f1)) else (spec_FormatMachine.j2 k x3 x5 (⟨#[45]⟩ : ByteArray) x164000 x164001 ((rd_T97 x164001 x5).f0) ((rd_T97 x164001 x5).f1) ((rd_T97 x164001 x5).f2.f0) ((rd_T97 x164001 x5).f2.f1))) else (none)) else (some x3)
def spec_FormatMachine.j2 : Nat → ByteArray → Int → ByteArray → List Int → List (S97) → Int → Int → Bool → Int → Option (ByteArray)
 | 0, _, _, _, _, _, _, _, _, _ => none
 | k + 1, x3, x5, x7, x164000, x164001, x169000, x169001, x169002, x169003 => if x3.size + 1 ≤ 9223372036854775807 then ((spec_FormatInt.f k x169000).bind fun t169 => (if (x3 ++ (⟨#[32]⟩ : ByteArray)).size + t169.size ≤ 9223372036854775807 then (if ((x3 ++ (⟨#[32]⟩ : ByteArray)) ++ t169).size + 1 ≤ 9223372036854775807 then ((spec_FormatInt.f k x169001).bind fun t170 => (if (((x3 ++ (⟨#[32]⟩ : ByteArray)) ++ t169) ++ (⟨#[46]⟩ : ByteArray)).size + t170.size ≤ 9223372036854775807 then (if ((((x3 ++ (⟨#[32]⟩ : ByteArray)) ++ t169) ++ (⟨#[46]⟩ : ByteArray)) ++ t170).size + x7.size ≤ 9223372036854775807 then ((spec_FormatInt.f k x169003).bind fun t171 => (if (((((x3 ++ (⟨#[32]⟩ : ByteArray)) ++ t169) ++ (⟨#[46]⟩ : ByteArray)) ++ t170) ++ x7).size + t171.size ≤ 9223372036854775807 then (spec_FormatMachine.l1 k ((((((x3 ++ (⟨#[32]⟩ : ByteArray)) ++ t169) ++ (⟨#[46]⟩ : ByteArray)) ++ t170) ++ x7) ++ t171) (wrap64 (x5 + 1)) x164000 x164001) else (none))) else (none)) else (none))) else (none)) else (none))) else (none)
end
def spec_FormatMachine.f (k : Nat) (l0_0 : List Int) (l0_1 : List (S97)) : Option (ByteArray) := (spec_IsValidMachine.f k l0_0 l0_1).bind fun t164 => (if t164 = true then (spec_FormatMachine.l0 k (⟨#[]⟩ : ByteArray) 0 l0_0 l0_1) else (some (⟨#[]⟩ : ByteArray)))
theorem spec_FormatMachine.mono_l : ∀ k, (∀ y0 y1 y2 y3, uA (spec_FormatMachine.l0 k y0 y1 y2 y3) (spec_FormatMachine.l0 (k + 1) y0 y1 y2 y3)) ∧ (∀ y0 y1 y2 y3, uA (spec_FormatMachine.l1 k y0 y1 y2 y3) (spec_FormatMachine.l1 (k + 1) y0 y1 y2 y3)) ∧ (∀ y0 y1 y2 y3 y4 y5 y6 y7 y8, uA (spec_FormatMachine.j2 k y0 y1 y2 y3 y4 y5 y6 y7 y8) (spec_FormatMachine.j2 (k + 1) y0 y1 y2 y3 y4 y5 y6 y7 y8))
 | 0 => ⟨fun _ _ _ _ r h => by simp [spec_FormatMachine.l0] at h, fun _ _ _ _ r h => by simp [spec_FormatMachine.l1] at h, fun _ _ _ _ _ _ _ _ _ r h => by simp [spec_FormatMachine.j2] at h⟩
 | k + 1 => by
  obtain ⟨ih0, ih1, ih2⟩ := spec_FormatMachine.mono_l k
  refine ⟨?_, ?_, ?_⟩
  ·intro y0 y1 y2 y3
   unfold spec_FormatMachine.l0
   repeat' first
   | (with_reducible exact ih0 _ _ _ _)
   | (with_reducible exact ih1 _ _ _ _)
   | (with_reducible exact ih2 _ _ _ _ _ _ _ _ _)
   | (with_reducible exact spec_FormatInt.mono _ _)
   | (with_reducible exact spec_IsValidMachine.mono _ _ _)
   | (with_reducible exact uA.refl _)
   | (with_reducible exact uA.none _)
   | (with_reducible refine uA.vA ?_ ?_)
   | (with_reducible refine uA.bind ?_ (fun _ => ?_))
   | exact ih0 _ _ _ _
   | exact ih1 _ _ _ _
   | exact ih2 _ _ _ _ _ _ _ _ _
   | exact uA.none _
   | refine uA.vA ?_ ?_
   | refine uA.bind ?_ (fun _ => ?_)
  ·intro y0 y1 y2 y3
   unfold spec_FormatMachine.l1
   repeat' first
   | (with_reducible exact ih0 _ _ _ _)
   | (with_reducible exact ih1 _ _ _ _)
   | (with_reducible exact ih2 _ _ _ _ _ _ _ _ _)
   | (with_reducible exact spec_FormatInt.mono _ _)
   | (with_reducible exact spec_IsValidMachine.mono _ _ _)
   | (with_reducible exact uA.refl _)
   | (with_reducible exact uA.none _)
   | (with_reducible refine uA.vA ?_ ?_)
   | (with_reducible refine uA.bind ?_ (fun _ => ?_))
   | exact ih0 _ _ _ _
   | exact ih1 _ _ _ _
   | exact ih2 _ _ _ _ _ _ _ _ _
   | exact uA.none _
   | refine uA.vA ?_ ?_
   | refine uA.bind ?_ (fun _ => ?_)
  intro y0 y1 y2 y3 y4 y5 y6 y7 y8
  unfold spec_FormatMachine.j2
  repeat' first
  | (with_reducible exact ih0 _ _ _ _)
  | (with_reducible exact ih1 _ _ _ _)
  | (with_reducible exact ih2 _ _ _ _ _ _ _ _ _)
  | (with_reducible exact spec_FormatInt.mono _ _)
  | (with_reducible exact spec_IsValidMachine.mono _ _ _)
  | (with_reducible exact uA.refl _)
  | (with_reducible exact uA.none _)
  | (with_reducible refine uA.vA ?_ ?_)
  | (with_reducible refine uA.bind ?_ (fun _ => ?_))
  | exact ih0 _ _ _ _
  | exact ih1 _ _ _ _
  | exact ih2 _ _ _ _ _ _ _ _ _
  | exact uA.none _
  | refine uA.vA ?_ ?_
  | refine uA.bind ?_ (fun _ => ?_)
theorem spec_FormatMachine.mono : ∀ a0 a1 k, uA (spec_FormatMachine.f k a0 a1) (spec_FormatMachine.f (k + 1) a0 a1) := by
 intro a0 a1 k
 obtain ⟨ih0, ih1, ih2⟩ := spec_FormatMachine.mono_l k
 unfold spec_FormatMachine.f
 repeat' first
   | (with_reducible exact ih0 _ _ _ _)
   | (with_reducible exact ih1 _ _ _ _)
   | (with_reducible exact ih2 _ _ _ _ _ _ _ _ _)
   | (with_reducible exact spec_FormatInt.mono _ _)
   | (with_reducible exact spec_IsValidMachine.mono _ _ _)
   | (with_reducible exact uA.refl _)
   | (with_reducible exact uA.none _)
   | (with_reducible refine uA.vA ?_ ?_)
   | (with_reducible refine uA.bind ?_ (fun _ => ?_))
   | exact ih0 _ _ _ _
   | exact ih1 _ _ _ _
   | exact ih2 _ _ _ _ _ _ _ _ _
   | exact uA.none _
   | refine uA.vA ?_ ?_
   | refine uA.bind ?_ (fun _ => ?_)
def spec_FormatMachine.T15 : Bool × List (List Nat × List Nat) := (true, [([], []), ([0], [0]), ([], []), ([2], [2]), ([3], [3]), ([1, 4], [1, 4]), ([5], [5]), ([], []), ([7], [7]), ([8, 4], [8]), ([6, 9], [6, 9]), ([], []), ([10, 11], [10, 11]), ([], []), ([13], [13]), ([14], [14]), ([15, 9], [15]), ([12, 16], [12, 16]), ([17, 16, 0, 1, 2, 3, 4, 5, 6, 7, 8, 9, 10, 11, 12, 13, 14, 15, 16, 17], [0, 17])])
def spec_FormatMachine.B15 : List Nat := [0, 1, 0, 4, 12, 31, 63, 0, 128, 412, 1023, 0, 4095, 0, 8192, 24576, 58268, 131071, 262143]
theorem spec_FormatMachine.tab15 : rtab .any (opsOf Tryd.f75 15) = spec_FormatMachine.T15 := by kernel_rfl
theorem spec_FormatMachine.bits15 : waitsOk spec_FormatMachine.T15.2 spec_FormatMachine.B15 = true := by kernel_rfl
set_option maxHeartbeats 8000000 in
set_option maxRecDepth 100000 in
theorem spec_FormatMachine.calls (k : Nat) (A0_0 : Option Addr) (c0_0 : Nat) (l0_0 : List Int) (A0_1 : Option Addr) (c0_1 : Nat) (l0_1 : List (S97)) (r : ByteArray) (w : World) (hr0_0 : Kd.C (Kd.int .i64) w A0_0 l0_0.length l0_0) (hc0_0 : l0_0.length ≤ c0_0) (hr0_1 : Kd.C k97 w A0_1 l0_1.length l0_1) (hc0_1 : l0_1.length ≤ c0_1) (h : spec_FormatMachine.f k l0_0 l0_1 = some r) :
  Calls Tryd.prog 75 #[.agg #[.slice A0_0 l0_0.length c0_0, .slice A0_1 l0_1.length c0_1]] w fun e w' => e = .returned (.string r) ∧ Below w.heap.size w w' := by
 have hu56 := Tryd.underlying56
 have hu97 := Tryd.underlying97
 have HR0_0 := Aside0.mk hr0_0
 have HC0_0 := Aside0.mk hc0_0
 clear hr0_0 hc0_0
 have HR0_1 := Aside0.mk hr0_1
 have HC0_1 := Aside0.mk hc0_1
 clear hr0_1 hc0_1
 have HB := Aside0.mk (Below.refl w.heap.size w)
 have H : ((spec_IsValidMachine.f k l0_0 l0_1).bind fun t164 => (if t164 = true then (spec_FormatMachine.l0 k (⟨#[]⟩ : ByteArray) 0 l0_0 l0_1) else (some (⟨#[]⟩ : ByteArray)))) = some r := h
 clear h
 replace H := Option.bind_eq_some_iff.mp H
 obtain ⟨t164, A20, H⟩ := H
 try dsimp only at H
 have A2 := Aside0.mk A20
 clear A20
 go_enter Tryd.func75, Tryd.ntmps75
 go_wp2_with (first | ((with_reducible refine uQ (N := 1) rfl ?_); refine bxe 1 #[.slice A0_0 l0_0.length c0_0, .slice A0_1 l0_1.length c0_1] 56 ?_; intro gb163 hg w37 hbox hb; have BK163 := Aside0.mk (hbox); have GW163 := tGe HB hg; have GE163 := tGe HB hg; replace HB := uH HB hb; clear hb hbox hg; obtain ⟨hcz38_0, hcz38_1, hfz38_0, hfz38_1⟩ := cz2 BK163; refine ?roundEnd))
 case roundEnd =>
 by_cases c3 : t164 = true
 rotate_left
 ·replace c3 := Bool.eq_false_iff.mpr c3
  subst c3
  try rw [if_neg (show ¬ (false = true) by decide)] at H
  obtain rfl := Option.some.inj H
  go_wp2_with (first | ((with_reducible refine uB (f := 105) rfl ?_); refine uL (some 9) Tryd.func105 #[.agg #[.slice A0_0 l0_0.length c0_0, .slice A0_1 l0_1.length c0_1]] ?_; (with_reducible refine (spec_IsValidMachine.calls k _ _ l0_0 _ _ l0_1 false _ ?side1 ?side2 ?side3 ?side4 A2.out).mono ?_); (case side1 => exact cq43); (case side2 => exact HC0_0.out); (case side3 => exact cq70); (case side4 => exact HC0_1.out); rintro e w39 ⟨rfl, hb⟩; refine ⟨_, rfl, ?_⟩; replace BK163 := vI BK163 hb; replace HB := uH HB hb; (try clear hb)))
  go_ret
  exact ⟨cq5, cq2⟩
 subst c3
 try rw [if_pos rfl] at H
 have H' := Aside0.mk H
 clear H
 go_wp2_with (first | ((with_reducible refine uB (f := 105) rfl ?_); refine uL (some 9) Tryd.func105 #[.agg #[.slice A0_0 l0_0.length c0_0, .slice A0_1 l0_1.length c0_1]] ?_; (with_reducible refine (spec_IsValidMachine.calls k _ _ l0_0 _ _ l0_1 true _ ?side1 ?side2 ?side3 ?side4 A2.out).mono ?_); (case side1 => exact cq43); (case side2 => exact HC0_0.out); (case side3 => exact cq70); (case side4 => exact HC0_1.out); rintro e w6 ⟨rfl, hb⟩; refine ⟨_, rfl, ?_⟩; replace BK163 := vI BK163 hb; replace HB := uH HB hb; (try clear hb)))
 go_loopg [3, 4] k (fun kq v3 v4 w' => ∃ (x3_1 : ByteArray) (x4_1 : Int), v3 = .string x3_1 ∧ v4 = .int .i64 x4_1 ∧ Aside0 (spec_FormatMachine.l0 kq x3_1 x4_1 l0_0 l0_1 = some r) ∧ Aside0 (kq ≤ k) ∧ Aside0 (w'.heap[gb163]? = some (.cells #[(.slice A0_0 l0_0.length c0_0), (.slice A0_1 l0_1.length c0_1)] 56 (0, 0))) ∧ Aside0 (Below w.heap.size w w'))
 case atStart => exact ⟨((⟨#[]⟩ : ByteArray)), (0), vD, vD, H', ⟨Nat.le_refl _⟩, ⟨cq95⟩, ⟨cq2⟩⟩
 case round =>
  clear H'
  try clear c3
  try clear hcz38_0
  try clear hcz38_1
  try clear hfz38_0
  try clear hfz38_1
  obtain ⟨x3_1, x4_1, rfl, rfl, HA, HK1, BK163, HB⟩ := hrel
  cases gk with
  | zero => exact absurd HA.out (by simp [spec_FormatMachine.l0])
  | succ k1 =>
   have H := HA.out
   clear HA
   simp only [spec_FormatMachine.l0] at H
   by_cases c7 : x4_1 < (l0_0.length : Int)
   ·rw [if_pos c7] at H
    have c7b0 := decide_eq_true c7
    clear c7
    obtain ⟨c8b0, H⟩ := ifD H
    replace H := Option.bind_eq_some_iff.mp H
    obtain ⟨t166, A90, H⟩ := H
    try dsimp only at H
    have A9 := Aside0.mk A90
    clear A90
    by_cases c10 : x3_1.size + t166.size ≤ 9223372036854775807
    rotate_left
    ·rw [if_neg c10] at H
     exact absurd H (by simp)
    rw [if_pos c10] at H
    have c10b0 := eq_true c10
    have c10b1 := decide_eq_true c10
    try have c10b2 : (9223372036854775807 < x3_1.size + t166.size) = False := eq_false (Nat.not_lt.2 c10)
    have H' := Aside0.mk H
    clear H
    obtain ⟨hcz11_0, hcz11_1, hfz11_0, hfz11_1⟩ := cz2 BK163
    have p165 : 0 ≤ (x4_1 : Int) := of_decide_eq_true vC
    have q165 : x4_1 < (l0_0.length : Int) := of_decide_eq_true vC
    obtain ⟨ad165, e165, hx165_0⟩ := Kd.at_int HR0_0.out x4_1 p165 q165
    cases e165
    replace hx165_0 := (HB.out.cell (yF w _ hx165_0)).trans hx165_0
    replace p165 := eq_true p165
    replace q165 := eq_true q165
    go_wp2_with (first | ((with_reducible refine uB (f := 90) rfl ?_); refine uL (some 24) Tryd.func90 #[.int .i64 (rd l0_0 x4_1)] ?_; (with_reducible refine (spec_FormatInt.calls k1 (rd l0_0 x4_1) t166 _ A9.out).mono ?_); rintro e w12 ⟨rfl, hb⟩; refine ⟨_, rfl, ?_⟩; replace BK163 := vI BK163 hb; replace HB := uH HB hb; (try clear hb)))
    go_roundg k1
    case measure => have := HK1.out; omega
    case rel => exact ⟨(x3_1 ++ t166), (wrap64 (x4_1 + 1)), vD, vD, H', ⟨by have := HK1.out; omega⟩, ⟨cq95⟩, ⟨cq2⟩⟩
   rw [if_neg c7] at H
   have c7b0 := decide_eq_false c7
   clear c7
   have H' := Aside0.mk H
   clear H
   obtain ⟨hcz13_0, hcz13_1, hfz13_0, hfz13_1⟩ := cz2 BK163
   go_wp2
   go_loopg [3, 5] k1 (fun kq v3 v5 w' => ∃ (x3_2 : ByteArray) (x5_2 : Int), v3 = .string x3_2 ∧ v5 = .int .i64 x5_2 ∧ Aside0 (spec_FormatMachine.l1 kq x3_2 x5_2 l0_0 l0_1 = some r) ∧ Aside0 (kq ≤ k1) ∧ Aside0 (w'.heap[gb163]? = some (.cells #[(.slice A0_0 l0_0.length c0_0), (.slice A0_1 l0_1.length c0_1)] 56 (0, 0))) ∧ Aside0 (Below w.heap.size w w'))
   case atStart => exact ⟨(x3_1), (0), vD, vD, H', ⟨Nat.le_refl _⟩, ⟨cq95⟩, ⟨cq2⟩⟩
   case round =>
    clear H'
    try clear c3
    try clear c7
    try clear c7b0
    try clear hcz13_0
    try clear hcz13_1
    try clear hcz38_0
    try clear hcz38_1
    try clear hfz13_0
    try clear hfz13_1
    try clear hfz38_0
    try clear hfz38_1
    obtain ⟨x3_2, x5_2, rfl, rfl, HA, HK2, BK163, HB⟩ := hrel
    cases gk with
    | zero => exact absurd HA.out (by simp [spec_FormatMachine.l1])
    | succ k2 =>
     have H := HA.out
     clear HA
     simp only [spec_FormatMachine.l1] at H
     by_cases c14 : x5_2 < (l0_1.length : Int)
     rotate_left
     ·rw [if_neg c14] at H
      have c14b0 := decide_eq_false c14
      clear c14
      obtain rfl := Option.some.inj H
      obtain ⟨hcz36_0, hcz36_1, hfz36_0, hfz36_1⟩ := cz2 BK163
      go_wp2
      go_ret
      exact ⟨cq5, cq2⟩
     rw [if_pos c14] at H
     have c14b0 := decide_eq_true c14
     clear c14
     obtain ⟨c15b0, H⟩ := ifD H
     have HC16 := Aside0.mk H
     clear H
     obtain ⟨hcz17_0, hcz17_1, hfz17_0, hfz17_1⟩ := cz2 BK163
     have p167 : 0 ≤ (x5_2 : Int) := of_decide_eq_true vC
     have q167 : x5_2 < (l0_1.length : Int) := of_decide_eq_true vC
     obtain ⟨ad167, e167, hx167_0, hx167_1, hx167_2, hx167_3⟩ := at_T97 HR0_1.out x5_2 p167 q167
     cases e167
     replace hx167_0 := (HB.out.cell (yF w _ hx167_0)).trans hx167_0
     replace hx167_1 := (HB.out.cell (yF w _ hx167_1)).trans hx167_1
     replace hx167_2 := (HB.out.cell (yF w _ hx167_2)).trans hx167_2
     replace hx167_3 := (HB.out.cell (yF w _ hx167_3)).trans hx167_3
     replace p167 := eq_true p167
     replace q167 := eq_true q167
     go_upto_if 40 with (first | ((with_reducible refine uQ (N := 6) rfl ?_); refine bxe 6 #[.int .i64 0, .int .i64 0, .bool false, .int .i64 0] 97 ?_; intro gb168 hg w18 hbox hb; have n0_ := vI BK163 hb; have n1_ := uH HB hb; have n2_ := Aside0.mk (hbox); have n3_ := tGe HB hg; have n4_ := tGe HB hg; have n5_ := tNl BK163 hg; have n6_ := tNg BK163 hg; clear BK163; clear HB; have BK163 := n0_; have HB := n1_; have BK168 := n2_; have GW168 := n3_; have GE168 := n4_; have NB163_168 := n5_; have NB168_163 := n6_; clear n0_ n1_ n2_ n3_ n4_ n5_ n6_; clear hb hbox hg; have hnb19 := NB168_163.out; have hnc19 := NB163_168.out; have hcz20_0 : w18.cell? ⟨gb168, 0, none⟩ = some (.int .i64 0) := (uC BK168.out 0).trans rfl; have hcz20_1 : w18.cell? ⟨gb168, 1, none⟩ = some (.int .i64 0) := (uC BK168.out 1).trans rfl; have hcz20_2 : w18.cell? ⟨gb168, 2, none⟩ = some (.bool false) := (uC BK168.out 2).trans rfl; have hcz20_3 : w18.cell? ⟨gb168, 3, none⟩ = some (.int .i64 0) := (uC BK168.out 3).trans rfl; have hfz20_0 := vQ BK168.out 0; have hfz20_1 := vQ BK168.out 1; have hfz20_2 := vQ BK168.out 2; have hfz20_3 := vQ BK168.out 3))
     (try simp only [Act.put, vZ, yA, yB])
     go_cut [7] (fun v7 wc => ∃ (kq : Nat) (x7_15 : ByteArray), v7 = .string x7_15 ∧ Aside0 (spec_FormatMachine.j2 kq x3_2 x5_2 x7_15 l0_0 l0_1 ((rd_T97 l0_1 x5_2).f0) ((rd_T97 l0_1 x5_2).f1) ((rd_T97 l0_1 x5_2).f2.f0) ((rd_T97 l0_1 x5_2).f2.f1) = some r) ∧ Aside0 (kq ≤ k2) ∧ Aside0 (wc.heap[gb163]? = some (.cells #[(.slice A0_0 l0_0.length c0_0), (.slice (some ad167) l0_1.length c0_1)] 56 (0, 0))) ∧ Aside0 (wc.heap[gb168]? = some (.cells #[.int .i64 ((rd_T97 l0_1 x5_2).f0), .int .i64 ((rd_T97 l0_1 x5_2).f1), .bool ((rd_T97 l0_1 x5_2).f2.f0), .int .i64 ((rd_T97 l0_1 x5_2).f2.f1)] 97 (0, 0))) ∧ Aside0 (Below w.heap.size w wc))
     case first =>
      have H := HC16.out
      clear HC16
      obtain ⟨bq21, hbq21⟩ : ∃ b_ : Bool, b_ = ((rd_T97 l0_1 x5_2).f2.f0) := ⟨_, rfl⟩
      replace H : (if bq21 = true then (spec_FormatMachine.j2 k2 x3_2 x5_2 (⟨#[43]⟩ : ByteArray) l0_0 l0_1 ((rd_T97 l0_1 x5_2).f0) ((rd_T97 l0_1 x5_2).f1) bq21 ((rd_T97 l0_1 x5_2).f2.f1)) else (spec_FormatMachine.j2 k2 x3_2 x5_2 (⟨#[45]⟩ : ByteArray) l0_0 l0_1 ((rd_T97 l0_1 x5_2).f0) ((rd_T97 l0_1 x5_2).f1) bq21 ((rd_T97 l0_1 x5_2).f2.f1))) = some r := by first | (rw [← hbq21] at H; exact H) | rfl
      have Nbq21 := Aside0.mk hbq21
      clear hbq21
      (try rw [← Nbq21.out])
      by_cases c22 : bq21 = true
      ·subst c22
       try rw [if_pos rfl] at H
       have H' := Aside0.mk H
       clear H
       go_wp2
       go_meet
       case rel => (try rw [← Nbq21.out]); exact ⟨_, ((⟨#[43]⟩ : ByteArray)), vD, H', ⟨by have := HK1.out; have := HK2.out; first | omega | exact Nat.le_refl _⟩, ⟨by (with_reducible repeat (first | refine uF ?_ _ | refine uE ?_ | refine uD ?_ _)); refine blk_far ?_ NB163_168.out _; (with_reducible repeat (first | refine uF ?_ _ | refine uE ?_ | refine uD ?_ _)); refine blk_far ?_ NB163_168.out _; (with_reducible repeat (first | refine uF ?_ _ | refine uE ?_ | refine uD ?_ _)); refine blk_far ?_ NB163_168.out _; (with_reducible repeat (first | refine uF ?_ _ | refine uE ?_ | refine uD ?_ _)); refine blk_far ?_ NB163_168.out _; (with_reducible repeat (first | refine uF ?_ _ | refine uE ?_ | refine uD ?_ _)); exact BK163.out⟩, ⟨by (with_reducible repeat (first | refine uF ?_ _ | refine uE ?_ | refine uD ?_ _)); refine uZ (cs := #[.int .i64 ((rd_T97 l0_1 x5_2).f0), .int .i64 ((rd_T97 l0_1 x5_2).f1), .bool (true), .int .i64 0]) ?_ 3 _ rfl; (with_reducible repeat (first | refine uF ?_ _ | refine uE ?_ | refine uD ?_ _)); refine uZ (cs := #[.int .i64 ((rd_T97 l0_1 x5_2).f0), .int .i64 ((rd_T97 l0_1 x5_2).f1), .bool false, .int .i64 0]) ?_ 2 _ rfl; (with_reducible repeat (first | refine uF ?_ _ | refine uE ?_ | refine uD ?_ _)); refine uZ (cs := #[.int .i64 ((rd_T97 l0_1 x5_2).f0), .int .i64 0, .bool false, .int .i64 0]) ?_ 1 _ rfl; (with_reducible repeat (first | refine uF ?_ _ | refine uE ?_ | refine uD ?_ _)); refine uZ (cs := #[.int .i64 0, .int .i64 0, .bool false, .int .i64 0]) ?_ 0 _ rfl; (with_reducible repeat (first | refine uF ?_ _ | refine uE ?_ | refine uD ?_ _)); exact BK168.out⟩, ⟨cq2⟩⟩
      replace c22 := Bool.eq_false_iff.mpr c22
      subst c22
      try rw [if_neg (show ¬ (false = true) by decide)] at H
      have H' := Aside0.mk H
      clear H
      go_wp2
      go_meet
      case rel => (try rw [← Nbq21.out]); exact ⟨_, ((⟨#[45]⟩ : ByteArray)), vD, H', ⟨by have := HK1.out; have := HK2.out; first | omega | exact Nat.le_refl _⟩, ⟨by (with_reducible repeat (first | refine uF ?_ _ | refine uE ?_ | refine uD ?_ _)); refine blk_far ?_ NB163_168.out _; (with_reducible repeat (first | refine uF ?_ _ | refine uE ?_ | refine uD ?_ _)); refine blk_far ?_ NB163_168.out _; (with_reducible repeat (first | refine uF ?_ _ | refine uE ?_ | refine uD ?_ _)); refine blk_far ?_ NB163_168.out _; (with_reducible repeat (first | refine uF ?_ _ | refine uE ?_ | refine uD ?_ _)); refine blk_far ?_ NB163_168.out _; (with_reducible repeat (first | refine uF ?_ _ | refine uE ?_ | refine uD ?_ _)); exact BK163.out⟩, ⟨by (with_reducible repeat (first | refine uF ?_ _ | refine uE ?_ | refine uD ?_ _)); refine uZ (cs := #[.int .i64 ((rd_T97 l0_1 x5_2).f0), .int .i64 ((rd_T97 l0_1 x5_2).f1), .bool (false), .int .i64 0]) ?_ 3 _ rfl; (with_reducible repeat (first | refine uF ?_ _ | refine uE ?_ | refine uD ?_ _)); refine uZ (cs := #[.int .i64 ((rd_T97 l0_1 x5_2).f0), .int .i64 ((rd_T97 l0_1 x5_2).f1), .bool false, .int .i64 0]) ?_ 2 _ rfl; (with_reducible repeat (first | refine uF ?_ _ | refine uE ?_ | refine uD ?_ _)); refine uZ (cs := #[.int .i64 ((rd_T97 l0_1 x5_2).f0), .int .i64 0, .bool false, .int .i64 0]) ?_ 1 _ rfl; (with_reducible repeat (first | refine uF ?_ _ | refine uE ?_ | refine uD ?_ _)); refine uZ (cs := #[.int .i64 0, .int .i64 0, .bool false, .int .i64 0]) ?_ 0 _ rfl; (with_reducible repeat (first | refine uF ?_ _ | refine uE ?_ | refine uD ?_ _)); exact BK168.out⟩, ⟨cq2⟩⟩
     case rest =>
      clear HC16
      try clear c3
      try clear c7
      try clear c7b0
      try clear c14
      try clear c14b0
      try clear c15b0
      try clear hcz13_0
      try clear hcz13_1
      try clear hcz17_0
      try clear hcz17_1
      try clear hcz20_0
      try clear hcz20_1
      try clear hcz20_2
      try clear hcz20_3
      try clear hcz38_0
      try clear hcz38_1
      try clear hfz13_0
      try clear hfz13_1
      try clear hfz17_0
      try clear hfz17_1
      try clear hfz20_0
      try clear hfz20_1
      try clear hfz20_2
      try clear hfz20_3
      try clear hfz38_0
      try clear hfz38_1
      try clear hx167_0
      try clear hx167_1
      try clear hx167_2
      try clear hx167_3
      try clear p167
      try clear q167
      obtain ⟨kq, x7_15, rfl, HA, HJ15, BK163, BK168, HB⟩ := hcut
      cases kq with
      | zero => exact absurd HA.out (by simp [spec_FormatMachine.j2])
      | succ kj15 =>
       have H := HA.out
       clear HA
       simp only [spec_FormatMachine.j2] at H
       by_cases c23 : x3_2.size + 1 ≤ 9223372036854775807
       rotate_left
       ·rw [if_neg c23] at H
        exact absurd H (by simp)
       rw [if_pos c23] at H
       have c23b0 := eq_true c23
       have c23b1 := decide_eq_true c23
       try have c23b2 : (9223372036854775807 < x3_2.size + 1) = False := eq_false (Nat.not_lt.2 c23)
       replace H := Option.bind_eq_some_iff.mp H
       obtain ⟨t169, A240, H⟩ := H
       try dsimp only at H
       have A24 := Aside0.mk A240
       clear A240
       by_cases c25 : (x3_2 ++ (⟨#[32]⟩ : ByteArray)).size + t169.size ≤ 9223372036854775807
       rotate_left
       ·rw [if_neg c25] at H
        exact absurd H (by simp)
       rw [if_pos c25] at H
       have c25b0 := eq_true c25
       have c25b1 := decide_eq_true c25
       try have c25b2 : (9223372036854775807 < (x3_2 ++ (⟨#[32]⟩ : ByteArray)).size + t169.size) = False := eq_false (Nat.not_lt.2 c25)
       have c25b3 : (9223372036854775807 < x3_2.size + 1 + t169.size) = False := eq_false (Nat.not_lt.2 (by have z_ := c25; (repeat rw [ByteArray.size_append] at z_); exact z_))
       by_cases c26 : ((x3_2 ++ (⟨#[32]⟩ : ByteArray)) ++ t169).size + 1 ≤ 9223372036854775807
       rotate_left
       ·rw [if_neg c26] at H
        exact absurd H (by simp)
       rw [if_pos c26] at H
       have c26b0 := eq_true c26
       have c26b1 := decide_eq_true c26
       try have c26b2 : (9223372036854775807 < ((x3_2 ++ (⟨#[32]⟩ : ByteArray)) ++ t169).size + 1) = False := eq_false (Nat.not_lt.2 c26)
       have c26b3 : (9223372036854775807 < x3_2.size + 1 + t169.size + 1) = False := eq_false (Nat.not_lt.2 (by have z_ := c26; (repeat rw [ByteArray.size_append] at z_); exact z_))
       replace H := Option.bind_eq_some_iff.mp H
       obtain ⟨t170, A270, H⟩ := H
       try dsimp only at H
       have A27 := Aside0.mk A270
       clear A270
       by_cases c28 : (((x3_2 ++ (⟨#[32]⟩ : ByteArray)) ++ t169) ++ (⟨#[46]⟩ : ByteArray)).size + t170.size ≤ 9223372036854775807
       rotate_left
       ·rw [if_neg c28] at H
        exact absurd H (by simp)
       rw [if_pos c28] at H
       have c28b0 := eq_true c28
       have c28b1 := decide_eq_true c28
       try have c28b2 : (9223372036854775807 < (((x3_2 ++ (⟨#[32]⟩ : ByteArray)) ++ t169) ++ (⟨#[46]⟩ : ByteArray)).size + t170.size) = False := eq_false (Nat.not_lt.2 c28)
       have c28b3 : (9223372036854775807 < x3_2.size + 1 + t169.size + 1 + t170.size) = False := eq_false (Nat.not_lt.2 (by have z_ := c28; (repeat rw [ByteArray.size_append] at z_); exact z_))
       by_cases c29 : ((((x3_2 ++ (⟨#[32]⟩ : ByteArray)) ++ t169) ++ (⟨#[46]⟩ : ByteArray)) ++ t170).size + x7_15.size ≤ 9223372036854775807
       rotate_left
       ·rw [if_neg c29] at H
        exact absurd H (by simp)
       rw [if_pos c29] at H
       have c29b0 := eq_true c29
       have c29b1 := decide_eq_true c29
       try have c29b2 : (9223372036854775807 < ((((x3_2 ++ (⟨#[32]⟩ : ByteArray)) ++ t169) ++ (⟨#[46]⟩ : ByteArray)) ++ t170).size + x7_15.size) = False := eq_false (Nat.not_lt.2 c29)
       have c29b3 : (9223372036854775807 < x3_2.size + 1 + t169.size + 1 + t170.size + x7_15.size) = False := eq_false (Nat.not_lt.2 (by have z_ := c29; (repeat rw [ByteArray.size_append] at z_); exact z_))
       replace H := Option.bind_eq_some_iff.mp H
       obtain ⟨t171, A300, H⟩ := H
       try dsimp only at H
       have A30 := Aside0.mk A300
       clear A300
       by_cases c31 : (((((x3_2 ++ (⟨#[32]⟩ : ByteArray)) ++ t169) ++ (⟨#[46]⟩ : ByteArray)) ++ t170) ++ x7_15).size + t171.size ≤ 9223372036854775807
       rotate_left
       ·rw [if_neg c31] at H
        exact absurd H (by simp)
       rw [if_pos c31] at H
       have c31b0 := eq_true c31
       have c31b1 := decide_eq_true c31
       try have c31b2 : (9223372036854775807 < (((((x3_2 ++ (⟨#[32]⟩ : ByteArray)) ++ t169) ++ (⟨#[46]⟩ : ByteArray)) ++ t170) ++ x7_15).size + t171.size) = False := eq_false (Nat.not_lt.2 c31)
       have c31b3 : (9223372036854775807 < x3_2.size + 1 + t169.size + 1 + t170.size + x7_15.size + t171.size) = False := eq_false (Nat.not_lt.2 (by have z_ := c31; (repeat rw [ByteArray.size_append] at z_); exact z_))
       have H' := Aside0.mk H
       clear H
       try go_wp2
       replace BK163 := Aside0.mk (uE BK163.out)
       replace BK168 := Aside0.mk (uE BK168.out)
       replace HB := Aside0.mk (vL HB.out)
       refine start_ (n := 19) (S := fun w' => w'.cell? ⟨gb168, 0, none⟩ = some (.int .i64 ((rd_T97 l0_1 x5_2).f0)) ∧ w'.cell? ⟨gb168, 1, none⟩ = some (.int .i64 ((rd_T97 l0_1 x5_2).f1)) ∧ w'.cell? ⟨gb168, 2, none⟩ = some (.bool ((rd_T97 l0_1 x5_2).f2.f0)) ∧ w'.cell? ⟨gb168, 3, none⟩ = some (.int .i64 ((rd_T97 l0_1 x5_2).f2.f1))) (ds := []) #[false, false, false, false, false, false, false, false, false, false, false, false, false, false, false, false, false, false, false] (by kernel_rfl) rfl rfl ⟨(uC BK168.out 0).trans rfl, (uC BK168.out 1).trans rfl, (uC BK168.out 2).trans rfl, (uC BK168.out 3).trans rfl⟩ (fun hHeld => ?_); refine with_tabW spec_FormatMachine.tab15 spec_FormatMachine.bits15 (fun HT_ HW_ => ?_)
       generalize wc.drew = w32 at BK163 BK168 HB hHeld ⊢
       refine uM 0 (some 41) #[true, false, false, false, false, false, false, false, false, false, false, false, false, false, false, false, false, false, false] ?_
       refine uM 1 (some 42) #[true, true, false, false, false, false, false, false, false, false, false, false, false, false, false, false, false, false, false] ?_
       refine uM 2 (some 43) #[true, true, true, false, false, false, false, false, false, false, false, false, false, false, false, false, false, false, false] ?_
       refine uM 7 (some 48) #[true, true, true, false, false, false, false, true, false, false, false, false, false, false, false, false, false, false, false] ?_
       refine uM 11 (some 52) #[true, true, true, false, false, false, false, true, false, false, false, true, false, false, false, false, false, false, false] ?_
       refine uM 13 (some 54) #[true, true, true, false, false, false, false, true, false, false, false, true, false, true, false, false, false, false, false] ?_
       refine uM 14 (some 55) #[true, true, true, false, false, false, false, true, false, false, false, true, false, true, true, false, false, false, false] ?_
       refine takeT 3 (some 44) #[true, true, true, true, false, false, false, true, false, false, false, true, false, true, true, false, false, false, false] ?_
       refine takeT 8 (some 49) #[true, true, true, true, false, false, false, true, true, false, false, true, false, true, true, false, false, false, false] ?_
       refine takeT 15 (some 56) #[true, true, true, true, false, false, false, true, true, false, false, true, false, true, true, true, false, false, false] ?_
       refine oneT 4 (some 45) #[true, true, true, true, true, false, false, true, true, false, false, true, false, true, true, true, false, false, false] (fun K hK => ?_)
       refine goesT Tryd.func90 #[.int .i64 ((rd_T97 l0_1 x5_2).f0)] ?_
       with_reducible refine (spec_FormatInt.calls kj15 ((rd_T97 l0_1 x5_2).f0) t169 _ A24.out).mono ?_
       rintro e w33 ⟨rfl, hb⟩
       refine ⟨_, rfl, ?_⟩
       replace BK163 := vI BK163 hb
       replace BK168 := vI BK168 hb
       replace HB := uH HB hb
       (try clear hb)
       refine hK.out _ _ ⟨(uC BK168.out 0).trans rfl, (uC BK168.out 1).trans rfl, (uC BK168.out 2).trans rfl, (uC BK168.out 3).trans rfl⟩ (fun hHeld => ?_)
       clear hK K
       refine vH (some 45) ?_
       refine uM 5 (some 46) #[true, true, true, true, true, true, false, true, true, false, false, true, false, true, true, true, false, false, false] ?_
       refine uM 6 (some 47) #[true, true, true, true, true, true, true, true, true, false, false, true, false, true, true, true, false, false, false] ?_
       refine oneT 9 (some 50) #[true, true, true, true, true, true, true, true, true, true, false, true, false, true, true, true, false, false, false] (fun K hK => ?_)
       refine goesT Tryd.func90 #[.int .i64 ((rd_T97 l0_1 x5_2).f1)] ?_
       with_reducible refine (spec_FormatInt.calls kj15 ((rd_T97 l0_1 x5_2).f1) t170 _ A27.out).mono ?_
       rintro e w34 ⟨rfl, hb⟩
       refine ⟨_, rfl, ?_⟩
       replace BK163 := vI BK163 hb
       replace BK168 := vI BK168 hb
       replace HB := uH HB hb
       (try clear hb)
       refine hK.out _ _ ⟨(uC BK168.out 0).trans rfl, (uC BK168.out 1).trans rfl, (uC BK168.out 2).trans rfl, (uC BK168.out 3).trans rfl⟩ (fun hHeld => ?_)
       clear hK K
       refine vH (some 50) ?_
       refine uM 10 (some 51) #[true, true, true, true, true, true, true, true, true, true, true, true, false, true, true, true, false, false, false] ?_
       refine uM 12 (some 53) #[true, true, true, true, true, true, true, true, true, true, true, true, true, true, true, true, false, false, false] ?_
       refine oneT 16 (some 57) #[true, true, true, true, true, true, true, true, true, true, true, true, true, true, true, true, true, false, false] (fun K hK => ?_)
       refine goesT Tryd.func90 #[.int .i64 ((rd_T97 l0_1 x5_2).f2.f1)] ?_
       with_reducible refine (spec_FormatInt.calls kj15 ((rd_T97 l0_1 x5_2).f2.f1) t171 _ A30.out).mono ?_
       rintro e w35 ⟨rfl, hb⟩
       refine ⟨_, rfl, ?_⟩
       replace BK163 := vI BK163 hb
       replace BK168 := vI BK168 hb
       replace HB := uH HB hb
       (try clear hb)
       refine hK.out _ _ ⟨(uC BK168.out 0).trans rfl, (uC BK168.out 1).trans rfl, (uC BK168.out 2).trans rfl, (uC BK168.out 3).trans rfl⟩ (fun hHeld => ?_)
       clear hK K
       refine vH (some 57) ?_
       refine uM 17 (some 58) #[true, true, true, true, true, true, true, true, true, true, true, true, true, true, true, true, true, true, false] ?_
       refine uM 18 (some 3) #[true, true, true, true, true, true, true, true, true, true, true, true, true, true, true, true, true, true, true] ?_
       refine done_ (done_of HT_.out (by kernel_rfl)) ?_
       try go_wp2
       go_roundg kj15
       case measure => have := HK1.out; have := HK2.out; have := HJ15.out; omega
       case rel => exact ⟨((((((x3_2 ++ (⟨#[32]⟩ : ByteArray)) ++ t169) ++ (⟨#[46]⟩ : ByteArray)) ++ t170) ++ x7_15) ++ t171), (wrap64 (x5_2 + 1)), vD, vD, H', ⟨by have := HK1.out; have := HK2.out; have := HJ15.out; omega⟩, ⟨cq95⟩, ⟨cq2⟩⟩

/-! ### spec_l7Good: function 97 -/
def spec_l7Good.f (k : Nat) (a0_0 : Int) (a0_1 : Int) (l0_2 : List Int) (l0_3 : List (S97)) : Option (Bool) := (spec_l1In.f a0_0 0 16).bind fun t173 => (if t173 = true then ((spec_l1In.f a0_1 0 9972).bind fun t174 => (if t174 = true then ((spec_IsValidMachine.f k l0_2 l0_3).bind fun t175 => (some t175)) else (some false))) else (some false))
theorem spec_l7Good.mono : ∀ a0 a1 a2 a3 k, uA (spec_l7Good.f k a0 a1 a2 a3) (spec_l7Good.f (k + 1) a0 a1 a2 a3) := by
 intro a0 a1 a2 a3 k
 unfold spec_l7Good.f
 repeat' first
   | (with_reducible exact spec_IsValidMachine.mono _ _ _)
   | (with_reducible exact uA.refl _)
   | (with_reducible exact uA.none _)
   | (with_reducible refine uA.vA ?_ ?_)
   | (with_reducible refine uA.bind ?_ (fun _ => ?_))
   | exact uA.none _
   | refine uA.vA ?_ ?_
   | refine uA.bind ?_ (fun _ => ?_)
set_option maxHeartbeats 8000000 in
set_option maxRecDepth 100000 in
theorem spec_l7Good.calls (k : Nat) (a0_0 : Int) (a0_1 : Int) (A0_2 : Option Addr) (c0_2 : Nat) (l0_2 : List Int) (A0_3 : Option Addr) (c0_3 : Nat) (l0_3 : List (S97)) (r : Bool) (w : World) (hr0_2 : Kd.C (Kd.int .i64) w A0_2 l0_2.length l0_2) (hc0_2 : l0_2.length ≤ c0_2) (hr0_3 : Kd.C k97 w A0_3 l0_3.length l0_3) (hc0_3 : l0_3.length ≤ c0_3) (h : spec_l7Good.f k a0_0 a0_1 l0_2 l0_3 = some r) :
  Calls Tryd.prog 97 #[.agg #[.int .i64 a0_0, .int .i64 a0_1, .slice A0_2 l0_2.length c0_2, .slice A0_3 l0_3.length c0_3]] w fun e w' => e = .returned (.bool r) ∧ Below w.heap.size w w' := by
 have hu83 := Tryd.underlying83
 have hu56 := Tryd.underlying56
 have HR0_2 := Aside0.mk hr0_2
 have HC0_2 := Aside0.mk hc0_2
 clear hr0_2 hc0_2
 have HR0_3 := Aside0.mk hr0_3
 have HC0_3 := Aside0.mk hc0_3
 clear hr0_3 hc0_3
 have HB := Aside0.mk (Below.refl w.heap.size w)
 have H : ((spec_l1In.f a0_0 0 16).bind fun t173 => (if t173 = true then ((spec_l1In.f a0_1 0 9972).bind fun t174 => (if t174 = true then ((spec_IsValidMachine.f k l0_2 l0_3).bind fun t175 => (some t175)) else (some false))) else (some false))) = some r := h
 clear h
 replace H := Option.bind_eq_some_iff.mp H
 obtain ⟨t173, A20, H⟩ := H
 try dsimp only at H
 have A2 := Aside0.mk A20
 clear A20
 go_enter Tryd.func97, Tryd.ntmps97
 go_wp2_with (first | ((with_reducible refine uQ (N := 1) rfl ?_); refine bxe 1 #[.int .i64 a0_0, .int .i64 a0_1, .slice A0_2 l0_2.length c0_2, .slice A0_3 l0_3.length c0_3] 83 ?_; intro gb172 hg w12 hbox hb; have BK172 := Aside0.mk (hbox); have GW172 := tGe HB hg; have GE172 := tGe HB hg; replace HB := uH HB hb; clear hb hbox hg; obtain ⟨hcz13_0, hcz13_1, hcz13_2, hcz13_3, hfz13_0, hfz13_1, hfz13_2, hfz13_3⟩ := cz4 BK172; refine ?roundEnd))
 case roundEnd =>
 by_cases c3 : t173 = true
 rotate_left
 ·replace c3 := Bool.eq_false_iff.mpr c3
  subst c3
  try rw [if_neg (show ¬ (false = true) by decide)] at H
  obtain rfl := Option.some.inj H
  go_wp2_with (first | ((with_reducible refine uB (f := 48) rfl ?_); refine uL (some 5) Tryd.func48 #[.int .i64 a0_0, .int .i64 0, .int .i64 16] ?_; (with_reducible refine (spec_l1In.calls a0_0 0 16 false _ A2.out).mono ?_); rintro e w' ⟨rfl, ⟨nd, rfl⟩⟩; refine ⟨_, rfl, ?_⟩))
  go_ret
  exact ⟨cq5, cq2⟩
 subst c3
 try rw [if_pos rfl] at H
 replace H := Option.bind_eq_some_iff.mp H
 obtain ⟨t174, A40, H⟩ := H
 try dsimp only at H
 have A4 := Aside0.mk A40
 clear A40
 go_wp2_with (first | ((with_reducible refine uB (f := 48) rfl ?_); refine uL (some 5) Tryd.func48 #[.int .i64 a0_0, .int .i64 0, .int .i64 16] ?_; (with_reducible refine (spec_l1In.calls a0_0 0 16 true _ A2.out).mono ?_); rintro e w' ⟨rfl, ⟨nd, rfl⟩⟩; refine ⟨_, rfl, ?_⟩; refine ?roundEnd))
 case roundEnd =>
 by_cases c5 : t174 = true
 rotate_left
 ·replace c5 := Bool.eq_false_iff.mpr c5
  subst c5
  try rw [if_neg (show ¬ (false = true) by decide)] at H
  obtain rfl := Option.some.inj H
  go_wp2_with (first | (go_at_call 48; (with_reducible refine (spec_l1In.calls a0_1 0 9972 false _ A4.out).mono ?_); rintro e w' ⟨rfl, ⟨nd, rfl⟩⟩))
  go_ret
  exact ⟨cq5, cq2⟩
 subst c5
 try rw [if_pos rfl] at H
 replace H := Option.bind_eq_some_iff.mp H
 obtain ⟨t175, A60, H⟩ := H
 try dsimp only at H
 have A6 := Aside0.mk A60
 clear A60
 obtain rfl := Option.some.inj H
 go_wp2_with (first | (go_at_call 48; (with_reducible refine (spec_l1In.calls a0_1 0 9972 true _ A4.out).mono ?_); rintro e w' ⟨rfl, ⟨nd, rfl⟩⟩) | (go_at_call 105; (with_reducible refine (spec_IsValidMachine.calls k _ _ l0_2 _ _ l0_3 t175 _ ?side1 ?side2 ?side3 ?side4 A6.out).mono ?_); (case side1 => repeat (first | exact (Kd.vT HR0_2.out cq2) | (with_reducible refine Kd.C_alloc ?_ _) | (with_reducible refine Kd.C_drewN ?_ _) | (with_reducible refine Kd.C_drew ?_))); (case side2 => exact HC0_2.out); (case side3 => repeat (first | exact (Kd.vT HR0_3.out cq2) | (with_reducible refine Kd.C_alloc ?_ _) | (with_reducible refine Kd.C_drewN ?_ _) | (with_reducible refine Kd.C_drew ?_))); (case side4 => exact HC0_3.out); rintro e w9 ⟨rfl, hb⟩; replace BK172 := vI BK172 hb; replace HB := uH HB hb; (try clear hb)))
 go_ret
 exact ⟨cq5, cq2⟩

end Go.Proofs.YtcikahnmiiichaaDoor.K
