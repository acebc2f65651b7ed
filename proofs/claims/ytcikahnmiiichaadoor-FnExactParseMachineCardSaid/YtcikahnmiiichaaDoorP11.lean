/- Go functions as Lean functions, and the proof that the code comes to them: written by a program of this session out of the translation. -/
import Derived.Test.YtcikahnmiiichaaDoorP0
import Derived.Test.YtcikahnmiiichaaDoorP7
import Derived.Test.YtcikahnmiiichaaDoorP8
import Derived.Test.YtcikahnmiiichaaDoorP10
namespace Go.Proofs.YtcikahnmiiichaaDoor.P
open List renaming setIfInBounds_toArray → uZ, set_cons_zero → vA, set_cons_succ → vB
open Go.World renaming block_lt_of_cell? → vF
open Go.Proofs.YtcikahnmiiichaaDoor.Given
open Go.RowKit Go.Proofs.YtcikahnmiiichaaDoorW.PrintWords Go.Proofs.YtcikahnmiiichaaDoorW.PrintLast Go.Proofs.YtcikahnmiiichaaDoorW.PrintMore
attribute [local go_sem] max2_int min2_int max_two min_two max_three min_three max_four min_four   -- for this text's walks alone
set_option linter.unusedVariables false
set_option linter.unusedSimpArgs false

/-! ### impl_ParseMachine: function 38 -/
mutual
def impl_ParseMachine.l0 : Nat → ByteArray → List ByteArray → Int → Int → List Int → Option (List Int × (List (S97)) × Bool)
 | 0, _, _, _, _, _ => none
 | k + 1, x0, x4, x19, x20, x198000 => if x20 < x19 then (if 0 < (x4.length : Int) then (if 0 ≤ x20 then (if x20 < ((rdOf ByteArray.empty x4 0).size : Int) then (if x198000.length < 17592186044416 then (impl_ParseMachine.l0 k x0 x4 x19 (wrap64 (x20 + 1)) (x198000 ++ [wrap64 ((wrap64 (bt (rdOf ByteArray.empty x4 0) x20)) - 48)])) else (none)) else (none)) else (none)) else (none)) else (if 1 ≤ (x4.length : Int) then ((some (x4.drop 1 : List ByteArray)).bind fun y203 => (impl_ParseMachine.l1 k x0 y203 (y203.length : Int) 0 x198000 ([] : List (S97)))) else (none))
def impl_ParseMachine.l1 : Nat → ByteArray → List ByteArray → Int → Int → List Int → List (S97) → Option (List Int × (List (S97)) × Bool)
 | 0, _, _, _, _, _, _ => none
 | k + 1, x0, x37, x38, x39, x198000, x198001 => if x39 < x38 then (if 0 ≤ x39 then (if x39 < (x37.length : Int) then ((strings_Cut.f (rdOf ByteArray.empty x37 x39) (⟨#[46]⟩ : ByteArray)).bind fun bt208 => ((strings_IndexAny.f bt208.2.1 (⟨#[43, 45]⟩ : ByteArray)).bind fun t211 => (if t211 < 0 then (some (([] : List Int), ([] : List (S97)), false)) else ((impl_number.f k bt208.1).bind fun t212 => (if 0 ≤ t211 then (if t211 ≤ (bt208.2.1.size : Int) then ((impl_number.f k (bt208.2.1.extract 0 (t211 : Int).toNat)).bind fun t213 => (if t211 < (bt208.2.1.size : Int) then (if 0 ≤ (wrap64 (t211 + 1)) then (if (wrap64 (t211 + 1)) ≤ (bt208.2.1.size : Int) then ((impl_number.f k (bt208.2.1.extract ((wrap64 (t211 + 1)) : Int).toNat bt208.2.1.size)).bind fun t214 => (if x198001.length < 4398046511104 then (impl_ParseMachine.l1 k x0 x37 x38 (wrap64 (x39 + 1)) x198000 (x198001 ++ [(⟨t212, t213, (⟨((bt bt208.2.1 t211) == 43), t214⟩ : S95)⟩ : S97)])) else (none))) else (none)) else (none)) else (none))) else (none)) else (none)))))) else (none)) else (none)) else (if x0.toList = ([] : List UInt8) then (some (([] : List Int), ([] : List (S97)), false)) else ((impl_FormatMachine.f k x198000 x198001).bind fun t218 => (if t218.toList = x0.toList then (some (x198000, x198001, true)) else (some (([] : List Int), ([] : List (S97)), false)))))
end
def impl_ParseMachine.f (k : Nat) (a0 : ByteArray) : Option (List Int × (List (S97)) × Bool) := (strings_Split.f k a0 (⟨#[32]⟩ : ByteArray)).bind fun t194 => (if 0 < (t194.length : Int) then (impl_ParseMachine.l0 k a0 t194 ((rdOf ByteArray.empty t194 0).size : Int) 0 ([] : List Int)) else (none))
theorem impl_ParseMachine.mono_l : ∀ k, (∀ y0 y1 y2 y3 y4, uA (impl_ParseMachine.l0 k y0 y1 y2 y3 y4) (impl_ParseMachine.l0 (k + 1) y0 y1 y2 y3 y4)) ∧ (∀ y0 y1 y2 y3 y4 y5, uA (impl_ParseMachine.l1 k y0 y1 y2 y3 y4 y5) (impl_ParseMachine.l1 (k + 1) y0 y1 y2 y3 y4 y5))
 | 0 => ⟨fun _ _ _ _ _ r h => by simp [impl_ParseMachine.l0] at h, fun _ _ _ _ _ _ r h => by simp [impl_ParseMachine.l1] at h⟩
 | k + 1 => by
  obtain ⟨ih0, ih1⟩ := impl_ParseMachine.mono_l k
  refine ⟨?_, ?_⟩
  ·intro y0 y1 y2 y3 y4
   unfold impl_ParseMachine.l0
   repeat' first
   | (with_reducible exact ih0 _ _ _ _ _)
   | (with_reducible exact ih1 _ _ _ _ _ _)
   | (with_reducible exact impl_FormatMachine.mono _ _ _)
   | (with_reducible exact impl_number.mono _ _)
   | (with_reducible exact strings_Split.mono _ _ _)
   | (with_reducible exact uA.refl _)
   | (with_reducible exact uA.none _)
   | (with_reducible refine uA.ite ?_ ?_)
   | (with_reducible refine uA.bind ?_ (fun _ => ?_))
   | exact ih0 _ _ _ _ _
   | exact ih1 _ _ _ _ _ _
   | exact uA.none _
   | refine uA.ite ?_ ?_
   | refine uA.bind ?_ (fun _ => ?_)
  intro y0 y1 y2 y3 y4 y5
  unfold impl_ParseMachine.l1
  repeat' first
  | (with_reducible exact ih0 _ _ _ _ _)
  | (with_reducible exact ih1 _ _ _ _ _ _)
  | (with_reducible exact impl_FormatMachine.mono _ _ _)
  | (with_reducible exact impl_number.mono _ _)
  | (with_reducible exact strings_Split.mono _ _ _)
  | (with_reducible exact uA.refl _)
  | (with_reducible exact uA.none _)
  | (with_reducible refine uA.ite ?_ ?_)
  | (with_reducible refine uA.bind ?_ (fun _ => ?_))
  | exact ih0 _ _ _ _ _
  | exact ih1 _ _ _ _ _ _
  | exact uA.none _
  | refine uA.ite ?_ ?_
  | refine uA.bind ?_ (fun _ => ?_)
theorem impl_ParseMachine.mono : ∀ a0 k, uA (impl_ParseMachine.f k a0) (impl_ParseMachine.f (k + 1) a0) := by
 intro a0 k
 obtain ⟨ih0, ih1⟩ := impl_ParseMachine.mono_l k
 unfold impl_ParseMachine.f
 repeat' first
   | (with_reducible exact ih0 _ _ _ _ _)
   | (with_reducible exact ih1 _ _ _ _ _ _)
   | (with_reducible exact impl_FormatMachine.mono _ _ _)
   | (with_reducible exact impl_number.mono _ _)
   | (with_reducible exact strings_Split.mono _ _ _)
   | (with_reducible exact uA.refl _)
   | (with_reducible exact uA.none _)
   | (with_reducible refine uA.ite ?_ ?_)
   | (with_reducible refine uA.bind ?_ (fun _ => ?_))
   | exact ih0 _ _ _ _ _
   | exact ih1 _ _ _ _ _ _
   | exact uA.none _
   | refine uA.ite ?_ ?_
   | refine uA.bind ?_ (fun _ => ?_)
def impl_ParseMachine.T5 : Bool × List (List Nat × List Nat) := (true, [([], []), ([0], [0]), ([], []), ([2], [2]), ([3], [3]), ([], []), ([4, 5], [4, 5]), ([6], [6]), ([7], [7]), ([8], [8]), ([1, 9], [1, 9]), ([0, 1, 2, 3, 4, 5, 6, 7, 8, 9, 10], []), ([11, 10, 10, 0, 1, 2, 3, 4, 5, 6, 7, 8, 9, 10], [10, 11])])
def impl_ParseMachine.B5 : List Nat := [0, 1, 0, 4, 12, 0, 60, 124, 252, 508, 1023, 2047, 4095]
theorem impl_ParseMachine.tab5 : rtab .any (opsOf Tryd.f38 5) = impl_ParseMachine.T5 := by kernel_rfl
theorem impl_ParseMachine.bits5 : waitsOk impl_ParseMachine.T5.2 impl_ParseMachine.B5 = true := by kernel_rfl
def impl_ParseMachine.T14 : Bool × List (List Nat × List Nat) := (true, [([], []), ([0], [0]), ([], []), ([2], [2]), ([], []), ([], []), ([4, 5], [4, 5]), ([6, 3], [6]), ([], []), ([], []), ([8, 9], [8, 9]), ([10], [10]), ([], []), ([], []), ([13], [13]), ([12, 14], [12, 14]), ([15, 7], [15]), ([11, 16], [11, 16]), ([3, 7, 17], [3, 7, 17]), ([18], [18]), ([1, 19, 16], [1, 19]), ([0, 1, 2, 3, 4, 5, 6, 7, 8, 9, 10, 11, 12, 13, 14, 15, 16, 17, 18, 19, 20], []), ([21, 20, 20, 0, 1, 2, 3, 4, 5, 6, 7, 8, 9, 10, 11, 12, 13, 14, 15, 16, 17, 18, 19, 20], [20, 21])])
def impl_ParseMachine.B14 : List Nat := [0, 1, 0, 4, 0, 0, 48, 124, 0, 0, 768, 1792, 0, 0, 8192, 28672, 61692, 131068, 262140, 524284, 1048575, 2097151, 4194303]
theorem impl_ParseMachine.tab14 : rtab .any (opsOf Tryd.f38 14) = impl_ParseMachine.T14 := by kernel_rfl
theorem impl_ParseMachine.bits14 : waitsOk impl_ParseMachine.T14.2 impl_ParseMachine.B14 = true := by kernel_rfl
set_option maxHeartbeats 8000000 in
set_option maxRecDepth 100000 in
theorem impl_ParseMachine.calls (k : Nat) (a0 : ByteArray) (r1 : List Int) (r2 : List (S97)) (r3 : Bool) (w : World) (hWF : WF w) (h : impl_ParseMachine.f k a0 = some (r1, r2, r3)) :
  Calls Tryd.prog 38 #[.string a0] w fun e w' => ∃ v0_ v1_ : Value, e = .returned (.tuple #[.agg #[v0_, v1_], .bool r3]) ∧ Kd.R (Kd.int .i64) 3 w' w.heap.size (fun _ => True) v0_ r1 ∧ Kd.R k97 97 w' w.heap.size (fun _ => True) v1_ r2 ∧ Below w.heap.size w w' := by
 have hu56 := Tryd.underlying56
 have hu95 := Tryd.underlying95
 have hu97 := Tryd.underlying97
 have HB := Aside0.mk (Below.refl w.heap.size w)
 have H : ((strings_Split.f k a0 (⟨#[32]⟩ : ByteArray)).bind fun t194 => (if 0 < (t194.length : Int) then (impl_ParseMachine.l0 k a0 t194 ((rdOf ByteArray.empty t194 0).size : Int) 0 ([] : List Int)) else (none))) = some (r1, r2, r3) := h
 clear h
 replace H := Option.bind_eq_some_iff.mp H
 obtain ⟨t194, A20, H⟩ := H
 try dsimp only at H
 have A2 := Aside0.mk A20
 clear A20
 by_cases c3 : 0 < (t194.length : Int)
 rotate_left
 ·rw [if_neg c3] at H
  exact absurd H (by simp)
 rw [if_pos c3] at H
 have c3b0 := decide_eq_true c3
 have c3b1 : decide (0 < t194.length) = true := decide_eq_true (by omega)
 clear c3
 have H' := Aside0.mk H
 clear H
 go_enter Tryd.func38, Tryd.ntmps38
 go_wp2_with (first | ((with_reducible refine uU (N := 2) rfl ?_); refine bxe 2 #[.slice none 0 0, .slice none 0 0] 56 ?_; intro gb193 hg w4 hbox hb; have BK193 := Aside0.mk (hbox); have GW193 := tGe HB hg; have GE193 := tGe HB hg; replace HB := uP HB hb; clear hb hbox hg) | ((with_reducible refine uI (f := 69) rfl ?_); refine goesM (some 14) Tryd.func69 #[.string a0, .string (⟨#[32]⟩ : ByteArray)] ?_; (with_reducible refine (strings_Split.calls k a0 (⟨#[32]⟩ : ByteArray) t194 _ A2.out).mono ?_); rintro e w5 ⟨v195, rfl, ho0, hb⟩; refine ⟨_, rfl, ?_⟩; have HO196 := Aside0.mk (Kd.R_lower ho0 (uY cq0)); replace BK193 := tBlk BK193 hb; replace HB := uP HB hb; (try clear hb); (try clear ho0)) | ((with_reducible refine uU (N := 5) rfl ?_); refine bxe 5 #[.slice none 0 0, .slice none 0 0] 56 ?_; intro gb197 hg w6 hbox hb; have BK197 := Aside0.mk (hbox); have GW197 := tGe HB hg; have GE197 := tGe HB hg; have NB193_197 := tNl BK193 hg; have NB197_193 := tNg BK193 hg; replace HO196 := Kd.tR HO196 hb; replace BK193 := tBlk BK193 hb; replace HB := uP HB hb; clear hb hbox hg; have hnb7 := NB197_193.out; have hnc7 := NB193_197.out; obtain ⟨hcz8_0, hcz8_1, hfz8_0, hfz8_1⟩ := cz2 BK197; obtain ⟨Ao9, co9, eo9⟩ := Kd.R_slice HO196.out; subst eo9; have p198 : 0 ≤ (0 : Int) := (by omega); have q198 : 0 < (t194.length : Int) := of_decide_eq_true uJ; obtain ⟨ad198, e198, hx198_0⟩ := Kd.at_string (Kd.uH HO196.out).2.2 0 p198 q198; cases e198; have qi198 : (0 < t194.length) = True := eq_true (by omega); (try rw [show ((0 : Int)).toNat = 0 from rfl] at hx198_0); (try rw [Addr.add_zero'] at hx198_0); have hn198_0 : ad198.block ≠ gb197 := Kd.own_blk (Kd.R_ne HO196.out BK197.out (by decide)); have hn198_1 : ad198.block ≠ gb197 := Kd.own_blk (Kd.R_ne HO196.out BK197.out (by decide)); replace hx198_0 := (cell_far (p := ⟨gb197, 0, none⟩) (by first | (rw [add_block]; exact hn198_0) | (show (Addr.add _ _).block ≠ _; rw [add_block]; exact hn198_0) | exact hn198_0) (.slice none 0 0)).trans hx198_0; replace hx198_0 := (cell_far (p := ⟨gb197, 1, none⟩) (by first | (rw [add_block]; exact hn198_1) | (show (Addr.add _ _).block ≠ _; rw [add_block]; exact hn198_1) | exact hn198_1) (.slice none 0 0)).trans hx198_0; clear hn198_0; clear hn198_1; replace p198 := eq_true p198; replace q198 := eq_true q198))
 go_loopg [20] k (fun kq v20 w' => ∃ (x20_1 : Int) (x198000_1 : List Int) (u198000 : Value), v20 = .int .i64 x20_1 ∧ Aside0 (impl_ParseMachine.l0 kq a0 t194 ((rdOf ByteArray.empty t194 0).size : Int) x20_1 x198000_1 = some (r1, r2, r3)) ∧ Aside0 (kq ≤ k) ∧ Aside0 (Kd.R Kd.string 9 w' w.heap.size (fun _ => True) (.slice (some ad198) t194.length co9) t194) ∧ Aside0 (Kd.R (Kd.int .i64) 3 w' w.heap.size (fun _ => True) u198000 x198000_1) ∧ Aside0 (w'.heap[gb193]? = some (.cells #[(.slice none 0 0), (.slice none 0 0)] 56 (0, 0))) ∧ Aside0 (w'.heap[gb197]? = some (.cells #[u198000, (.slice none 0 0)] 56 (0, 0))) ∧ Aside0 (Below w.heap.size w w'))
 case atStart => exact ⟨(0), (([] : List Int)), (.slice none 0 0), cq3, H', ⟨Nat.le_refl _⟩, ⟨by (with_reducible repeat (first | apply Kd.uL | apply Kd.uK | apply Kd.uM)); exact Kd.uS (Kd.uV (p := ⟨gb197, 1, none⟩) (Kd.uV (p := ⟨gb197, 0, none⟩) (Kd.R_types HO196.out BK197.out (by decide)) (fun _ hk => hk.2) (.slice none 0 0)) (fun _ hk => hk.2) (.slice none 0 0)) (fun _ hk => trivial)⟩, ⟨cq6⟩, ⟨by (with_reducible repeat (first | refine uC ?_ _ | refine uD ?_ | refine uB ?_ _)); refine uT ?_ NB193_197.out _; (with_reducible repeat (first | refine uC ?_ _ | refine uD ?_ | refine uB ?_ _)); refine uT ?_ NB193_197.out _; (with_reducible repeat (first | refine uC ?_ _ | refine uD ?_ | refine uB ?_ _)); exact BK193.out⟩, ⟨by (with_reducible repeat (first | refine uC ?_ _ | refine uD ?_ | refine uB ?_ _)); refine uO (cs := #[.slice none 0 0, .slice none 0 0]) ?_ 1 _ rfl; (with_reducible repeat (first | refine uC ?_ _ | refine uD ?_ | refine uB ?_ _)); refine uO (cs := #[.slice none 0 0, .slice none 0 0]) ?_ 0 _ rfl; (with_reducible repeat (first | refine uC ?_ _ | refine uD ?_ | refine uB ?_ _)); exact BK197.out⟩, ⟨cq0⟩⟩
 case round =>
  clear H'
  try clear c3
  try clear c3b0
  try clear c3b1
  try clear hcz8_0
  try clear hcz8_1
  try clear hfz8_0
  try clear hfz8_1
  try clear hx198_0
  try clear p198
  try clear q198
  obtain ⟨x20_1, x198000_1, u198000, rfl, HA, HK1, HO_4, HO_198000, BK193, BK197, HB⟩ := hrel
  cases gk with
  | zero => exact absurd HA.out (by simp [impl_ParseMachine.l0])
  | succ k1 =>
   have H := HA.out
   clear HA
   simp only [impl_ParseMachine.l0] at H
   by_cases c10 : x20_1 < ((rdOf ByteArray.empty t194 0).size : Int)
   ·rw [if_pos c10] at H
    have c10b0 := decide_eq_true c10
    clear c10
    by_cases c11 : 0 < (t194.length : Int)
    rotate_left
    ·rw [if_neg c11] at H
     exact absurd H (by simp)
    rw [if_pos c11] at H
    have c11b0 := decide_eq_true c11
    have c11b1 : decide (0 < t194.length) = true := decide_eq_true (by omega)
    clear c11
    obtain ⟨c12b0, H⟩ := ifD H
    obtain ⟨c13b0, H⟩ := ifD H
    obtain ⟨LMc15, H⟩ := ifL H
    obtain ⟨y200, hy200⟩ : ∃ y_ : List Int, y_ = (x198000_1 ++ [wrap64 ((wrap64 (bt (rdOf ByteArray.empty t194 0) x20_1)) - 48)]) := ⟨_, rfl⟩
    replace H : (impl_ParseMachine.l0 k1 a0 t194 ((rdOf ByteArray.empty t194 0).size : Int) (wrap64 (x20_1 + 1)) y200) = some (r1, r2, r3) := rpl hy200 H
    have Ny200 := Aside0.mk hy200
    clear hy200
    have H' := Aside0.mk H
    clear H
    try go_wp2
    replace HO_4 := Aside0.mk (Kd.uM HO_4.out)
    replace HO_198000 := Aside0.mk (Kd.uM HO_198000.out)
    replace BK193 := Aside0.mk (uD BK193.out)
    replace BK197 := Aside0.mk (uD BK197.out)
    replace HB := Aside0.mk (uW HB.out)
    have p199 : 0 ≤ (0 : Int) := (by omega)
    have q199 : 0 < (t194.length : Int) := of_decide_eq_true uJ
    obtain ⟨ad199, e199, hx199_0⟩ := Kd.at_string (Kd.uH HO_4.out).2.2 0 p199 q199
    obtain rfl : ad198 = ad199 := (by injection e199)
    have qi199 : (0 < t194.length) = True := eq_true (by omega)
    (try rw [show ((0 : Int)).toNat = 0 from rfl] at hx199_0)
    (try rw [Addr.add_zero'] at hx199_0)
    replace p199 := eq_true p199
    replace q199 := eq_true q199
    have p14 : 0 ≤ (x20_1 : Int) := of_decide_eq_true uJ
    have q14 : x20_1 < ((rdOf ByteArray.empty t194 0).size : Int) := of_decide_eq_true uJ
    have hx14 := bt_at (rdOf ByteArray.empty t194 0) x20_1
    replace p14 := eq_true p14
    replace q14 := eq_true q14
    refine start_ (n := 13) (S := fun w' => w'.cell? ⟨gb197, 0, none⟩ = some (u198000) ∧ w'.cell? ⟨gb197, 1, none⟩ = some (.slice none 0 0) ∧ w'.cell? ad198 = some (.string (rdOf ByteArray.empty t194 0))) (ds := [10, 12]) tb7 (by kernel_rfl) rfl rfl ⟨(uE BK197.out 0).trans rfl, (uE BK197.out 1).trans rfl, hx199_0⟩ (fun hHeld => ?_); refine with_tabW impl_ParseMachine.tab5 impl_ParseMachine.bits5 (fun HT_ HW_ => ?_)
    generalize wr.drew = w16 at HO_4 HO_198000 BK193 BK197 HB hx199_0 hHeld ⊢
    refine uN 0 (some 23) tb8 ?_
    refine uN 2 (some 25) tb9 ?_
    refine uN 3 (some 26) tb10 ?_
    refine uN 5 (some 28) tb11 ?_
    refine takeT 1 (some 24) tb12 ?_
    refine takeT 4 (some 27) tb13 ?_
    refine takeT 6 (some 29) tb14 ?_
    refine uN 7 (some 30) tb15 ?_
    refine uN 8 (some 31) tb16 ?_
    refine oneT 9 (some 32) tb17 (fun K hK => ?_)
    refine value_ (w1 := ?_) (v := ?_) (by rfl) rfl ?_ ?_
    rotate_left 2
    ·go_simp
     constructor
     ·rfl
     rfl
    refine hK.out _ _ ⟨(uE (uB BK197.out _) 0).trans rfl, (uE (uB BK197.out _) 1).trans rfl, (World.cell?_alloc_lt _ _ _ (vF _ _ (hHeld.2.2))).trans (hHeld.2.2)⟩ (fun hHeld => ?_)
    clear hK K
    refine normT (some 32) ?_
    refine last_ (i := 10) (N := some 33) tb18 rfl rfl (one_of HT_.out (by kernel_rfl)) (by decide) (fun K hK => ?_)
    refine Kd.R_append_step (Kd.int .i64) (w0 := w) w.heap.size (by rfl) (.tmp 24) (.tmp 32) 27 3 (.int .i64 0) 8 rfl Tryd.underlying27 info3 rfl (by decide) (by omega) u198000 x198000_1 (wrap64 ((wrap64 (bt (rdOf ByteArray.empty t194 0) x20_1)) - 48)) [.int .i64 (wrap64 ((wrap64 (bt (rdOf ByteArray.empty t194 0) x20_1)) - 48))] (fun _ => True) (fun _ => False) rfl rfl ?aP (fun _ hk => hk.elim) ?aF ?aO ?aB ?aS ?aL ?_
    (case aP => exact rfl)
    (case aB => exact cq41)
    (case aF => exact (fun _ _ => trivial))
    (case aO => exact (rSR HO_198000.out))
    (case aS => exact cq40)
    (case aL => have := LMc15.out; omega)
    intro v201 w17 ho hb hg hat
    rw [← Ny200.out] at ho
    have n0_ := Aside0.mk (Kd.R_over' (rSR HO_4.out) (Kd.R_typed (rSR HO_198000.out)) (by decide) hg)
    have n1_ := tGr BK193 hg (Kd.R_ne HO_198000.out BK193.out (by decide))
    have n2_ := tGr BK197 hg (Kd.R_ne HO_198000.out BK197.out (by decide))
    have n3_ := Aside0.mk (hb)
    have n4_ := Aside0.mk (ho)
    clear HO_4
    clear BK193
    clear BK197
    clear HB
    clear HO_198000
    have HO_4 := n0_
    have BK193 := n1_
    have BK197 := n2_
    have HB := n3_
    have HO202 := n4_
    clear n0_ n1_ n2_ n3_ n4_
    clear ho hb hg hat
    obtain ⟨Ao18, co18, eo18⟩ := Kd.R_slice HO202.out
    (first | subst eo18 | (injection eo18 with f1_ f2_ f3_; have f4_ := f1_.symm; have f5_ := f3_.symm; clear f1_ f2_ f3_; subst f4_; subst f5_))
    refine hK.out _ _ ?_
    clear hK K
    refine normT (some 33) ?_
    refine uN 11 (some 34) tb21 ?_
    refine last_ (i := 12) (N := none) tb24 rfl rfl (one_of HT_.out (by kernel_rfl)) (by decide) (fun K hK => ?_)
    have hs19 : w17.cell? ⟨gb197, 0, none⟩ = some (u198000) := (uE BK197.out 0).trans rfl
    have hfs19 := uX BK197.out 0
    have hns19_0 := NB193_197.out
    have hms19_0 := NB197_193.out
    refine skip_ (w1 := ?_) (by rfl) rfl ?_ ?_
    rotate_left
    ·go_simp
     rfl
    refine hK.out _ _ ?_
    clear hK K
    refine done_ (done_of HT_.out (by kernel_rfl)) ?_
    try go_wp2
    go_roundg k1
    case measure => have := HK1.out; omega
    case rel => exact ⟨(wrap64 (x20_1 + 1)), (y200), (.slice Ao18 y200.length co18), cq3, H', ⟨by have := HK1.out; omega⟩, ⟨by (with_reducible repeat (first | apply Kd.uL | apply Kd.uK | apply Kd.uM)); exact Kd.uS (Kd.uV (p := ⟨gb197, 0, none⟩) (Kd.R_types HO_4.out BK197.out (by decide)) (fun _ hk => hk.2) (.slice Ao18 y200.length co18)) (fun _ hk => trivial)⟩, ⟨by (with_reducible repeat (first | apply Kd.uL | apply Kd.uK | apply Kd.uM)); exact Kd.uS (Kd.uV (p := ⟨gb197, 0, none⟩) (Kd.R_types HO202.out BK197.out (by decide)) (fun _ hk => hk.2) (.slice Ao18 y200.length co18)) (fun _ hk => trivial)⟩, ⟨by (with_reducible repeat (first | refine uC ?_ _ | refine uD ?_ | refine uB ?_ _)); refine uT ?_ NB193_197.out _; (with_reducible repeat (first | refine uC ?_ _ | refine uD ?_ | refine uB ?_ _)); exact BK193.out⟩, ⟨by (with_reducible repeat (first | refine uC ?_ _ | refine uD ?_ | refine uB ?_ _)); refine uO (cs := #[u198000, .slice none 0 0]) ?_ 0 _ rfl; (with_reducible repeat (first | refine uC ?_ _ | refine uD ?_ | refine uB ?_ _)); exact BK197.out⟩, ⟨cq0⟩⟩
   rw [if_neg c10] at H
   have c10b0 := decide_eq_false c10
   clear c10
   by_cases c20 : 1 ≤ (t194.length : Int)
   rotate_left
   ·rw [if_neg c20] at H
    exact absurd H (by simp)
   rw [if_pos c20] at H
   have c20b0 := eq_true c20
   have c20b1 := decide_eq_true c20
   clear c20
   obtain ⟨y203, hy203⟩ : ∃ y_ : List ByteArray, y_ = (t194.drop 1) := ⟨_, rfl⟩
   replace H : (impl_ParseMachine.l1 k1 a0 y203 (y203.length : Int) 0 x198000_1 ([] : List (S97))) = some (r1, r2, r3) := rpl hy203 H
   have Ny203 := Aside0.mk hy203
   clear hy203
   have H' := Aside0.mk H
   clear H
   have q21 : (1 : Int) ≤ ((t194.length : Int) : Int) := of_decide_eq_true uJ
   obtain ⟨i021, hi021, _, hsz21, _⟩ := info_parts info9
   have hroom21 : t194.length ≤ co9 := (Kd.uH HO_4.out).2.1
   have hC21 : Kd.C Kd.string _ (some ad198) t194.length t194 := (Kd.uH HO_4.out).2.2
   have hcut21 := cut_from (P := Tryd.prog) 37 9 .i64 Tryd.underlying37 hi021 1 hsz21 (some ad198) t194.length co9 1 (by omega) q21
   have hr21 := Kd.C_drop (m := (1 : Int).toNat) (c := co9) hC21 (by omega) hroom21
   obtain ⟨A21, hA21⟩ : ∃ A1, A1 = (if co9 = (1 : Int).toNat then (some ad198) else ((some ad198) : Option Addr).map (·.add ((1 : Int).toNat * 1))) := ⟨_, rfl⟩
   obtain ⟨c21, hc21⟩ : ∃ c1, c1 = co9 - (1 : Int).toNat := ⟨_, rfl⟩
   have hy21 : y203.length = t194.length - (1 : Int).toNat := (by rw [Ny203.out, List.length_drop] <;> omega)
   rw [show (t194).drop (1 : Int).toNat = y203 from Ny203.out.symm] at hr21
   replace hr21 : Kd.C Kd.string _ A21 y203.length y203 := (by rw [hA21]; exact hr21)
   rw [← hy21, ← hA21, ← hc21] at hcut21
   have HR206 := Aside0.mk hr21
   have HC206 := Aside0.mk (show y203.length ≤ c21 from by rw [hy21, hc21]; exact Nat.sub_le_sub_right hroom21 _)
   clear hr21 hC21 hroom21 hi021 hsz21 hc21
   have KY21 := Aside0.mk hy21
   have KA21 := Aside0.mk hA21
   clear hy21 hA21
   have KL21 := Aside0.mk (show 1 ≤ t194.length from by omega)
   replace q21 := eq_true q21
   go_wp2
   go_loopg [39] k1 (fun kq v39 w' => ∃ (x39_2 : Int) (x198001_2 : List (S97)) (u198001 : Value), v39 = .int .i64 x39_2 ∧ Aside0 (impl_ParseMachine.l1 kq a0 y203 (y203.length : Int) x39_2 x198000_1 x198001_2 = some (r1, r2, r3)) ∧ Aside0 (kq ≤ k1) ∧ Aside0 (Kd.R (Kd.int .i64) 3 w' w.heap.size (fun _ => True) u198000 x198000_1) ∧ Aside0 (Kd.R Kd.string 9 w' w.heap.size (fun _ => True) (.slice (some ad198) t194.length co9) t194) ∧ Aside0 (Kd.R k97 97 w' w.heap.size (fun _ => True) u198001 x198001_2) ∧ Aside0 (w'.heap[gb193]? = some (.cells #[(.slice none 0 0), (.slice none 0 0)] 56 (0, 0))) ∧ Aside0 (w'.heap[gb197]? = some (.cells #[u198000, u198001] 56 (0, 0))) ∧ Aside0 (Below w.heap.size w w'))
   case atStart => exact ⟨(0), (([] : List (S97))), (.slice none 0 0), cq3, H', ⟨Nat.le_refl _⟩, ⟨by (with_reducible repeat (first | apply Kd.uL | apply Kd.uK | apply Kd.uM)); exact HO_198000.out⟩, ⟨by (with_reducible repeat (first | apply Kd.uL | apply Kd.uK | apply Kd.uM)); exact HO_4.out⟩, ⟨cq6⟩, ⟨by (with_reducible repeat (first | refine uC ?_ _ | refine uD ?_ | refine uB ?_ _)); exact BK193.out⟩, ⟨by (with_reducible repeat (first | refine uC ?_ _ | refine uD ?_ | refine uB ?_ _)); exact BK197.out⟩, ⟨cq0⟩⟩
   case round =>
    clear H'
    try clear c1
    try clear c3
    try clear c3b0
    try clear c3b1
    try clear c10
    try clear c10b0
    try clear c20
    try clear c20b0
    try clear c20b1
    try clear c21
    try clear q21
    try clear hcz8_0
    try clear hcz8_1
    try clear hfz8_0
    try clear hfz8_1
    try clear hx198_0
    try clear p198
    try clear q198
    try clear q21
    obtain ⟨x39_2, x198001_2, u198001, rfl, HA, HK2, HO_198000, HO_4, HO_198001, BK193, BK197, HB⟩ := hrel
    cases gk with
    | zero => exact absurd HA.out (by simp [impl_ParseMachine.l1])
    | succ k2 =>
     have H := HA.out
     clear HA
     simp only [impl_ParseMachine.l1] at H
     by_cases c22 : x39_2 < (y203.length : Int)
     rotate_left
     ·rw [if_neg c22] at H
      have c22b0 := decide_eq_false c22
      clear c22
      by_cases c50 : a0.toList = ([] : List UInt8)
      ·rw [if_pos c50] at H
       have c50b0 : (a0.toList == ([] : List UInt8)) = true := beq_iff_eq.mpr c50
       have c50b1 : (a0.toList != ([] : List UInt8)) = false := bne_eq_false_iff_eq.mpr c50
       clear c50
       simp only [Option.some.injEq, Prod.mk.injEq] at H
       obtain ⟨rfl, rfl, rfl⟩ := H
       have hnb51 := NB193_197.out
       have hnc51 := NB197_193.out
       obtain ⟨hcz52_0, hcz52_1, hfz52_0, hfz52_1⟩ := cz2 BK193
       go_wp2
       refine bodyPost_ret (results_ct rfl _ _ gb193 56 #[.slice none 0 0, .slice none 0 0] (0, 0) _ rfl cq9 Tryd.underlying56 rfl (by kernel_rfl)) rfl ?_
       exact ⟨_, _, cq4, cq6, cq6, cq0⟩
      rw [if_neg c50] at H
      have c50b0 : (a0.toList == ([] : List UInt8)) = false := beq_eq_false_iff_ne.mpr c50
      have c50b1 : (a0.toList != ([] : List UInt8)) = true := bne_iff_ne.mpr c50
      replace H := Option.bind_eq_some_iff.mp H
      obtain ⟨t218, A530, H⟩ := H
      try dsimp only at H
      have A53 := Aside0.mk A530
      clear A530
      have hnb62 := NB197_193.out
      have hnc62 := NB193_197.out
      obtain ⟨hcz63_0, hcz63_1, hfz63_0, hfz63_1⟩ := cz2 BK197
      obtain ⟨Ao64, co64, eo64⟩ := Kd.R_slice HO_198000.out
      subst eo64
      obtain ⟨Ao65, co65, eo65⟩ := Kd.R_slice HO_198001.out
      subst eo65
      go_wp2_with (first | (go_at_call 77; (with_reducible refine (impl_FormatMachine.calls k2 _ _ x198000_1 _ _ x198001_2 t218 _ ?side1 ?side2 ?side3 ?side4 ?side5 A53.out).mono ?_); (case side1 => repeat (first | exact (Kd.uH HO_198000.out).2.2 | (with_reducible refine Kd.C_alloc ?_ _) | (with_reducible refine Kd.C_drewN ?_ _) | (with_reducible refine Kd.C_drew ?_))); (case side2 => exact (Kd.uH HO_198000.out).2.1); (case side3 => repeat (first | exact (Kd.uH HO_198001.out).2.2 | (with_reducible refine Kd.C_alloc ?_ _) | (with_reducible refine Kd.C_drewN ?_ _) | (with_reducible refine Kd.C_drew ?_))); (case side4 => exact (Kd.uH HO_198001.out).2.1); (case side5 => exact cq7); rintro e w66 ⟨rfl, hb⟩; replace HO_198000 := Kd.tR HO_198000 hb; replace HO_4 := Kd.tR HO_4 hb; replace HO_198001 := Kd.tR HO_198001 hb; replace BK193 := tBlk BK193 hb; replace BK197 := tBlk BK197 hb; replace HB := uP HB hb; (try clear hb); refine ?roundEnd))
      case roundEnd =>
      by_cases c54 : t218.toList = a0.toList
      rotate_left
      ·rw [if_neg c54] at H
       have c54b0 : (t218.toList == a0.toList) = false := beq_eq_false_iff_ne.mpr c54
       have c54b1 : (t218.toList != a0.toList) = true := bne_iff_ne.mpr c54
       simp only [Option.some.injEq, Prod.mk.injEq] at H
       obtain ⟨rfl, rfl, rfl⟩ := H
       obtain ⟨hcz67_0, hcz67_1, hfz67_0, hfz67_1⟩ := cz2 BK193
       go_wp2
       refine bodyPost_ret (results_ct rfl _ _ gb193 56 #[.slice none 0 0, .slice none 0 0] (0, 0) _ rfl cq9 Tryd.underlying56 rfl (by kernel_rfl)) rfl ?_
       exact ⟨_, _, cq4, cq6, cq6, cq0⟩
      rw [if_pos c54] at H
      have c54b0 : (t218.toList == a0.toList) = true := beq_iff_eq.mpr c54
      have c54b1 : (t218.toList != a0.toList) = false := bne_eq_false_iff_eq.mpr c54
      clear c54
      simp only [Option.some.injEq, Prod.mk.injEq] at H
      obtain ⟨rfl, rfl, rfl⟩ := H
      obtain ⟨hcz60_0, hcz60_1, hfz60_0, hfz60_1⟩ := cz2 BK197
      obtain ⟨hcz61_0, hcz61_1, hfz61_0, hfz61_1⟩ := cz2 BK193
      go_wp2
      refine bodyPost_ret (results_ct rfl _ _ gb193 56 #[.slice Ao64 x198000_1.length co64, .slice Ao65 x198001_2.length co65] (0, 0) _ rfl (by (with_reducible repeat (first | refine uC ?_ _ | refine uD ?_ | refine uB ?_ _)); refine uO (cs := #[.slice Ao64 x198000_1.length co64, .slice none 0 0]) ?_ 1 _ rfl; (with_reducible repeat (first | refine uC ?_ _ | refine uD ?_ | refine uB ?_ _)); refine uO (cs := #[.slice none 0 0, .slice none 0 0]) ?_ 0 _ rfl; (with_reducible repeat (first | refine uC ?_ _ | refine uD ?_ | refine uB ?_ _)); exact BK193.out) Tryd.underlying56 rfl (by kernel_rfl)) rfl ?_
      exact ⟨_, _, cq4, by (with_reducible repeat (first | apply Kd.uL | apply Kd.uK | apply Kd.uM)); exact Kd.uS (Kd.uV (p := ⟨gb193, 1, none⟩) (Kd.uV (p := ⟨gb193, 0, none⟩) (Kd.R_types HO_198000.out BK193.out (by decide)) (fun _ hk => hk.2) (.slice Ao64 x198000_1.length co64)) (fun _ hk => hk.2) (.slice Ao65 x198001_2.length co65)) (fun _ hk => trivial), by (with_reducible repeat (first | apply Kd.uL | apply Kd.uK | apply Kd.uM)); exact Kd.uS (Kd.uV (p := ⟨gb193, 1, none⟩) (Kd.uV (p := ⟨gb193, 0, none⟩) (Kd.R_types HO_198001.out BK193.out (by decide)) (fun _ hk => hk.2) (.slice Ao64 x198000_1.length co64)) (fun _ hk => hk.2) (.slice Ao65 x198001_2.length co65)) (fun _ hk => trivial), cq0⟩
     rw [if_pos c22] at H
     have c22b0 := decide_eq_true c22
     clear c22
     obtain ⟨c23b0, H⟩ := ifD H
     obtain ⟨c24b0, H⟩ := ifD H
     replace H := Option.bind_eq_some_iff.mp H
     obtain ⟨⟨t208, t209, t210⟩, A250, H⟩ := H
     try dsimp only at H
     have A25 := Aside0.mk A250
     clear A250
     replace H := Option.bind_eq_some_iff.mp H
     obtain ⟨t211, A260, H⟩ := H
     try dsimp only at H
     have A26 := Aside0.mk A260
     clear A260
     by_cases c27 : t211 < 0
     ·rw [if_pos c27] at H
      have c27b0 := decide_eq_true c27
      clear c27
      simp only [Option.some.injEq, Prod.mk.injEq] at H
      obtain ⟨rfl, rfl, rfl⟩ := H
      have p207 : 0 ≤ (x39_2 : Int) := of_decide_eq_true uJ
      have q207 : x39_2 < (y203.length : Int) := of_decide_eq_true uJ
      have hrN : Kd.C Kd.string wr A21 y203.length y203 := by
       have h_ := Kd.C_drop (m := (1 : Int).toNat) (c := co9) (Kd.uH HO_4.out).2.2 (by have := KL21.out; omega) (Kd.uH HO_4.out).2.1
       rw [show (t194).drop (1 : Int).toNat = y203 from Ny203.out.symm] at h_
       rw [KA21.out]; exact h_
      obtain ⟨ad207, e207, hx207_0⟩ := Kd.at_string hrN x39_2 p207 q207
      clear hrN
      cases e207
      replace p207 := eq_true p207
      replace q207 := eq_true q207
      go_wp2_with (first | ((with_reducible refine uI (f := 70) rfl ?_); refine goesM (some 45) Tryd.func70 #[.string (rdOf ByteArray.empty y203 x39_2), .string (⟨#[46]⟩ : ByteArray)] ?_; (with_reducible refine (strings_Cut.calls (rdOf ByteArray.empty y203 x39_2) (⟨#[46]⟩ : ByteArray) t208 t209 t210 _ A25.out).mono ?_); rintro e w' ⟨rfl, ⟨nd, rfl⟩⟩; refine ⟨_, rfl, ?_⟩; (try (rw [drewN_self wr]; generalize hq_ : World.drewN wr _ = wr; have n0_ : Aside0 (Kd.R (Kd.int .i64) 3 wr w.heap.size (fun _ => True) u198000 x198000_1) := ⟨by rw [← hq_]; exact (rSR HO_198000.out)⟩; have n1_ : Aside0 (Kd.R k97 97 wr w.heap.size (fun _ => True) u198001 x198001_2) := ⟨by rw [← hq_]; exact (rSR HO_198001.out)⟩; have n2_ : Aside0 (wr.heap[gb193]? = some (.cells #[.slice none 0 0, .slice none 0 0] 56 (0, 0))) := ⟨by rw [← hq_]; exact (rSB BK193.out)⟩; have n3_ : Aside0 (wr.heap[gb197]? = some (.cells #[u198000, u198001] 56 (0, 0))) := ⟨by rw [← hq_]; exact (rSB BK197.out)⟩; have n4_ : Aside0 (Below w.heap.size w wr) := ⟨by rw [← hq_]; exact cq0⟩; have m4_ : Aside0 (Kd.R Kd.string 9 wr w.heap.size (fun _ => True) (.slice (some ad198) t194.length co9) t194) := ⟨by rw [← hq_]; exact (rSR HO_4.out)⟩; clear HO_4 HO_198000 HO_198001 BK193 BK197 HB hq_; have HO_4 := m4_; clear m4_; have HO_198000 := n0_; have HO_198001 := n1_; have BK193 := n2_; have BK197 := n3_; have HB := n4_; clear n0_ n1_ n2_ n3_ n4_))) | ((with_reducible refine uI (f := 76) rfl ?_); refine goesM (some 50) Tryd.func76 #[.string t209, .string (⟨#[43, 45]⟩ : ByteArray)] ?_; (with_reducible refine (strings_IndexAny.calls t209 (⟨#[43, 45]⟩ : ByteArray) t211 _ A26.out).mono ?_); rintro e w28 ⟨rfl, hb⟩; refine ⟨_, rfl, ?_⟩; replace HO_198000 := Kd.tR HO_198000 hb; replace HO_4 := Kd.tR HO_4 hb; replace HO_198001 := Kd.tR HO_198001 hb; replace BK193 := tBlk BK193 hb; replace BK197 := tBlk BK197 hb; replace HB := uP HB hb; (try clear hb); have hnb29 := NB193_197.out; have hnc29 := NB197_193.out; obtain ⟨hcz30_0, hcz30_1, hfz30_0, hfz30_1⟩ := cz2 BK193))
      refine bodyPost_ret (results_ct rfl _ _ gb193 56 #[.slice none 0 0, .slice none 0 0] (0, 0) _ rfl cq9 Tryd.underlying56 rfl (by kernel_rfl)) rfl ?_
      exact ⟨_, _, cq4, cq6, cq6, cq0⟩
     rw [if_neg c27] at H
     have c27b0 := decide_eq_false c27
     clear c27
     replace H := Option.bind_eq_some_iff.mp H
     obtain ⟨t212, A310, H⟩ := H
     try dsimp only at H
     have A31 := Aside0.mk A310
     clear A310
     by_cases c32 : 0 ≤ t211
     rotate_left
     ·rw [if_neg c32] at H
      exact absurd H (by simp)
     rw [if_pos c32] at H
     have c32b0 := eq_true c32
     have c32b1 := decide_eq_true c32
     clear c32
     by_cases c33 : t211 ≤ (t209.size : Int)
     rotate_left
     ·rw [if_neg c33] at H
      exact absurd H (by simp)
     rw [if_pos c33] at H
     have c33b0 := eq_true c33
     have c33b1 := decide_eq_true c33
     clear c33
     replace H := Option.bind_eq_some_iff.mp H
     obtain ⟨t213, A340, H⟩ := H
     try dsimp only at H
     have A34 := Aside0.mk A340
     clear A340
     obtain ⟨c35b0, H⟩ := ifD H
     obtain ⟨ji37, hji37⟩ : ∃ j_ : Int, (wrap64 (t211 + 1)) = j_ := ⟨_, rfl⟩
     replace H : (if 0 ≤ (ji37) then (if (ji37) ≤ (t209.size : Int) then ((impl_number.f k2 (t209.extract ((ji37) : Int).toNat t209.size)).bind fun t214 => (if x198001_2.length < 4398046511104 then (impl_ParseMachine.l1 k2 a0 y203 (y203.length : Int) (wrap64 (x39_2 + 1)) x198000_1 (x198001_2 ++ [(⟨t212, t213, (⟨((bt t209 t211) == 43), t214⟩ : S95)⟩ : S97)])) else (none))) else (none)) else (none)) = some (r1, r2, r3) := by first | (rw [hji37] at H; exact H) | (simp only [hji37] at H ⊢; exact H) | rfl
     (try rw [hji37] at A25)
     (try rw [hji37] at A26)
     (try rw [hji37] at A31)
     (try rw [hji37] at A34)
     have hji37w : (IntKind.i64.wrap (t211 + 1)) = ji37 := (uQ _).trans hji37
     by_cases c38 : 0 ≤ (ji37)
     rotate_left
     ·rw [if_neg c38] at H
      exact absurd H (by simp)
     rw [if_pos c38] at H
     have c38b0 := eq_true c38
     have c38b1 := decide_eq_true c38
     clear c38
     by_cases c39 : (ji37) ≤ (t209.size : Int)
     rotate_left
     ·rw [if_neg c39] at H
      exact absurd H (by simp)
     rw [if_pos c39] at H
     have c39b0 := eq_true c39
     have c39b1 := decide_eq_true c39
     clear c39
     replace H := Option.bind_eq_some_iff.mp H
     obtain ⟨t214, A400, H⟩ := H
     try dsimp only at H
     have A40 := Aside0.mk A400
     clear A400
     obtain ⟨LMc41, H⟩ := ifL H
     obtain ⟨y215, hy215⟩ : ∃ y_ : List (S97), y_ = (x198001_2 ++ [(⟨t212, t213, (⟨((bt t209 t211) == 43), t214⟩ : S95)⟩ : S97)]) := ⟨_, rfl⟩
     replace H : (impl_ParseMachine.l1 k2 a0 y203 (y203.length : Int) (wrap64 (x39_2 + 1)) x198000_1 y215) = some (r1, r2, r3) := rpl hy215 H
     have Ny215 := Aside0.mk hy215
     clear hy215
     have H' := Aside0.mk H
     clear H
     have p207 : 0 ≤ (x39_2 : Int) := of_decide_eq_true uJ
     have q207 : x39_2 < (y203.length : Int) := of_decide_eq_true uJ
     have hrN : Kd.C Kd.string wr A21 y203.length y203 := by
      have h_ := Kd.C_drop (m := (1 : Int).toNat) (c := co9) (Kd.uH HO_4.out).2.2 (by have := KL21.out; omega) (Kd.uH HO_4.out).2.1
      rw [show (t194).drop (1 : Int).toNat = y203 from Ny203.out.symm] at h_
      rw [KA21.out]; exact h_
     obtain ⟨ad207, e207, hx207_0⟩ := Kd.at_string hrN x39_2 p207 q207
     clear hrN
     cases e207
     replace p207 := eq_true p207
     replace q207 := eq_true q207
     try go_wp2_with (first | ((with_reducible refine uI (f := 70) rfl ?_); refine goesM (some 45) Tryd.func70 #[.string (rdOf ByteArray.empty y203 x39_2), .string (⟨#[46]⟩ : ByteArray)] ?_; (with_reducible refine (strings_Cut.calls (rdOf ByteArray.empty y203 x39_2) (⟨#[46]⟩ : ByteArray) t208 t209 t210 _ A25.out).mono ?_); rintro e w' ⟨rfl, ⟨nd, rfl⟩⟩; refine ⟨_, rfl, ?_⟩; (try (rw [drewN_self wr]; generalize hq_ : World.drewN wr _ = wr; have n0_ : Aside0 (Kd.R (Kd.int .i64) 3 wr w.heap.size (fun _ => True) u198000 x198000_1) := ⟨by rw [← hq_]; exact (rSR HO_198000.out)⟩; have n1_ : Aside0 (Kd.R k97 97 wr w.heap.size (fun _ => True) u198001 x198001_2) := ⟨by rw [← hq_]; exact (rSR HO_198001.out)⟩; have n2_ : Aside0 (wr.heap[gb193]? = some (.cells #[.slice none 0 0, .slice none 0 0] 56 (0, 0))) := ⟨by rw [← hq_]; exact (rSB BK193.out)⟩; have n3_ : Aside0 (wr.heap[gb197]? = some (.cells #[u198000, u198001] 56 (0, 0))) := ⟨by rw [← hq_]; exact (rSB BK197.out)⟩; have n4_ : Aside0 (Below w.heap.size w wr) := ⟨by rw [← hq_]; exact cq0⟩; have m4_ : Aside0 (Kd.R Kd.string 9 wr w.heap.size (fun _ => True) (.slice (some ad198) t194.length co9) t194) := ⟨by rw [← hq_]; exact (rSR HO_4.out)⟩; clear HO_4 HO_198000 HO_198001 BK193 BK197 HB hq_; have HO_4 := m4_; clear m4_; have HO_198000 := n0_; have HO_198001 := n1_; have BK193 := n2_; have BK197 := n3_; have HB := n4_; clear n0_ n1_ n2_ n3_ n4_))) | ((with_reducible refine uI (f := 76) rfl ?_); refine goesM (some 50) Tryd.func76 #[.string t209, .string (⟨#[43, 45]⟩ : ByteArray)] ?_; (with_reducible refine (strings_IndexAny.calls t209 (⟨#[43, 45]⟩ : ByteArray) t211 _ A26.out).mono ?_); rintro e w42 ⟨rfl, hb⟩; refine ⟨_, rfl, ?_⟩; replace HO_198000 := Kd.tR HO_198000 hb; replace HO_4 := Kd.tR HO_4 hb; replace HO_198001 := Kd.tR HO_198001 hb; replace BK193 := tBlk BK193 hb; replace BK197 := tBlk BK197 hb; replace HB := uP HB hb; (try clear hb)))
     replace HO_198000 := Aside0.mk (Kd.uM HO_198000.out)
     replace HO_4 := Aside0.mk (Kd.uM HO_4.out)
     replace HO_198001 := Aside0.mk (Kd.uM HO_198001.out)
     replace BK193 := Aside0.mk (uD BK193.out)
     replace BK197 := Aside0.mk (uD BK197.out)
     replace HB := Aside0.mk (uW HB.out)
     have p36 : 0 ≤ (t211 : Int) := of_decide_eq_true uJ
     have q36 : t211 < (t209.size : Int) := of_decide_eq_true uJ
     have hx36 := bt_at t209 t211
     replace p36 := eq_true p36
     replace q36 := eq_true q36
     refine start_ (n := 23) (S := fun w' => w'.cell? ⟨gb197, 0, none⟩ = some (u198000) ∧ w'.cell? ⟨gb197, 1, none⟩ = some (u198001)) (ds := [22]) #[false, false, false, false, false, false, false, false, false, false, false, false, false, false, false, false, false, false, false, false, false, false, false] (by kernel_rfl) rfl rfl ⟨(uE BK197.out 0).trans rfl, (uE BK197.out 1).trans rfl⟩ (fun hHeld => ?_); refine with_tabW impl_ParseMachine.tab14 impl_ParseMachine.bits14 (fun HT_ HW_ => ?_)
     generalize w42.drew = w43 at HO_4 HO_198000 HO_198001 BK193 BK197 HB hHeld ⊢
     refine uN 0 (some 54) #[true, false, false, false, false, false, false, false, false, false, false, false, false, false, false, false, false, false, false, false, false, false, false] ?_
     refine uN 2 (some 56) #[true, false, true, false, false, false, false, false, false, false, false, false, false, false, false, false, false, false, false, false, false, false, false] ?_
     refine uN 4 (some 58) #[true, false, true, false, true, false, false, false, false, false, false, false, false, false, false, false, false, false, false, false, false, false, false] ?_
     refine uN 5 (some 59) #[true, false, true, false, true, true, false, false, false, false, false, false, false, false, false, false, false, false, false, false, false, false, false] ?_
     refine uN 6 (some 60) #[true, false, true, false, true, true, true, false, false, false, false, false, false, false, false, false, false, false, false, false, false, false, false] ?_
     refine uN 8 (some 62) #[true, false, true, false, true, true, true, false, true, false, false, false, false, false, false, false, false, false, false, false, false, false, false] ?_
     refine uN 9 (some 63) #[true, false, true, false, true, true, true, false, true, true, false, false, false, false, false, false, false, false, false, false, false, false, false] ?_
     refine uN 12 (some 66) #[true, false, true, false, true, true, true, false, true, true, false, false, true, false, false, false, false, false, false, false, false, false, false] ?_
     refine uN 13 (some 67) #[true, false, true, false, true, true, true, false, true, true, false, false, true, true, false, false, false, false, false, false, false, false, false] ?_
     refine uN 14 (some 68) #[true, false, true, false, true, true, true, false, true, true, false, false, true, true, true, false, false, false, false, false, false, false, false] ?_
     refine uN 15 (some 69) #[true, false, true, false, true, true, true, false, true, true, false, false, true, true, true, true, false, false, false, false, false, false, false] ?_
     refine takeT 1 (some 55) #[true, true, true, false, true, true, true, false, true, true, false, false, true, true, true, true, false, false, false, false, false, false, false] ?_
     refine takeT 10 (some 64) #[true, true, true, false, true, true, true, false, true, true, true, false, true, true, true, true, false, false, false, false, false, false, false] ?_
     refine uN 11 (some 65) #[true, true, true, false, true, true, true, false, true, true, true, true, true, true, true, true, false, false, false, false, false, false, false] ?_
     refine oneT 3 (some 57) #[true, true, true, true, true, true, true, false, true, true, true, true, true, true, true, true, false, false, false, false, false, false, false] (fun K hK => ?_)
     refine goesT Tryd.func72 #[.string t208] ?_
     with_reducible refine (impl_number.calls k2 t208 t212 _ ?side1 A31.out).mono ?_
     (case side1 => exact cq7)
     rintro e w44 ⟨rfl, hb⟩
     refine ⟨_, rfl, ?_⟩
     replace HO_198000 := Kd.tR HO_198000 hb
     replace HO_4 := Kd.tR HO_4 hb
     replace HO_198001 := Kd.tR HO_198001 hb
     replace BK193 := tBlk BK193 hb
     replace BK197 := tBlk BK197 hb
     replace HB := uP HB hb
     (try clear hb)
     refine hK.out _ _ ⟨(uE BK197.out 0).trans rfl, (uE BK197.out 1).trans rfl⟩ (fun hHeld => ?_)
     clear hK K
     refine normT (some 57) ?_
     refine oneT 7 (some 61) #[true, true, true, true, true, true, true, true, true, true, true, true, true, true, true, true, false, false, false, false, false, false, false] (fun K hK => ?_)
     refine goesT Tryd.func72 #[.string (t209.extract 0 (t211 : Int).toNat)] ?_
     with_reducible refine (impl_number.calls k2 (t209.extract 0 (t211 : Int).toNat) t213 _ ?side1 A34.out).mono ?_
     (case side1 => exact cq7)
     rintro e w45 ⟨rfl, hb⟩
     refine ⟨_, rfl, ?_⟩
     replace HO_198000 := Kd.tR HO_198000 hb
     replace HO_4 := Kd.tR HO_4 hb
     replace HO_198001 := Kd.tR HO_198001 hb
     replace BK193 := tBlk BK193 hb
     replace BK197 := tBlk BK197 hb
     replace HB := uP HB hb
     (try clear hb)
     refine hK.out _ _ ⟨(uE BK197.out 0).trans rfl, (uE BK197.out 1).trans rfl⟩ (fun hHeld => ?_)
     clear hK K
     refine normT (some 61) ?_
     refine oneT 16 (some 70) #[true, true, true, true, true, true, true, true, true, true, true, true, true, true, true, true, true, false, false, false, false, false, false] (fun K hK => ?_)
     refine goes_ Tryd.func72 (by kernel_rfl) rfl #[.string (t209.extract ((ji37) : Int).toNat t209.size)] (by rfl) rfl rfl (by (try simp only [List.map_toArray, List.map_cons, List.map_nil]); first | done | (simp only [hji37]; rfl) | rfl | (simp only [List.length_drop, List.length_take]; rfl)) ?_
     with_reducible refine (impl_number.calls k2 (t209.extract ((ji37) : Int).toNat t209.size) t214 _ ?side1 A40.out).mono ?_
     (case side1 => exact cq7)
     rintro e w46 ⟨rfl, hb⟩
     refine ⟨_, rfl, ?_⟩
     replace HO_198000 := Kd.tR HO_198000 hb
     replace HO_4 := Kd.tR HO_4 hb
     replace HO_198001 := Kd.tR HO_198001 hb
     replace BK193 := tBlk BK193 hb
     replace BK197 := tBlk BK197 hb
     replace HB := uP HB hb
     (try clear hb)
     refine hK.out _ _ ⟨(uE BK197.out 0).trans rfl, (uE BK197.out 1).trans rfl⟩ (fun hHeld => ?_)
     clear hK K
     refine normT (some 70) ?_
     refine uN 17 (some 71) #[true, true, true, true, true, true, true, true, true, true, true, true, true, true, true, true, true, true, false, false, false, false, false] ?_
     refine uN 18 (some 72) #[true, true, true, true, true, true, true, true, true, true, true, true, true, true, true, true, true, true, true, false, false, false, false] ?_
     refine oneT 19 (some 73) #[true, true, true, true, true, true, true, true, true, true, true, true, true, true, true, true, true, true, true, true, false, false, false] (fun K hK => ?_)
     refine value_ (w1 := ?_) (v := ?_) (by rfl) rfl ?_ ?_
     rotate_left 2
     ·go_simp
      constructor
      ·rfl
      rfl
     refine hK.out _ _ ⟨(uE (uB BK197.out _) 0).trans rfl, (uE (uB BK197.out _) 1).trans rfl⟩ (fun hHeld => ?_)
     clear hK K
     refine normT (some 73) ?_
     refine oneT 20 (some 74) #[true, true, true, true, true, true, true, true, true, true, true, true, true, true, true, true, true, true, true, true, true, false, false] (fun K hK => ?_)
     refine Kd.R_append_step k97 (w0 := w) w.heap.size (by rfl) (.tmp 55) (.tmp 73) 54 97 (.agg #[(.int .i64 0), (.int .i64 0), (.bool false), (.int .i64 0)]) 32 rfl Tryd.underlying54 info97 rfl (by decide) (by omega) u198001 x198001_2 (⟨t212, t213, (⟨((bt t209 t211) == 43), t214⟩ : S95)⟩ : S97) [.int .i64 t212, .int .i64 t213, .bool ((bt t209 t211) == 43), .int .i64 t214] (fun _ => True) (fun _ => False) rfl rfl ?aP (fun _ hk => hk.elim) ?aF ?aO ?aB ?aS ?aL ?_
     (case aP => exact k97_mkM _ _ _ (⟨t212, t213, (⟨((bt t209 t211) == 43), t214⟩ : S95)⟩ : S97))
     (case aB => exact cq41)
     (case aF => exact (fun _ _ => trivial))
     (case aO => exact (rSR HO_198001.out))
     (case aS => exact cq40)
     (case aL => have := LMc41.out; omega)
     intro v216 w47 ho hb hg hat
     rw [← Ny215.out] at ho
     have n0_ := Aside0.mk (Kd.R_over' (rSR HO_198000.out) (Kd.R_typed (rSR HO_198001.out)) (by decide) hg)
     have m4_ := Aside0.mk (Kd.R_over' (rSR HO_4.out) (Kd.R_typed (rSR HO_198001.out)) (by decide) hg)
     have n1_ := tGr BK193 hg (Kd.R_ne HO_198001.out BK193.out (by decide))
     have n2_ := tGr BK197 hg (Kd.R_ne HO_198001.out BK197.out (by decide))
     have n3_ := Aside0.mk (hb)
     have n4_ := Aside0.mk (ho)
     clear HO_4 HO_198000
     clear BK193
     clear BK197
     clear HB
     clear HO_198001
     have HO_4 := m4_
     clear m4_
     have HO_198000 := n0_
     have BK193 := n1_
     have BK197 := n2_
     have HB := n3_
     have HO217 := n4_
     clear n0_ n1_ n2_ n3_ n4_
     clear ho hb hg hat
     obtain ⟨Ao48, co48, eo48⟩ := Kd.R_slice HO217.out
     (first | subst eo48 | (injection eo48 with f1_ f2_ f3_; have f4_ := f1_.symm; have f5_ := f3_.symm; clear f1_ f2_ f3_; subst f4_; subst f5_))
     refine hK.out _ _ ⟨(uE BK197.out 0).trans rfl, (uE BK197.out 1).trans rfl⟩ (fun hHeld => ?_)
     clear hK K
     refine normT (some 74) ?_
     refine uN 21 (some 75) #[true, true, true, true, true, true, true, true, true, true, true, true, true, true, true, true, true, true, true, true, true, true, false] ?_
     refine last_ (i := 22) (N := none) #[true, true, true, true, true, true, true, true, true, true, true, true, true, true, true, true, true, true, true, true, true, true, true] rfl rfl (one_of HT_.out (by kernel_rfl)) (by decide) (fun K hK => ?_)
     have hs49 : w47.cell? ⟨gb197, 1, none⟩ = some (u198001) := (uE BK197.out 1).trans rfl
     have hfs49 := uX BK197.out 1
     have hns49_0 := NB193_197.out
     have hms49_0 := NB197_193.out
     refine skip_ (w1 := ?_) (by rfl) rfl ?_ ?_
     rotate_left
     ·go_simp
      rfl
     refine hK.out _ _ ?_
     clear hK K
     refine done_ (done_of HT_.out (by kernel_rfl)) ?_
     try go_wp2
     go_roundg k2
     case measure => have := HK1.out; have := HK2.out; omega
     case rel => exact ⟨(wrap64 (x39_2 + 1)), (y215), (.slice Ao48 y215.length co48), cq3, H', ⟨by have := HK1.out; have := HK2.out; omega⟩, ⟨by (with_reducible repeat (first | apply Kd.uL | apply Kd.uK | apply Kd.uM)); exact Kd.uS (Kd.uV (p := ⟨gb197, 1, none⟩) (Kd.R_types HO_198000.out BK197.out (by decide)) (fun _ hk => hk.2) (.slice Ao48 y215.length co48)) (fun _ hk => trivial)⟩, ⟨by (with_reducible repeat (first | apply Kd.uL | apply Kd.uK | apply Kd.uM)); exact Kd.uS (Kd.uV (p := ⟨gb197, 1, none⟩) (Kd.R_types HO_4.out BK197.out (by decide)) (fun _ hk => hk.2) (.slice Ao48 y215.length co48)) (fun _ hk => trivial)⟩, ⟨by (with_reducible repeat (first | apply Kd.uL | apply Kd.uK | apply Kd.uM)); exact Kd.uS (Kd.uV (p := ⟨gb197, 1, none⟩) (Kd.R_types HO217.out BK197.out (by decide)) (fun _ hk => hk.2) (.slice Ao48 y215.length co48)) (fun _ hk => trivial)⟩, ⟨by (with_reducible repeat (first | refine uC ?_ _ | refine uD ?_ | refine uB ?_ _)); refine uT ?_ NB193_197.out _; (with_reducible repeat (first | refine uC ?_ _ | refine uD ?_ | refine uB ?_ _)); exact BK193.out⟩, ⟨by (with_reducible repeat (first | refine uC ?_ _ | refine uD ?_ | refine uB ?_ _)); refine uO (cs := #[u198000, u198001]) ?_ 1 _ rfl; (with_reducible repeat (first | refine uC ?_ _ | refine uD ?_ | refine uB ?_ _)); exact BK197.out⟩, ⟨cq0⟩⟩

end Go.Proofs.YtcikahnmiiichaaDoor.P
