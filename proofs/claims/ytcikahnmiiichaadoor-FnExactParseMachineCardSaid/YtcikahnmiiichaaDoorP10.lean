/- Go functions as Lean functions, and the proof that the code comes to them: written by a program of this session out of the translation. -/
import Derived.Test.YtcikahnmiiichaaDoorP0
import Derived.Test.YtcikahnmiiichaaDoorP7
import Derived.Test.YtcikahnmiiichaaDoorP9
namespace Go.Proofs.YtcikahnmiiichaaDoor.P
open List renaming setIfInBounds_toArray → uZ, set_cons_zero → vA, set_cons_succ → vB
open Go.World renaming block_lt_of_cell? → vF
open Go.Proofs.YtcikahnmiiichaaDoor.Given
open Go.RowKit Go.Proofs.YtcikahnmiiichaaDoorW.PrintWords Go.Proofs.YtcikahnmiiichaaDoorW.PrintLast Go.Proofs.YtcikahnmiiichaaDoorW.PrintMore
attribute [local go_sem] max2_int min2_int max_two min_two max_three min_three max_four min_four   -- for this text's walks alone
set_option linter.unusedVariables false
set_option linter.unusedSimpArgs false

/-! ### impl_FormatMachine: function 77 -/
mutual
def impl_FormatMachine.l0 : Nat → ByteArray → List Int → Int → Int → List Int → List (S97) → Option (ByteArray)
 | 0, _, _, _, _, _, _ => none
 | k + 1, x3, x13, x14, x15, x185000, x185001 => if x15 < x14 then (if 0 ≤ x15 then (if x15 < (x13.length : Int) then ((impl_FormatInt.f (rd x13 x15)).bind fun t187 => (if x3.size + t187.size ≤ 9223372036854775807 then (impl_FormatMachine.l0 k (x3 ++ t187) x13 x14 (wrap64 (x15 + 1)) x185000 x185001) else (none))) else (none)) else (none)) else (impl_FormatMachine.l1 k x3 x185001 (x185001.length : Int) 0)
def impl_FormatMachine.l1 : Nat → ByteArray → List (S97) → Int → Int → Option (ByteArray)
 | 0, _, _, _, _ => none
 | k + 1, x3, x25, x26, x27 => if x27 < x26 then (if 0 ≤ x27 then (if x27 < (x25.length : Int) then (if (rd_T97 x25 x27).f2.f0 = true then (impl_FormatMachine.j2 k x3 (⟨#[43]⟩ : ByteArray) x25 x26 x27 ((rd_T97 x25 x27).f0) ((rd_T97 x25 x27).f1) ((rd_T97 x25 x27).f2.f0) ((rd_T97 x25 x27).f2.f1)) else (impl_FormatMachine.j2 k x3 (⟨#[45]⟩ : ByteArray) x25 x26 x27 ((rd_T97 x25 x27).f0) ((rd_T97 x25 x27).f1) ((rd_T97 x25 x27).f2.f0) ((rd_T97 x25 x27).f2.f1))) else (none)) else (none)) else (some x3)
def impl_FormatMachine.j2 : Nat → ByteArray → ByteArray → List (S97) → Int → Int → Int → Int → Bool → Int → Option (ByteArray)
 | 0, _, _, _, _, _, _, _, _, _ => none
 | k + 1, x3, x8, x25, x26, x27, x190000, x190001, x190002, x190003 => (impl_FormatInt.f x190000).bind fun t190 => (if 1 + t190.size ≤ 9223372036854775807 then (if ((⟨#[32]⟩ : ByteArray) ++ t190).size + 1 ≤ 9223372036854775807 then ((impl_FormatInt.f x190001).bind fun t191 => (if (((⟨#[32]⟩ : ByteArray) ++ t190) ++ (⟨#[46]⟩ : ByteArray)).size + t191.size ≤ 9223372036854775807 then (if ((((⟨#[32]⟩ : ByteArray) ++ t190) ++ (⟨#[46]⟩ : ByteArray)) ++ t191).size + x8.size ≤ 9223372036854775807 then ((impl_FormatInt.f x190003).bind fun t192 => (if (((((⟨#[32]⟩ : ByteArray) ++ t190) ++ (⟨#[46]⟩ : ByteArray)) ++ t191) ++ x8).size + t192.size ≤ 9223372036854775807 then (if x3.size + ((((((⟨#[32]⟩ : ByteArray) ++ t190) ++ (⟨#[46]⟩ : ByteArray)) ++ t191) ++ x8) ++ t192).size ≤ 9223372036854775807 then (impl_FormatMachine.l1 k (x3 ++ ((((((⟨#[32]⟩ : ByteArray) ++ t190) ++ (⟨#[46]⟩ : ByteArray)) ++ t191) ++ x8) ++ t192)) x25 x26 (wrap64 (x27 + 1))) else (none)) else (none))) else (none)) else (none))) else (none)) else (none))
end
def impl_FormatMachine.f (k : Nat) (l0_0 : List Int) (l0_1 : List (S97)) : Option (ByteArray) := (impl_IsValidMachine.f k l0_0 l0_1).bind fun t185 => (if t185 = true then (impl_FormatMachine.l0 k (⟨#[]⟩ : ByteArray) l0_0 (l0_0.length : Int) 0 l0_0 l0_1) else (some (⟨#[]⟩ : ByteArray)))
theorem impl_FormatMachine.mono_l : ∀ k, (∀ y0 y1 y2 y3 y4 y5, uA (impl_FormatMachine.l0 k y0 y1 y2 y3 y4 y5) (impl_FormatMachine.l0 (k + 1) y0 y1 y2 y3 y4 y5)) ∧ (∀ y0 y1 y2 y3, uA (impl_FormatMachine.l1 k y0 y1 y2 y3) (impl_FormatMachine.l1 (k + 1) y0 y1 y2 y3)) ∧ (∀ y0 y1 y2 y3 y4 y5 y6 y7 y8, uA (impl_FormatMachine.j2 k y0 y1 y2 y3 y4 y5 y6 y7 y8) (impl_FormatMachine.j2 (k + 1) y0 y1 y2 y3 y4 y5 y6 y7 y8))
 | 0 => ⟨fun _ _ _ _ _ _ r h => by simp [impl_FormatMachine.l0] at h, fun _ _ _ _ r h => by simp [impl_FormatMachine.l1] at h, fun _ _ _ _ _ _ _ _ _ r h => by simp [impl_FormatMachine.j2] at h⟩
 | k + 1 => by
  obtain ⟨ih0, ih1, ih2⟩ := impl_FormatMachine.mono_l k
  refine ⟨?_, ?_, ?_⟩
  ·intro y0 y1 y2 y3 y4 y5
   unfold impl_FormatMachine.l0
   repeat' first
   | (with_reducible exact ih0 _ _ _ _ _ _)
   | (with_reducible exact ih1 _ _ _ _)
   | (with_reducible exact ih2 _ _ _ _ _ _ _ _ _)
   | (with_reducible exact impl_IsValidMachine.mono _ _ _)
   | (with_reducible exact uA.refl _)
   | (with_reducible exact uA.none _)
   | (with_reducible refine uA.ite ?_ ?_)
   | (with_reducible refine uA.bind ?_ (fun _ => ?_))
   | exact ih0 _ _ _ _ _ _
   | exact ih1 _ _ _ _
   | exact ih2 _ _ _ _ _ _ _ _ _
   | exact uA.none _
   | refine uA.ite ?_ ?_
   | refine uA.bind ?_ (fun _ => ?_)
  ·intro y0 y1 y2 y3
   unfold impl_FormatMachine.l1
   repeat' first
   | (with_reducible exact ih0 _ _ _ _ _ _)
   | (with_reducible exact ih1 _ _ _ _)
   | (with_reducible exact ih2 _ _ _ _ _ _ _ _ _)
   | (with_reducible exact impl_IsValidMachine.mono _ _ _)
   | (with_reducible exact uA.refl _)
   | (with_reducible exact uA.none _)
   | (with_reducible refine uA.ite ?_ ?_)
   | (with_reducible refine uA.bind ?_ (fun _ => ?_))
   | exact ih0 _ _ _ _ _ _
   | exact ih1 _ _ _ _
   | exact ih2 _ _ _ _ _ _ _ _ _
   | exact uA.none _
   | refine uA.ite ?_ ?_
   | refine uA.bind ?_ (fun _ => ?_)
  intro y0 y1 y2 y3 y4 y5 y6 y7 y8
  unfold impl_FormatMachine.j2
  repeat' first
  | (with_reducible exact ih0 _ _ _ _ _ _)
  | (with_reducible exact ih1 _ _ _ _)
  | (with_reducible exact ih2 _ _ _ _ _ _ _ _ _)
  | (with_reducible exact impl_IsValidMachine.mono _ _ _)
  | (with_reducible exact uA.refl _)
  | (with_reducible exact uA.none _)
  | (with_reducible refine uA.ite ?_ ?_)
  | (with_reducible refine uA.bind ?_ (fun _ => ?_))
  | exact ih0 _ _ _ _ _ _
  | exact ih1 _ _ _ _
  | exact ih2 _ _ _ _ _ _ _ _ _
  | exact uA.none _
  | refine uA.ite ?_ ?_
  | refine uA.bind ?_ (fun _ => ?_)
theorem impl_FormatMachine.mono : ∀ a0 a1 k, uA (impl_FormatMachine.f k a0 a1) (impl_FormatMachine.f (k + 1) a0 a1) := by
 intro a0 a1 k
 obtain ⟨ih0, ih1, ih2⟩ := impl_FormatMachine.mono_l k
 unfold impl_FormatMachine.f
 repeat' first
   | (with_reducible exact ih0 _ _ _ _ _ _)
   | (with_reducible exact ih1 _ _ _ _)
   | (with_reducible exact ih2 _ _ _ _ _ _ _ _ _)
   | (with_reducible exact impl_IsValidMachine.mono _ _ _)
   | (with_reducible exact uA.refl _)
   | (with_reducible exact uA.none _)
   | (with_reducible refine uA.ite ?_ ?_)
   | (with_reducible refine uA.bind ?_ (fun _ => ?_))
   | exact ih0 _ _ _ _ _ _
   | exact ih1 _ _ _ _
   | exact ih2 _ _ _ _ _ _ _ _ _
   | exact uA.none _
   | refine uA.ite ?_ ?_
   | refine uA.bind ?_ (fun _ => ?_)
def impl_FormatMachine.T15 : Bool × List (List Nat × List Nat) := (true, [([], []), ([], []), ([1], [1]), ([2], [2]), ([3], [3]), ([4], [4]), ([], []), ([6], [6]), ([7, 3], [7]), ([5, 8], [5, 8]), ([], []), ([9, 10], [9, 10]), ([], []), ([12], [12]), ([13], [13]), ([14, 8], [14]), ([11, 15], [11, 15]), ([0, 16], [0, 16]), ([17, 15, 0, 1, 2, 3, 4, 5, 6, 7, 8, 9, 10, 11, 12, 13, 14, 15, 16, 17], [0, 17])])
def impl_FormatMachine.B15 : List Nat := [0, 0, 2, 6, 14, 30, 0, 64, 206, 510, 0, 2046, 0, 4096, 12288, 29134, 65534, 131071, 262143]
theorem impl_FormatMachine.tab15 : rtab .any (opsOf Tryd.f77 15) = impl_FormatMachine.T15 := by kernel_rfl
theorem impl_FormatMachine.bits15 : waitsOk impl_FormatMachine.T15.2 impl_FormatMachine.B15 = true := by kernel_rfl
set_option maxHeartbeats 8000000 in
set_option maxRecDepth 100000 in
theorem impl_FormatMachine.calls (k : Nat) (A0_0 : Option Addr) (c0_0 : Nat) (l0_0 : List Int) (A0_1 : Option Addr) (c0_1 : Nat) (l0_1 : List (S97)) (r : ByteArray) (w : World) (hr0_0 : Kd.C (Kd.int .i64) w A0_0 l0_0.length l0_0) (hc0_0 : l0_0.length ≤ c0_0) (hr0_1 : Kd.C k97 w A0_1 l0_1.length l0_1) (hc0_1 : l0_1.length ≤ c0_1) (hWF : WF w) (h : impl_FormatMachine.f k l0_0 l0_1 = some r) :
  Calls Tryd.prog 77 #[.agg #[.slice A0_0 l0_0.length c0_0, .slice A0_1 l0_1.length c0_1]] w fun e w' => e = .returned (.string r) ∧ Below w.heap.size w w' := by
 have hu56 := Tryd.underlying56
 have hu97 := Tryd.underlying97
 have HR0_0 := Aside0.mk hr0_0
 have HC0_0 := Aside0.mk hc0_0
 clear hr0_0 hc0_0
 have HR0_1 := Aside0.mk hr0_1
 have HC0_1 := Aside0.mk hc0_1
 clear hr0_1 hc0_1
 have HB := Aside0.mk (Below.refl w.heap.size w)
 have H : ((impl_IsValidMachine.f k l0_0 l0_1).bind fun t185 => (if t185 = true then (impl_FormatMachine.l0 k (⟨#[]⟩ : ByteArray) l0_0 (l0_0.length : Int) 0 l0_0 l0_1) else (some (⟨#[]⟩ : ByteArray)))) = some r := h
 clear h
 replace H := Option.bind_eq_some_iff.mp H
 obtain ⟨t185, A20, H⟩ := H
 try dsimp only at H
 have A2 := Aside0.mk A20
 clear A20
 go_enter Tryd.func77, Tryd.ntmps77
 go_wp2_with (first | ((with_reducible refine uU (N := 1) rfl ?_); refine bxe 1 #[.slice A0_0 l0_0.length c0_0, .slice A0_1 l0_1.length c0_1] 56 ?_; intro gb184 hg w37 hbox hb; have BK184 := Aside0.mk (hbox); have GW184 := tGe HB hg; have GE184 := tGe HB hg; replace HB := uP HB hb; clear hb hbox hg; obtain ⟨hcz38_0, hcz38_1, hfz38_0, hfz38_1⟩ := cz2 BK184; refine ?roundEnd))
 case roundEnd =>
 by_cases c3 : t185 = true
 rotate_left
 ·replace c3 := Bool.eq_false_iff.mpr c3
  subst c3
  try rw [if_neg (show ¬ (false = true) by decide)] at H
  obtain rfl := Option.some.inj H
  go_wp2_with (first | ((with_reducible refine uI (f := 110) rfl ?_); refine goesM (some 10) Tryd.func110 #[.agg #[.slice A0_0 l0_0.length c0_0, .slice A0_1 l0_1.length c0_1]] ?_; (with_reducible refine (impl_IsValidMachine.calls k _ _ l0_0 _ _ l0_1 false _ ?side1 ?side2 ?side3 ?side4 A2.out).mono ?_); (case side1 => exact cq22); (case side2 => exact HC0_0.out); (case side3 => exact cq43); (case side4 => exact HC0_1.out); rintro e w39 ⟨rfl, hb⟩; refine ⟨_, rfl, ?_⟩; replace BK184 := tBlk BK184 hb; replace HB := uP HB hb; (try clear hb)))
  go_ret
  exact ⟨cq4, cq0⟩
 subst c3
 try rw [if_pos rfl] at H
 have H' := Aside0.mk H
 clear H
 go_wp2_with (first | ((with_reducible refine uI (f := 110) rfl ?_); refine goesM (some 10) Tryd.func110 #[.agg #[.slice A0_0 l0_0.length c0_0, .slice A0_1 l0_1.length c0_1]] ?_; (with_reducible refine (impl_IsValidMachine.calls k _ _ l0_0 _ _ l0_1 true _ ?side1 ?side2 ?side3 ?side4 A2.out).mono ?_); (case side1 => exact cq22); (case side2 => exact HC0_0.out); (case side3 => exact cq43); (case side4 => exact HC0_1.out); rintro e w6 ⟨rfl, hb⟩; refine ⟨_, rfl, ?_⟩; replace BK184 := tBlk BK184 hb; replace HB := uP HB hb; (try clear hb); obtain ⟨hcz7_0, hcz7_1, hfz7_0, hfz7_1⟩ := cz2 BK184))
 go_loopg [3, 15] k (fun kq v3 v15 w' => ∃ (x3_1 : ByteArray) (x15_1 : Int), v3 = .string x3_1 ∧ v15 = .int .i64 x15_1 ∧ Aside0 (impl_FormatMachine.l0 kq x3_1 l0_0 (l0_0.length : Int) x15_1 l0_0 l0_1 = some r) ∧ Aside0 (kq ≤ k) ∧ Aside0 (w'.heap[gb184]? = some (.cells #[(.slice A0_0 l0_0.length c0_0), (.slice A0_1 l0_1.length c0_1)] 56 (0, 0))) ∧ Aside0 (Below w.heap.size w w'))
 case atStart => exact ⟨((⟨#[]⟩ : ByteArray)), (0), cq3, cq3, H', ⟨Nat.le_refl _⟩, ⟨cq60⟩, ⟨cq0⟩⟩
 case round =>
  clear H'
  try clear c3
  try clear hcz38_0
  try clear hcz38_1
  try clear hcz7_0
  try clear hcz7_1
  try clear hfz38_0
  try clear hfz38_1
  try clear hfz7_0
  try clear hfz7_1
  obtain ⟨x3_1, x15_1, rfl, rfl, HA, HK1, BK184, HB⟩ := hrel
  cases gk with
  | zero => exact absurd HA.out (by simp [impl_FormatMachine.l0])
  | succ k1 =>
   have H := HA.out
   clear HA
   simp only [impl_FormatMachine.l0] at H
   by_cases c8 : x15_1 < (l0_0.length : Int)
   ·rw [if_pos c8] at H
    have c8b0 := decide_eq_true c8
    clear c8
    obtain ⟨c9b0, H⟩ := ifD H
    obtain ⟨c10b0, H⟩ := ifD H
    replace H := Option.bind_eq_some_iff.mp H
    obtain ⟨t187, A110, H⟩ := H
    try dsimp only at H
    have A11 := Aside0.mk A110
    clear A110
    by_cases c12 : x3_1.size + t187.size ≤ 9223372036854775807
    rotate_left
    ·rw [if_neg c12] at H
     exact absurd H (by simp)
    rw [if_pos c12] at H
    have c12b0 := eq_true c12
    have c12b1 := decide_eq_true c12
    try have c12b2 : (9223372036854775807 < x3_1.size + t187.size) = False := eq_false (Nat.not_lt.2 c12)
    have H' := Aside0.mk H
    clear H
    have p186 : 0 ≤ (x15_1 : Int) := of_decide_eq_true uJ
    have q186 : x15_1 < (l0_0.length : Int) := of_decide_eq_true uJ
    obtain ⟨ad186, e186, hx186_0⟩ := Kd.at_int HR0_0.out x15_1 p186 q186
    cases e186
    replace hx186_0 := (HB.out.cell (vF w _ hx186_0)).trans hx186_0
    replace p186 := eq_true p186
    replace q186 := eq_true q186
    go_wp2_with (first | ((with_reducible refine uI (f := 87) rfl ?_); refine goesM (some 21) Tryd.func87 #[.int .i64 (rd l0_0 x15_1)] ?_; (with_reducible refine (impl_FormatInt.calls (rd l0_0 x15_1) t187 _ ?side1 A11.out).mono ?_); (case side1 => exact cq7); rintro e w13 ⟨rfl, hb⟩; refine ⟨_, rfl, ?_⟩; replace BK184 := tBlk BK184 hb; replace HB := uP HB hb; (try clear hb)))
    go_roundg k1
    case measure => have := HK1.out; omega
    case rel => exact ⟨(x3_1 ++ t187), (wrap64 (x15_1 + 1)), cq3, cq3, H', ⟨by have := HK1.out; omega⟩, ⟨cq60⟩, ⟨cq0⟩⟩
   rw [if_neg c8] at H
   have c8b0 := decide_eq_false c8
   clear c8
   have H' := Aside0.mk H
   clear H
   obtain ⟨hcz14_0, hcz14_1, hfz14_0, hfz14_1⟩ := cz2 BK184
   go_wp2
   go_loopg [3, 27] k1 (fun kq v3 v27 w' => ∃ (x3_2 : ByteArray) (x27_2 : Int), v3 = .string x3_2 ∧ v27 = .int .i64 x27_2 ∧ Aside0 (impl_FormatMachine.l1 kq x3_2 l0_1 (l0_1.length : Int) x27_2 = some r) ∧ Aside0 (kq ≤ k1) ∧ Aside0 (w'.heap[gb184]? = some (.cells #[(.slice A0_0 l0_0.length c0_0), (.slice A0_1 l0_1.length c0_1)] 56 (0, 0))) ∧ Aside0 (Below w.heap.size w w'))
   case atStart => exact ⟨(x3_1), (0), cq3, cq3, H', ⟨Nat.le_refl _⟩, ⟨cq60⟩, ⟨cq0⟩⟩
   case round =>
    clear H'
    try clear c3
    try clear c8
    try clear c8b0
    try clear hcz14_0
    try clear hcz14_1
    try clear hcz38_0
    try clear hcz38_1
    try clear hcz7_0
    try clear hcz7_1
    try clear hfz14_0
    try clear hfz14_1
    try clear hfz38_0
    try clear hfz38_1
    try clear hfz7_0
    try clear hfz7_1
    obtain ⟨x3_2, x27_2, rfl, rfl, HA, HK2, BK184, HB⟩ := hrel
    cases gk with
    | zero => exact absurd HA.out (by simp [impl_FormatMachine.l1])
    | succ k2 =>
     have H := HA.out
     clear HA
     simp only [impl_FormatMachine.l1] at H
     by_cases c15 : x27_2 < (l0_1.length : Int)
     rotate_left
     ·rw [if_neg c15] at H
      have c15b0 := decide_eq_false c15
      clear c15
      obtain rfl := Option.some.inj H
      go_wp2
      go_ret
      exact ⟨cq4, cq0⟩
     rw [if_pos c15] at H
     have c15b0 := decide_eq_true c15
     clear c15
     obtain ⟨c16b0, H⟩ := ifD H
     obtain ⟨c17b0, H⟩ := ifD H
     have HC18 := Aside0.mk H
     clear H
     have p188 : 0 ≤ (x27_2 : Int) := of_decide_eq_true uJ
     have q188 : x27_2 < (l0_1.length : Int) := of_decide_eq_true uJ
     obtain ⟨ad188, e188, hx188_0, hx188_1, hx188_2, hx188_3⟩ := at_T97 HR0_1.out x27_2 p188 q188
     cases e188
     replace hx188_0 := (HB.out.cell (vF w _ hx188_0)).trans hx188_0
     replace hx188_1 := (HB.out.cell (vF w _ hx188_1)).trans hx188_1
     replace hx188_2 := (HB.out.cell (vF w _ hx188_2)).trans hx188_2
     replace hx188_3 := (HB.out.cell (vF w _ hx188_3)).trans hx188_3
     replace p188 := eq_true p188
     replace q188 := eq_true q188
     go_upto_if 33 with (first | ((with_reducible refine uU (N := 7) rfl ?_); refine bxe 7 #[.int .i64 0, .int .i64 0, .bool false, .int .i64 0] 97 ?_; intro gb189 hg w19 hbox hb; have n0_ := tBlk BK184 hb; have n1_ := uP HB hb; have n2_ := Aside0.mk (hbox); have n3_ := tGe HB hg; have n4_ := tGe HB hg; have n5_ := tNl BK184 hg; have n6_ := tNg BK184 hg; clear BK184; clear HB; have BK184 := n0_; have HB := n1_; have BK189 := n2_; have GW189 := n3_; have GE189 := n4_; have NB184_189 := n5_; have NB189_184 := n6_; clear n0_ n1_ n2_ n3_ n4_ n5_ n6_; clear hb hbox hg; have hnb20 := NB189_184.out; have hnc20 := NB184_189.out; have hcz21_0 : w19.cell? ⟨gb189, 0, none⟩ = some (.int .i64 0) := (uE BK189.out 0).trans rfl; have hcz21_1 : w19.cell? ⟨gb189, 1, none⟩ = some (.int .i64 0) := (uE BK189.out 1).trans rfl; have hcz21_2 : w19.cell? ⟨gb189, 2, none⟩ = some (.bool false) := (uE BK189.out 2).trans rfl; have hcz21_3 : w19.cell? ⟨gb189, 3, none⟩ = some (.int .i64 0) := (uE BK189.out 3).trans rfl; have hfz21_0 := uX BK189.out 0; have hfz21_1 := uX BK189.out 1; have hfz21_2 := uX BK189.out 2; have hfz21_3 := uX BK189.out 3))
     (try simp only [Act.put, uZ, vA, vB])
     go_cut [8] (fun v8 wc => ∃ (kq : Nat) (x8_17 : ByteArray), v8 = .string x8_17 ∧ Aside0 (impl_FormatMachine.j2 kq x3_2 x8_17 l0_1 (l0_1.length : Int) x27_2 ((rd_T97 l0_1 x27_2).f0) ((rd_T97 l0_1 x27_2).f1) ((rd_T97 l0_1 x27_2).f2.f0) ((rd_T97 l0_1 x27_2).f2.f1) = some r) ∧ Aside0 (kq ≤ k2) ∧ Aside0 (wc.heap[gb184]? = some (.cells #[(.slice A0_0 l0_0.length c0_0), (.slice (some ad188) l0_1.length c0_1)] 56 (0, 0))) ∧ Aside0 (wc.heap[gb189]? = some (.cells #[.int .i64 ((rd_T97 l0_1 x27_2).f0), .int .i64 ((rd_T97 l0_1 x27_2).f1), .bool ((rd_T97 l0_1 x27_2).f2.f0), .int .i64 ((rd_T97 l0_1 x27_2).f2.f1)] 97 (0, 0))) ∧ Aside0 (Below w.heap.size w wc))
     case first =>
      have H := HC18.out
      clear HC18
      obtain ⟨bq22, hbq22⟩ : ∃ b_ : Bool, b_ = ((rd_T97 l0_1 x27_2).f2.f0) := ⟨_, rfl⟩
      replace H : (if bq22 = true then (impl_FormatMachine.j2 k2 x3_2 (⟨#[43]⟩ : ByteArray) l0_1 (l0_1.length : Int) x27_2 ((rd_T97 l0_1 x27_2).f0) ((rd_T97 l0_1 x27_2).f1) bq22 ((rd_T97 l0_1 x27_2).f2.f1)) else (impl_FormatMachine.j2 k2 x3_2 (⟨#[45]⟩ : ByteArray) l0_1 (l0_1.length : Int) x27_2 ((rd_T97 l0_1 x27_2).f0) ((rd_T97 l0_1 x27_2).f1) bq22 ((rd_T97 l0_1 x27_2).f2.f1))) = some r := by first | (rw [← hbq22] at H; exact H) | rfl
      have Nbq22 := Aside0.mk hbq22
      clear hbq22
      (try rw [← Nbq22.out])
      by_cases c23 : bq22 = true
      ·subst c23
       try rw [if_pos rfl] at H
       have H' := Aside0.mk H
       clear H
       go_wp2
       go_meet
       case rel => (try rw [← Nbq22.out]); exact ⟨_, ((⟨#[43]⟩ : ByteArray)), cq3, H', ⟨by have := HK1.out; have := HK2.out; first | omega | exact Nat.le_refl _⟩, ⟨by (with_reducible repeat (first | refine uC ?_ _ | refine uD ?_ | refine uB ?_ _)); refine uT ?_ NB184_189.out _; (with_reducible repeat (first | refine uC ?_ _ | refine uD ?_ | refine uB ?_ _)); refine uT ?_ NB184_189.out _; (with_reducible repeat (first | refine uC ?_ _ | refine uD ?_ | refine uB ?_ _)); refine uT ?_ NB184_189.out _; (with_reducible repeat (first | refine uC ?_ _ | refine uD ?_ | refine uB ?_ _)); refine uT ?_ NB184_189.out _; (with_reducible repeat (first | refine uC ?_ _ | refine uD ?_ | refine uB ?_ _)); exact BK184.out⟩, ⟨by (with_reducible repeat (first | refine uC ?_ _ | refine uD ?_ | refine uB ?_ _)); refine uO (cs := #[.int .i64 ((rd_T97 l0_1 x27_2).f0), .int .i64 ((rd_T97 l0_1 x27_2).f1), .bool (true), .int .i64 0]) ?_ 3 _ rfl; (with_reducible repeat (first | refine uC ?_ _ | refine uD ?_ | refine uB ?_ _)); refine uO (cs := #[.int .i64 ((rd_T97 l0_1 x27_2).f0), .int .i64 ((rd_T97 l0_1 x27_2).f1), .bool false, .int .i64 0]) ?_ 2 _ rfl; (with_reducible repeat (first | refine uC ?_ _ | refine uD ?_ | refine uB ?_ _)); refine uO (cs := #[.int .i64 ((rd_T97 l0_1 x27_2).f0), .int .i64 0, .bool false, .int .i64 0]) ?_ 1 _ rfl; (with_reducible repeat (first | refine uC ?_ _ | refine uD ?_ | refine uB ?_ _)); refine uO (cs := #[.int .i64 0, .int .i64 0, .bool false, .int .i64 0]) ?_ 0 _ rfl; (with_reducible repeat (first | refine uC ?_ _ | refine uD ?_ | refine uB ?_ _)); exact BK189.out⟩, ⟨cq0⟩⟩
      replace c23 := Bool.eq_false_iff.mpr c23
      subst c23
      try rw [if_neg (show ¬ (false = true) by decide)] at H
      have H' := Aside0.mk H
      clear H
      go_wp2
      go_meet
      case rel => (try rw [← Nbq22.out]); exact ⟨_, ((⟨#[45]⟩ : ByteArray)), cq3, H', ⟨by have := HK1.out; have := HK2.out; first | omega | exact Nat.le_refl _⟩, ⟨by (with_reducible repeat (first | refine uC ?_ _ | refine uD ?_ | refine uB ?_ _)); refine uT ?_ NB184_189.out _; (with_reducible repeat (first | refine uC ?_ _ | refine uD ?_ | refine uB ?_ _)); refine uT ?_ NB184_189.out _; (with_reducible repeat (first | refine uC ?_ _ | refine uD ?_ | refine uB ?_ _)); refine uT ?_ NB184_189.out _; (with_reducible repeat (first | refine uC ?_ _ | refine uD ?_ | refine uB ?_ _)); refine uT ?_ NB184_189.out _; (with_reducible repeat (first | refine uC ?_ _ | refine uD ?_ | refine uB ?_ _)); exact BK184.out⟩, ⟨by (with_reducible repeat (first | refine uC ?_ _ | refine uD ?_ | refine uB ?_ _)); refine uO (cs := #[.int .i64 ((rd_T97 l0_1 x27_2).f0), .int .i64 ((rd_T97 l0_1 x27_2).f1), .bool (false), .int .i64 0]) ?_ 3 _ rfl; (with_reducible repeat (first | refine uC ?_ _ | refine uD ?_ | refine uB ?_ _)); refine uO (cs := #[.int .i64 ((rd_T97 l0_1 x27_2).f0), .int .i64 ((rd_T97 l0_1 x27_2).f1), .bool false, .int .i64 0]) ?_ 2 _ rfl; (with_reducible repeat (first | refine uC ?_ _ | refine uD ?_ | refine uB ?_ _)); refine uO (cs := #[.int .i64 ((rd_T97 l0_1 x27_2).f0), .int .i64 0, .bool false, .int .i64 0]) ?_ 1 _ rfl; (with_reducible repeat (first | refine uC ?_ _ | refine uD ?_ | refine uB ?_ _)); refine uO (cs := #[.int .i64 0, .int .i64 0, .bool false, .int .i64 0]) ?_ 0 _ rfl; (with_reducible repeat (first | refine uC ?_ _ | refine uD ?_ | refine uB ?_ _)); exact BK189.out⟩, ⟨cq0⟩⟩
     case rest =>
      clear HC18
      try clear c3
      try clear c8
      try clear c8b0
      try clear c15
      try clear c15b0
      try clear c16b0
      try clear c17b0
      try clear hcz14_0
      try clear hcz14_1
      try clear hcz21_0
      try clear hcz21_1
      try clear hcz21_2
      try clear hcz21_3
      try clear hcz38_0
      try clear hcz38_1
      try clear hcz7_0
      try clear hcz7_1
      try clear hfz14_0
      try clear hfz14_1
      try clear hfz21_0
      try clear hfz21_1
      try clear hfz21_2
      try clear hfz21_3
      try clear hfz38_0
      try clear hfz38_1
      try clear hfz7_0
      try clear hfz7_1
      try clear hx188_0
      try clear hx188_1
      try clear hx188_2
      try clear hx188_3
      try clear p188
      try clear q188
      obtain ⟨kq, x8_17, rfl, HA, HJ17, BK184, BK189, HB⟩ := hcut
      cases kq with
      | zero => exact absurd HA.out (by simp [impl_FormatMachine.j2])
      | succ kj17 =>
       have H := HA.out
       clear HA
       simp only [impl_FormatMachine.j2] at H
       replace H := Option.bind_eq_some_iff.mp H
       obtain ⟨t190, A240, H⟩ := H
       try dsimp only at H
       have A24 := Aside0.mk A240
       clear A240
       by_cases c25 : 1 + t190.size ≤ 9223372036854775807
       rotate_left
       ·rw [if_neg c25] at H
        exact absurd H (by simp)
       rw [if_pos c25] at H
       have c25b0 := eq_true c25
       have c25b1 := decide_eq_true c25
       try have c25b2 : (9223372036854775807 < 1 + t190.size) = False := eq_false (Nat.not_lt.2 c25)
       by_cases c26 : ((⟨#[32]⟩ : ByteArray) ++ t190).size + 1 ≤ 9223372036854775807
       rotate_left
       ·rw [if_neg c26] at H
        exact absurd H (by simp)
       rw [if_pos c26] at H
       have c26b0 := eq_true c26
       have c26b1 := decide_eq_true c26
       try have c26b2 : (9223372036854775807 < ((⟨#[32]⟩ : ByteArray) ++ t190).size + 1) = False := eq_false (Nat.not_lt.2 c26)
       have c26b3 : (9223372036854775807 < 1 + t190.size + 1) = False := eq_false (Nat.not_lt.2 (by have z_ := c26; (repeat rw [ByteArray.size_append] at z_); exact z_))
       replace H := Option.bind_eq_some_iff.mp H
       obtain ⟨t191, A270, H⟩ := H
       try dsimp only at H
       have A27 := Aside0.mk A270
       clear A270
       by_cases c28 : (((⟨#[32]⟩ : ByteArray) ++ t190) ++ (⟨#[46]⟩ : ByteArray)).size + t191.size ≤ 9223372036854775807
       rotate_left
       ·rw [if_neg c28] at H
        exact absurd H (by simp)
       rw [if_pos c28] at H
       have c28b0 := eq_true c28
       have c28b1 := decide_eq_true c28
       try have c28b2 : (9223372036854775807 < (((⟨#[32]⟩ : ByteArray) ++ t190) ++ (⟨#[46]⟩ : ByteArray)).size + t191.size) = False := eq_false (Nat.not_lt.2 c28)
       have c28b3 : (9223372036854775807 < 1 + t190.size + 1 + t191.size) = False := eq_false (Nat.not_lt.2 (by have z_ := c28; (repeat rw [ByteArray.size_append] at z_); exact z_))
       by_cases c29 : ((((⟨#[32]⟩ : ByteArray) ++ t190) ++ (⟨#[46]⟩ : ByteArray)) ++ t191).size + x8_17.size ≤ 9223372036854775807
       rotate_left
       ·rw [if_neg c29] at H
        exact absurd H (by simp)
       rw [if_pos c29] at H
       have c29b0 := eq_true c29
       have c29b1 := decide_eq_true c29
       try have c29b2 : (9223372036854775807 < ((((⟨#[32]⟩ : ByteArray) ++ t190) ++ (⟨#[46]⟩ : ByteArray)) ++ t191).size + x8_17.size) = False := eq_false (Nat.not_lt.2 c29)
       have c29b3 : (9223372036854775807 < 1 + t190.size + 1 + t191.size + x8_17.size) = False := eq_false (Nat.not_lt.2 (by have z_ := c29; (repeat rw [ByteArray.size_append] at z_); exact z_))
       replace H := Option.bind_eq_some_iff.mp H
       obtain ⟨t192, A300, H⟩ := H
       try dsimp only at H
       have A30 := Aside0.mk A300
       clear A300
       by_cases c31 : (((((⟨#[32]⟩ : ByteArray) ++ t190) ++ (⟨#[46]⟩ : ByteArray)) ++ t191) ++ x8_17).size + t192.size ≤ 9223372036854775807
       rotate_left
       ·rw [if_neg c31] at H
        exact absurd H (by simp)
       rw [if_pos c31] at H
       have c31b0 := eq_true c31
       have c31b1 := decide_eq_true c31
       try have c31b2 : (9223372036854775807 < (((((⟨#[32]⟩ : ByteArray) ++ t190) ++ (⟨#[46]⟩ : ByteArray)) ++ t191) ++ x8_17).size + t192.size) = False := eq_false (Nat.not_lt.2 c31)
       have c31b3 : (9223372036854775807 < 1 + t190.size + 1 + t191.size + x8_17.size + t192.size) = False := eq_false (Nat.not_lt.2 (by have z_ := c31; (repeat rw [ByteArray.size_append] at z_); exact z_))
       by_cases c32 : x3_2.size + ((((((⟨#[32]⟩ : ByteArray) ++ t190) ++ (⟨#[46]⟩ : ByteArray)) ++ t191) ++ x8_17) ++ t192).size ≤ 9223372036854775807
       rotate_left
       ·rw [if_neg c32] at H
        exact absurd H (by simp)
       rw [if_pos c32] at H
       have c32b0 := eq_true c32
       have c32b1 := decide_eq_true c32
       try have c32b2 : (9223372036854775807 < x3_2.size + ((((((⟨#[32]⟩ : ByteArray) ++ t190) ++ (⟨#[46]⟩ : ByteArray)) ++ t191) ++ x8_17) ++ t192).size) = False := eq_false (Nat.not_lt.2 c32)
       have c32b3 : (9223372036854775807 < x3_2.size + (1 + t190.size + 1 + t191.size + x8_17.size + t192.size)) = False := eq_false (Nat.not_lt.2 (by have z_ := c32; (repeat rw [ByteArray.size_append] at z_); exact z_))
       have H' := Aside0.mk H
       clear H
       try go_wp2
       replace BK184 := Aside0.mk (uD BK184.out)
       replace BK189 := Aside0.mk (uD BK189.out)
       replace HB := Aside0.mk (uW HB.out)
       refine start_ (n := 19) (S := fun w' => w'.cell? ⟨gb189, 0, none⟩ = some (.int .i64 ((rd_T97 l0_1 x27_2).f0)) ∧ w'.cell? ⟨gb189, 1, none⟩ = some (.int .i64 ((rd_T97 l0_1 x27_2).f1)) ∧ w'.cell? ⟨gb189, 2, none⟩ = some (.bool ((rd_T97 l0_1 x27_2).f2.f0)) ∧ w'.cell? ⟨gb189, 3, none⟩ = some (.int .i64 ((rd_T97 l0_1 x27_2).f2.f1))) (ds := []) tb0 (by kernel_rfl) rfl rfl ⟨(uE BK189.out 0).trans rfl, (uE BK189.out 1).trans rfl, (uE BK189.out 2).trans rfl, (uE BK189.out 3).trans rfl⟩ (fun hHeld => ?_); refine with_tabW impl_FormatMachine.tab15 impl_FormatMachine.bits15 (fun HT_ HW_ => ?_)
       generalize wc.drew = w33 at BK184 BK189 HB hHeld ⊢
       refine uN 0 (some 34) tb1 ?_
       refine uN 1 (some 35) tb2 ?_
       refine uN 6 (some 40) #[true, true, false, false, false, false, true, false, false, false, false, false, false, false, false, false, false, false, false] ?_
       refine uN 10 (some 44) #[true, true, false, false, false, false, true, false, false, false, true, false, false, false, false, false, false, false, false] ?_
       refine uN 12 (some 46) #[true, true, false, false, false, false, true, false, false, false, true, false, true, false, false, false, false, false, false] ?_
       refine uN 13 (some 47) #[true, true, false, false, false, false, true, false, false, false, true, false, true, true, false, false, false, false, false] ?_
       refine takeT 2 (some 36) #[true, true, true, false, false, false, true, false, false, false, true, false, true, true, false, false, false, false, false] ?_
       refine takeT 7 (some 41) #[true, true, true, false, false, false, true, true, false, false, true, false, true, true, false, false, false, false, false] ?_
       refine takeT 14 (some 48) #[true, true, true, false, false, false, true, true, false, false, true, false, true, true, true, false, false, false, false] ?_
       refine oneT 3 (some 37) #[true, true, true, true, false, false, true, true, false, false, true, false, true, true, true, false, false, false, false] (fun K hK => ?_)
       refine goesT Tryd.func87 #[.int .i64 ((rd_T97 l0_1 x27_2).f0)] ?_
       with_reducible refine (impl_FormatInt.calls ((rd_T97 l0_1 x27_2).f0) t190 _ ?side1 A24.out).mono ?_
       (case side1 => exact cq7)
       rintro e w34 ⟨rfl, hb⟩
       refine ⟨_, rfl, ?_⟩
       replace BK184 := tBlk BK184 hb
       replace BK189 := tBlk BK189 hb
       replace HB := uP HB hb
       (try clear hb)
       refine hK.out _ _ ⟨(uE BK189.out 0).trans rfl, (uE BK189.out 1).trans rfl, (uE BK189.out 2).trans rfl, (uE BK189.out 3).trans rfl⟩ (fun hHeld => ?_)
       clear hK K
       refine normT (some 37) ?_
       refine uN 4 (some 38) #[true, true, true, true, true, false, true, true, false, false, true, false, true, true, true, false, false, false, false] ?_
       refine uN 5 (some 39) #[true, true, true, true, true, true, true, true, false, false, true, false, true, true, true, false, false, false, false] ?_
       refine oneT 8 (some 42) #[true, true, true, true, true, true, true, true, true, false, true, false, true, true, true, false, false, false, false] (fun K hK => ?_)
       refine goesT Tryd.func87 #[.int .i64 ((rd_T97 l0_1 x27_2).f1)] ?_
       with_reducible refine (impl_FormatInt.calls ((rd_T97 l0_1 x27_2).f1) t191 _ ?side1 A27.out).mono ?_
       (case side1 => exact cq7)
       rintro e w35 ⟨rfl, hb⟩
       refine ⟨_, rfl, ?_⟩
       replace BK184 := tBlk BK184 hb
       replace BK189 := tBlk BK189 hb
       replace HB := uP HB hb
       (try clear hb)
       refine hK.out _ _ ⟨(uE BK189.out 0).trans rfl, (uE BK189.out 1).trans rfl, (uE BK189.out 2).trans rfl, (uE BK189.out 3).trans rfl⟩ (fun hHeld => ?_)
       clear hK K
       refine normT (some 42) ?_
       refine uN 9 (some 43) #[true, true, true, true, true, true, true, true, true, true, true, false, true, true, true, false, false, false, false] ?_
       refine uN 11 (some 45) #[true, true, true, true, true, true, true, true, true, true, true, true, true, true, true, false, false, false, false] ?_
       refine oneT 15 (some 49) tb3 (fun K hK => ?_)
       refine goesT Tryd.func87 #[.int .i64 ((rd_T97 l0_1 x27_2).f2.f1)] ?_
       with_reducible refine (impl_FormatInt.calls ((rd_T97 l0_1 x27_2).f2.f1) t192 _ ?side1 A30.out).mono ?_
       (case side1 => exact cq7)
       rintro e w36 ⟨rfl, hb⟩
       refine ⟨_, rfl, ?_⟩
       replace BK184 := tBlk BK184 hb
       replace BK189 := tBlk BK189 hb
       replace HB := uP HB hb
       (try clear hb)
       refine hK.out _ _ ⟨(uE BK189.out 0).trans rfl, (uE BK189.out 1).trans rfl, (uE BK189.out 2).trans rfl, (uE BK189.out 3).trans rfl⟩ (fun hHeld => ?_)
       clear hK K
       refine normT (some 49) ?_
       refine uN 16 (some 50) tb4 ?_
       refine uN 17 (some 51) tb5 ?_
       refine uN 18 (some 3) tb6 ?_
       refine done_ (done_of HT_.out (by kernel_rfl)) ?_
       try go_wp2
       go_roundg kj17
       case measure => have := HK1.out; have := HK2.out; have := HJ17.out; omega
       case rel => exact ⟨(x3_2 ++ ((((((⟨#[32]⟩ : ByteArray) ++ t190) ++ (⟨#[46]⟩ : ByteArray)) ++ t191) ++ x8_17) ++ t192)), (wrap64 (x27_2 + 1)), cq3, cq3, H', ⟨by have := HK1.out; have := HK2.out; have := HJ17.out; omega⟩, ⟨cq60⟩, ⟨cq0⟩⟩

end Go.Proofs.YtcikahnmiiichaaDoor.P
