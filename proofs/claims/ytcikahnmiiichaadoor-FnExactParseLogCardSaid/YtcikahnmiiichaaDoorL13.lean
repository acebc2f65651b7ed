/- Go functions as Lean functions, and the proof that the code comes to them: written by a program of this session out of the translation. -/
import Derived.Test.YtcikahnmiiichaaDoorL0
import Derived.Test.YtcikahnmiiichaaDoorL9
import Derived.Test.YtcikahnmiiichaaDoorL11
import Derived.Test.YtcikahnmiiichaaDoorL12
namespace Go.Proofs.YtcikahnmiiichaaDoor.L
open List renaming setIfInBounds_toArray → vD, set_cons_zero → vE, set_cons_succ → vF
open Go.World renaming block_lt_of_cell? → vJ
open Go.Proofs.YtcikahnmiiichaaDoor.Given
open Go.RowKit Go.Proofs.YtcikahnmiiichaaDoorW.PrintWords Go.Proofs.YtcikahnmiiichaaDoorW.PrintLast Go.Proofs.YtcikahnmiiichaaDoorW.PrintMore
attribute [local go_sem] max2_int min2_int max_two min_two max_three min_three max_four min_four   -- for this text's walks alone
set_option linter.unusedVariables false
set_option linter.unusedSimpArgs false

/-! ### impl_ParseOp: function 71 -/
def impl_ParseOp.j0 : Nat → ByteArray → Int → Int → Int → Int → Int → Int → Option (Int × Int × Int × Int × Int × Int × Bool)
  | 0, _, _, _, _, _, _, _ => none
  | k + 1, x0, x272000, x272001, x272002, x272003, x272004, x272005 => (impl_FormatOp.f x272000 x272001 x272002 x272003 x272004 x272005).bind fun t274 => (if t274.toList = x0.toList then (some (x272000, x272001, x272002, x272003, x272004, x272005, true)) else (some (0, 0, 0, 0, 0, 0, false)))
def impl_ParseOp.f (k : Nat) (a0 : ByteArray) : Option (Int × Int × Int × Int × Int × Int × Bool) := (strings_Split.f k a0 (⟨#[32]⟩ : ByteArray)).bind fun t258 => (if (t258.length : Int) < 4 then (some (0, 0, 0, 0, 0, 0, false)) else (if 0 < (t258.length : Int) then ((strings_Cut.f (rdOf ByteArray.empty t258 0) (⟨#[46]⟩ : ByteArray)).bind fun bt262 => ((impl_number.f k bt262.1).bind fun t265 => ((impl_number.f k bt262.2.1).bind fun t266 => (if 2 < (t258.length : Int) then ((impl_number.f k (rdOf ByteArray.empty t258 2)).bind fun t268 => (if 0 ≤ (wrap64 ((t258.length : Int) - 1)) then (if (wrap64 ((t258.length : Int) - 1)) < (t258.length : Int) then ((impl_number.f k (rdOf ByteArray.empty t258 (wrap64 ((t258.length : Int) - 1)))).bind fun t270 => (if (t258.length : Int) = 5 then (if 3 < (t258.length : Int) then ((impl_number.f k (rdOf ByteArray.empty t258 3)).bind fun t273 => (impl_ParseOp.j0 k a0 t265 t266 2 t268 t273 t270)) else (none)) else (impl_ParseOp.j0 k a0 t265 t266 1 t268 0 t270))) else (none)) else (none))) else (none))))) else (none)))
theorem impl_ParseOp.mono_l : ∀ k, (∀ y0 y1 y2 y3 y4 y5 y6, uE (impl_ParseOp.j0 k y0 y1 y2 y3 y4 y5 y6) (impl_ParseOp.j0 (k + 1) y0 y1 y2 y3 y4 y5 y6))
  | 0 => fun _ _ _ _ _ _ _ r h => by simp [impl_ParseOp.j0] at h
  | k + 1 => by
    have ih0 := impl_ParseOp.mono_l k
    intro y0 y1 y2 y3 y4 y5 y6
    unfold impl_ParseOp.j0
    repeat' first
    | (with_reducible exact ih0 _ _ _ _ _ _ _)
    | (with_reducible exact impl_number.mono _ _)
    | (with_reducible exact strings_Split.mono _ _ _)
    | (with_reducible exact uE.refl _)
    | (with_reducible exact uE.none _)
    | (with_reducible refine uE.ite ?_ ?_)
    | (with_reducible refine uE.bind ?_ (fun _ => ?_))
    | exact ih0 _ _ _ _ _ _ _
    | exact uE.none _
    | refine uE.ite ?_ ?_
    | refine uE.bind ?_ (fun _ => ?_)
theorem impl_ParseOp.mono : ∀ a0 k, uE (impl_ParseOp.f k a0) (impl_ParseOp.f (k + 1) a0) := by
  intro a0 k
  have ih0 := impl_ParseOp.mono_l k
  unfold impl_ParseOp.f
  repeat' first
      | (with_reducible exact ih0 _ _ _ _ _ _ _)
      | (with_reducible exact impl_number.mono _ _)
      | (with_reducible exact strings_Split.mono _ _ _)
      | (with_reducible exact uE.refl _)
      | (with_reducible exact uE.none _)
      | (with_reducible refine uE.ite ?_ ?_)
      | (with_reducible refine uE.bind ?_ (fun _ => ?_))
      | exact ih0 _ _ _ _ _ _ _
      | exact uE.none _
      | refine uE.ite ?_ ?_
      | refine uE.bind ?_ (fun _ => ?_)
def impl_ParseOp.T5 : Bool × List (List Nat × List Nat) := (true, [([], []), ([0], [0]), ([], []), ([2, 1], [2]), ([], []), ([4], [4]), ([5], [5]), ([6, 3], [6]), ([], []), ([], []), ([9], [9]), ([10], [10]), ([8, 11], [8, 11]), ([12], [12]), ([13, 7], [13]), ([1, 3, 7, 14], [1, 3, 7, 14]), ([], []), ([16, 15, 14, 0, 1, 2, 3, 4, 5, 6, 7, 8, 9, 10, 11, 12, 13, 14, 15, 16], [15, 16])])
def impl_ParseOp.B5 : List Nat := [0, 1, 0, 7, 0, 16, 48, 127, 0, 0, 512, 1536, 3840, 7936, 16383, 32767, 0, 131071]
theorem impl_ParseOp.tab5 : rtab .any (opsOf Tryd.f71 5) = impl_ParseOp.T5 := by kernel_rfl
theorem impl_ParseOp.bits5 : waitsOk impl_ParseOp.T5.2 impl_ParseOp.B5 = true := by kernel_rfl
set_option maxHeartbeats 8000000 in
set_option maxRecDepth 100000 in
theorem impl_ParseOp.calls (k : Nat) (a0 : ByteArray) (r1 : Int) (r2 : Int) (r3 : Int) (r4 : Int) (r5 : Int) (r6 : Int) (r7 : Bool) (w : World) (hWF : WF w) (h : impl_ParseOp.f k a0 = some (r1, r2, r3, r4, r5, r6, r7)) :
    Calls Tryd.prog 71 #[.string a0] w fun e w' => e = .returned (.tuple #[.agg #[.int .i64 r1, .int .i64 r2, .int .i64 r3, .int .i64 r4, .int .i64 r5, .int .i64 r6], .bool r7]) ∧ Below w.heap.size w w' := by
  have hu64 := Tryd.underlying64
  have HB := Aside0.mk (Below.refl w.heap.size w)
  have H : ((strings_Split.f k a0 (⟨#[32]⟩ : ByteArray)).bind fun t258 => (if (t258.length : Int) < 4 then (some (0, 0, 0, 0, 0, 0, false)) else (if 0 < (t258.length : Int) then ((strings_Cut.f (rdOf ByteArray.empty t258 0) (⟨#[46]⟩ : ByteArray)).bind fun bt262 => ((impl_number.f k bt262.1).bind fun t265 => ((impl_number.f k bt262.2.1).bind fun t266 => (if 2 < (t258.length : Int) then ((impl_number.f k (rdOf ByteArray.empty t258 2)).bind fun t268 => (if 0 ≤ (wrap64 ((t258.length : Int) - 1)) then (if (wrap64 ((t258.length : Int) - 1)) < (t258.length : Int) then ((impl_number.f k (rdOf ByteArray.empty t258 (wrap64 ((t258.length : Int) - 1)))).bind fun t270 => (if (t258.length : Int) = 5 then (if 3 < (t258.length : Int) then ((impl_number.f k (rdOf ByteArray.empty t258 3)).bind fun t273 => (impl_ParseOp.j0 k a0 t265 t266 2 t268 t273 t270)) else (none)) else (impl_ParseOp.j0 k a0 t265 t266 1 t268 0 t270))) else (none)) else (none))) else (none))))) else (none)))) = some (r1, r2, r3, r4, r5, r6, r7) := h
  clear h
  replace H := Option.bind_eq_some_iff.mp H
  obtain ⟨t258, A20, H⟩ := H
  try dsimp only at H
  have A2 := Aside0.mk A20
  clear A20
  go_enter Tryd.func71, Tryd.ntmps71
  go_wp2_with (first | ((with_reducible refine gate_dst (N := 2) rfl ?_); refine bxe 2 #[.int .i64 0, .int .i64 0, .int .i64 0, .int .i64 0, .int .i64 0, .int .i64 0] 64 ?_; intro gb257 hg w4 hbox hb; have BK257 := Aside0.mk (hbox); have GW257 := tGe HB hg; have GE257 := tGe HB hg; replace HB := uR HB hb; clear hb hbox hg; refine ?roundEnd))
  case roundEnd =>
  by_cases c3 : (t258.length : Int) < 4
  · rw [if_pos c3] at H
    have c3b0 := decide_eq_true c3
    have c3b1 : decide (t258.length < 4) = true := decide_eq_true (by omega)
    clear c3
    simp only [Option.some.injEq, Prod.mk.injEq] at H
    obtain ⟨rfl, rfl, rfl, rfl, rfl, rfl, rfl⟩ := H
    go_wp2_with (first | ((with_reducible refine uM (f := 69) rfl ?_); refine uY (some 10) Tryd.func69 #[.string a0, .string (⟨#[32]⟩ : ByteArray)] ?_; (with_reducible refine (strings_Split.calls k a0 (⟨#[32]⟩ : ByteArray) t258 _ A2.out).mono ?_); rintro e w5 ⟨v259, rfl, ho0, hb⟩; refine ⟨_, rfl, ?_⟩; have HO260 := Aside0.mk (Kd.R_lower ho0 (vA cq0)); replace BK257 := tBlk BK257 hb; replace HB := uR HB hb; (try clear hb); (try clear ho0); obtain ⟨Ao6, co6, eo6⟩ := Kd.R_slice HO260.out; subst eo6; obtain ⟨hcz7_0, hcz7_1, hcz7_2, hcz7_3, hcz7_4, hcz7_5, hfz7_0, hfz7_1, hfz7_2, hfz7_3, hfz7_4, hfz7_5⟩ := cz6 BK257))
    refine bodyPost_ret (results_ct rfl _ _ gb257 64 #[.int .i64 0, .int .i64 0, .int .i64 0, .int .i64 0, .int .i64 0, .int .i64 0] (0, 0) _ rfl (by (with_reducible repeat (first | refine uD ?_ _ | refine uF ?_ | refine uB ?_ _)); refine uP (cs := #[.int .i64 0, .int .i64 0, .int .i64 0, .int .i64 0, .int .i64 0, .int .i64 0]) ?_ 5 _ rfl; (with_reducible repeat (first | refine uD ?_ _ | refine uF ?_ | refine uB ?_ _)); refine uP (cs := #[.int .i64 0, .int .i64 0, .int .i64 0, .int .i64 0, .int .i64 0, .int .i64 0]) ?_ 4 _ rfl; (with_reducible repeat (first | refine uD ?_ _ | refine uF ?_ | refine uB ?_ _)); refine uP (cs := #[.int .i64 0, .int .i64 0, .int .i64 0, .int .i64 0, .int .i64 0, .int .i64 0]) ?_ 3 _ rfl; (with_reducible repeat (first | refine uD ?_ _ | refine uF ?_ | refine uB ?_ _)); refine uP (cs := #[.int .i64 0, .int .i64 0, .int .i64 0, .int .i64 0, .int .i64 0, .int .i64 0]) ?_ 2 _ rfl; (with_reducible repeat (first | refine uD ?_ _ | refine uF ?_ | refine uB ?_ _)); refine uP (cs := #[.int .i64 0, .int .i64 0, .int .i64 0, .int .i64 0, .int .i64 0, .int .i64 0]) ?_ 1 _ rfl; (with_reducible repeat (first | refine uD ?_ _ | refine uF ?_ | refine uB ?_ _)); refine uP (cs := #[.int .i64 0, .int .i64 0, .int .i64 0, .int .i64 0, .int .i64 0, .int .i64 0]) ?_ 0 _ rfl; (with_reducible repeat (first | refine uD ?_ _ | refine uF ?_ | refine uB ?_ _)); exact BK257.out) Tryd.underlying64 rfl (by kernel_rfl)) rfl ?_
    exact ⟨cq3, cq0⟩
  rw [if_neg c3] at H
  have c3b0 := decide_eq_false c3
  have c3b1 : decide (t258.length < 4) = false := decide_eq_false (by omega)
  clear c3
  by_cases c8 : 0 < (t258.length : Int)
  rotate_left
  · rw [if_neg c8] at H
    exact absurd H (by simp)
  rw [if_pos c8] at H
  have c8b0 := decide_eq_true c8
  have c8b1 : decide (0 < t258.length) = true := decide_eq_true (by omega)
  clear c8
  replace H := Option.bind_eq_some_iff.mp H
  obtain ⟨⟨t262, t263, t264⟩, A90, H⟩ := H
  try dsimp only at H
  have A9 := Aside0.mk A90
  clear A90
  replace H := Option.bind_eq_some_iff.mp H
  obtain ⟨t265, A100, H⟩ := H
  try dsimp only at H
  have A10 := Aside0.mk A100
  clear A100
  replace H := Option.bind_eq_some_iff.mp H
  obtain ⟨t266, A110, H⟩ := H
  try dsimp only at H
  have A11 := Aside0.mk A110
  clear A110
  by_cases c12 : 2 < (t258.length : Int)
  rotate_left
  · rw [if_neg c12] at H
    exact absurd H (by simp)
  rw [if_pos c12] at H
  have c12b0 := decide_eq_true c12
  have c12b1 : decide (2 < t258.length) = true := decide_eq_true (by omega)
  clear c12
  replace H := Option.bind_eq_some_iff.mp H
  obtain ⟨t268, A130, H⟩ := H
  try dsimp only at H
  have A13 := Aside0.mk A130
  clear A130
  obtain ⟨ji14, hji14⟩ : ∃ j_ : Int, (wrap64 ((t258.length : Int) - 1)) = j_ := ⟨_, rfl⟩
  replace H : (if 0 ≤ (ji14) then (if (ji14) < (t258.length : Int) then ((impl_number.f k (rdOf ByteArray.empty t258 (ji14))).bind fun t270 => (if (t258.length : Int) = 5 then (if 3 < (t258.length : Int) then ((impl_number.f k (rdOf ByteArray.empty t258 3)).bind fun t273 => (impl_ParseOp.j0 k a0 t265 t266 2 t268 t273 t270)) else (none)) else (impl_ParseOp.j0 k a0 t265 t266 1 t268 0 t270))) else (none)) else (none)) = some (r1, r2, r3, r4, r5, r6, r7) := by first | (rw [hji14] at H; exact H) | (simp only [hji14] at H ⊢; exact H) | rfl
  (try rw [hji14] at A2)
  (try rw [hji14] at A9)
  (try rw [hji14] at A10)
  (try rw [hji14] at A11)
  (try rw [hji14] at A13)
  have hji14w : (IntKind.i64.wrap ((t258.length : Int) - 1)) = ji14 := (uI _).trans hji14
  obtain ⟨c15b0, H⟩ := ifD H
  obtain ⟨c16b0, H⟩ := ifD H
  replace H := Option.bind_eq_some_iff.mp H
  obtain ⟨t270, A170, H⟩ := H
  try dsimp only at H
  have A17 := Aside0.mk A170
  clear A170
  have HC18 := Aside0.mk H
  clear H
  try go_wp2_with (first | ((with_reducible refine uM (f := 69) rfl ?_); refine uY (some 10) Tryd.func69 #[.string a0, .string (⟨#[32]⟩ : ByteArray)] ?_; (with_reducible refine (strings_Split.calls k a0 (⟨#[32]⟩ : ByteArray) t258 _ A2.out).mono ?_); rintro e w20 ⟨v259, rfl, ho0, hb⟩; refine ⟨_, rfl, ?_⟩; have HO260 := Aside0.mk (Kd.R_lower ho0 (vA cq0)); replace BK257 := tBlk BK257 hb; replace HB := uR HB hb; (try clear hb); (try clear ho0); obtain ⟨Ao21, co21, eo21⟩ := Kd.R_slice HO260.out; subst eo21; have p261 : 0 ≤ (0 : Int) := (by omega); have q261 : 0 < (t258.length : Int) := of_decide_eq_true uL; obtain ⟨ad261, e261, hx261_0⟩ := Kd.at_string (Kd.uQ HO260.out).2.2 0 p261 q261; cases e261; have qi261 : (0 < t258.length) = True := eq_true (by omega); (try rw [show ((0 : Int)).toNat = 0 from rfl] at hx261_0); (try rw [Addr.add_zero'] at hx261_0); replace p261 := eq_true p261; replace q261 := eq_true q261) | ((with_reducible refine uM (f := 70) rfl ?_); refine uY (some 19) Tryd.func70 #[.string (rdOf ByteArray.empty t258 0), .string (⟨#[46]⟩ : ByteArray)] ?_; (with_reducible refine (strings_Cut.calls (rdOf ByteArray.empty t258 0) (⟨#[46]⟩ : ByteArray) t262 t263 t264 _ A9.out).mono ?_); rintro e w' ⟨rfl, ⟨nd, rfl⟩⟩; refine ⟨_, rfl, ?_⟩; (try (rw [drewN_self w20]; generalize hq_ : World.drewN w20 _ = w20; have n0_ : Aside0 (Kd.R Kd.string 9 w20 w.heap.size (fun _ => True) (.slice (some ad261) t258.length co21) t258) := ⟨by rw [← hq_]; exact (rSR HO260.out)⟩; have n1_ : Aside0 (w20.heap[gb257]? = some (.cells #[.int .i64 0, .int .i64 0, .int .i64 0, .int .i64 0, .int .i64 0, .int .i64 0] 64 (0, 0))) := ⟨by rw [← hq_]; exact (rSB BK257.out)⟩; have n2_ : Aside0 (Below w.heap.size w w20) := ⟨by rw [← hq_]; exact cq0⟩; clear HO260 BK257 HB hq_; have HO260 := n0_; have BK257 := n1_; have HB := n2_; clear n0_ n1_ n2_))))
  replace HO260 := Aside0.mk (Kd.uT HO260.out)
  replace BK257 := Aside0.mk (uF BK257.out)
  replace HB := Aside0.mk (vB HB.out)
  have p267 : 0 ≤ (2 : Int) := (by omega)
  have q267 : 2 < (t258.length : Int) := of_decide_eq_true uL
  obtain ⟨ad267, e267, hx267_0⟩ := Kd.at_string (Kd.uQ HO260.out).2.2 2 p267 q267
  obtain rfl : ad261 = ad267 := (by injection e267)
  (try simp only [show (2 : Int).toNat = 2 from rfl, Nat.reduceMul, Nat.reduceEqDiff, Go.Addr.add, ↓reduceIte] at hx267_0)
  have qi267 : (2 < t258.length) = True := eq_true (by omega)
  (try rw [show ((2 : Int)).toNat = 2 from rfl] at hx267_0)
  replace p267 := eq_true p267
  replace q267 := eq_true q267
  have p269 : 0 ≤ ((ji14) : Int) := of_decide_eq_true uL
  have q269 : (ji14) < (t258.length : Int) := of_decide_eq_true uL
  obtain ⟨ad269, e269, hx269_0⟩ := Kd.at_string (Kd.uQ HO260.out).2.2 (ji14) p269 q269
  obtain rfl : ad261 = ad269 := (by injection e269)
  replace p269 := eq_true p269
  replace q269 := eq_true q269
  refine start_ (n := 18) (S := fun w' => w'.cell? ⟨ad261.block, ad261.off + 2, none⟩ = some (.string (rdOf ByteArray.empty t258 2)) ∧ w'.cell? (ad261.add ((ji14)).toNat) = some (.string (rdOf ByteArray.empty t258 (ji14)))) (ds := []) #[false, false, false, false, false, false, false, false, false, false, false, false, false, false, false, false, false, false] (by kernel_rfl) rfl rfl ⟨hx267_0, hx269_0⟩ (fun hHeld => ?_); refine with_tabW impl_ParseOp.tab5 impl_ParseOp.bits5 (fun HT_ HW_ => ?_)
  generalize w20.drew = w22 at HO260 BK257 HB hx267_0 hx269_0 hHeld ⊢
  refine uJ 0 (some 23) #[true, false, false, false, false, false, false, false, false, false, false, false, false, false, false, false, false, false] ?_
  refine uJ 2 (some 25) #[true, false, true, false, false, false, false, false, false, false, false, false, false, false, false, false, false, false] ?_
  refine uJ 4 (some 27) #[true, false, true, false, true, false, false, false, false, false, false, false, false, false, false, false, false, false] ?_
  refine uJ 5 (some 28) #[true, false, true, false, true, true, false, false, false, false, false, false, false, false, false, false, false, false] ?_
  refine uJ 8 (some 31) #[true, false, true, false, true, true, false, false, true, false, false, false, false, false, false, false, false, false] ?_
  refine uJ 9 (some 32) #[true, false, true, false, true, true, false, false, true, true, false, false, false, false, false, false, false, false] ?_
  refine uJ 10 (some 33) #[true, false, true, false, true, true, false, false, true, true, true, false, false, false, false, false, false, false] ?_
  refine uJ 11 (some 34) #[true, false, true, false, true, true, false, false, true, true, true, true, false, false, false, false, false, false] ?_
  refine uJ 12 (some 35) #[true, false, true, false, true, true, false, false, true, true, true, true, true, false, false, false, false, false] ?_
  refine takeT 6 (some 29) #[true, false, true, false, true, true, true, false, true, true, true, true, true, false, false, false, false, false] ?_
  refine takeT 13 (some 36) #[true, false, true, false, true, true, true, false, true, true, true, true, true, true, false, false, false, false] ?_
  refine join_ (σ := Nat) 1 tb17 (fun s_ => [(24, .int .i64 t265), (26, .int .i64 t266), (30, .int .i64 t268), (37, .int .i64 t270), (8, .pointer (some ⟨s_, 0, none⟩)), (38, .agg #[.int .i64 t265, .int .i64 t266, .int .i64 1, .int .i64 t268, .int .i64 0, .int .i64 t270])]) (fun s_ w' => (w'.cell? ⟨ad261.block, ad261.off + 2, none⟩ = some (.string (rdOf ByteArray.empty t258 2)) ∧ w'.cell? (ad261.add ((ji14)).toNat) = some (.string (rdOf ByteArray.empty t258 (ji14)))) ∧ (Kd.R Kd.string 9 w' w.heap.size (fun _ => True) (.slice (some ad261) t258.length co21) t258) ∧ (w'.heap[gb257]? = some (.cells #[.int .i64 0, .int .i64 0, .int .i64 0, .int .i64 0, .int .i64 0, .int .i64 0] 64 (0, 0))) ∧ (w'.heap[s_]? = some (.cells #[.int .i64 0, .int .i64 0, .int .i64 0, .int .i64 0, .int .i64 0, .int .i64 0] 64 (0, 0))) ∧ (w.heap.size ≤ s_) ∧ (w.heap.size ≤ s_) ∧ (gb257 ≠ s_) ∧ (s_ ≠ gb257) ∧ (Below w.heap.size w w')) ?_ ?_
  rotate_left
  · intro hJ1_3_7_14_16
    refine join_ (σ := Unit) 2 tb48 (fun s_ => [(24, .int .i64 t265), (26, .int .i64 t266), (30, .int .i64 t268), (37, .int .i64 t270), (38, .agg #[.int .i64 t265, .int .i64 t266, .int .i64 1, .int .i64 t268, .int .i64 0, .int .i64 t270])]) (fun s_ w' => (w'.cell? ⟨ad261.block, ad261.off + 2, none⟩ = some (.string (rdOf ByteArray.empty t258 2)) ∧ w'.cell? (ad261.add ((ji14)).toNat) = some (.string (rdOf ByteArray.empty t258 (ji14)))) ∧ (Kd.R Kd.string 9 w' w.heap.size (fun _ => True) (.slice (some ad261) t258.length co21) t258) ∧ (w'.heap[gb257]? = some (.cells #[.int .i64 0, .int .i64 0, .int .i64 0, .int .i64 0, .int .i64 0, .int .i64 0] 64 (0, 0))) ∧ (Below w.heap.size w w')) ?_ ?_
    rotate_left
    · intro hJ1_3_7_14
      refine join_ (σ := Nat) 3 tb16 (fun s_ => [(24, .int .i64 t265), (26, .int .i64 t266), (30, .int .i64 t268), (8, .pointer (some ⟨s_, 0, none⟩))]) (fun s_ w' => (w'.cell? ⟨ad261.block, ad261.off + 2, none⟩ = some (.string (rdOf ByteArray.empty t258 2)) ∧ w'.cell? (ad261.add ((ji14)).toNat) = some (.string (rdOf ByteArray.empty t258 (ji14)))) ∧ (Kd.R Kd.string 9 w' w.heap.size (fun _ => True) (.slice (some ad261) t258.length co21) t258) ∧ (w'.heap[gb257]? = some (.cells #[.int .i64 0, .int .i64 0, .int .i64 0, .int .i64 0, .int .i64 0, .int .i64 0] 64 (0, 0))) ∧ (w'.heap[s_]? = some (.cells #[.int .i64 0, .int .i64 0, .int .i64 0, .int .i64 0, .int .i64 0, .int .i64 0] 64 (0, 0))) ∧ (w.heap.size ≤ s_) ∧ (w.heap.size ≤ s_) ∧ (gb257 ≠ s_) ∧ (s_ ≠ gb257) ∧ (Below w.heap.size w w')) ?_ ?_
      rotate_left
      · intro hJ1_3_7_16
        refine join_ (σ := Unit) 4 tb41 (fun s_ => [(24, .int .i64 t265), (26, .int .i64 t266), (30, .int .i64 t268)]) (fun s_ w' => (w'.cell? ⟨ad261.block, ad261.off + 2, none⟩ = some (.string (rdOf ByteArray.empty t258 2)) ∧ w'.cell? (ad261.add ((ji14)).toNat) = some (.string (rdOf ByteArray.empty t258 (ji14)))) ∧ (Kd.R Kd.string 9 w' w.heap.size (fun _ => True) (.slice (some ad261) t258.length co21) t258) ∧ (w'.heap[gb257]? = some (.cells #[.int .i64 0, .int .i64 0, .int .i64 0, .int .i64 0, .int .i64 0, .int .i64 0] 64 (0, 0))) ∧ (Below w.heap.size w w')) ?_ ?_
        rotate_left
        · intro hJ1_3_7
          refine join_ (σ := Nat) 4 tb15 (fun s_ => [(24, .int .i64 t265), (26, .int .i64 t266), (8, .pointer (some ⟨s_, 0, none⟩))]) (fun s_ w' => (w'.cell? ⟨ad261.block, ad261.off + 2, none⟩ = some (.string (rdOf ByteArray.empty t258 2)) ∧ w'.cell? (ad261.add ((ji14)).toNat) = some (.string (rdOf ByteArray.empty t258 (ji14)))) ∧ (Kd.R Kd.string 9 w' w.heap.size (fun _ => True) (.slice (some ad261) t258.length co21) t258) ∧ (w'.heap[gb257]? = some (.cells #[.int .i64 0, .int .i64 0, .int .i64 0, .int .i64 0, .int .i64 0, .int .i64 0] 64 (0, 0))) ∧ (w'.heap[s_]? = some (.cells #[.int .i64 0, .int .i64 0, .int .i64 0, .int .i64 0, .int .i64 0, .int .i64 0] 64 (0, 0))) ∧ (w.heap.size ≤ s_) ∧ (w.heap.size ≤ s_) ∧ (gb257 ≠ s_) ∧ (s_ ≠ gb257) ∧ (Below w.heap.size w w')) ?_ ?_
          rotate_left
          · intro hJ1_3_16
            refine join_ (σ := Unit) 5 tb38 (fun s_ => [(24, .int .i64 t265), (26, .int .i64 t266)]) (fun s_ w' => (w'.cell? ⟨ad261.block, ad261.off + 2, none⟩ = some (.string (rdOf ByteArray.empty t258 2)) ∧ w'.cell? (ad261.add ((ji14)).toNat) = some (.string (rdOf ByteArray.empty t258 (ji14)))) ∧ (Kd.R Kd.string 9 w' w.heap.size (fun _ => True) (.slice (some ad261) t258.length co21) t258) ∧ (w'.heap[gb257]? = some (.cells #[.int .i64 0, .int .i64 0, .int .i64 0, .int .i64 0, .int .i64 0, .int .i64 0] 64 (0, 0))) ∧ (Below w.heap.size w w')) ?_ ?_
            rotate_left
            · intro hJ1_3
              refine join_ (σ := Nat) 5 tb14 (fun s_ => [(24, .int .i64 t265), (8, .pointer (some ⟨s_, 0, none⟩))]) (fun s_ w' => (w'.cell? ⟨ad261.block, ad261.off + 2, none⟩ = some (.string (rdOf ByteArray.empty t258 2)) ∧ w'.cell? (ad261.add ((ji14)).toNat) = some (.string (rdOf ByteArray.empty t258 (ji14)))) ∧ (Kd.R Kd.string 9 w' w.heap.size (fun _ => True) (.slice (some ad261) t258.length co21) t258) ∧ (w'.heap[gb257]? = some (.cells #[.int .i64 0, .int .i64 0, .int .i64 0, .int .i64 0, .int .i64 0, .int .i64 0] 64 (0, 0))) ∧ (w'.heap[s_]? = some (.cells #[.int .i64 0, .int .i64 0, .int .i64 0, .int .i64 0, .int .i64 0, .int .i64 0] 64 (0, 0))) ∧ (w.heap.size ≤ s_) ∧ (w.heap.size ≤ s_) ∧ (gb257 ≠ s_) ∧ (s_ ≠ gb257) ∧ (Below w.heap.size w w')) ?_ ?_
              rotate_left
              · intro hJ1_16
                refine join_ (σ := Unit) 6 tb33 (fun s_ => [(24, .int .i64 t265)]) (fun s_ w' => (w'.cell? ⟨ad261.block, ad261.off + 2, none⟩ = some (.string (rdOf ByteArray.empty t258 2)) ∧ w'.cell? (ad261.add ((ji14)).toNat) = some (.string (rdOf ByteArray.empty t258 (ji14)))) ∧ (Kd.R Kd.string 9 w' w.heap.size (fun _ => True) (.slice (some ad261) t258.length co21) t258) ∧ (w'.heap[gb257]? = some (.cells #[.int .i64 0, .int .i64 0, .int .i64 0, .int .i64 0, .int .i64 0, .int .i64 0] 64 (0, 0))) ∧ (Below w.heap.size w w')) ?_ ?_
                rotate_left
                · intro hJ1
                  refine join_ (σ := Nat) 6 tb34 (fun s_ => [(8, .pointer (some ⟨s_, 0, none⟩))]) (fun s_ w' => (w'.cell? ⟨ad261.block, ad261.off + 2, none⟩ = some (.string (rdOf ByteArray.empty t258 2)) ∧ w'.cell? (ad261.add ((ji14)).toNat) = some (.string (rdOf ByteArray.empty t258 (ji14)))) ∧ (Kd.R Kd.string 9 w' w.heap.size (fun _ => True) (.slice (some ad261) t258.length co21) t258) ∧ (w'.heap[gb257]? = some (.cells #[.int .i64 0, .int .i64 0, .int .i64 0, .int .i64 0, .int .i64 0, .int .i64 0] 64 (0, 0))) ∧ (w'.heap[s_]? = some (.cells #[.int .i64 0, .int .i64 0, .int .i64 0, .int .i64 0, .int .i64 0, .int .i64 0] 64 (0, 0))) ∧ (w.heap.size ≤ s_) ∧ (w.heap.size ≤ s_) ∧ (gb257 ≠ s_) ∧ (s_ ≠ gb257) ∧ (Below w.heap.size w w')) ?_ ?_
                  rotate_left
                  · intro hJ16
                    refine two_ (i := 1) (j := 16) (Ni := some 24) (Nj := some 8) tb33 tb34 rfl rfl rfl rfl (two_of HT_.out (by kernel_rfl)) (by decide) (by decide) (fun K hK => ?_) (fun K hK => ?_)
                    · skip
                      refine goesT Tryd.func72 #[.string t262] ?_
                      with_reducible refine (impl_number.calls k t262 t265 _ ?side1 A10.out).mono ?_
                      (case side1 => exact cq5)
                      rintro e w23 ⟨rfl, hb⟩
                      have HS0_ := (hb.cell (vJ _ _ (hHeld.1))).trans (hHeld.1)
                      have HS1_ := (hb.cell (vJ _ _ (hHeld.2))).trans (hHeld.2)
                      refine ⟨_, rfl, ?_⟩
                      replace HO260 := Kd.tR HO260 hb
                      replace BK257 := tBlk BK257 hb
                      replace HB := uR HB hb
                      (try clear hb)
                      refine hK.out _ _ ⟨HS0_, HS1_⟩ (fun hHeld => ?_)
                      clear hK K
                      refine uW ?_
                      exact uZ cq4 (hJ1 () _ ⟨hHeld, (rSR HO260.out), (rSB BK257.out), cq0⟩)
                    skip
                    refine box_step ?hg (N := 8) ?hd (cs := #[.int .i64 0, .int .i64 0, .int .i64 0, .int .i64 0, .int .i64 0, .int .i64 0]) (t := 64) ?hr ?_; (case hd => rfl); (case hg => rfl); (case hr => first | (go_simp; done) | (go_simp; rfl))
                    intro gb271 hg w23 hbox hb
                    have HS0_ := (hb.cell (vJ _ _ (hHeld.1))).trans (hHeld.1)
                    have HS1_ := (hb.cell (vJ _ _ (hHeld.2))).trans (hHeld.2)
                    have BK271 := Aside0.mk (hbox)
                    have GW271 := tGe HB hg
                    have GE271 := tGe HB hg
                    have NB257_271 := tNl BK257 hg
                    have NB271_257 := tNg BK257 hg
                    replace HO260 := Kd.tR HO260 hb
                    replace BK257 := tBlk BK257 hb
                    replace HB := uR HB hb
                    clear hb hbox hg
                    refine hK.out _ _ ⟨HS0_, HS1_⟩ (fun hHeld => ?_)
                    clear hK K
                    refine uW ?_
                    exact uZ cq4 (hJ16 (gb271) _ ⟨hHeld, (rSR HO260.out), (rSB BK257.out), (rSB BK271.out), GW271.out, GE271.out, NB257_271.out, NB271_257.out, cq0⟩)
                  skip
                  rintro gb271 w24 ⟨hS_, h0_, h1_, h2_, h3_, h4_, h5_, h6_, h7_⟩
                  have n0_ : Aside0 (Kd.R Kd.string 9 w24 w.heap.size (fun _ => True) (.slice (some ad261) t258.length co21) t258) := ⟨h0_⟩
                  have n1_ : Aside0 (w24.heap[gb257]? = some (.cells #[.int .i64 0, .int .i64 0, .int .i64 0, .int .i64 0, .int .i64 0, .int .i64 0] 64 (0, 0))) := ⟨h1_⟩
                  have n2_ : Aside0 (w24.heap[gb271]? = some (.cells #[.int .i64 0, .int .i64 0, .int .i64 0, .int .i64 0, .int .i64 0, .int .i64 0] 64 (0, 0))) := ⟨h2_⟩
                  have n3_ : Aside0 (w.heap.size ≤ gb271) := ⟨h3_⟩
                  have n4_ : Aside0 (w.heap.size ≤ gb271) := ⟨h4_⟩
                  have n5_ : Aside0 (gb257 ≠ gb271) := ⟨h5_⟩
                  have n6_ : Aside0 (gb271 ≠ gb257) := ⟨h6_⟩
                  have n7_ : Aside0 (Below w.heap.size w w24) := ⟨h7_⟩
                  clear HO260
                  clear BK257
                  clear HB
                  clear h0_ h1_ h2_ h3_ h4_ h5_ h6_ h7_
                  have HO260 := n0_
                  have BK257 := n1_
                  have BK271 := n2_
                  have GW271 := n3_
                  have GE271 := n4_
                  have NB257_271 := n5_
                  have NB271_257 := n6_
                  have HB := n7_
                  clear n0_ n1_ n2_ n3_ n4_ n5_ n6_ n7_
                  have hHeld : w24.cell? ⟨ad261.block, ad261.off + 2, none⟩ = some (.string (rdOf ByteArray.empty t258 2)) ∧ w24.cell? (ad261.add ((ji14)).toNat) = some (.string (rdOf ByteArray.empty t258 (ji14))) := hS_
                  refine uZ (a' := ?_) ?_ ?_
                  rotate_left
                  · simp only [putAll, Act.put, vD, vE, vF]
                    rfl
                  refine oneT 1 (some 24) tb14 (fun K hK => ?_)
                  refine goesT Tryd.func72 #[.string t262] ?_
                  with_reducible refine (impl_number.calls k t262 t265 _ ?side1 A10.out).mono ?_
                  (case side1 => exact cq5)
                  rintro e w25 ⟨rfl, hb⟩
                  have HS0_ := (hb.cell (vJ _ _ (hHeld.1))).trans (hHeld.1)
                  have HS1_ := (hb.cell (vJ _ _ (hHeld.2))).trans (hHeld.2)
                  refine ⟨_, rfl, ?_⟩
                  replace HO260 := Kd.tR HO260 hb
                  replace BK257 := tBlk BK257 hb
                  replace BK271 := tBlk BK271 hb
                  replace HB := uR HB hb
                  (try clear hb)
                  refine hK.out _ _ ⟨HS0_, HS1_⟩ (fun hHeld => ?_)
                  clear hK K
                  refine uW ?_
                  exact uZ cq4 (hJ1_16 (gb271) _ ⟨hHeld, (rSR HO260.out), (rSB BK257.out), (rSB BK271.out), GW271.out, GE271.out, NB257_271.out, NB271_257.out, cq0⟩)
                skip
                rintro _ w24 ⟨hS_, h0_, h1_, h2_⟩
                have n0_ : Aside0 (Kd.R Kd.string 9 w24 w.heap.size (fun _ => True) (.slice (some ad261) t258.length co21) t258) := ⟨h0_⟩
                have n1_ : Aside0 (w24.heap[gb257]? = some (.cells #[.int .i64 0, .int .i64 0, .int .i64 0, .int .i64 0, .int .i64 0, .int .i64 0] 64 (0, 0))) := ⟨h1_⟩
                have n2_ : Aside0 (Below w.heap.size w w24) := ⟨h2_⟩
                clear HO260
                clear BK257
                clear HB
                clear h0_ h1_ h2_
                have HO260 := n0_
                have BK257 := n1_
                have HB := n2_
                clear n0_ n1_ n2_
                have hHeld : w24.cell? ⟨ad261.block, ad261.off + 2, none⟩ = some (.string (rdOf ByteArray.empty t258 2)) ∧ w24.cell? (ad261.add ((ji14)).toNat) = some (.string (rdOf ByteArray.empty t258 (ji14))) := hS_
                refine uZ (a' := ?_) ?_ ?_
                rotate_left
                · simp only [putAll, Act.put, vD, vE, vF]
                  rfl
                refine two_ (i := 3) (j := 16) (Ni := some 26) (Nj := some 8) tb38 tb14 rfl rfl rfl rfl (two_of HT_.out (by kernel_rfl)) (by decide) (by decide) (fun K hK => ?_) (fun K hK => ?_)
                · skip
                  refine goesT Tryd.func72 #[.string t263] ?_
                  with_reducible refine (impl_number.calls k t263 t266 _ ?side1 A11.out).mono ?_
                  (case side1 => exact cq5)
                  rintro e w25 ⟨rfl, hb⟩
                  have HS0_ := (hb.cell (vJ _ _ (hHeld.1))).trans (hHeld.1)
                  have HS1_ := (hb.cell (vJ _ _ (hHeld.2))).trans (hHeld.2)
                  refine ⟨_, rfl, ?_⟩
                  replace HO260 := Kd.tR HO260 hb
                  replace BK257 := tBlk BK257 hb
                  replace HB := uR HB hb
                  (try clear hb)
                  refine hK.out _ _ ⟨HS0_, HS1_⟩ (fun hHeld => ?_)
                  clear hK K
                  refine uW ?_
                  exact uZ cq4 (hJ1_3 () _ ⟨hHeld, (rSR HO260.out), (rSB BK257.out), cq0⟩)
                skip
                refine box_step ?hg (N := 8) ?hd (cs := #[.int .i64 0, .int .i64 0, .int .i64 0, .int .i64 0, .int .i64 0, .int .i64 0]) (t := 64) ?hr ?_; (case hd => rfl); (case hg => rfl); (case hr => first | (go_simp; done) | (go_simp; rfl))
                intro gb271 hg w25 hbox hb
                have HS0_ := (hb.cell (vJ _ _ (hHeld.1))).trans (hHeld.1)
                have HS1_ := (hb.cell (vJ _ _ (hHeld.2))).trans (hHeld.2)
                have BK271 := Aside0.mk (hbox)
                have GW271 := tGe HB hg
                have GE271 := tGe HB hg
                have NB257_271 := tNl BK257 hg
                have NB271_257 := tNg BK257 hg
                replace HO260 := Kd.tR HO260 hb
                replace BK257 := tBlk BK257 hb
                replace HB := uR HB hb
                clear hb hbox hg
                refine hK.out _ _ ⟨HS0_, HS1_⟩ (fun hHeld => ?_)
                clear hK K
                refine uW ?_
                exact uZ cq4 (hJ1_16 (gb271) _ ⟨hHeld, (rSR HO260.out), (rSB BK257.out), (rSB BK271.out), GW271.out, GE271.out, NB257_271.out, NB271_257.out, cq0⟩)
              skip
              rintro gb271 w25 ⟨hS_, h0_, h1_, h2_, h3_, h4_, h5_, h6_, h7_⟩
              have n0_ : Aside0 (Kd.R Kd.string 9 w25 w.heap.size (fun _ => True) (.slice (some ad261) t258.length co21) t258) := ⟨h0_⟩
              have n1_ : Aside0 (w25.heap[gb257]? = some (.cells #[.int .i64 0, .int .i64 0, .int .i64 0, .int .i64 0, .int .i64 0, .int .i64 0] 64 (0, 0))) := ⟨h1_⟩
              have n2_ : Aside0 (w25.heap[gb271]? = some (.cells #[.int .i64 0, .int .i64 0, .int .i64 0, .int .i64 0, .int .i64 0, .int .i64 0] 64 (0, 0))) := ⟨h2_⟩
              have n3_ : Aside0 (w.heap.size ≤ gb271) := ⟨h3_⟩
              have n4_ : Aside0 (w.heap.size ≤ gb271) := ⟨h4_⟩
              have n5_ : Aside0 (gb257 ≠ gb271) := ⟨h5_⟩
              have n6_ : Aside0 (gb271 ≠ gb257) := ⟨h6_⟩
              have n7_ : Aside0 (Below w.heap.size w w25) := ⟨h7_⟩
              clear HO260
              clear BK257
              clear HB
              clear h0_ h1_ h2_ h3_ h4_ h5_ h6_ h7_
              have HO260 := n0_
              have BK257 := n1_
              have BK271 := n2_
              have GW271 := n3_
              have GE271 := n4_
              have NB257_271 := n5_
              have NB271_257 := n6_
              have HB := n7_
              clear n0_ n1_ n2_ n3_ n4_ n5_ n6_ n7_
              have hHeld : w25.cell? ⟨ad261.block, ad261.off + 2, none⟩ = some (.string (rdOf ByteArray.empty t258 2)) ∧ w25.cell? (ad261.add ((ji14)).toNat) = some (.string (rdOf ByteArray.empty t258 (ji14))) := hS_
              refine uZ (a' := ?_) ?_ ?_
              rotate_left
              · simp only [putAll, Act.put, vD, vE, vF]
                rfl
              refine oneT 3 (some 26) tb15 (fun K hK => ?_)
              refine goesT Tryd.func72 #[.string t263] ?_
              with_reducible refine (impl_number.calls k t263 t266 _ ?side1 A11.out).mono ?_
              (case side1 => exact cq5)
              rintro e w26 ⟨rfl, hb⟩
              have HS0_ := (hb.cell (vJ _ _ (hHeld.1))).trans (hHeld.1)
              have HS1_ := (hb.cell (vJ _ _ (hHeld.2))).trans (hHeld.2)
              refine ⟨_, rfl, ?_⟩
              replace HO260 := Kd.tR HO260 hb
              replace BK257 := tBlk BK257 hb
              replace BK271 := tBlk BK271 hb
              replace HB := uR HB hb
              (try clear hb)
              refine hK.out _ _ ⟨HS0_, HS1_⟩ (fun hHeld => ?_)
              clear hK K
              refine uW ?_
              exact uZ cq4 (hJ1_3_16 (gb271) _ ⟨hHeld, (rSR HO260.out), (rSB BK257.out), (rSB BK271.out), GW271.out, GE271.out, NB257_271.out, NB271_257.out, cq0⟩)
            skip
            rintro _ w25 ⟨hS_, h0_, h1_, h2_⟩
            have n0_ : Aside0 (Kd.R Kd.string 9 w25 w.heap.size (fun _ => True) (.slice (some ad261) t258.length co21) t258) := ⟨h0_⟩
            have n1_ : Aside0 (w25.heap[gb257]? = some (.cells #[.int .i64 0, .int .i64 0, .int .i64 0, .int .i64 0, .int .i64 0, .int .i64 0] 64 (0, 0))) := ⟨h1_⟩
            have n2_ : Aside0 (Below w.heap.size w w25) := ⟨h2_⟩
            clear HO260
            clear BK257
            clear HB
            clear h0_ h1_ h2_
            have HO260 := n0_
            have BK257 := n1_
            have HB := n2_
            clear n0_ n1_ n2_
            have hHeld : w25.cell? ⟨ad261.block, ad261.off + 2, none⟩ = some (.string (rdOf ByteArray.empty t258 2)) ∧ w25.cell? (ad261.add ((ji14)).toNat) = some (.string (rdOf ByteArray.empty t258 (ji14))) := hS_
            refine uZ (a' := ?_) ?_ ?_
            rotate_left
            · simp only [putAll, Act.put, vD, vE, vF]
              rfl
            refine two_ (i := 7) (j := 16) (Ni := some 30) (Nj := some 8) tb41 tb15 rfl rfl rfl rfl (two_of HT_.out (by kernel_rfl)) (by decide) (by decide) (fun K hK => ?_) (fun K hK => ?_)
            · skip
              refine goesT Tryd.func72 #[.string (rdOf ByteArray.empty t258 2)] ?_
              with_reducible refine (impl_number.calls k (rdOf ByteArray.empty t258 2) t268 _ ?side1 A13.out).mono ?_
              (case side1 => exact cq5)
              rintro e w26 ⟨rfl, hb⟩
              have HS0_ := (hb.cell (vJ _ _ (hHeld.1))).trans (hHeld.1)
              have HS1_ := (hb.cell (vJ _ _ (hHeld.2))).trans (hHeld.2)
              refine ⟨_, rfl, ?_⟩
              replace HO260 := Kd.tR HO260 hb
              replace BK257 := tBlk BK257 hb
              replace HB := uR HB hb
              (try clear hb)
              refine hK.out _ _ ⟨HS0_, HS1_⟩ (fun hHeld => ?_)
              clear hK K
              refine uW ?_
              exact uZ cq4 (hJ1_3_7 () _ ⟨hHeld, (rSR HO260.out), (rSB BK257.out), cq0⟩)
            skip
            refine box_step ?hg (N := 8) ?hd (cs := #[.int .i64 0, .int .i64 0, .int .i64 0, .int .i64 0, .int .i64 0, .int .i64 0]) (t := 64) ?hr ?_; (case hd => rfl); (case hg => rfl); (case hr => first | (go_simp; done) | (go_simp; rfl))
            intro gb271 hg w26 hbox hb
            have HS0_ := (hb.cell (vJ _ _ (hHeld.1))).trans (hHeld.1)
            have HS1_ := (hb.cell (vJ _ _ (hHeld.2))).trans (hHeld.2)
            have BK271 := Aside0.mk (hbox)
            have GW271 := tGe HB hg
            have GE271 := tGe HB hg
            have NB257_271 := tNl BK257 hg
            have NB271_257 := tNg BK257 hg
            replace HO260 := Kd.tR HO260 hb
            replace BK257 := tBlk BK257 hb
            replace HB := uR HB hb
            clear hb hbox hg
            refine hK.out _ _ ⟨HS0_, HS1_⟩ (fun hHeld => ?_)
            clear hK K
            refine uW ?_
            exact uZ cq4 (hJ1_3_16 (gb271) _ ⟨hHeld, (rSR HO260.out), (rSB BK257.out), (rSB BK271.out), GW271.out, GE271.out, NB257_271.out, NB271_257.out, cq0⟩)
          skip
          rintro gb271 w26 ⟨hS_, h0_, h1_, h2_, h3_, h4_, h5_, h6_, h7_⟩
          have n0_ : Aside0 (Kd.R Kd.string 9 w26 w.heap.size (fun _ => True) (.slice (some ad261) t258.length co21) t258) := ⟨h0_⟩
          have n1_ : Aside0 (w26.heap[gb257]? = some (.cells #[.int .i64 0, .int .i64 0, .int .i64 0, .int .i64 0, .int .i64 0, .int .i64 0] 64 (0, 0))) := ⟨h1_⟩
          have n2_ : Aside0 (w26.heap[gb271]? = some (.cells #[.int .i64 0, .int .i64 0, .int .i64 0, .int .i64 0, .int .i64 0, .int .i64 0] 64 (0, 0))) := ⟨h2_⟩
          have n3_ : Aside0 (w.heap.size ≤ gb271) := ⟨h3_⟩
          have n4_ : Aside0 (w.heap.size ≤ gb271) := ⟨h4_⟩
          have n5_ : Aside0 (gb257 ≠ gb271) := ⟨h5_⟩
          have n6_ : Aside0 (gb271 ≠ gb257) := ⟨h6_⟩
          have n7_ : Aside0 (Below w.heap.size w w26) := ⟨h7_⟩
          clear HO260
          clear BK257
          clear HB
          clear h0_ h1_ h2_ h3_ h4_ h5_ h6_ h7_
          have HO260 := n0_
          have BK257 := n1_
          have BK271 := n2_
          have GW271 := n3_
          have GE271 := n4_
          have NB257_271 := n5_
          have NB271_257 := n6_
          have HB := n7_
          clear n0_ n1_ n2_ n3_ n4_ n5_ n6_ n7_
          have hHeld : w26.cell? ⟨ad261.block, ad261.off + 2, none⟩ = some (.string (rdOf ByteArray.empty t258 2)) ∧ w26.cell? (ad261.add ((ji14)).toNat) = some (.string (rdOf ByteArray.empty t258 (ji14))) := hS_
          refine uZ (a' := ?_) ?_ ?_
          rotate_left
          · simp only [putAll, Act.put, vD, vE, vF]
            rfl
          refine oneT 7 (some 30) tb16 (fun K hK => ?_)
          refine goesT Tryd.func72 #[.string (rdOf ByteArray.empty t258 2)] ?_
          with_reducible refine (impl_number.calls k (rdOf ByteArray.empty t258 2) t268 _ ?side1 A13.out).mono ?_
          (case side1 => exact cq5)
          rintro e w27 ⟨rfl, hb⟩
          have HS0_ := (hb.cell (vJ _ _ (hHeld.1))).trans (hHeld.1)
          have HS1_ := (hb.cell (vJ _ _ (hHeld.2))).trans (hHeld.2)
          refine ⟨_, rfl, ?_⟩
          replace HO260 := Kd.tR HO260 hb
          replace BK257 := tBlk BK257 hb
          replace BK271 := tBlk BK271 hb
          replace HB := uR HB hb
          (try clear hb)
          refine hK.out _ _ ⟨HS0_, HS1_⟩ (fun hHeld => ?_)
          clear hK K
          refine uW ?_
          exact uZ cq4 (hJ1_3_7_16 (gb271) _ ⟨hHeld, (rSR HO260.out), (rSB BK257.out), (rSB BK271.out), GW271.out, GE271.out, NB257_271.out, NB271_257.out, cq0⟩)
        skip
        rintro _ w26 ⟨hS_, h0_, h1_, h2_⟩
        have n0_ : Aside0 (Kd.R Kd.string 9 w26 w.heap.size (fun _ => True) (.slice (some ad261) t258.length co21) t258) := ⟨h0_⟩
        have n1_ : Aside0 (w26.heap[gb257]? = some (.cells #[.int .i64 0, .int .i64 0, .int .i64 0, .int .i64 0, .int .i64 0, .int .i64 0] 64 (0, 0))) := ⟨h1_⟩
        have n2_ : Aside0 (Below w.heap.size w w26) := ⟨h2_⟩
        clear HO260
        clear BK257
        clear HB
        clear h0_ h1_ h2_
        have HO260 := n0_
        have BK257 := n1_
        have HB := n2_
        clear n0_ n1_ n2_
        have hHeld : w26.cell? ⟨ad261.block, ad261.off + 2, none⟩ = some (.string (rdOf ByteArray.empty t258 2)) ∧ w26.cell? (ad261.add ((ji14)).toNat) = some (.string (rdOf ByteArray.empty t258 (ji14))) := hS_
        refine uZ (a' := ?_) ?_ ?_
        rotate_left
        · simp only [putAll, Act.put, vD, vE, vF]
          rfl
        refine two_ (i := 14) (j := 16) (Ni := some 37) (Nj := some 8) #[true, true, true, true, true, true, true, true, true, true, true, true, true, true, true, false, false, false] tb16 rfl rfl rfl rfl (two_of HT_.out (by kernel_rfl)) (by decide) (by decide) (fun K hK => ?_) (fun K hK => ?_)
        · skip
          refine goes_ Tryd.func72 (by kernel_rfl) rfl #[.string (rdOf ByteArray.empty t258 (ji14))] (by rfl) rfl rfl (by (try simp only [List.map_toArray, List.map_cons, List.map_nil]); first | done | (simp only [hji14]; rfl) | rfl | (simp only [List.length_drop, List.length_take]; rfl)) ?_
          with_reducible refine (impl_number.calls k (rdOf ByteArray.empty t258 (ji14)) t270 _ ?side1 A17.out).mono ?_
          (case side1 => exact cq5)
          rintro e w27 ⟨rfl, hb⟩
          have HS0_ := (hb.cell (vJ _ _ (hHeld.1))).trans (hHeld.1)
          have HS1_ := (hb.cell (vJ _ _ (hHeld.2))).trans (hHeld.2)
          refine ⟨_, rfl, ?_⟩
          replace HO260 := Kd.tR HO260 hb
          replace BK257 := tBlk BK257 hb
          replace HB := uR HB hb
          (try clear hb)
          refine hK.out _ _ ⟨HS0_, HS1_⟩ (fun hHeld => ?_)
          clear hK K
          refine uW ?_
          refine uJ 15 (some 38) tb48 ?_
          exact uZ cq4 (hJ1_3_7_14 () _ ⟨hHeld, (rSR HO260.out), (rSB BK257.out), cq0⟩)
        skip
        refine box_step ?hg (N := 8) ?hd (cs := #[.int .i64 0, .int .i64 0, .int .i64 0, .int .i64 0, .int .i64 0, .int .i64 0]) (t := 64) ?hr ?_; (case hd => rfl); (case hg => rfl); (case hr => first | (go_simp; done) | (go_simp; rfl))
        intro gb271 hg w27 hbox hb
        have HS0_ := (hb.cell (vJ _ _ (hHeld.1))).trans (hHeld.1)
        have HS1_ := (hb.cell (vJ _ _ (hHeld.2))).trans (hHeld.2)
        have BK271 := Aside0.mk (hbox)
        have GW271 := tGe HB hg
        have GE271 := tGe HB hg
        have NB257_271 := tNl BK257 hg
        have NB271_257 := tNg BK257 hg
        replace HO260 := Kd.tR HO260 hb
        replace BK257 := tBlk BK257 hb
        replace HB := uR HB hb
        clear hb hbox hg
        refine hK.out _ _ ⟨HS0_, HS1_⟩ (fun hHeld => ?_)
        clear hK K
        refine uW ?_
        exact uZ cq4 (hJ1_3_7_16 (gb271) _ ⟨hHeld, (rSR HO260.out), (rSB BK257.out), (rSB BK271.out), GW271.out, GE271.out, NB257_271.out, NB271_257.out, cq0⟩)
      skip
      rintro gb271 w27 ⟨hS_, h0_, h1_, h2_, h3_, h4_, h5_, h6_, h7_⟩
      have n0_ : Aside0 (Kd.R Kd.string 9 w27 w.heap.size (fun _ => True) (.slice (some ad261) t258.length co21) t258) := ⟨h0_⟩
      have n1_ : Aside0 (w27.heap[gb257]? = some (.cells #[.int .i64 0, .int .i64 0, .int .i64 0, .int .i64 0, .int .i64 0, .int .i64 0] 64 (0, 0))) := ⟨h1_⟩
      have n2_ : Aside0 (w27.heap[gb271]? = some (.cells #[.int .i64 0, .int .i64 0, .int .i64 0, .int .i64 0, .int .i64 0, .int .i64 0] 64 (0, 0))) := ⟨h2_⟩
      have n3_ : Aside0 (w.heap.size ≤ gb271) := ⟨h3_⟩
      have n4_ : Aside0 (w.heap.size ≤ gb271) := ⟨h4_⟩
      have n5_ : Aside0 (gb257 ≠ gb271) := ⟨h5_⟩
      have n6_ : Aside0 (gb271 ≠ gb257) := ⟨h6_⟩
      have n7_ : Aside0 (Below w.heap.size w w27) := ⟨h7_⟩
      clear HO260
      clear BK257
      clear HB
      clear h0_ h1_ h2_ h3_ h4_ h5_ h6_ h7_
      have HO260 := n0_
      have BK257 := n1_
      have BK271 := n2_
      have GW271 := n3_
      have GE271 := n4_
      have NB257_271 := n5_
      have NB271_257 := n6_
      have HB := n7_
      clear n0_ n1_ n2_ n3_ n4_ n5_ n6_ n7_
      have hHeld : w27.cell? ⟨ad261.block, ad261.off + 2, none⟩ = some (.string (rdOf ByteArray.empty t258 2)) ∧ w27.cell? (ad261.add ((ji14)).toNat) = some (.string (rdOf ByteArray.empty t258 (ji14))) := hS_
      refine uZ (a' := ?_) ?_ ?_
      rotate_left
      · simp only [putAll, Act.put, vD, vE, vF]
        rfl
      refine oneT 14 (some 37) #[true, true, true, true, true, true, true, true, true, true, true, true, true, true, true, false, true, false] (fun K hK => ?_)
      refine goes_ Tryd.func72 (by kernel_rfl) rfl #[.string (rdOf ByteArray.empty t258 (ji14))] (by rfl) rfl rfl (by (try simp only [List.map_toArray, List.map_cons, List.map_nil]); first | done | (simp only [hji14]; rfl) | rfl | (simp only [List.length_drop, List.length_take]; rfl)) ?_
      with_reducible refine (impl_number.calls k (rdOf ByteArray.empty t258 (ji14)) t270 _ ?side1 A17.out).mono ?_
      (case side1 => exact cq5)
      rintro e w28 ⟨rfl, hb⟩
      have HS0_ := (hb.cell (vJ _ _ (hHeld.1))).trans (hHeld.1)
      have HS1_ := (hb.cell (vJ _ _ (hHeld.2))).trans (hHeld.2)
      refine ⟨_, rfl, ?_⟩
      replace HO260 := Kd.tR HO260 hb
      replace BK257 := tBlk BK257 hb
      replace BK271 := tBlk BK271 hb
      replace HB := uR HB hb
      (try clear hb)
      refine hK.out _ _ ⟨HS0_, HS1_⟩ (fun hHeld => ?_)
      clear hK K
      refine uW ?_
      refine uJ 15 (some 38) tb17 ?_
      exact uZ cq4 (hJ1_3_7_14_16 (gb271) _ ⟨hHeld, (rSR HO260.out), (rSB BK257.out), (rSB BK271.out), GW271.out, GE271.out, NB257_271.out, NB271_257.out, cq0⟩)
    skip
    rintro _ w27 ⟨hS_, h0_, h1_, h2_⟩
    have n0_ : Aside0 (Kd.R Kd.string 9 w27 w.heap.size (fun _ => True) (.slice (some ad261) t258.length co21) t258) := ⟨h0_⟩
    have n1_ : Aside0 (w27.heap[gb257]? = some (.cells #[.int .i64 0, .int .i64 0, .int .i64 0, .int .i64 0, .int .i64 0, .int .i64 0] 64 (0, 0))) := ⟨h1_⟩
    have n2_ : Aside0 (Below w.heap.size w w27) := ⟨h2_⟩
    clear HO260
    clear BK257
    clear HB
    clear h0_ h1_ h2_
    have HO260 := n0_
    have BK257 := n1_
    have HB := n2_
    clear n0_ n1_ n2_
    have hHeld : w27.cell? ⟨ad261.block, ad261.off + 2, none⟩ = some (.string (rdOf ByteArray.empty t258 2)) ∧ w27.cell? (ad261.add ((ji14)).toNat) = some (.string (rdOf ByteArray.empty t258 (ji14))) := hS_
    refine uZ (a' := ?_) ?_ ?_
    rotate_left
    · simp only [putAll, Act.put, vD, vE, vF]
      rfl
    refine oneT 16 (some 8) tb17 (fun K hK => ?_)
    refine box_step ?hg (N := 8) ?hd (cs := #[.int .i64 0, .int .i64 0, .int .i64 0, .int .i64 0, .int .i64 0, .int .i64 0]) (t := 64) ?hr ?_; (case hd => rfl); (case hg => rfl); (case hr => first | (go_simp; done) | (go_simp; rfl))
    intro gb271 hg w28 hbox hb
    have HS0_ := (hb.cell (vJ _ _ (hHeld.1))).trans (hHeld.1)
    have HS1_ := (hb.cell (vJ _ _ (hHeld.2))).trans (hHeld.2)
    have BK271 := Aside0.mk (hbox)
    have GW271 := tGe HB hg
    have GE271 := tGe HB hg
    have NB257_271 := tNl BK257 hg
    have NB271_257 := tNg BK257 hg
    replace HO260 := Kd.tR HO260 hb
    replace BK257 := tBlk BK257 hb
    replace HB := uR HB hb
    clear hb hbox hg
    refine hK.out _ _ ⟨HS0_, HS1_⟩ (fun hHeld => ?_)
    clear hK K
    refine uW ?_
    exact uZ cq4 (hJ1_3_7_14_16 (gb271) _ ⟨hHeld, (rSR HO260.out), (rSB BK257.out), (rSB BK271.out), GW271.out, GE271.out, NB257_271.out, NB271_257.out, cq0⟩)
  rintro gb271 w28 ⟨hS_, h0_, h1_, h2_, h3_, h4_, h5_, h6_, h7_⟩
  have n0_ : Aside0 (Kd.R Kd.string 9 w28 w.heap.size (fun _ => True) (.slice (some ad261) t258.length co21) t258) := ⟨h0_⟩
  have n1_ : Aside0 (w28.heap[gb257]? = some (.cells #[.int .i64 0, .int .i64 0, .int .i64 0, .int .i64 0, .int .i64 0, .int .i64 0] 64 (0, 0))) := ⟨h1_⟩
  have n2_ : Aside0 (w28.heap[gb271]? = some (.cells #[.int .i64 0, .int .i64 0, .int .i64 0, .int .i64 0, .int .i64 0, .int .i64 0] 64 (0, 0))) := ⟨h2_⟩
  have n3_ : Aside0 (w.heap.size ≤ gb271) := ⟨h3_⟩
  have n4_ : Aside0 (w.heap.size ≤ gb271) := ⟨h4_⟩
  have n5_ : Aside0 (gb257 ≠ gb271) := ⟨h5_⟩
  have n6_ : Aside0 (gb271 ≠ gb257) := ⟨h6_⟩
  have n7_ : Aside0 (Below w.heap.size w w28) := ⟨h7_⟩
  clear HO260
  clear BK257
  clear HB
  clear h0_ h1_ h2_ h3_ h4_ h5_ h6_ h7_
  have HO260 := n0_
  have BK257 := n1_
  have BK271 := n2_
  have GW271 := n3_
  have GE271 := n4_
  have NB257_271 := n5_
  have NB271_257 := n6_
  have HB := n7_
  clear n0_ n1_ n2_ n3_ n4_ n5_ n6_ n7_
  have hHeld : w28.cell? ⟨ad261.block, ad261.off + 2, none⟩ = some (.string (rdOf ByteArray.empty t258 2)) ∧ w28.cell? (ad261.add ((ji14)).toNat) = some (.string (rdOf ByteArray.empty t258 (ji14))) := hS_
  refine uZ (a' := ?_) ?_ ?_
  rotate_left
  · simp only [putAll, Act.put, vD, vE, vF]
    rfl
  refine one_ (i := 17) (N := none) #[true, true, true, true, true, true, true, true, true, true, true, true, true, true, true, true, true, true] rfl rfl (one_of HT_.out (by kernel_rfl)) (by decide) (fun K hK => ?_)
  have hs29 : w28.cell? ⟨gb271, 0, none⟩ = some (.int .i64 0) := (uA BK271.out 0).trans rfl
  have hfs29 := vC BK271.out 0
  have hns29_0 := NB257_271.out
  have hms29_0 := NB271_257.out
  have hs30 : w28.cell? ⟨gb271, 1, none⟩ = some (.int .i64 0) := (uA BK271.out 1).trans rfl
  have hfs30 := vC BK271.out 1
  have hns30_0 := NB257_271.out
  have hms30_0 := NB271_257.out
  have hs31 : w28.cell? ⟨gb271, 2, none⟩ = some (.int .i64 0) := (uA BK271.out 2).trans rfl
  have hfs31 := vC BK271.out 2
  have hns31_0 := NB257_271.out
  have hms31_0 := NB271_257.out
  have hs32 : w28.cell? ⟨gb271, 3, none⟩ = some (.int .i64 0) := (uA BK271.out 3).trans rfl
  have hfs32 := vC BK271.out 3
  have hns32_0 := NB257_271.out
  have hms32_0 := NB271_257.out
  have hs33 : w28.cell? ⟨gb271, 4, none⟩ = some (.int .i64 0) := (uA BK271.out 4).trans rfl
  have hfs33 := vC BK271.out 4
  have hns33_0 := NB257_271.out
  have hms33_0 := NB271_257.out
  have hs34 : w28.cell? ⟨gb271, 5, none⟩ = some (.int .i64 0) := (uA BK271.out 5).trans rfl
  have hfs34 := vC BK271.out 5
  have hns34_0 := NB257_271.out
  have hms34_0 := NB271_257.out
  refine skip_ (w1 := ?_) (by rfl) rfl ?_ ?_
  rotate_left
  · go_simp
    rfl
  refine hK.out _ _ ⟨((uS (p := ⟨gb271, _, none⟩) (by first | exact Kd.uC (Kd.uK HO260.out BK271.out (by decide)) | (rw [uG]; exact Kd.uC (Kd.uK HO260.out BK271.out (by decide))) | (show (Addr.add _ _).block ≠ _; rw [uG]; exact Kd.uC (Kd.uK HO260.out BK271.out (by decide))) | (dsimp only; exact Kd.uC (Kd.uK HO260.out BK271.out (by decide)))) _).trans (((uS (p := ⟨gb271, _, none⟩) (by first | exact Kd.uC (Kd.uK HO260.out BK271.out (by decide)) | (rw [uG]; exact Kd.uC (Kd.uK HO260.out BK271.out (by decide))) | (show (Addr.add _ _).block ≠ _; rw [uG]; exact Kd.uC (Kd.uK HO260.out BK271.out (by decide))) | (dsimp only; exact Kd.uC (Kd.uK HO260.out BK271.out (by decide)))) _).trans (((uS (p := ⟨gb271, _, none⟩) (by first | exact Kd.uC (Kd.uK HO260.out BK271.out (by decide)) | (rw [uG]; exact Kd.uC (Kd.uK HO260.out BK271.out (by decide))) | (show (Addr.add _ _).block ≠ _; rw [uG]; exact Kd.uC (Kd.uK HO260.out BK271.out (by decide))) | (dsimp only; exact Kd.uC (Kd.uK HO260.out BK271.out (by decide)))) _).trans (((uS (p := ⟨gb271, _, none⟩) (by first | exact Kd.uC (Kd.uK HO260.out BK271.out (by decide)) | (rw [uG]; exact Kd.uC (Kd.uK HO260.out BK271.out (by decide))) | (show (Addr.add _ _).block ≠ _; rw [uG]; exact Kd.uC (Kd.uK HO260.out BK271.out (by decide))) | (dsimp only; exact Kd.uC (Kd.uK HO260.out BK271.out (by decide)))) _).trans (((uS (p := ⟨gb271, _, none⟩) (by first | exact Kd.uC (Kd.uK HO260.out BK271.out (by decide)) | (rw [uG]; exact Kd.uC (Kd.uK HO260.out BK271.out (by decide))) | (show (Addr.add _ _).block ≠ _; rw [uG]; exact Kd.uC (Kd.uK HO260.out BK271.out (by decide))) | (dsimp only; exact Kd.uC (Kd.uK HO260.out BK271.out (by decide)))) _).trans (((uS (p := ⟨gb271, _, none⟩) (by first | exact Kd.uC (Kd.uK HO260.out BK271.out (by decide)) | (rw [uG]; exact Kd.uC (Kd.uK HO260.out BK271.out (by decide))) | (show (Addr.add _ _).block ≠ _; rw [uG]; exact Kd.uC (Kd.uK HO260.out BK271.out (by decide))) | (dsimp only; exact Kd.uC (Kd.uK HO260.out BK271.out (by decide)))) _).trans (hHeld.1)))))))))))), ((uS (p := ⟨gb271, _, none⟩) (by first | exact Kd.uC (Kd.uK HO260.out BK271.out (by decide)) | (rw [uG]; exact Kd.uC (Kd.uK HO260.out BK271.out (by decide))) | (show (Addr.add _ _).block ≠ _; rw [uG]; exact Kd.uC (Kd.uK HO260.out BK271.out (by decide))) | (dsimp only; exact Kd.uC (Kd.uK HO260.out BK271.out (by decide)))) _).trans (((uS (p := ⟨gb271, _, none⟩) (by first | exact Kd.uC (Kd.uK HO260.out BK271.out (by decide)) | (rw [uG]; exact Kd.uC (Kd.uK HO260.out BK271.out (by decide))) | (show (Addr.add _ _).block ≠ _; rw [uG]; exact Kd.uC (Kd.uK HO260.out BK271.out (by decide))) | (dsimp only; exact Kd.uC (Kd.uK HO260.out BK271.out (by decide)))) _).trans (((uS (p := ⟨gb271, _, none⟩) (by first | exact Kd.uC (Kd.uK HO260.out BK271.out (by decide)) | (rw [uG]; exact Kd.uC (Kd.uK HO260.out BK271.out (by decide))) | (show (Addr.add _ _).block ≠ _; rw [uG]; exact Kd.uC (Kd.uK HO260.out BK271.out (by decide))) | (dsimp only; exact Kd.uC (Kd.uK HO260.out BK271.out (by decide)))) _).trans (((uS (p := ⟨gb271, _, none⟩) (by first | exact Kd.uC (Kd.uK HO260.out BK271.out (by decide)) | (rw [uG]; exact Kd.uC (Kd.uK HO260.out BK271.out (by decide))) | (show (Addr.add _ _).block ≠ _; rw [uG]; exact Kd.uC (Kd.uK HO260.out BK271.out (by decide))) | (dsimp only; exact Kd.uC (Kd.uK HO260.out BK271.out (by decide)))) _).trans (((uS (p := ⟨gb271, _, none⟩) (by first | exact Kd.uC (Kd.uK HO260.out BK271.out (by decide)) | (rw [uG]; exact Kd.uC (Kd.uK HO260.out BK271.out (by decide))) | (show (Addr.add _ _).block ≠ _; rw [uG]; exact Kd.uC (Kd.uK HO260.out BK271.out (by decide))) | (dsimp only; exact Kd.uC (Kd.uK HO260.out BK271.out (by decide)))) _).trans (((uS (p := ⟨gb271, _, none⟩) (by first | exact Kd.uC (Kd.uK HO260.out BK271.out (by decide)) | (rw [uG]; exact Kd.uC (Kd.uK HO260.out BK271.out (by decide))) | (show (Addr.add _ _).block ≠ _; rw [uG]; exact Kd.uC (Kd.uK HO260.out BK271.out (by decide))) | (dsimp only; exact Kd.uC (Kd.uK HO260.out BK271.out (by decide)))) _).trans (hHeld.2))))))))))))⟩ (fun hHeld => ?_)
  clear hK K
  refine done_ (done_of HT_.out (by kernel_rfl)) ?_
  go_upto_if 41 with (fail)
  go_cut [] (fun wc => ∃ (kq : Nat) (x272002_17 : Int) (x272004_17 : Int), Aside0 (impl_ParseOp.j0 kq a0 t265 t266 x272002_17 t268 x272004_17 t270 = some (r1, r2, r3, r4, r5, r6, r7)) ∧ Aside0 (kq ≤ k) ∧ Aside0 (wc.heap[gb257]? = some (.cells #[.int .i64 0, .int .i64 0, .int .i64 0, .int .i64 0, .int .i64 0, .int .i64 0] 64 (0, 0))) ∧ Aside0 (wc.heap[gb271]? = some (.cells #[.int .i64 t265, .int .i64 t266, .int .i64 x272002_17, .int .i64 t268, .int .i64 x272004_17, .int .i64 t270] 64 (0, 0))) ∧ Aside0 (Below w.heap.size w wc))
  case first =>
    have H := HC18.out
    clear HC18
    by_cases c35 : (t258.length : Int) = 5
    rotate_left
    · rw [if_neg c35] at H
      have c35b0 := beq_eq_false_iff_ne.mpr c35
      have c35b1 := bne_iff_ne.mpr c35
      (first | rw [c35b0] | (simp only [uI, uO]; rw [c35b0]) | skip)
      have H' := Aside0.mk H
      clear H
      go_wp2
      go_meet
      case rel => exact ⟨_, (1), (0), H', ⟨by first | omega | exact Nat.le_refl _⟩, ⟨by (with_reducible repeat (first | refine uD ?_ _ | refine uF ?_ | refine uB ?_ _)); refine blk_far ?_ NB257_271.out _; (with_reducible repeat (first | refine uD ?_ _ | refine uF ?_ | refine uB ?_ _)); refine blk_far ?_ NB257_271.out _; (with_reducible repeat (first | refine uD ?_ _ | refine uF ?_ | refine uB ?_ _)); refine blk_far ?_ NB257_271.out _; (with_reducible repeat (first | refine uD ?_ _ | refine uF ?_ | refine uB ?_ _)); refine blk_far ?_ NB257_271.out _; (with_reducible repeat (first | refine uD ?_ _ | refine uF ?_ | refine uB ?_ _)); refine blk_far ?_ NB257_271.out _; (with_reducible repeat (first | refine uD ?_ _ | refine uF ?_ | refine uB ?_ _)); refine blk_far ?_ NB257_271.out _; (with_reducible repeat (first | refine uD ?_ _ | refine uF ?_ | refine uB ?_ _)); exact BK257.out⟩, ⟨by (with_reducible repeat (first | refine uD ?_ _ | refine uF ?_ | refine uB ?_ _)); refine uP (cs := #[.int .i64 t265, .int .i64 t266, .int .i64 1, .int .i64 t268, .int .i64 0, .int .i64 0]) ?_ 5 _ rfl; (with_reducible repeat (first | refine uD ?_ _ | refine uF ?_ | refine uB ?_ _)); refine uP (cs := #[.int .i64 t265, .int .i64 t266, .int .i64 1, .int .i64 t268, .int .i64 0, .int .i64 0]) ?_ 4 _ rfl; (with_reducible repeat (first | refine uD ?_ _ | refine uF ?_ | refine uB ?_ _)); refine uP (cs := #[.int .i64 t265, .int .i64 t266, .int .i64 1, .int .i64 0, .int .i64 0, .int .i64 0]) ?_ 3 _ rfl; (with_reducible repeat (first | refine uD ?_ _ | refine uF ?_ | refine uB ?_ _)); refine uP (cs := #[.int .i64 t265, .int .i64 t266, .int .i64 0, .int .i64 0, .int .i64 0, .int .i64 0]) ?_ 2 _ rfl; (with_reducible repeat (first | refine uD ?_ _ | refine uF ?_ | refine uB ?_ _)); refine uP (cs := #[.int .i64 t265, .int .i64 0, .int .i64 0, .int .i64 0, .int .i64 0, .int .i64 0]) ?_ 1 _ rfl; (with_reducible repeat (first | refine uD ?_ _ | refine uF ?_ | refine uB ?_ _)); refine uP (cs := #[.int .i64 0, .int .i64 0, .int .i64 0, .int .i64 0, .int .i64 0, .int .i64 0]) ?_ 0 _ rfl; (with_reducible repeat (first | refine uD ?_ _ | refine uF ?_ | refine uB ?_ _)); exact BK271.out⟩, ⟨cq0⟩⟩
    rw [if_pos c35] at H
    have c35b0 := beq_iff_eq.mpr c35
    have c35b1 := bne_eq_false_iff_eq.mpr c35
    clear c35
    (first | rw [c35b0] | (simp only [uI, uO]; rw [c35b0]) | skip)
    by_cases c36 : 3 < (t258.length : Int)
    rotate_left
    · rw [if_neg c36] at H
      exact absurd H (by simp)
    rw [if_pos c36] at H
    have c36b0 := decide_eq_true c36
    have c36b1 : decide (3 < t258.length) = true := decide_eq_true (by omega)
    clear c36
    replace H := Option.bind_eq_some_iff.mp H
    obtain ⟨t273, A370, H⟩ := H
    try dsimp only at H
    have A37 := Aside0.mk A370
    clear A370
    have H' := Aside0.mk H
    clear H
    have p272 : 0 ≤ (3 : Int) := (by omega)
    have q272 : 3 < (t258.length : Int) := of_decide_eq_true uL
    obtain ⟨ad272, e272, hx272_0⟩ := Kd.at_string (Kd.uQ HO260.out).2.2 3 p272 q272
    obtain rfl : ad261 = ad272 := (by injection e272)
    (try simp only [show (3 : Int).toNat = 3 from rfl, Nat.reduceMul, Nat.reduceEqDiff, Go.Addr.add, ↓reduceIte] at hx272_0)
    have qi272 : (3 < t258.length) = True := eq_true (by omega)
    (try rw [show ((3 : Int)).toNat = 3 from rfl] at hx272_0)
    have hn272_0 : ad261.block ≠ gb271 := Kd.uC (Kd.uK HO260.out BK271.out (by decide))
    have hn272_1 : ad261.block ≠ gb271 := Kd.uC (Kd.uK HO260.out BK271.out (by decide))
    have hn272_2 : ad261.block ≠ gb271 := Kd.uC (Kd.uK HO260.out BK271.out (by decide))
    have hn272_3 : ad261.block ≠ gb271 := Kd.uC (Kd.uK HO260.out BK271.out (by decide))
    have hn272_4 : ad261.block ≠ gb271 := Kd.uC (Kd.uK HO260.out BK271.out (by decide))
    have hn272_5 : ad261.block ≠ gb271 := Kd.uC (Kd.uK HO260.out BK271.out (by decide))
    replace hx272_0 := (uS (p := ⟨gb271, 0, none⟩) (by first | (rw [uG]; exact hn272_0) | (show (Addr.add _ _).block ≠ _; rw [uG]; exact hn272_0) | exact hn272_0) (.int .i64 t265)).trans hx272_0
    replace hx272_0 := (uS (p := ⟨gb271, 1, none⟩) (by first | (rw [uG]; exact hn272_1) | (show (Addr.add _ _).block ≠ _; rw [uG]; exact hn272_1) | exact hn272_1) (.int .i64 t266)).trans hx272_0
    replace hx272_0 := (uS (p := ⟨gb271, 2, none⟩) (by first | (rw [uG]; exact hn272_2) | (show (Addr.add _ _).block ≠ _; rw [uG]; exact hn272_2) | exact hn272_2) (.int .i64 1)).trans hx272_0
    replace hx272_0 := (uS (p := ⟨gb271, 3, none⟩) (by first | (rw [uG]; exact hn272_3) | (show (Addr.add _ _).block ≠ _; rw [uG]; exact hn272_3) | exact hn272_3) (.int .i64 t268)).trans hx272_0
    replace hx272_0 := (uS (p := ⟨gb271, 4, none⟩) (by first | (rw [uG]; exact hn272_4) | (show (Addr.add _ _).block ≠ _; rw [uG]; exact hn272_4) | exact hn272_4) (.int .i64 0)).trans hx272_0
    replace hx272_0 := (uS (p := ⟨gb271, 5, none⟩) (by first | (rw [uG]; exact hn272_5) | (show (Addr.add _ _).block ≠ _; rw [uG]; exact hn272_5) | exact hn272_5) (.int .i64 t270)).trans hx272_0
    clear hn272_0
    clear hn272_1
    clear hn272_2
    clear hn272_3
    clear hn272_4
    clear hn272_5
    replace p272 := eq_true p272
    replace q272 := eq_true q272
    go_wp2_with (first | ((with_reducible refine uM (f := 72) rfl ?_); refine uY (some 45) Tryd.func72 #[.string (rdOf ByteArray.empty t258 3)] ?_; (with_reducible refine (impl_number.calls k (rdOf ByteArray.empty t258 3) t273 _ ?side1 A37.out).mono ?_); (case side1 => exact cq5); rintro e w38 ⟨rfl, hb⟩; refine ⟨_, rfl, ?_⟩; replace HO260 := Aside0.mk (Kd.R_below (by (with_reducible repeat (first | apply Kd.uV | apply Kd.uU | apply Kd.uT)); exact (Kd.R_mono (Kd.uX (p := ⟨gb271, 5, none⟩) (Kd.uX (p := ⟨gb271, 4, none⟩) (Kd.uX (p := ⟨gb271, 3, none⟩) (Kd.uX (p := ⟨gb271, 2, none⟩) (Kd.uX (p := ⟨gb271, 1, none⟩) (Kd.uX (p := ⟨gb271, 0, none⟩) (Kd.R_types HO260.out BK271.out (by decide)) (fun _ hk => hk.2) (.int .i64 t265)) (fun _ hk => hk.2) (.int .i64 t266)) (fun _ hk => hk.2) (.int .i64 1)) (fun _ hk => hk.2) (.int .i64 t268)) (fun _ hk => hk.2) (.int .i64 0)) (fun _ hk => hk.2) (.int .i64 t270)) (fun _ h_ => h_.1))) hb); replace BK257 := tBlkF BK257 hb; replace BK271 := tBlkP BK271 #[.int .i64 t265, .int .i64 t266, .int .i64 1, .int .i64 t268, .int .i64 0, .int .i64 t270] hb; replace HB := uR HB hb; (try clear hb); have hnb39 := NB271_257.out; have hnc39 := NB257_271.out; obtain ⟨hcz40_0, hcz40_1, hcz40_2, hcz40_3, hcz40_4, hcz40_5, hfz40_0, hfz40_1, hfz40_2, hfz40_3, hfz40_4, hfz40_5⟩ := cz6 BK271))
    go_meet
    case rel => exact ⟨_, (2), (t273), H', ⟨by first | omega | exact Nat.le_refl _⟩, ⟨by (with_reducible repeat (first | refine uD ?_ _ | refine uF ?_ | refine uB ?_ _)); refine blk_far ?_ NB257_271.out _; (with_reducible repeat (first | refine uD ?_ _ | refine uF ?_ | refine uB ?_ _)); refine blk_far ?_ NB257_271.out _; (with_reducible repeat (first | refine uD ?_ _ | refine uF ?_ | refine uB ?_ _)); exact BK257.out⟩, ⟨by (with_reducible repeat (first | refine uD ?_ _ | refine uF ?_ | refine uB ?_ _)); refine uP (cs := #[.int .i64 t265, .int .i64 t266, .int .i64 2, .int .i64 t268, .int .i64 0, .int .i64 t270]) ?_ 4 _ rfl; (with_reducible repeat (first | refine uD ?_ _ | refine uF ?_ | refine uB ?_ _)); refine uP (cs := #[.int .i64 t265, .int .i64 t266, .int .i64 1, .int .i64 t268, .int .i64 0, .int .i64 t270]) ?_ 2 _ rfl; (with_reducible repeat (first | refine uD ?_ _ | refine uF ?_ | refine uB ?_ _)); exact BK271.out⟩, ⟨cq0⟩⟩
  case rest =>
    clear HC18
    try clear c3
    obtain ⟨kq, x272002_17, x272004_17, HA, HJ17, BK257, BK271, HB⟩ := hcut
    cases kq with
    | zero => exact absurd HA.out (by simp [impl_ParseOp.j0])
    | succ kj17 =>
      have H := HA.out
      clear HA
      simp only [impl_ParseOp.j0] at H
      replace H := Option.bind_eq_some_iff.mp H
      obtain ⟨t274, A410, H⟩ := H
      try dsimp only at H
      have A41 := Aside0.mk A410
      clear A410
      have hnb48 := NB271_257.out
      have hnc48 := NB257_271.out
      obtain ⟨hcz49_0, hcz49_1, hcz49_2, hcz49_3, hcz49_4, hcz49_5, hfz49_0, hfz49_1, hfz49_2, hfz49_3, hfz49_4, hfz49_5⟩ := cz6 BK271
      go_wp2_with (first | ((with_reducible refine uM (f := 88) rfl ?_); refine uY (some 49) Tryd.func88 #[.agg #[.int .i64 t265, .int .i64 t266, .int .i64 x272002_17, .int .i64 t268, .int .i64 x272004_17, .int .i64 t270]] ?_; (with_reducible refine (impl_FormatOp.calls t265 t266 x272002_17 t268 x272004_17 t270 t274 _ ?side1 A41.out).mono ?_); (case side1 => exact cq5); rintro e w50 ⟨rfl, hb⟩; refine ⟨_, rfl, ?_⟩; replace BK257 := tBlk BK257 hb; replace BK271 := tBlk BK271 hb; replace HB := uR HB hb; (try clear hb); refine ?roundEnd))
      case roundEnd =>
      by_cases c42 : t274.toList = a0.toList
      rotate_left
      · rw [if_neg c42] at H
        have c42b0 : (t274.toList == a0.toList) = false := beq_eq_false_iff_ne.mpr c42
        have c42b1 : (t274.toList != a0.toList) = true := bne_iff_ne.mpr c42
        simp only [Option.some.injEq, Prod.mk.injEq] at H
        obtain ⟨rfl, rfl, rfl, rfl, rfl, rfl, rfl⟩ := H
        obtain ⟨hcz51_0, hcz51_1, hcz51_2, hcz51_3, hcz51_4, hcz51_5, hfz51_0, hfz51_1, hfz51_2, hfz51_3, hfz51_4, hfz51_5⟩ := cz6 BK257
        go_wp2
        refine bodyPost_ret (results_ct rfl _ _ gb257 64 #[.int .i64 0, .int .i64 0, .int .i64 0, .int .i64 0, .int .i64 0, .int .i64 0] (0, 0) _ rfl (by (with_reducible repeat (first | refine uD ?_ _ | refine uF ?_ | refine uB ?_ _)); refine uP (cs := #[.int .i64 0, .int .i64 0, .int .i64 0, .int .i64 0, .int .i64 0, .int .i64 0]) ?_ 5 _ rfl; (with_reducible repeat (first | refine uD ?_ _ | refine uF ?_ | refine uB ?_ _)); refine uP (cs := #[.int .i64 0, .int .i64 0, .int .i64 0, .int .i64 0, .int .i64 0, .int .i64 0]) ?_ 4 _ rfl; (with_reducible repeat (first | refine uD ?_ _ | refine uF ?_ | refine uB ?_ _)); refine uP (cs := #[.int .i64 0, .int .i64 0, .int .i64 0, .int .i64 0, .int .i64 0, .int .i64 0]) ?_ 3 _ rfl; (with_reducible repeat (first | refine uD ?_ _ | refine uF ?_ | refine uB ?_ _)); refine uP (cs := #[.int .i64 0, .int .i64 0, .int .i64 0, .int .i64 0, .int .i64 0, .int .i64 0]) ?_ 2 _ rfl; (with_reducible repeat (first | refine uD ?_ _ | refine uF ?_ | refine uB ?_ _)); refine uP (cs := #[.int .i64 0, .int .i64 0, .int .i64 0, .int .i64 0, .int .i64 0, .int .i64 0]) ?_ 1 _ rfl; (with_reducible repeat (first | refine uD ?_ _ | refine uF ?_ | refine uB ?_ _)); refine uP (cs := #[.int .i64 0, .int .i64 0, .int .i64 0, .int .i64 0, .int .i64 0, .int .i64 0]) ?_ 0 _ rfl; (with_reducible repeat (first | refine uD ?_ _ | refine uF ?_ | refine uB ?_ _)); exact BK257.out) Tryd.underlying64 rfl (by kernel_rfl)) rfl ?_
        exact ⟨by first | rfl | (simp [errW_none, errW_some] <;> rfl) | (simp only [← hji14]; first | rfl | (simp [errW_none, errW_some] <;> rfl)) | (simp [*, errW_none, errW_some] <;> rfl), cq0⟩
      rw [if_pos c42] at H
      have c42b0 : (t274.toList == a0.toList) = true := beq_iff_eq.mpr c42
      have c42b1 : (t274.toList != a0.toList) = false := bne_eq_false_iff_eq.mpr c42
      clear c42
      simp only [Option.some.injEq, Prod.mk.injEq] at H
      obtain ⟨rfl, rfl, rfl, rfl, rfl, rfl, rfl⟩ := H
      obtain ⟨hcz46_0, hcz46_1, hcz46_2, hcz46_3, hcz46_4, hcz46_5, hfz46_0, hfz46_1, hfz46_2, hfz46_3, hfz46_4, hfz46_5⟩ := cz6 BK271
      obtain ⟨hcz47_0, hcz47_1, hcz47_2, hcz47_3, hcz47_4, hcz47_5, hfz47_0, hfz47_1, hfz47_2, hfz47_3, hfz47_4, hfz47_5⟩ := cz6 BK257
      go_wp2
      refine bodyPost_ret (results_ct rfl _ _ gb257 64 #[.int .i64 t265, .int .i64 t266, .int .i64 x272002_17, .int .i64 t268, .int .i64 x272004_17, .int .i64 t270] (0, 0) _ rfl (by (with_reducible repeat (first | refine uD ?_ _ | refine uF ?_ | refine uB ?_ _)); refine uP (cs := #[.int .i64 t265, .int .i64 t266, .int .i64 x272002_17, .int .i64 t268, .int .i64 x272004_17, .int .i64 0]) ?_ 5 _ rfl; (with_reducible repeat (first | refine uD ?_ _ | refine uF ?_ | refine uB ?_ _)); refine uP (cs := #[.int .i64 t265, .int .i64 t266, .int .i64 x272002_17, .int .i64 t268, .int .i64 0, .int .i64 0]) ?_ 4 _ rfl; (with_reducible repeat (first | refine uD ?_ _ | refine uF ?_ | refine uB ?_ _)); refine uP (cs := #[.int .i64 t265, .int .i64 t266, .int .i64 x272002_17, .int .i64 0, .int .i64 0, .int .i64 0]) ?_ 3 _ rfl; (with_reducible repeat (first | refine uD ?_ _ | refine uF ?_ | refine uB ?_ _)); refine uP (cs := #[.int .i64 t265, .int .i64 t266, .int .i64 0, .int .i64 0, .int .i64 0, .int .i64 0]) ?_ 2 _ rfl; (with_reducible repeat (first | refine uD ?_ _ | refine uF ?_ | refine uB ?_ _)); refine uP (cs := #[.int .i64 t265, .int .i64 0, .int .i64 0, .int .i64 0, .int .i64 0, .int .i64 0]) ?_ 1 _ rfl; (with_reducible repeat (first | refine uD ?_ _ | refine uF ?_ | refine uB ?_ _)); refine uP (cs := #[.int .i64 0, .int .i64 0, .int .i64 0, .int .i64 0, .int .i64 0, .int .i64 0]) ?_ 0 _ rfl; (with_reducible repeat (first | refine uD ?_ _ | refine uF ?_ | refine uB ?_ _)); exact BK257.out) Tryd.underlying64 rfl (by kernel_rfl)) rfl ?_
      exact ⟨by first | rfl | (simp [errW_none, errW_some] <;> rfl) | (simp only [← hji14]; first | rfl | (simp [errW_none, errW_some] <;> rfl)) | (simp [*, errW_none, errW_some] <;> rfl), cq0⟩

end Go.Proofs.YtcikahnmiiichaaDoor.L
