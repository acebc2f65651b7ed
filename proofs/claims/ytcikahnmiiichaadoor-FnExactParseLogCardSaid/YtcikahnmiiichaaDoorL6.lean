/- Go functions as Lean functions, and the proof that the code comes to them: written by a program of this session out of the translation. -/
import Derived.Test.YtcikahnmiiichaaDoorL0
import Derived.Test.YtcikahnmiiichaaDoorL3
import Derived.Test.YtcikahnmiiichaaDoorL4
import Derived.Test.YtcikahnmiiichaaDoorL5
namespace Go.Proofs.YtcikahnmiiichaaDoor.L
open List renaming setIfInBounds_toArray → vD, set_cons_zero → vE, set_cons_succ → vF
open Go.World renaming block_lt_of_cell? → vJ
open Go.Proofs.YtcikahnmiiichaaDoor.Given
open Go.RowKit Go.Proofs.YtcikahnmiiichaaDoorW.PrintWords Go.Proofs.YtcikahnmiiichaaDoorW.PrintLast Go.Proofs.YtcikahnmiiichaaDoorW.PrintMore
attribute [local go_sem] max2_int min2_int max_two min_two max_three min_three max_four min_four   -- for this text's walks alone
set_option linter.unusedVariables false
set_option linter.unusedSimpArgs false

/-! ### spec_ParseOp: function 67 -/
mutual
def spec_ParseOp.j0 : Nat → ByteArray → List ByteArray → List ByteArray → Bool → Option (Int × Int × Int × Int × Int × Int × Bool)
  | 0, _, _, _, _ => none
  | k + 1, x0, x4, x5, x20 => if x20 = true then (some (0, 0, 0, 0, 0, 0, false)) else (if 0 < (x5.length : Int) then ((spec_l3Num.f k (rdOf ByteArray.empty x5 0)).bind fun t153 => (if 1 < (x5.length : Int) then ((spec_l3Num.f k (rdOf ByteArray.empty x5 1)).bind fun t155 => (if 2 < (x4.length : Int) then ((spec_l3Num.f k (rdOf ByteArray.empty x4 2)).bind fun t157 => (if 0 ≤ (wrap64 ((x4.length : Int) - 1)) then (if (wrap64 ((x4.length : Int) - 1)) < (x4.length : Int) then ((spec_l3Num.f k (rdOf ByteArray.empty x4 (wrap64 ((x4.length : Int) - 1)))).bind fun t159 => (if 1 < (x4.length : Int) then (if (rdOf ByteArray.empty x4 1).toList = ([119, 114, 105, 116, 101] : List UInt8) then (spec_ParseOp.j1 k x0 t153 t155 1 t157 0 t159) else (if (rdOf ByteArray.empty x4 1).toList = ([115, 119, 97, 112] : List UInt8) then (if 3 < (x4.length : Int) then ((spec_l3Num.f k (rdOf ByteArray.empty x4 3)).bind fun t163 => (spec_ParseOp.j1 k x0 t153 t155 2 t157 t163 t159)) else (none)) else (spec_ParseOp.j1 k x0 t153 t155 0 t157 0 t159))) else (none))) else (none)) else (none))) else (none))) else (none))) else (none))
def spec_ParseOp.j1 : Nat → ByteArray → Int → Int → Int → Int → Int → Int → Option (Int × Int × Int × Int × Int × Int × Bool)
  | 0, _, _, _, _, _, _, _ => none
  | k + 1, x0, x161000, x161001, x161002, x161003, x161004, x161005 => (spec_FormatOp.f k x161000 x161001 x161002 x161003 x161004 x161005).bind fun t164 => (if t164.toList = x0.toList then (some (x161000, x161001, x161002, x161003, x161004, x161005, true)) else (some (0, 0, 0, 0, 0, 0, false)))
end
def spec_ParseOp.f (k : Nat) (a0 : ByteArray) : Option (Int × Int × Int × Int × Int × Int × Bool) := (spec_l2Cut.f k a0 32).bind fun t145 => (if 0 < (t145.length : Int) then ((spec_l2Cut.f k (rdOf ByteArray.empty t145 0) 46).bind fun t149 => (if (t145.length : Int) < 4 then (spec_ParseOp.j0 k a0 t145 t149 true) else (spec_ParseOp.j0 k a0 t145 t149 ((t149.length : Int) != 2)))) else (none))
theorem spec_ParseOp.mono_l : ∀ k, (∀ y0 y1 y2 y3, uE (spec_ParseOp.j0 k y0 y1 y2 y3) (spec_ParseOp.j0 (k + 1) y0 y1 y2 y3)) ∧ (∀ y0 y1 y2 y3 y4 y5 y6, uE (spec_ParseOp.j1 k y0 y1 y2 y3 y4 y5 y6) (spec_ParseOp.j1 (k + 1) y0 y1 y2 y3 y4 y5 y6))
  | 0 => ⟨fun _ _ _ _ r h => by simp [spec_ParseOp.j0] at h, fun _ _ _ _ _ _ _ r h => by simp [spec_ParseOp.j1] at h⟩
  | k + 1 => by
    obtain ⟨ih0, ih1⟩ := spec_ParseOp.mono_l k
    refine ⟨?_, ?_⟩
    · intro y0 y1 y2 y3
      unfold spec_ParseOp.j0
      repeat' first
      | (with_reducible exact ih0 _ _ _ _)
      | (with_reducible exact ih1 _ _ _ _ _ _ _)
      | (with_reducible exact spec_FormatOp.mono _ _ _ _ _ _ _)
      | (with_reducible exact spec_l2Cut.mono _ _ _)
      | (with_reducible exact spec_l3Num.mono _ _)
      | (with_reducible exact uE.refl _)
      | (with_reducible exact uE.none _)
      | (with_reducible refine uE.ite ?_ ?_)
      | (with_reducible refine uE.bind ?_ (fun _ => ?_))
      | exact ih0 _ _ _ _
      | exact ih1 _ _ _ _ _ _ _
      | exact uE.none _
      | refine uE.ite ?_ ?_
      | refine uE.bind ?_ (fun _ => ?_)
    intro y0 y1 y2 y3 y4 y5 y6
    unfold spec_ParseOp.j1
    repeat' first
    | (with_reducible exact ih0 _ _ _ _)
    | (with_reducible exact ih1 _ _ _ _ _ _ _)
    | (with_reducible exact spec_FormatOp.mono _ _ _ _ _ _ _)
    | (with_reducible exact spec_l2Cut.mono _ _ _)
    | (with_reducible exact spec_l3Num.mono _ _)
    | (with_reducible exact uE.refl _)
    | (with_reducible exact uE.none _)
    | (with_reducible refine uE.ite ?_ ?_)
    | (with_reducible refine uE.bind ?_ (fun _ => ?_))
    | exact ih0 _ _ _ _
    | exact ih1 _ _ _ _ _ _ _
    | exact uE.none _
    | refine uE.ite ?_ ?_
    | refine uE.bind ?_ (fun _ => ?_)
theorem spec_ParseOp.mono : ∀ a0 k, uE (spec_ParseOp.f k a0) (spec_ParseOp.f (k + 1) a0) := by
  intro a0 k
  obtain ⟨ih0, ih1⟩ := spec_ParseOp.mono_l k
  unfold spec_ParseOp.f
  repeat' first
      | (with_reducible exact ih0 _ _ _ _)
      | (with_reducible exact ih1 _ _ _ _ _ _ _)
      | (with_reducible exact spec_FormatOp.mono _ _ _ _ _ _ _)
      | (with_reducible exact spec_l2Cut.mono _ _ _)
      | (with_reducible exact spec_l3Num.mono _ _)
      | (with_reducible exact uE.refl _)
      | (with_reducible exact uE.none _)
      | (with_reducible refine uE.ite ?_ ?_)
      | (with_reducible refine uE.bind ?_ (fun _ => ?_))
      | exact ih0 _ _ _ _
      | exact ih1 _ _ _ _ _ _ _
      | exact uE.none _
      | refine uE.ite ?_ ?_
      | refine uE.bind ?_ (fun _ => ?_)
def spec_ParseOp.T5 : Bool × List (List Nat × List Nat) := (true, [([], []), ([0], [0]), ([1], [1]), ([2], [2]), ([], []), ([4], [4]), ([5], [5]), ([6, 3], [6]), ([], []), ([8], [8]), ([9], [9]), ([10, 7], [10]), ([], []), ([], []), ([13], [13]), ([14], [14]), ([12, 15], [12, 15]), ([16], [16]), ([17, 11], [17]), ([3, 7, 11, 18], [3, 7, 11, 18]), ([], []), ([20, 19, 18, 0, 1, 2, 3, 4, 5, 6, 7, 8, 9, 10, 11, 12, 13, 14, 15, 16, 17, 18, 19, 20], [19, 20])])
def spec_ParseOp.B5 : List Nat := [0, 1, 3, 7, 0, 16, 48, 127, 0, 256, 768, 2047, 0, 0, 8192, 24576, 61440, 126976, 262143, 524287, 0, 2097151]
theorem spec_ParseOp.tab5 : rtab .any (opsOf Tryd.f67 5) = spec_ParseOp.T5 := by kernel_rfl
theorem spec_ParseOp.bits5 : waitsOk spec_ParseOp.T5.2 spec_ParseOp.B5 = true := by kernel_rfl
set_option maxHeartbeats 8000000 in
set_option maxRecDepth 100000 in
theorem spec_ParseOp.calls (k : Nat) (a0 : ByteArray) (r1 : Int) (r2 : Int) (r3 : Int) (r4 : Int) (r5 : Int) (r6 : Int) (r7 : Bool) (w : World) (h : spec_ParseOp.f k a0 = some (r1, r2, r3, r4, r5, r6, r7)) :
    Calls Tryd.prog 67 #[.string a0] w fun e w' => e = .returned (.tuple #[.agg #[.int .i64 r1, .int .i64 r2, .int .i64 r3, .int .i64 r4, .int .i64 r5, .int .i64 r6], .bool r7]) ∧ Below w.heap.size w w' := by
  have hu64 := Tryd.underlying64
  have HB := Aside0.mk (Below.refl w.heap.size w)
  have H : ((spec_l2Cut.f k a0 32).bind fun t145 => (if 0 < (t145.length : Int) then ((spec_l2Cut.f k (rdOf ByteArray.empty t145 0) 46).bind fun t149 => (if (t145.length : Int) < 4 then (spec_ParseOp.j0 k a0 t145 t149 true) else (spec_ParseOp.j0 k a0 t145 t149 ((t149.length : Int) != 2)))) else (none))) = some (r1, r2, r3, r4, r5, r6, r7) := h
  clear h
  replace H := Option.bind_eq_some_iff.mp H
  obtain ⟨t145, A20, H⟩ := H
  try dsimp only at H
  have A2 := Aside0.mk A20
  clear A20
  by_cases c3 : 0 < (t145.length : Int)
  rotate_left
  · rw [if_neg c3] at H
    exact absurd H (by simp)
  rw [if_pos c3] at H
  have c3b0 := decide_eq_true c3
  have c3b1 : decide (0 < t145.length) = true := decide_eq_true (by omega)
  clear c3
  replace H := Option.bind_eq_some_iff.mp H
  obtain ⟨t149, A40, H⟩ := H
  try dsimp only at H
  have A4 := Aside0.mk A40
  clear A40
  have HC5 := Aside0.mk H
  clear H
  go_enter Tryd.func67, Tryd.ntmps67
  go_upto_region 3 with (first | ((with_reducible refine gate_dst (N := 2) rfl ?_); refine bxe 2 #[.int .i64 0, .int .i64 0, .int .i64 0, .int .i64 0, .int .i64 0, .int .i64 0] 64 ?_; intro gb144 hg w6 hbox hb; have BK144 := Aside0.mk (hbox); have GW144 := tGe HB hg; have GE144 := tGe HB hg; replace HB := uR HB hb; clear hb hbox hg) | ((with_reducible refine uM (f := 66) rfl ?_); refine uY (some 8) Tryd.func66 #[.string a0, .int .u8 32] ?_; (with_reducible refine (spec_l2Cut.calls k a0 32 t145 _ A2.out).mono ?_); rintro e w7 ⟨v146, rfl, ho0, hb⟩; refine ⟨_, rfl, ?_⟩; have HO147 := Aside0.mk (Kd.R_lower ho0 (vA cq0)); replace BK144 := tBlk BK144 hb; replace HB := uR HB hb; (try clear hb); (try clear ho0); obtain ⟨Ao8, co8, eo8⟩ := Kd.R_slice HO147.out; subst eo8; have p148 : 0 ≤ (0 : Int) := (by omega); have q148 : 0 < (t145.length : Int) := of_decide_eq_true uL; obtain ⟨ad148, e148, hx148_0⟩ := Kd.at_string (Kd.uQ HO147.out).2.2 0 p148 q148; cases e148; have qi148 : (0 < t145.length) = True := eq_true (by omega); (try rw [show ((0 : Int)).toNat = 0 from rfl] at hx148_0); (try rw [Addr.add_zero'] at hx148_0); replace p148 := eq_true p148; replace q148 := eq_true q148) | ((with_reducible refine uM (f := 66) rfl ?_); refine uY (some 12) Tryd.func66 #[.string (rdOf ByteArray.empty t145 0), .int .u8 46] ?_; (with_reducible refine (spec_l2Cut.calls k (rdOf ByteArray.empty t145 0) 46 t149 _ A4.out).mono ?_); rintro e w9 ⟨v150, rfl, ho0, hb⟩; refine ⟨_, rfl, ?_⟩; have HO151 := Aside0.mk (Kd.R_lower (Kd.R_new' ho0 (Kd.R_lt (rSR HO147.out))) (vA cq0)); replace HO147 := Aside0.mk (Kd.R_elder' (rSR HO147.out) (Kd.R_base ho0) hb); replace BK144 := tBlk BK144 hb; replace HB := uR HB hb; (try clear hb); (try clear ho0)))
  (try simp only [Act.put, vD, vE, vF])
  go_cut [20] (fun v20 wc => ∃ (kq : Nat) (x20_4 : Bool), v20 = .bool x20_4 ∧ Aside0 (spec_ParseOp.j0 kq a0 t145 t149 x20_4 = some (r1, r2, r3, r4, r5, r6, r7)) ∧ Aside0 (kq ≤ k) ∧ Aside0 (Kd.R Kd.string 9 wc w.heap.size (fun k_ => some k_ ≠ (v150 : Value).ownBlock) (.slice (some ad148) t145.length co8) t145) ∧ Aside0 (Kd.R Kd.string 9 wc w.heap.size (fun k_ => some k_ ≠ ((.slice (some ad148) t145.length co8) : Value).ownBlock) v150 t149) ∧ Aside0 (wc.heap[gb144]? = some (.cells #[.int .i64 0, .int .i64 0, .int .i64 0, .int .i64 0, .int .i64 0, .int .i64 0] 64 (0, 0))) ∧ Aside0 (Below w.heap.size w wc))
  case first =>
    have H := HC5.out
    clear HC5
    by_cases c10 : (t145.length : Int) < 4
    · rw [if_pos c10] at H
      have c10b0 := decide_eq_true c10
      have c10b1 : decide (t145.length < 4) = true := decide_eq_true (by omega)
      clear c10
      (first | rw [c10b0] | (simp only [uI, uO]; rw [c10b0]) | skip)
      have H' := Aside0.mk H
      clear H
      go_wp2
      go_meet
      case rel => exact ⟨_, (true), cq6, H', ⟨by first | omega | exact Nat.le_refl _⟩, ⟨by (with_reducible repeat (first | apply Kd.uV | apply Kd.uU | apply Kd.uT)); exact Kd.R_mono HO147.out (fun _ hk => hk.2)⟩, ⟨by (with_reducible repeat (first | apply Kd.uV | apply Kd.uU | apply Kd.uT)); exact Kd.R_mono HO151.out (fun _ hk => hk.2)⟩, ⟨by (with_reducible repeat (first | refine uD ?_ _ | refine uF ?_ | refine uB ?_ _)); exact BK144.out⟩, ⟨cq0⟩⟩
    rw [if_neg c10] at H
    have c10b0 := decide_eq_false c10
    have c10b1 : decide (t145.length < 4) = false := decide_eq_false (by omega)
    clear c10
    (first | rw [c10b0] | (simp only [uI, uO]; rw [c10b0]) | skip)
    have H' := Aside0.mk H
    clear H
    obtain ⟨Ao11, co11, eo11⟩ := Kd.R_slice HO151.out
    subst eo11
    go_wp2
    go_meet
    case rel => exact ⟨_, (((t149.length : Int) != 2)), cq6, H', ⟨by first | omega | exact Nat.le_refl _⟩, ⟨by (with_reducible repeat (first | apply Kd.uV | apply Kd.uU | apply Kd.uT)); exact Kd.R_mono HO147.out (fun _ hk => hk.2)⟩, ⟨by (with_reducible repeat (first | apply Kd.uV | apply Kd.uU | apply Kd.uT)); exact Kd.R_mono HO151.out (fun _ hk => hk.2)⟩, ⟨by (with_reducible repeat (first | refine uD ?_ _ | refine uF ?_ | refine uB ?_ _)); exact BK144.out⟩, ⟨cq0⟩⟩
  case rest =>
    clear HC5
    try clear c3
    try clear c3b0
    try clear c3b1
    try clear hx148_0
    try clear p148
    try clear q148
    obtain ⟨kq, x20_4, rfl, HA, HJ4, HO_4, HO_5, BK144, HB⟩ := hcut
    cases kq with
    | zero => exact absurd HA.out (by simp [spec_ParseOp.j0])
    | succ kj4 =>
      have H := HA.out
      clear HA
      simp only [spec_ParseOp.j0] at H
      by_cases c12 : x20_4 = true
      · subst c12
        try rw [if_pos rfl] at H
        simp only [Option.some.injEq, Prod.mk.injEq] at H
        obtain ⟨rfl, rfl, rfl, rfl, rfl, rfl, rfl⟩ := H
        obtain ⟨hcz13_0, hcz13_1, hcz13_2, hcz13_3, hcz13_4, hcz13_5, hfz13_0, hfz13_1, hfz13_2, hfz13_3, hfz13_4, hfz13_5⟩ := cz6 BK144
        go_wp2
        refine bodyPost_ret (results_ct rfl _ _ gb144 64 #[.int .i64 0, .int .i64 0, .int .i64 0, .int .i64 0, .int .i64 0, .int .i64 0] (0, 0) _ rfl (by (with_reducible repeat (first | refine uD ?_ _ | refine uF ?_ | refine uB ?_ _)); refine uP (cs := #[.int .i64 0, .int .i64 0, .int .i64 0, .int .i64 0, .int .i64 0, .int .i64 0]) ?_ 5 _ rfl; (with_reducible repeat (first | refine uD ?_ _ | refine uF ?_ | refine uB ?_ _)); refine uP (cs := #[.int .i64 0, .int .i64 0, .int .i64 0, .int .i64 0, .int .i64 0, .int .i64 0]) ?_ 4 _ rfl; (with_reducible repeat (first | refine uD ?_ _ | refine uF ?_ | refine uB ?_ _)); refine uP (cs := #[.int .i64 0, .int .i64 0, .int .i64 0, .int .i64 0, .int .i64 0, .int .i64 0]) ?_ 3 _ rfl; (with_reducible repeat (first | refine uD ?_ _ | refine uF ?_ | refine uB ?_ _)); refine uP (cs := #[.int .i64 0, .int .i64 0, .int .i64 0, .int .i64 0, .int .i64 0, .int .i64 0]) ?_ 2 _ rfl; (with_reducible repeat (first | refine uD ?_ _ | refine uF ?_ | refine uB ?_ _)); refine uP (cs := #[.int .i64 0, .int .i64 0, .int .i64 0, .int .i64 0, .int .i64 0, .int .i64 0]) ?_ 1 _ rfl; (with_reducible repeat (first | refine uD ?_ _ | refine uF ?_ | refine uB ?_ _)); refine uP (cs := #[.int .i64 0, .int .i64 0, .int .i64 0, .int .i64 0, .int .i64 0, .int .i64 0]) ?_ 0 _ rfl; (with_reducible repeat (first | refine uD ?_ _ | refine uF ?_ | refine uB ?_ _)); exact BK144.out) Tryd.underlying64 rfl (by kernel_rfl)) rfl ?_
        exact ⟨cq3, cq0⟩
      replace c12 := Bool.eq_false_iff.mpr c12
      subst c12
      try rw [if_neg (show ¬ (false = true) by decide)] at H
      by_cases c14 : 0 < (t149.length : Int)
      rotate_left
      · rw [if_neg c14] at H
        exact absurd H (by simp)
      rw [if_pos c14] at H
      have c14b0 := decide_eq_true c14
      have c14b1 : decide (0 < t149.length) = true := decide_eq_true (by omega)
      clear c14
      replace H := Option.bind_eq_some_iff.mp H
      obtain ⟨t153, A150, H⟩ := H
      try dsimp only at H
      have A15 := Aside0.mk A150
      clear A150
      by_cases c16 : 1 < (t149.length : Int)
      rotate_left
      · rw [if_neg c16] at H
        exact absurd H (by simp)
      rw [if_pos c16] at H
      have c16b0 := decide_eq_true c16
      have c16b1 : decide (1 < t149.length) = true := decide_eq_true (by omega)
      clear c16
      replace H := Option.bind_eq_some_iff.mp H
      obtain ⟨t155, A170, H⟩ := H
      try dsimp only at H
      have A17 := Aside0.mk A170
      clear A170
      by_cases c18 : 2 < (t145.length : Int)
      rotate_left
      · rw [if_neg c18] at H
        exact absurd H (by simp)
      rw [if_pos c18] at H
      have c18b0 := decide_eq_true c18
      have c18b1 : decide (2 < t145.length) = true := decide_eq_true (by omega)
      clear c18
      replace H := Option.bind_eq_some_iff.mp H
      obtain ⟨t157, A190, H⟩ := H
      try dsimp only at H
      have A19 := Aside0.mk A190
      clear A190
      obtain ⟨ji20, hji20⟩ : ∃ j_ : Int, (wrap64 ((t145.length : Int) - 1)) = j_ := ⟨_, rfl⟩
      replace H : (if 0 ≤ (ji20) then (if (ji20) < (t145.length : Int) then ((spec_l3Num.f kj4 (rdOf ByteArray.empty t145 (ji20))).bind fun t159 => (if 1 < (t145.length : Int) then (if (rdOf ByteArray.empty t145 1).toList = ([119, 114, 105, 116, 101] : List UInt8) then (spec_ParseOp.j1 kj4 a0 t153 t155 1 t157 0 t159) else (if (rdOf ByteArray.empty t145 1).toList = ([115, 119, 97, 112] : List UInt8) then (if 3 < (t145.length : Int) then ((spec_l3Num.f kj4 (rdOf ByteArray.empty t145 3)).bind fun t163 => (spec_ParseOp.j1 kj4 a0 t153 t155 2 t157 t163 t159)) else (none)) else (spec_ParseOp.j1 kj4 a0 t153 t155 0 t157 0 t159))) else (none))) else (none)) else (none)) = some (r1, r2, r3, r4, r5, r6, r7) := by first | (rw [hji20] at H; exact H) | (simp only [hji20] at H ⊢; exact H) | rfl
      (try rw [hji20] at A15)
      (try rw [hji20] at A17)
      (try rw [hji20] at A19)
      have hji20w : (IntKind.i64.wrap ((t145.length : Int) - 1)) = ji20 := (uI _).trans hji20
      obtain ⟨c21b0, H⟩ := ifD H
      obtain ⟨c22b0, H⟩ := ifD H
      replace H := Option.bind_eq_some_iff.mp H
      obtain ⟨t159, A230, H⟩ := H
      try dsimp only at H
      have A23 := Aside0.mk A230
      clear A230
      by_cases c24 : 1 < (t145.length : Int)
      rotate_left
      · rw [if_neg c24] at H
        exact absurd H (by simp)
      rw [if_pos c24] at H
      have c24b0 := decide_eq_true c24
      have c24b1 : decide (1 < t145.length) = true := decide_eq_true (by omega)
      clear c24
      have HC25 := Aside0.mk H
      clear H
      try go_wp2
      replace HO_4 := Aside0.mk (Kd.uT HO_4.out)
      replace HO_5 := Aside0.mk (Kd.uT HO_5.out)
      replace BK144 := Aside0.mk (uF BK144.out)
      replace HB := Aside0.mk (vB HB.out)
      obtain ⟨Ao27, co27, eo27⟩ := Kd.R_slice HO_5.out
      (first | subst eo27 | (injection eo27 with f1_ f2_ f3_; have f4_ := f1_.symm; have f5_ := f3_.symm; clear f1_ f2_ f3_; subst f4_; subst f5_))
      have p152 : 0 ≤ (0 : Int) := (by omega)
      have q152 : 0 < (t149.length : Int) := of_decide_eq_true uL
      obtain ⟨ad152, e152, hx152_0⟩ := Kd.at_string (Kd.uQ HO_5.out).2.2 0 p152 q152
      cases e152
      have qi152 : (0 < t149.length) = True := eq_true (by omega)
      (try rw [show ((0 : Int)).toNat = 0 from rfl] at hx152_0)
      (try rw [Addr.add_zero'] at hx152_0)
      replace p152 := eq_true p152
      replace q152 := eq_true q152
      have p154 : 0 ≤ (1 : Int) := (by omega)
      have q154 : 1 < (t149.length : Int) := of_decide_eq_true uL
      obtain ⟨ad154, e154, hx154_0⟩ := Kd.at_string (Kd.uQ HO_5.out).2.2 1 p154 q154
      obtain rfl : ad152 = ad154 := (by injection e154)
      (try simp only [show (1 : Int).toNat = 1 from rfl, Nat.reduceMul, Nat.reduceEqDiff, Go.Addr.add, ↓reduceIte] at hx154_0)
      have qi154 : (1 < t149.length) = True := eq_true (by omega)
      (try rw [show ((1 : Int)).toNat = 1 from rfl] at hx154_0)
      replace p154 := eq_true p154
      replace q154 := eq_true q154
      have p156 : 0 ≤ (2 : Int) := (by omega)
      have q156 : 2 < (t145.length : Int) := of_decide_eq_true uL
      obtain ⟨ad156, e156, hx156_0⟩ := Kd.at_string (Kd.uQ HO_4.out).2.2 2 p156 q156
      obtain rfl : ad148 = ad156 := (by injection e156)
      (try simp only [show (2 : Int).toNat = 2 from rfl, Nat.reduceMul, Nat.reduceEqDiff, Go.Addr.add, ↓reduceIte] at hx156_0)
      have qi156 : (2 < t145.length) = True := eq_true (by omega)
      (try rw [show ((2 : Int)).toNat = 2 from rfl] at hx156_0)
      replace p156 := eq_true p156
      replace q156 := eq_true q156
      have p158 : 0 ≤ ((ji20) : Int) := of_decide_eq_true uL
      have q158 : (ji20) < (t145.length : Int) := of_decide_eq_true uL
      obtain ⟨ad158, e158, hx158_0⟩ := Kd.at_string (Kd.uQ HO_4.out).2.2 (ji20) p158 q158
      obtain rfl : ad148 = ad158 := (by injection e158)
      replace p158 := eq_true p158
      replace q158 := eq_true q158
      refine start_ (n := 22) (S := fun w' => w'.cell? ad152 = some (.string (rdOf ByteArray.empty t149 0)) ∧ w'.cell? ⟨ad152.block, ad152.off + 1, none⟩ = some (.string (rdOf ByteArray.empty t149 1)) ∧ w'.cell? ⟨ad148.block, ad148.off + 2, none⟩ = some (.string (rdOf ByteArray.empty t145 2)) ∧ w'.cell? (ad148.add ((ji20)).toNat) = some (.string (rdOf ByteArray.empty t145 (ji20)))) (ds := []) #[false, false, false, false, false, false, false, false, false, false, false, false, false, false, false, false, false, false, false, false, false, false] (by kernel_rfl) rfl rfl ⟨hx152_0, hx154_0, hx156_0, hx158_0⟩ (fun hHeld => ?_); refine with_tabW spec_ParseOp.tab5 spec_ParseOp.bits5 (fun HT_ HW_ => ?_)
      generalize wc.drew = w26 at HO_4 HO_5 BK144 HB hx152_0 hx154_0 hx156_0 hx158_0 hHeld ⊢
      refine uJ 0 (some 22) #[true, false, false, false, false, false, false, false, false, false, false, false, false, false, false, false, false, false, false, false, false, false] ?_
      refine uJ 1 (some 23) #[true, true, false, false, false, false, false, false, false, false, false, false, false, false, false, false, false, false, false, false, false, false] ?_
      refine uJ 4 (some 26) #[true, true, false, false, true, false, false, false, false, false, false, false, false, false, false, false, false, false, false, false, false, false] ?_
      refine uJ 5 (some 27) #[true, true, false, false, true, true, false, false, false, false, false, false, false, false, false, false, false, false, false, false, false, false] ?_
      refine uJ 8 (some 30) #[true, true, false, false, true, true, false, false, true, false, false, false, false, false, false, false, false, false, false, false, false, false] ?_
      refine uJ 9 (some 31) #[true, true, false, false, true, true, false, false, true, true, false, false, false, false, false, false, false, false, false, false, false, false] ?_
      refine uJ 12 (some 34) #[true, true, false, false, true, true, false, false, true, true, false, false, true, false, false, false, false, false, false, false, false, false] ?_
      refine uJ 13 (some 35) #[true, true, false, false, true, true, false, false, true, true, false, false, true, true, false, false, false, false, false, false, false, false] ?_
      refine uJ 14 (some 36) #[true, true, false, false, true, true, false, false, true, true, false, false, true, true, true, false, false, false, false, false, false, false] ?_
      refine uJ 15 (some 37) #[true, true, false, false, true, true, false, false, true, true, false, false, true, true, true, true, false, false, false, false, false, false] ?_
      refine uJ 16 (some 38) #[true, true, false, false, true, true, false, false, true, true, false, false, true, true, true, true, true, false, false, false, false, false] ?_
      refine takeT 2 (some 24) #[true, true, true, false, true, true, false, false, true, true, false, false, true, true, true, true, true, false, false, false, false, false] ?_
      refine takeT 6 (some 28) #[true, true, true, false, true, true, true, false, true, true, false, false, true, true, true, true, true, false, false, false, false, false] ?_
      refine takeT 10 (some 32) #[true, true, true, false, true, true, true, false, true, true, true, false, true, true, true, true, true, false, false, false, false, false] ?_
      refine takeT 17 (some 39) #[true, true, true, false, true, true, true, false, true, true, true, false, true, true, true, true, true, true, false, false, false, false] ?_
      refine join_ (σ := Nat) 1 tb11 (fun s_ => [(25, .int .i64 t153), (29, .int .i64 t155), (33, .int .i64 t157), (40, .int .i64 t159), (6, .pointer (some ⟨s_, 0, none⟩)), (41, .agg #[.int .i64 t153, .int .i64 t155, .int .i64 0, .int .i64 t157, .int .i64 0, .int .i64 t159])]) (fun s_ w' => (w'.cell? ad152 = some (.string (rdOf ByteArray.empty t149 0)) ∧ w'.cell? ⟨ad152.block, ad152.off + 1, none⟩ = some (.string (rdOf ByteArray.empty t149 1)) ∧ w'.cell? ⟨ad148.block, ad148.off + 2, none⟩ = some (.string (rdOf ByteArray.empty t145 2)) ∧ w'.cell? (ad148.add ((ji20)).toNat) = some (.string (rdOf ByteArray.empty t145 (ji20)))) ∧ (Kd.R Kd.string 9 w' w.heap.size (fun k_ => some k_ ≠ (.slice (some ad152) t149.length co27 : Value).ownBlock) (.slice (some ad148) t145.length co8) t145) ∧ (Kd.R Kd.string 9 w' w.heap.size (fun k_ => some k_ ≠ (.slice (some ad148) t145.length co8 : Value).ownBlock) (.slice (some ad152) t149.length co27) t149) ∧ (w'.heap[gb144]? = some (.cells #[.int .i64 0, .int .i64 0, .int .i64 0, .int .i64 0, .int .i64 0, .int .i64 0] 64 (0, 0))) ∧ (w'.heap[s_]? = some (.cells #[.int .i64 0, .int .i64 0, .int .i64 0, .int .i64 0, .int .i64 0, .int .i64 0] 64 (0, 0))) ∧ (w.heap.size ≤ s_) ∧ (w.heap.size ≤ s_) ∧ (gb144 ≠ s_) ∧ (s_ ≠ gb144) ∧ (Below w.heap.size w w')) ?_ ?_
      rotate_left
      · intro hJ3_7_11_18_20
        refine join_ (σ := Unit) 2 tb26 (fun s_ => [(25, .int .i64 t153), (29, .int .i64 t155), (33, .int .i64 t157), (40, .int .i64 t159), (41, .agg #[.int .i64 t153, .int .i64 t155, .int .i64 0, .int .i64 t157, .int .i64 0, .int .i64 t159])]) (fun s_ w' => (w'.cell? ad152 = some (.string (rdOf ByteArray.empty t149 0)) ∧ w'.cell? ⟨ad152.block, ad152.off + 1, none⟩ = some (.string (rdOf ByteArray.empty t149 1)) ∧ w'.cell? ⟨ad148.block, ad148.off + 2, none⟩ = some (.string (rdOf ByteArray.empty t145 2)) ∧ w'.cell? (ad148.add ((ji20)).toNat) = some (.string (rdOf ByteArray.empty t145 (ji20)))) ∧ (Kd.R Kd.string 9 w' w.heap.size (fun k_ => some k_ ≠ (.slice (some ad152) t149.length co27 : Value).ownBlock) (.slice (some ad148) t145.length co8) t145) ∧ (Kd.R Kd.string 9 w' w.heap.size (fun k_ => some k_ ≠ (.slice (some ad148) t145.length co8 : Value).ownBlock) (.slice (some ad152) t149.length co27) t149) ∧ (w'.heap[gb144]? = some (.cells #[.int .i64 0, .int .i64 0, .int .i64 0, .int .i64 0, .int .i64 0, .int .i64 0] 64 (0, 0))) ∧ (Below w.heap.size w w')) ?_ ?_
        rotate_left
        · intro hJ3_7_11_18
          refine join_ (σ := Nat) 3 tb10 (fun s_ => [(25, .int .i64 t153), (29, .int .i64 t155), (33, .int .i64 t157), (6, .pointer (some ⟨s_, 0, none⟩))]) (fun s_ w' => (w'.cell? ad152 = some (.string (rdOf ByteArray.empty t149 0)) ∧ w'.cell? ⟨ad152.block, ad152.off + 1, none⟩ = some (.string (rdOf ByteArray.empty t149 1)) ∧ w'.cell? ⟨ad148.block, ad148.off + 2, none⟩ = some (.string (rdOf ByteArray.empty t145 2)) ∧ w'.cell? (ad148.add ((ji20)).toNat) = some (.string (rdOf ByteArray.empty t145 (ji20)))) ∧ (Kd.R Kd.string 9 w' w.heap.size (fun k_ => some k_ ≠ (.slice (some ad152) t149.length co27 : Value).ownBlock) (.slice (some ad148) t145.length co8) t145) ∧ (Kd.R Kd.string 9 w' w.heap.size (fun k_ => some k_ ≠ (.slice (some ad148) t145.length co8 : Value).ownBlock) (.slice (some ad152) t149.length co27) t149) ∧ (w'.heap[gb144]? = some (.cells #[.int .i64 0, .int .i64 0, .int .i64 0, .int .i64 0, .int .i64 0, .int .i64 0] 64 (0, 0))) ∧ (w'.heap[s_]? = some (.cells #[.int .i64 0, .int .i64 0, .int .i64 0, .int .i64 0, .int .i64 0, .int .i64 0] 64 (0, 0))) ∧ (w.heap.size ≤ s_) ∧ (w.heap.size ≤ s_) ∧ (gb144 ≠ s_) ∧ (s_ ≠ gb144) ∧ (Below w.heap.size w w')) ?_ ?_
          rotate_left
          · intro hJ3_7_11_20
            refine join_ (σ := Unit) 4 tb25 (fun s_ => [(25, .int .i64 t153), (29, .int .i64 t155), (33, .int .i64 t157)]) (fun s_ w' => (w'.cell? ad152 = some (.string (rdOf ByteArray.empty t149 0)) ∧ w'.cell? ⟨ad152.block, ad152.off + 1, none⟩ = some (.string (rdOf ByteArray.empty t149 1)) ∧ w'.cell? ⟨ad148.block, ad148.off + 2, none⟩ = some (.string (rdOf ByteArray.empty t145 2)) ∧ w'.cell? (ad148.add ((ji20)).toNat) = some (.string (rdOf ByteArray.empty t145 (ji20)))) ∧ (Kd.R Kd.string 9 w' w.heap.size (fun k_ => some k_ ≠ (.slice (some ad152) t149.length co27 : Value).ownBlock) (.slice (some ad148) t145.length co8) t145) ∧ (Kd.R Kd.string 9 w' w.heap.size (fun k_ => some k_ ≠ (.slice (some ad148) t145.length co8 : Value).ownBlock) (.slice (some ad152) t149.length co27) t149) ∧ (w'.heap[gb144]? = some (.cells #[.int .i64 0, .int .i64 0, .int .i64 0, .int .i64 0, .int .i64 0, .int .i64 0] 64 (0, 0))) ∧ (Below w.heap.size w w')) ?_ ?_
            rotate_left
            · intro hJ3_7_11
              refine join_ (σ := Nat) 4 tb9 (fun s_ => [(25, .int .i64 t153), (29, .int .i64 t155), (6, .pointer (some ⟨s_, 0, none⟩))]) (fun s_ w' => (w'.cell? ad152 = some (.string (rdOf ByteArray.empty t149 0)) ∧ w'.cell? ⟨ad152.block, ad152.off + 1, none⟩ = some (.string (rdOf ByteArray.empty t149 1)) ∧ w'.cell? ⟨ad148.block, ad148.off + 2, none⟩ = some (.string (rdOf ByteArray.empty t145 2)) ∧ w'.cell? (ad148.add ((ji20)).toNat) = some (.string (rdOf ByteArray.empty t145 (ji20)))) ∧ (Kd.R Kd.string 9 w' w.heap.size (fun k_ => some k_ ≠ (.slice (some ad152) t149.length co27 : Value).ownBlock) (.slice (some ad148) t145.length co8) t145) ∧ (Kd.R Kd.string 9 w' w.heap.size (fun k_ => some k_ ≠ (.slice (some ad148) t145.length co8 : Value).ownBlock) (.slice (some ad152) t149.length co27) t149) ∧ (w'.heap[gb144]? = some (.cells #[.int .i64 0, .int .i64 0, .int .i64 0, .int .i64 0, .int .i64 0, .int .i64 0] 64 (0, 0))) ∧ (w'.heap[s_]? = some (.cells #[.int .i64 0, .int .i64 0, .int .i64 0, .int .i64 0, .int .i64 0, .int .i64 0] 64 (0, 0))) ∧ (w.heap.size ≤ s_) ∧ (w.heap.size ≤ s_) ∧ (gb144 ≠ s_) ∧ (s_ ≠ gb144) ∧ (Below w.heap.size w w')) ?_ ?_
              rotate_left
              · intro hJ3_7_20
                refine join_ (σ := Unit) 5 tb24 (fun s_ => [(25, .int .i64 t153), (29, .int .i64 t155)]) (fun s_ w' => (w'.cell? ad152 = some (.string (rdOf ByteArray.empty t149 0)) ∧ w'.cell? ⟨ad152.block, ad152.off + 1, none⟩ = some (.string (rdOf ByteArray.empty t149 1)) ∧ w'.cell? ⟨ad148.block, ad148.off + 2, none⟩ = some (.string (rdOf ByteArray.empty t145 2)) ∧ w'.cell? (ad148.add ((ji20)).toNat) = some (.string (rdOf ByteArray.empty t145 (ji20)))) ∧ (Kd.R Kd.string 9 w' w.heap.size (fun k_ => some k_ ≠ (.slice (some ad152) t149.length co27 : Value).ownBlock) (.slice (some ad148) t145.length co8) t145) ∧ (Kd.R Kd.string 9 w' w.heap.size (fun k_ => some k_ ≠ (.slice (some ad148) t145.length co8 : Value).ownBlock) (.slice (some ad152) t149.length co27) t149) ∧ (w'.heap[gb144]? = some (.cells #[.int .i64 0, .int .i64 0, .int .i64 0, .int .i64 0, .int .i64 0, .int .i64 0] 64 (0, 0))) ∧ (Below w.heap.size w w')) ?_ ?_
                rotate_left
                · intro hJ3_7
                  refine join_ (σ := Nat) 5 tb7 (fun s_ => [(25, .int .i64 t153), (6, .pointer (some ⟨s_, 0, none⟩))]) (fun s_ w' => (w'.cell? ad152 = some (.string (rdOf ByteArray.empty t149 0)) ∧ w'.cell? ⟨ad152.block, ad152.off + 1, none⟩ = some (.string (rdOf ByteArray.empty t149 1)) ∧ w'.cell? ⟨ad148.block, ad148.off + 2, none⟩ = some (.string (rdOf ByteArray.empty t145 2)) ∧ w'.cell? (ad148.add ((ji20)).toNat) = some (.string (rdOf ByteArray.empty t145 (ji20)))) ∧ (Kd.R Kd.string 9 w' w.heap.size (fun k_ => some k_ ≠ (.slice (some ad152) t149.length co27 : Value).ownBlock) (.slice (some ad148) t145.length co8) t145) ∧ (Kd.R Kd.string 9 w' w.heap.size (fun k_ => some k_ ≠ (.slice (some ad148) t145.length co8 : Value).ownBlock) (.slice (some ad152) t149.length co27) t149) ∧ (w'.heap[gb144]? = some (.cells #[.int .i64 0, .int .i64 0, .int .i64 0, .int .i64 0, .int .i64 0, .int .i64 0] 64 (0, 0))) ∧ (w'.heap[s_]? = some (.cells #[.int .i64 0, .int .i64 0, .int .i64 0, .int .i64 0, .int .i64 0, .int .i64 0] 64 (0, 0))) ∧ (w.heap.size ≤ s_) ∧ (w.heap.size ≤ s_) ∧ (gb144 ≠ s_) ∧ (s_ ≠ gb144) ∧ (Below w.heap.size w w')) ?_ ?_
                  rotate_left
                  · intro hJ3_20
                    refine join_ (σ := Unit) 6 tb22 (fun s_ => [(25, .int .i64 t153)]) (fun s_ w' => (w'.cell? ad152 = some (.string (rdOf ByteArray.empty t149 0)) ∧ w'.cell? ⟨ad152.block, ad152.off + 1, none⟩ = some (.string (rdOf ByteArray.empty t149 1)) ∧ w'.cell? ⟨ad148.block, ad148.off + 2, none⟩ = some (.string (rdOf ByteArray.empty t145 2)) ∧ w'.cell? (ad148.add ((ji20)).toNat) = some (.string (rdOf ByteArray.empty t145 (ji20)))) ∧ (Kd.R Kd.string 9 w' w.heap.size (fun k_ => some k_ ≠ (.slice (some ad152) t149.length co27 : Value).ownBlock) (.slice (some ad148) t145.length co8) t145) ∧ (Kd.R Kd.string 9 w' w.heap.size (fun k_ => some k_ ≠ (.slice (some ad148) t145.length co8 : Value).ownBlock) (.slice (some ad152) t149.length co27) t149) ∧ (w'.heap[gb144]? = some (.cells #[.int .i64 0, .int .i64 0, .int .i64 0, .int .i64 0, .int .i64 0, .int .i64 0] 64 (0, 0))) ∧ (Below w.heap.size w w')) ?_ ?_
                    rotate_left
                    · intro hJ3
                      refine join_ (σ := Nat) 6 tb23 (fun s_ => [(6, .pointer (some ⟨s_, 0, none⟩))]) (fun s_ w' => (w'.cell? ad152 = some (.string (rdOf ByteArray.empty t149 0)) ∧ w'.cell? ⟨ad152.block, ad152.off + 1, none⟩ = some (.string (rdOf ByteArray.empty t149 1)) ∧ w'.cell? ⟨ad148.block, ad148.off + 2, none⟩ = some (.string (rdOf ByteArray.empty t145 2)) ∧ w'.cell? (ad148.add ((ji20)).toNat) = some (.string (rdOf ByteArray.empty t145 (ji20)))) ∧ (Kd.R Kd.string 9 w' w.heap.size (fun k_ => some k_ ≠ (.slice (some ad152) t149.length co27 : Value).ownBlock) (.slice (some ad148) t145.length co8) t145) ∧ (Kd.R Kd.string 9 w' w.heap.size (fun k_ => some k_ ≠ (.slice (some ad148) t145.length co8 : Value).ownBlock) (.slice (some ad152) t149.length co27) t149) ∧ (w'.heap[gb144]? = some (.cells #[.int .i64 0, .int .i64 0, .int .i64 0, .int .i64 0, .int .i64 0, .int .i64 0] 64 (0, 0))) ∧ (w'.heap[s_]? = some (.cells #[.int .i64 0, .int .i64 0, .int .i64 0, .int .i64 0, .int .i64 0, .int .i64 0] 64 (0, 0))) ∧ (w.heap.size ≤ s_) ∧ (w.heap.size ≤ s_) ∧ (gb144 ≠ s_) ∧ (s_ ≠ gb144) ∧ (Below w.heap.size w w')) ?_ ?_
                      rotate_left
                      · intro hJ20
                        refine two_ (i := 3) (j := 20) (Ni := some 25) (Nj := some 6) tb22 tb23 rfl rfl rfl rfl (two_of HT_.out (by kernel_rfl)) (by decide) (by decide) (fun K hK => ?_) (fun K hK => ?_)
                        · skip
                          refine goesT Tryd.func68 #[.string (rdOf ByteArray.empty t149 0)] ?_
                          with_reducible refine (spec_l3Num.calls kj4 (rdOf ByteArray.empty t149 0) t153 _ A15.out).mono ?_
                          rintro e w28 ⟨rfl, hb⟩
                          have HS0_ := (hb.cell (vJ _ _ (hHeld.1))).trans (hHeld.1)
                          have HS1_ := (hb.cell (vJ _ _ (hHeld.2.1))).trans (hHeld.2.1)
                          have HS2_ := (hb.cell (vJ _ _ (hHeld.2.2.1))).trans (hHeld.2.2.1)
                          have HS3_ := (hb.cell (vJ _ _ (hHeld.2.2.2))).trans (hHeld.2.2.2)
                          refine ⟨_, rfl, ?_⟩
                          replace HO_4 := Kd.tR HO_4 hb
                          replace HO_5 := Kd.tR HO_5 hb
                          replace BK144 := tBlk BK144 hb
                          replace HB := uR HB hb
                          (try clear hb)
                          refine hK.out _ _ ⟨HS0_, HS1_, HS2_, HS3_⟩ (fun hHeld => ?_)
                          clear hK K
                          refine uW ?_
                          exact uZ cq4 (hJ3 () _ ⟨hHeld, (rSR HO_4.out), (rSR HO_5.out), (rSB BK144.out), cq0⟩)
                        skip
                        refine box_step ?hg (N := 6) ?hd (cs := #[.int .i64 0, .int .i64 0, .int .i64 0, .int .i64 0, .int .i64 0, .int .i64 0]) (t := 64) ?hr ?_; (case hd => rfl); (case hg => rfl); (case hr => first | (go_simp; done) | (go_simp; rfl))
                        intro gb160 hg w28 hbox hb
                        have HS0_ := (hb.cell (vJ _ _ (hHeld.1))).trans (hHeld.1)
                        have HS1_ := (hb.cell (vJ _ _ (hHeld.2.1))).trans (hHeld.2.1)
                        have HS2_ := (hb.cell (vJ _ _ (hHeld.2.2.1))).trans (hHeld.2.2.1)
                        have HS3_ := (hb.cell (vJ _ _ (hHeld.2.2.2))).trans (hHeld.2.2.2)
                        have BK160 := Aside0.mk (hbox)
                        have GW160 := tGe HB hg
                        have GE160 := tGe HB hg
                        have NB144_160 := tNl BK144 hg
                        have NB160_144 := tNg BK144 hg
                        replace HO_4 := Kd.tR HO_4 hb
                        replace HO_5 := Kd.tR HO_5 hb
                        replace BK144 := tBlk BK144 hb
                        replace HB := uR HB hb
                        clear hb hbox hg
                        refine hK.out _ _ ⟨HS0_, HS1_, HS2_, HS3_⟩ (fun hHeld => ?_)
                        clear hK K
                        refine uW ?_
                        exact uZ cq4 (hJ20 (gb160) _ ⟨hHeld, (rSR HO_4.out), (rSR HO_5.out), (rSB BK144.out), (rSB BK160.out), GW160.out, GE160.out, NB144_160.out, NB160_144.out, cq0⟩)
                      skip
                      rintro gb160 w29 ⟨hS_, h0_, h1_, h2_, h3_, h4_, h5_, h6_, h7_, h8_⟩
                      have n0_ : Aside0 (Kd.R Kd.string 9 w29 w.heap.size (fun k_ => some k_ ≠ (.slice (some ad152) t149.length co27 : Value).ownBlock) (.slice (some ad148) t145.length co8) t145) := ⟨h0_⟩
                      have n1_ : Aside0 (Kd.R Kd.string 9 w29 w.heap.size (fun k_ => some k_ ≠ (.slice (some ad148) t145.length co8 : Value).ownBlock) (.slice (some ad152) t149.length co27) t149) := ⟨h1_⟩
                      have n2_ : Aside0 (w29.heap[gb144]? = some (.cells #[.int .i64 0, .int .i64 0, .int .i64 0, .int .i64 0, .int .i64 0, .int .i64 0] 64 (0, 0))) := ⟨h2_⟩
                      have n3_ : Aside0 (w29.heap[gb160]? = some (.cells #[.int .i64 0, .int .i64 0, .int .i64 0, .int .i64 0, .int .i64 0, .int .i64 0] 64 (0, 0))) := ⟨h3_⟩
                      have n4_ : Aside0 (w.heap.size ≤ gb160) := ⟨h4_⟩
                      have n5_ : Aside0 (w.heap.size ≤ gb160) := ⟨h5_⟩
                      have n6_ : Aside0 (gb144 ≠ gb160) := ⟨h6_⟩
                      have n7_ : Aside0 (gb160 ≠ gb144) := ⟨h7_⟩
                      have n8_ : Aside0 (Below w.heap.size w w29) := ⟨h8_⟩
                      clear HO_4
                      clear HO_5
                      clear BK144
                      clear HB
                      clear h0_ h1_ h2_ h3_ h4_ h5_ h6_ h7_ h8_
                      have HO_4 := n0_
                      have HO_5 := n1_
                      have BK144 := n2_
                      have BK160 := n3_
                      have GW160 := n4_
                      have GE160 := n5_
                      have NB144_160 := n6_
                      have NB160_144 := n7_
                      have HB := n8_
                      clear n0_ n1_ n2_ n3_ n4_ n5_ n6_ n7_ n8_
                      have hHeld : w29.cell? ad152 = some (.string (rdOf ByteArray.empty t149 0)) ∧ w29.cell? ⟨ad152.block, ad152.off + 1, none⟩ = some (.string (rdOf ByteArray.empty t149 1)) ∧ w29.cell? ⟨ad148.block, ad148.off + 2, none⟩ = some (.string (rdOf ByteArray.empty t145 2)) ∧ w29.cell? (ad148.add ((ji20)).toNat) = some (.string (rdOf ByteArray.empty t145 (ji20))) := hS_
                      refine uZ (a' := ?_) ?_ ?_
                      rotate_left
                      · simp only [putAll, Act.put, vD, vE, vF]
                        rfl
                      refine oneT 3 (some 25) tb7 (fun K hK => ?_)
                      refine goesT Tryd.func68 #[.string (rdOf ByteArray.empty t149 0)] ?_
                      with_reducible refine (spec_l3Num.calls kj4 (rdOf ByteArray.empty t149 0) t153 _ A15.out).mono ?_
                      rintro e w30 ⟨rfl, hb⟩
                      have HS0_ := (hb.cell (vJ _ _ (hHeld.1))).trans (hHeld.1)
                      have HS1_ := (hb.cell (vJ _ _ (hHeld.2.1))).trans (hHeld.2.1)
                      have HS2_ := (hb.cell (vJ _ _ (hHeld.2.2.1))).trans (hHeld.2.2.1)
                      have HS3_ := (hb.cell (vJ _ _ (hHeld.2.2.2))).trans (hHeld.2.2.2)
                      refine ⟨_, rfl, ?_⟩
                      replace HO_4 := Kd.tR HO_4 hb
                      replace HO_5 := Kd.tR HO_5 hb
                      replace BK144 := tBlk BK144 hb
                      replace BK160 := tBlk BK160 hb
                      replace HB := uR HB hb
                      (try clear hb)
                      refine hK.out _ _ ⟨HS0_, HS1_, HS2_, HS3_⟩ (fun hHeld => ?_)
                      clear hK K
                      refine uW ?_
                      exact uZ cq4 (hJ3_20 (gb160) _ ⟨hHeld, (rSR HO_4.out), (rSR HO_5.out), (rSB BK144.out), (rSB BK160.out), GW160.out, GE160.out, NB144_160.out, NB160_144.out, cq0⟩)
                    skip
                    rintro _ w29 ⟨hS_, h0_, h1_, h2_, h3_⟩
                    have n0_ : Aside0 (Kd.R Kd.string 9 w29 w.heap.size (fun k_ => some k_ ≠ (.slice (some ad152) t149.length co27 : Value).ownBlock) (.slice (some ad148) t145.length co8) t145) := ⟨h0_⟩
                    have n1_ : Aside0 (Kd.R Kd.string 9 w29 w.heap.size (fun k_ => some k_ ≠ (.slice (some ad148) t145.length co8 : Value).ownBlock) (.slice (some ad152) t149.length co27) t149) := ⟨h1_⟩
                    have n2_ : Aside0 (w29.heap[gb144]? = some (.cells #[.int .i64 0, .int .i64 0, .int .i64 0, .int .i64 0, .int .i64 0, .int .i64 0] 64 (0, 0))) := ⟨h2_⟩
                    have n3_ : Aside0 (Below w.heap.size w w29) := ⟨h3_⟩
                    clear HO_4
                    clear HO_5
                    clear BK144
                    clear HB
                    clear h0_ h1_ h2_ h3_
                    have HO_4 := n0_
                    have HO_5 := n1_
                    have BK144 := n2_
                    have HB := n3_
                    clear n0_ n1_ n2_ n3_
                    have hHeld : w29.cell? ad152 = some (.string (rdOf ByteArray.empty t149 0)) ∧ w29.cell? ⟨ad152.block, ad152.off + 1, none⟩ = some (.string (rdOf ByteArray.empty t149 1)) ∧ w29.cell? ⟨ad148.block, ad148.off + 2, none⟩ = some (.string (rdOf ByteArray.empty t145 2)) ∧ w29.cell? (ad148.add ((ji20)).toNat) = some (.string (rdOf ByteArray.empty t145 (ji20))) := hS_
                    refine uZ (a' := ?_) ?_ ?_
                    rotate_left
                    · simp only [putAll, Act.put, vD, vE, vF]
                      rfl
                    refine two_ (i := 7) (j := 20) (Ni := some 29) (Nj := some 6) tb24 tb7 rfl rfl rfl rfl (two_of HT_.out (by kernel_rfl)) (by decide) (by decide) (fun K hK => ?_) (fun K hK => ?_)
                    · skip
                      refine goesT Tryd.func68 #[.string (rdOf ByteArray.empty t149 1)] ?_
                      with_reducible refine (spec_l3Num.calls kj4 (rdOf ByteArray.empty t149 1) t155 _ A17.out).mono ?_
                      rintro e w30 ⟨rfl, hb⟩
                      have HS0_ := (hb.cell (vJ _ _ (hHeld.1))).trans (hHeld.1)
                      have HS1_ := (hb.cell (vJ _ _ (hHeld.2.1))).trans (hHeld.2.1)
                      have HS2_ := (hb.cell (vJ _ _ (hHeld.2.2.1))).trans (hHeld.2.2.1)
                      have HS3_ := (hb.cell (vJ _ _ (hHeld.2.2.2))).trans (hHeld.2.2.2)
                      refine ⟨_, rfl, ?_⟩
                      replace HO_4 := Kd.tR HO_4 hb
                      replace HO_5 := Kd.tR HO_5 hb
                      replace BK144 := tBlk BK144 hb
                      replace HB := uR HB hb
                      (try clear hb)
                      refine hK.out _ _ ⟨HS0_, HS1_, HS2_, HS3_⟩ (fun hHeld => ?_)
                      clear hK K
                      refine uW ?_
                      exact uZ cq4 (hJ3_7 () _ ⟨hHeld, (rSR HO_4.out), (rSR HO_5.out), (rSB BK144.out), cq0⟩)
                    skip
                    refine box_step ?hg (N := 6) ?hd (cs := #[.int .i64 0, .int .i64 0, .int .i64 0, .int .i64 0, .int .i64 0, .int .i64 0]) (t := 64) ?hr ?_; (case hd => rfl); (case hg => rfl); (case hr => first | (go_simp; done) | (go_simp; rfl))
                    intro gb160 hg w30 hbox hb
                    have HS0_ := (hb.cell (vJ _ _ (hHeld.1))).trans (hHeld.1)
                    have HS1_ := (hb.cell (vJ _ _ (hHeld.2.1))).trans (hHeld.2.1)
                    have HS2_ := (hb.cell (vJ _ _ (hHeld.2.2.1))).trans (hHeld.2.2.1)
                    have HS3_ := (hb.cell (vJ _ _ (hHeld.2.2.2))).trans (hHeld.2.2.2)
                    have BK160 := Aside0.mk (hbox)
                    have GW160 := tGe HB hg
                    have GE160 := tGe HB hg
                    have NB144_160 := tNl BK144 hg
                    have NB160_144 := tNg BK144 hg
                    replace HO_4 := Kd.tR HO_4 hb
                    replace HO_5 := Kd.tR HO_5 hb
                    replace BK144 := tBlk BK144 hb
                    replace HB := uR HB hb
                    clear hb hbox hg
                    refine hK.out _ _ ⟨HS0_, HS1_, HS2_, HS3_⟩ (fun hHeld => ?_)
                    clear hK K
                    refine uW ?_
                    exact uZ cq4 (hJ3_20 (gb160) _ ⟨hHeld, (rSR HO_4.out), (rSR HO_5.out), (rSB BK144.out), (rSB BK160.out), GW160.out, GE160.out, NB144_160.out, NB160_144.out, cq0⟩)
                  skip
                  rintro gb160 w30 ⟨hS_, h0_, h1_, h2_, h3_, h4_, h5_, h6_, h7_, h8_⟩
                  have n0_ : Aside0 (Kd.R Kd.string 9 w30 w.heap.size (fun k_ => some k_ ≠ (.slice (some ad152) t149.length co27 : Value).ownBlock) (.slice (some ad148) t145.length co8) t145) := ⟨h0_⟩
                  have n1_ : Aside0 (Kd.R Kd.string 9 w30 w.heap.size (fun k_ => some k_ ≠ (.slice (some ad148) t145.length co8 : Value).ownBlock) (.slice (some ad152) t149.length co27) t149) := ⟨h1_⟩
                  have n2_ : Aside0 (w30.heap[gb144]? = some (.cells #[.int .i64 0, .int .i64 0, .int .i64 0, .int .i64 0, .int .i64 0, .int .i64 0] 64 (0, 0))) := ⟨h2_⟩
                  have n3_ : Aside0 (w30.heap[gb160]? = some (.cells #[.int .i64 0, .int .i64 0, .int .i64 0, .int .i64 0, .int .i64 0, .int .i64 0] 64 (0, 0))) := ⟨h3_⟩
                  have n4_ : Aside0 (w.heap.size ≤ gb160) := ⟨h4_⟩
                  have n5_ : Aside0 (w.heap.size ≤ gb160) := ⟨h5_⟩
                  have n6_ : Aside0 (gb144 ≠ gb160) := ⟨h6_⟩
                  have n7_ : Aside0 (gb160 ≠ gb144) := ⟨h7_⟩
                  have n8_ : Aside0 (Below w.heap.size w w30) := ⟨h8_⟩
                  clear HO_4
                  clear HO_5
                  clear BK144
                  clear HB
                  clear h0_ h1_ h2_ h3_ h4_ h5_ h6_ h7_ h8_
                  have HO_4 := n0_
                  have HO_5 := n1_
                  have BK144 := n2_
                  have BK160 := n3_
                  have GW160 := n4_
                  have GE160 := n5_
                  have NB144_160 := n6_
                  have NB160_144 := n7_
                  have HB := n8_
                  clear n0_ n1_ n2_ n3_ n4_ n5_ n6_ n7_ n8_
                  have hHeld : w30.cell? ad152 = some (.string (rdOf ByteArray.empty t149 0)) ∧ w30.cell? ⟨ad152.block, ad152.off + 1, none⟩ = some (.string (rdOf ByteArray.empty t149 1)) ∧ w30.cell? ⟨ad148.block, ad148.off + 2, none⟩ = some (.string (rdOf ByteArray.empty t145 2)) ∧ w30.cell? (ad148.add ((ji20)).toNat) = some (.string (rdOf ByteArray.empty t145 (ji20))) := hS_
                  refine uZ (a' := ?_) ?_ ?_
                  rotate_left
                  · simp only [putAll, Act.put, vD, vE, vF]
                    rfl
                  refine oneT 7 (some 29) tb9 (fun K hK => ?_)
                  refine goesT Tryd.func68 #[.string (rdOf ByteArray.empty t149 1)] ?_
                  with_reducible refine (spec_l3Num.calls kj4 (rdOf ByteArray.empty t149 1) t155 _ A17.out).mono ?_
                  rintro e w31 ⟨rfl, hb⟩
                  have HS0_ := (hb.cell (vJ _ _ (hHeld.1))).trans (hHeld.1)
                  have HS1_ := (hb.cell (vJ _ _ (hHeld.2.1))).trans (hHeld.2.1)
                  have HS2_ := (hb.cell (vJ _ _ (hHeld.2.2.1))).trans (hHeld.2.2.1)
                  have HS3_ := (hb.cell (vJ _ _ (hHeld.2.2.2))).trans (hHeld.2.2.2)
                  refine ⟨_, rfl, ?_⟩
                  replace HO_4 := Kd.tR HO_4 hb
                  replace HO_5 := Kd.tR HO_5 hb
                  replace BK144 := tBlk BK144 hb
                  replace BK160 := tBlk BK160 hb
                  replace HB := uR HB hb
                  (try clear hb)
                  refine hK.out _ _ ⟨HS0_, HS1_, HS2_, HS3_⟩ (fun hHeld => ?_)
                  clear hK K
                  refine uW ?_
                  exact uZ cq4 (hJ3_7_20 (gb160) _ ⟨hHeld, (rSR HO_4.out), (rSR HO_5.out), (rSB BK144.out), (rSB BK160.out), GW160.out, GE160.out, NB144_160.out, NB160_144.out, cq0⟩)
                skip
                rintro _ w30 ⟨hS_, h0_, h1_, h2_, h3_⟩
                have n0_ : Aside0 (Kd.R Kd.string 9 w30 w.heap.size (fun k_ => some k_ ≠ (.slice (some ad152) t149.length co27 : Value).ownBlock) (.slice (some ad148) t145.length co8) t145) := ⟨h0_⟩
                have n1_ : Aside0 (Kd.R Kd.string 9 w30 w.heap.size (fun k_ => some k_ ≠ (.slice (some ad148) t145.length co8 : Value).ownBlock) (.slice (some ad152) t149.length co27) t149) := ⟨h1_⟩
                have n2_ : Aside0 (w30.heap[gb144]? = some (.cells #[.int .i64 0, .int .i64 0, .int .i64 0, .int .i64 0, .int .i64 0, .int .i64 0] 64 (0, 0))) := ⟨h2_⟩
                have n3_ : Aside0 (Below w.heap.size w w30) := ⟨h3_⟩
                clear HO_4
                clear HO_5
                clear BK144
                clear HB
                clear h0_ h1_ h2_ h3_
                have HO_4 := n0_
                have HO_5 := n1_
                have BK144 := n2_
                have HB := n3_
                clear n0_ n1_ n2_ n3_
                have hHeld : w30.cell? ad152 = some (.string (rdOf ByteArray.empty t149 0)) ∧ w30.cell? ⟨ad152.block, ad152.off + 1, none⟩ = some (.string (rdOf ByteArray.empty t149 1)) ∧ w30.cell? ⟨ad148.block, ad148.off + 2, none⟩ = some (.string (rdOf ByteArray.empty t145 2)) ∧ w30.cell? (ad148.add ((ji20)).toNat) = some (.string (rdOf ByteArray.empty t145 (ji20))) := hS_
                refine uZ (a' := ?_) ?_ ?_
                rotate_left
                · simp only [putAll, Act.put, vD, vE, vF]
                  rfl
                refine two_ (i := 11) (j := 20) (Ni := some 33) (Nj := some 6) tb25 tb9 rfl rfl rfl rfl (two_of HT_.out (by kernel_rfl)) (by decide) (by decide) (fun K hK => ?_) (fun K hK => ?_)
                · skip
                  refine goesT Tryd.func68 #[.string (rdOf ByteArray.empty t145 2)] ?_
                  with_reducible refine (spec_l3Num.calls kj4 (rdOf ByteArray.empty t145 2) t157 _ A19.out).mono ?_
                  rintro e w31 ⟨rfl, hb⟩
                  have HS0_ := (hb.cell (vJ _ _ (hHeld.1))).trans (hHeld.1)
                  have HS1_ := (hb.cell (vJ _ _ (hHeld.2.1))).trans (hHeld.2.1)
                  have HS2_ := (hb.cell (vJ _ _ (hHeld.2.2.1))).trans (hHeld.2.2.1)
                  have HS3_ := (hb.cell (vJ _ _ (hHeld.2.2.2))).trans (hHeld.2.2.2)
                  refine ⟨_, rfl, ?_⟩
                  replace HO_4 := Kd.tR HO_4 hb
                  replace HO_5 := Kd.tR HO_5 hb
                  replace BK144 := tBlk BK144 hb
                  replace HB := uR HB hb
                  (try clear hb)
                  refine hK.out _ _ ⟨HS0_, HS1_, HS2_, HS3_⟩ (fun hHeld => ?_)
                  clear hK K
                  refine uW ?_
                  exact uZ cq4 (hJ3_7_11 () _ ⟨hHeld, (rSR HO_4.out), (rSR HO_5.out), (rSB BK144.out), cq0⟩)
                skip
                refine box_step ?hg (N := 6) ?hd (cs := #[.int .i64 0, .int .i64 0, .int .i64 0, .int .i64 0, .int .i64 0, .int .i64 0]) (t := 64) ?hr ?_; (case hd => rfl); (case hg => rfl); (case hr => first | (go_simp; done) | (go_simp; rfl))
                intro gb160 hg w31 hbox hb
                have HS0_ := (hb.cell (vJ _ _ (hHeld.1))).trans (hHeld.1)
                have HS1_ := (hb.cell (vJ _ _ (hHeld.2.1))).trans (hHeld.2.1)
                have HS2_ := (hb.cell (vJ _ _ (hHeld.2.2.1))).trans (hHeld.2.2.1)
                have HS3_ := (hb.cell (vJ _ _ (hHeld.2.2.2))).trans (hHeld.2.2.2)
                have BK160 := Aside0.mk (hbox)
                have GW160 := tGe HB hg
                have GE160 := tGe HB hg
                have NB144_160 := tNl BK144 hg
                have NB160_144 := tNg BK144 hg
                replace HO_4 := Kd.tR HO_4 hb
                replace HO_5 := Kd.tR HO_5 hb
                replace BK144 := tBlk BK144 hb
                replace HB := uR HB hb
                clear hb hbox hg
                refine hK.out _ _ ⟨HS0_, HS1_, HS2_, HS3_⟩ (fun hHeld => ?_)
                clear hK K
                refine uW ?_
                exact uZ cq4 (hJ3_7_20 (gb160) _ ⟨hHeld, (rSR HO_4.out), (rSR HO_5.out), (rSB BK144.out), (rSB BK160.out), GW160.out, GE160.out, NB144_160.out, NB160_144.out, cq0⟩)
              skip
              rintro gb160 w31 ⟨hS_, h0_, h1_, h2_, h3_, h4_, h5_, h6_, h7_, h8_⟩
              have n0_ : Aside0 (Kd.R Kd.string 9 w31 w.heap.size (fun k_ => some k_ ≠ (.slice (some ad152) t149.length co27 : Value).ownBlock) (.slice (some ad148) t145.length co8) t145) := ⟨h0_⟩
              have n1_ : Aside0 (Kd.R Kd.string 9 w31 w.heap.size (fun k_ => some k_ ≠ (.slice (some ad148) t145.length co8 : Value).ownBlock) (.slice (some ad152) t149.length co27) t149) := ⟨h1_⟩
              have n2_ : Aside0 (w31.heap[gb144]? = some (.cells #[.int .i64 0, .int .i64 0, .int .i64 0, .int .i64 0, .int .i64 0, .int .i64 0] 64 (0, 0))) := ⟨h2_⟩
              have n3_ : Aside0 (w31.heap[gb160]? = some (.cells #[.int .i64 0, .int .i64 0, .int .i64 0, .int .i64 0, .int .i64 0, .int .i64 0] 64 (0, 0))) := ⟨h3_⟩
              have n4_ : Aside0 (w.heap.size ≤ gb160) := ⟨h4_⟩
              have n5_ : Aside0 (w.heap.size ≤ gb160) := ⟨h5_⟩
              have n6_ : Aside0 (gb144 ≠ gb160) := ⟨h6_⟩
              have n7_ : Aside0 (gb160 ≠ gb144) := ⟨h7_⟩
              have n8_ : Aside0 (Below w.heap.size w w31) := ⟨h8_⟩
              clear HO_4
              clear HO_5
              clear BK144
              clear HB
              clear h0_ h1_ h2_ h3_ h4_ h5_ h6_ h7_ h8_
              have HO_4 := n0_
              have HO_5 := n1_
              have BK144 := n2_
              have BK160 := n3_
              have GW160 := n4_
              have GE160 := n5_
              have NB144_160 := n6_
              have NB160_144 := n7_
              have HB := n8_
              clear n0_ n1_ n2_ n3_ n4_ n5_ n6_ n7_ n8_
              have hHeld : w31.cell? ad152 = some (.string (rdOf ByteArray.empty t149 0)) ∧ w31.cell? ⟨ad152.block, ad152.off + 1, none⟩ = some (.string (rdOf ByteArray.empty t149 1)) ∧ w31.cell? ⟨ad148.block, ad148.off + 2, none⟩ = some (.string (rdOf ByteArray.empty t145 2)) ∧ w31.cell? (ad148.add ((ji20)).toNat) = some (.string (rdOf ByteArray.empty t145 (ji20))) := hS_
              refine uZ (a' := ?_) ?_ ?_
              rotate_left
              · simp only [putAll, Act.put, vD, vE, vF]
                rfl
              refine oneT 11 (some 33) tb10 (fun K hK => ?_)
              refine goesT Tryd.func68 #[.string (rdOf ByteArray.empty t145 2)] ?_
              with_reducible refine (spec_l3Num.calls kj4 (rdOf ByteArray.empty t145 2) t157 _ A19.out).mono ?_
              rintro e w32 ⟨rfl, hb⟩
              have HS0_ := (hb.cell (vJ _ _ (hHeld.1))).trans (hHeld.1)
              have HS1_ := (hb.cell (vJ _ _ (hHeld.2.1))).trans (hHeld.2.1)
              have HS2_ := (hb.cell (vJ _ _ (hHeld.2.2.1))).trans (hHeld.2.2.1)
              have HS3_ := (hb.cell (vJ _ _ (hHeld.2.2.2))).trans (hHeld.2.2.2)
              refine ⟨_, rfl, ?_⟩
              replace HO_4 := Kd.tR HO_4 hb
              replace HO_5 := Kd.tR HO_5 hb
              replace BK144 := tBlk BK144 hb
              replace BK160 := tBlk BK160 hb
              replace HB := uR HB hb
              (try clear hb)
              refine hK.out _ _ ⟨HS0_, HS1_, HS2_, HS3_⟩ (fun hHeld => ?_)
              clear hK K
              refine uW ?_
              exact uZ cq4 (hJ3_7_11_20 (gb160) _ ⟨hHeld, (rSR HO_4.out), (rSR HO_5.out), (rSB BK144.out), (rSB BK160.out), GW160.out, GE160.out, NB144_160.out, NB160_144.out, cq0⟩)
            skip
            rintro _ w31 ⟨hS_, h0_, h1_, h2_, h3_⟩
            have n0_ : Aside0 (Kd.R Kd.string 9 w31 w.heap.size (fun k_ => some k_ ≠ (.slice (some ad152) t149.length co27 : Value).ownBlock) (.slice (some ad148) t145.length co8) t145) := ⟨h0_⟩
            have n1_ : Aside0 (Kd.R Kd.string 9 w31 w.heap.size (fun k_ => some k_ ≠ (.slice (some ad148) t145.length co8 : Value).ownBlock) (.slice (some ad152) t149.length co27) t149) := ⟨h1_⟩
            have n2_ : Aside0 (w31.heap[gb144]? = some (.cells #[.int .i64 0, .int .i64 0, .int .i64 0, .int .i64 0, .int .i64 0, .int .i64 0] 64 (0, 0))) := ⟨h2_⟩
            have n3_ : Aside0 (Below w.heap.size w w31) := ⟨h3_⟩
            clear HO_4
            clear HO_5
            clear BK144
            clear HB
            clear h0_ h1_ h2_ h3_
            have HO_4 := n0_
            have HO_5 := n1_
            have BK144 := n2_
            have HB := n3_
            clear n0_ n1_ n2_ n3_
            have hHeld : w31.cell? ad152 = some (.string (rdOf ByteArray.empty t149 0)) ∧ w31.cell? ⟨ad152.block, ad152.off + 1, none⟩ = some (.string (rdOf ByteArray.empty t149 1)) ∧ w31.cell? ⟨ad148.block, ad148.off + 2, none⟩ = some (.string (rdOf ByteArray.empty t145 2)) ∧ w31.cell? (ad148.add ((ji20)).toNat) = some (.string (rdOf ByteArray.empty t145 (ji20))) := hS_
            refine uZ (a' := ?_) ?_ ?_
            rotate_left
            · simp only [putAll, Act.put, vD, vE, vF]
              rfl
            refine two_ (i := 18) (j := 20) (Ni := some 40) (Nj := some 6) #[true, true, true, true, true, true, true, true, true, true, true, true, true, true, true, true, true, true, true, false, false, false] tb10 rfl rfl rfl rfl (two_of HT_.out (by kernel_rfl)) (by decide) (by decide) (fun K hK => ?_) (fun K hK => ?_)
            · skip
              refine goes_ Tryd.func68 (by kernel_rfl) rfl #[.string (rdOf ByteArray.empty t145 (ji20))] (by rfl) rfl rfl (by (try simp only [List.map_toArray, List.map_cons, List.map_nil]); first | done | (simp only [hji20]; rfl) | rfl | (simp only [List.length_drop, List.length_take]; rfl)) ?_
              with_reducible refine (spec_l3Num.calls kj4 (rdOf ByteArray.empty t145 (ji20)) t159 _ A23.out).mono ?_
              rintro e w32 ⟨rfl, hb⟩
              have HS0_ := (hb.cell (vJ _ _ (hHeld.1))).trans (hHeld.1)
              have HS1_ := (hb.cell (vJ _ _ (hHeld.2.1))).trans (hHeld.2.1)
              have HS2_ := (hb.cell (vJ _ _ (hHeld.2.2.1))).trans (hHeld.2.2.1)
              have HS3_ := (hb.cell (vJ _ _ (hHeld.2.2.2))).trans (hHeld.2.2.2)
              refine ⟨_, rfl, ?_⟩
              replace HO_4 := Kd.tR HO_4 hb
              replace HO_5 := Kd.tR HO_5 hb
              replace BK144 := tBlk BK144 hb
              replace HB := uR HB hb
              (try clear hb)
              refine hK.out _ _ ⟨HS0_, HS1_, HS2_, HS3_⟩ (fun hHeld => ?_)
              clear hK K
              refine uW ?_
              refine uJ 19 (some 41) tb26 ?_
              exact uZ cq4 (hJ3_7_11_18 () _ ⟨hHeld, (rSR HO_4.out), (rSR HO_5.out), (rSB BK144.out), cq0⟩)
            skip
            refine box_step ?hg (N := 6) ?hd (cs := #[.int .i64 0, .int .i64 0, .int .i64 0, .int .i64 0, .int .i64 0, .int .i64 0]) (t := 64) ?hr ?_; (case hd => rfl); (case hg => rfl); (case hr => first | (go_simp; done) | (go_simp; rfl))
            intro gb160 hg w32 hbox hb
            have HS0_ := (hb.cell (vJ _ _ (hHeld.1))).trans (hHeld.1)
            have HS1_ := (hb.cell (vJ _ _ (hHeld.2.1))).trans (hHeld.2.1)
            have HS2_ := (hb.cell (vJ _ _ (hHeld.2.2.1))).trans (hHeld.2.2.1)
            have HS3_ := (hb.cell (vJ _ _ (hHeld.2.2.2))).trans (hHeld.2.2.2)
            have BK160 := Aside0.mk (hbox)
            have GW160 := tGe HB hg
            have GE160 := tGe HB hg
            have NB144_160 := tNl BK144 hg
            have NB160_144 := tNg BK144 hg
            replace HO_4 := Kd.tR HO_4 hb
            replace HO_5 := Kd.tR HO_5 hb
            replace BK144 := tBlk BK144 hb
            replace HB := uR HB hb
            clear hb hbox hg
            refine hK.out _ _ ⟨HS0_, HS1_, HS2_, HS3_⟩ (fun hHeld => ?_)
            clear hK K
            refine uW ?_
            exact uZ cq4 (hJ3_7_11_20 (gb160) _ ⟨hHeld, (rSR HO_4.out), (rSR HO_5.out), (rSB BK144.out), (rSB BK160.out), GW160.out, GE160.out, NB144_160.out, NB160_144.out, cq0⟩)
          skip
          rintro gb160 w32 ⟨hS_, h0_, h1_, h2_, h3_, h4_, h5_, h6_, h7_, h8_⟩
          have n0_ : Aside0 (Kd.R Kd.string 9 w32 w.heap.size (fun k_ => some k_ ≠ (.slice (some ad152) t149.length co27 : Value).ownBlock) (.slice (some ad148) t145.length co8) t145) := ⟨h0_⟩
          have n1_ : Aside0 (Kd.R Kd.string 9 w32 w.heap.size (fun k_ => some k_ ≠ (.slice (some ad148) t145.length co8 : Value).ownBlock) (.slice (some ad152) t149.length co27) t149) := ⟨h1_⟩
          have n2_ : Aside0 (w32.heap[gb144]? = some (.cells #[.int .i64 0, .int .i64 0, .int .i64 0, .int .i64 0, .int .i64 0, .int .i64 0] 64 (0, 0))) := ⟨h2_⟩
          have n3_ : Aside0 (w32.heap[gb160]? = some (.cells #[.int .i64 0, .int .i64 0, .int .i64 0, .int .i64 0, .int .i64 0, .int .i64 0] 64 (0, 0))) := ⟨h3_⟩
          have n4_ : Aside0 (w.heap.size ≤ gb160) := ⟨h4_⟩
          have n5_ : Aside0 (w.heap.size ≤ gb160) := ⟨h5_⟩
          have n6_ : Aside0 (gb144 ≠ gb160) := ⟨h6_⟩
          have n7_ : Aside0 (gb160 ≠ gb144) := ⟨h7_⟩
          have n8_ : Aside0 (Below w.heap.size w w32) := ⟨h8_⟩
          clear HO_4
          clear HO_5
          clear BK144
          clear HB
          clear h0_ h1_ h2_ h3_ h4_ h5_ h6_ h7_ h8_
          have HO_4 := n0_
          have HO_5 := n1_
          have BK144 := n2_
          have BK160 := n3_
          have GW160 := n4_
          have GE160 := n5_
          have NB144_160 := n6_
          have NB160_144 := n7_
          have HB := n8_
          clear n0_ n1_ n2_ n3_ n4_ n5_ n6_ n7_ n8_
          have hHeld : w32.cell? ad152 = some (.string (rdOf ByteArray.empty t149 0)) ∧ w32.cell? ⟨ad152.block, ad152.off + 1, none⟩ = some (.string (rdOf ByteArray.empty t149 1)) ∧ w32.cell? ⟨ad148.block, ad148.off + 2, none⟩ = some (.string (rdOf ByteArray.empty t145 2)) ∧ w32.cell? (ad148.add ((ji20)).toNat) = some (.string (rdOf ByteArray.empty t145 (ji20))) := hS_
          refine uZ (a' := ?_) ?_ ?_
          rotate_left
          · simp only [putAll, Act.put, vD, vE, vF]
            rfl
          refine oneT 18 (some 40) #[true, true, true, true, true, true, true, true, true, true, true, true, true, true, true, true, true, true, true, false, true, false] (fun K hK => ?_)
          refine goes_ Tryd.func68 (by kernel_rfl) rfl #[.string (rdOf ByteArray.empty t145 (ji20))] (by rfl) rfl rfl (by (try simp only [List.map_toArray, List.map_cons, List.map_nil]); first | done | (simp only [hji20]; rfl) | rfl | (simp only [List.length_drop, List.length_take]; rfl)) ?_
          with_reducible refine (spec_l3Num.calls kj4 (rdOf ByteArray.empty t145 (ji20)) t159 _ A23.out).mono ?_
          rintro e w33 ⟨rfl, hb⟩
          have HS0_ := (hb.cell (vJ _ _ (hHeld.1))).trans (hHeld.1)
          have HS1_ := (hb.cell (vJ _ _ (hHeld.2.1))).trans (hHeld.2.1)
          have HS2_ := (hb.cell (vJ _ _ (hHeld.2.2.1))).trans (hHeld.2.2.1)
          have HS3_ := (hb.cell (vJ _ _ (hHeld.2.2.2))).trans (hHeld.2.2.2)
          refine ⟨_, rfl, ?_⟩
          replace HO_4 := Kd.tR HO_4 hb
          replace HO_5 := Kd.tR HO_5 hb
          replace BK144 := tBlk BK144 hb
          replace BK160 := tBlk BK160 hb
          replace HB := uR HB hb
          (try clear hb)
          refine hK.out _ _ ⟨HS0_, HS1_, HS2_, HS3_⟩ (fun hHeld => ?_)
          clear hK K
          refine uW ?_
          refine uJ 19 (some 41) tb11 ?_
          exact uZ cq4 (hJ3_7_11_18_20 (gb160) _ ⟨hHeld, (rSR HO_4.out), (rSR HO_5.out), (rSB BK144.out), (rSB BK160.out), GW160.out, GE160.out, NB144_160.out, NB160_144.out, cq0⟩)
        skip
        rintro _ w32 ⟨hS_, h0_, h1_, h2_, h3_⟩
        have n0_ : Aside0 (Kd.R Kd.string 9 w32 w.heap.size (fun k_ => some k_ ≠ (.slice (some ad152) t149.length co27 : Value).ownBlock) (.slice (some ad148) t145.length co8) t145) := ⟨h0_⟩
        have n1_ : Aside0 (Kd.R Kd.string 9 w32 w.heap.size (fun k_ => some k_ ≠ (.slice (some ad148) t145.length co8 : Value).ownBlock) (.slice (some ad152) t149.length co27) t149) := ⟨h1_⟩
        have n2_ : Aside0 (w32.heap[gb144]? = some (.cells #[.int .i64 0, .int .i64 0, .int .i64 0, .int .i64 0, .int .i64 0, .int .i64 0] 64 (0, 0))) := ⟨h2_⟩
        have n3_ : Aside0 (Below w.heap.size w w32) := ⟨h3_⟩
        clear HO_4
        clear HO_5
        clear BK144
        clear HB
        clear h0_ h1_ h2_ h3_
        have HO_4 := n0_
        have HO_5 := n1_
        have BK144 := n2_
        have HB := n3_
        clear n0_ n1_ n2_ n3_
        have hHeld : w32.cell? ad152 = some (.string (rdOf ByteArray.empty t149 0)) ∧ w32.cell? ⟨ad152.block, ad152.off + 1, none⟩ = some (.string (rdOf ByteArray.empty t149 1)) ∧ w32.cell? ⟨ad148.block, ad148.off + 2, none⟩ = some (.string (rdOf ByteArray.empty t145 2)) ∧ w32.cell? (ad148.add ((ji20)).toNat) = some (.string (rdOf ByteArray.empty t145 (ji20))) := hS_
        refine uZ (a' := ?_) ?_ ?_
        rotate_left
        · simp only [putAll, Act.put, vD, vE, vF]
          rfl
        refine oneT 20 (some 6) tb11 (fun K hK => ?_)
        refine box_step ?hg (N := 6) ?hd (cs := #[.int .i64 0, .int .i64 0, .int .i64 0, .int .i64 0, .int .i64 0, .int .i64 0]) (t := 64) ?hr ?_; (case hd => rfl); (case hg => rfl); (case hr => first | (go_simp; done) | (go_simp; rfl))
        intro gb160 hg w33 hbox hb
        have HS0_ := (hb.cell (vJ _ _ (hHeld.1))).trans (hHeld.1)
        have HS1_ := (hb.cell (vJ _ _ (hHeld.2.1))).trans (hHeld.2.1)
        have HS2_ := (hb.cell (vJ _ _ (hHeld.2.2.1))).trans (hHeld.2.2.1)
        have HS3_ := (hb.cell (vJ _ _ (hHeld.2.2.2))).trans (hHeld.2.2.2)
        have BK160 := Aside0.mk (hbox)
        have GW160 := tGe HB hg
        have GE160 := tGe HB hg
        have NB144_160 := tNl BK144 hg
        have NB160_144 := tNg BK144 hg
        replace HO_4 := Kd.tR HO_4 hb
        replace HO_5 := Kd.tR HO_5 hb
        replace BK144 := tBlk BK144 hb
        replace HB := uR HB hb
        clear hb hbox hg
        refine hK.out _ _ ⟨HS0_, HS1_, HS2_, HS3_⟩ (fun hHeld => ?_)
        clear hK K
        refine uW ?_
        exact uZ cq4 (hJ3_7_11_18_20 (gb160) _ ⟨hHeld, (rSR HO_4.out), (rSR HO_5.out), (rSB BK144.out), (rSB BK160.out), GW160.out, GE160.out, NB144_160.out, NB160_144.out, cq0⟩)
      rintro gb160 w33 ⟨hS_, h0_, h1_, h2_, h3_, h4_, h5_, h6_, h7_, h8_⟩
      have n0_ : Aside0 (Kd.R Kd.string 9 w33 w.heap.size (fun k_ => some k_ ≠ (.slice (some ad152) t149.length co27 : Value).ownBlock) (.slice (some ad148) t145.length co8) t145) := ⟨h0_⟩
      have n1_ : Aside0 (Kd.R Kd.string 9 w33 w.heap.size (fun k_ => some k_ ≠ (.slice (some ad148) t145.length co8 : Value).ownBlock) (.slice (some ad152) t149.length co27) t149) := ⟨h1_⟩
      have n2_ : Aside0 (w33.heap[gb144]? = some (.cells #[.int .i64 0, .int .i64 0, .int .i64 0, .int .i64 0, .int .i64 0, .int .i64 0] 64 (0, 0))) := ⟨h2_⟩
      have n3_ : Aside0 (w33.heap[gb160]? = some (.cells #[.int .i64 0, .int .i64 0, .int .i64 0, .int .i64 0, .int .i64 0, .int .i64 0] 64 (0, 0))) := ⟨h3_⟩
      have n4_ : Aside0 (w.heap.size ≤ gb160) := ⟨h4_⟩
      have n5_ : Aside0 (w.heap.size ≤ gb160) := ⟨h5_⟩
      have n6_ : Aside0 (gb144 ≠ gb160) := ⟨h6_⟩
      have n7_ : Aside0 (gb160 ≠ gb144) := ⟨h7_⟩
      have n8_ : Aside0 (Below w.heap.size w w33) := ⟨h8_⟩
      clear HO_4
      clear HO_5
      clear BK144
      clear HB
      clear h0_ h1_ h2_ h3_ h4_ h5_ h6_ h7_ h8_
      have HO_4 := n0_
      have HO_5 := n1_
      have BK144 := n2_
      have BK160 := n3_
      have GW160 := n4_
      have GE160 := n5_
      have NB144_160 := n6_
      have NB160_144 := n7_
      have HB := n8_
      clear n0_ n1_ n2_ n3_ n4_ n5_ n6_ n7_ n8_
      have hHeld : w33.cell? ad152 = some (.string (rdOf ByteArray.empty t149 0)) ∧ w33.cell? ⟨ad152.block, ad152.off + 1, none⟩ = some (.string (rdOf ByteArray.empty t149 1)) ∧ w33.cell? ⟨ad148.block, ad148.off + 2, none⟩ = some (.string (rdOf ByteArray.empty t145 2)) ∧ w33.cell? (ad148.add ((ji20)).toNat) = some (.string (rdOf ByteArray.empty t145 (ji20))) := hS_
      refine uZ (a' := ?_) ?_ ?_
      rotate_left
      · simp only [putAll, Act.put, vD, vE, vF]
        rfl
      refine one_ (i := 21) (N := none) #[true, true, true, true, true, true, true, true, true, true, true, true, true, true, true, true, true, true, true, true, true, true] rfl rfl (one_of HT_.out (by kernel_rfl)) (by decide) (fun K hK => ?_)
      have hs34 : w33.cell? ⟨gb160, 0, none⟩ = some (.int .i64 0) := (uA BK160.out 0).trans rfl
      have hfs34 := vC BK160.out 0
      have hns34_0 := NB144_160.out
      have hms34_0 := NB160_144.out
      have hs35 : w33.cell? ⟨gb160, 1, none⟩ = some (.int .i64 0) := (uA BK160.out 1).trans rfl
      have hfs35 := vC BK160.out 1
      have hns35_0 := NB144_160.out
      have hms35_0 := NB160_144.out
      have hs36 : w33.cell? ⟨gb160, 2, none⟩ = some (.int .i64 0) := (uA BK160.out 2).trans rfl
      have hfs36 := vC BK160.out 2
      have hns36_0 := NB144_160.out
      have hms36_0 := NB160_144.out
      have hs37 : w33.cell? ⟨gb160, 3, none⟩ = some (.int .i64 0) := (uA BK160.out 3).trans rfl
      have hfs37 := vC BK160.out 3
      have hns37_0 := NB144_160.out
      have hms37_0 := NB160_144.out
      have hs38 : w33.cell? ⟨gb160, 4, none⟩ = some (.int .i64 0) := (uA BK160.out 4).trans rfl
      have hfs38 := vC BK160.out 4
      have hns38_0 := NB144_160.out
      have hms38_0 := NB160_144.out
      have hs39 : w33.cell? ⟨gb160, 5, none⟩ = some (.int .i64 0) := (uA BK160.out 5).trans rfl
      have hfs39 := vC BK160.out 5
      have hns39_0 := NB144_160.out
      have hms39_0 := NB160_144.out
      refine skip_ (w1 := ?_) (by rfl) rfl ?_ ?_
      rotate_left
      · go_simp
        rfl
      refine hK.out _ _ ⟨((uS (p := ⟨gb160, _, none⟩) (by first | exact Kd.uC (Kd.uK HO_5.out BK160.out (by decide)) | (rw [uG]; exact Kd.uC (Kd.uK HO_5.out BK160.out (by decide))) | (show (Addr.add _ _).block ≠ _; rw [uG]; exact Kd.uC (Kd.uK HO_5.out BK160.out (by decide))) | (dsimp only; exact Kd.uC (Kd.uK HO_5.out BK160.out (by decide)))) _).trans (((uS (p := ⟨gb160, _, none⟩) (by first | exact Kd.uC (Kd.uK HO_5.out BK160.out (by decide)) | (rw [uG]; exact Kd.uC (Kd.uK HO_5.out BK160.out (by decide))) | (show (Addr.add _ _).block ≠ _; rw [uG]; exact Kd.uC (Kd.uK HO_5.out BK160.out (by decide))) | (dsimp only; exact Kd.uC (Kd.uK HO_5.out BK160.out (by decide)))) _).trans (((uS (p := ⟨gb160, _, none⟩) (by first | exact Kd.uC (Kd.uK HO_5.out BK160.out (by decide)) | (rw [uG]; exact Kd.uC (Kd.uK HO_5.out BK160.out (by decide))) | (show (Addr.add _ _).block ≠ _; rw [uG]; exact Kd.uC (Kd.uK HO_5.out BK160.out (by decide))) | (dsimp only; exact Kd.uC (Kd.uK HO_5.out BK160.out (by decide)))) _).trans (((uS (p := ⟨gb160, _, none⟩) (by first | exact Kd.uC (Kd.uK HO_5.out BK160.out (by decide)) | (rw [uG]; exact Kd.uC (Kd.uK HO_5.out BK160.out (by decide))) | (show (Addr.add _ _).block ≠ _; rw [uG]; exact Kd.uC (Kd.uK HO_5.out BK160.out (by decide))) | (dsimp only; exact Kd.uC (Kd.uK HO_5.out BK160.out (by decide)))) _).trans (((uS (p := ⟨gb160, _, none⟩) (by first | exact Kd.uC (Kd.uK HO_5.out BK160.out (by decide)) | (rw [uG]; exact Kd.uC (Kd.uK HO_5.out BK160.out (by decide))) | (show (Addr.add _ _).block ≠ _; rw [uG]; exact Kd.uC (Kd.uK HO_5.out BK160.out (by decide))) | (dsimp only; exact Kd.uC (Kd.uK HO_5.out BK160.out (by decide)))) _).trans (((uS (p := ⟨gb160, _, none⟩) (by first | exact Kd.uC (Kd.uK HO_5.out BK160.out (by decide)) | (rw [uG]; exact Kd.uC (Kd.uK HO_5.out BK160.out (by decide))) | (show (Addr.add _ _).block ≠ _; rw [uG]; exact Kd.uC (Kd.uK HO_5.out BK160.out (by decide))) | (dsimp only; exact Kd.uC (Kd.uK HO_5.out BK160.out (by decide)))) _).trans (hHeld.1)))))))))))), ((uS (p := ⟨gb160, _, none⟩) (by first | exact Kd.uC (Kd.uK HO_5.out BK160.out (by decide)) | (rw [uG]; exact Kd.uC (Kd.uK HO_5.out BK160.out (by decide))) | (show (Addr.add _ _).block ≠ _; rw [uG]; exact Kd.uC (Kd.uK HO_5.out BK160.out (by decide))) | (dsimp only; exact Kd.uC (Kd.uK HO_5.out BK160.out (by decide)))) _).trans (((uS (p := ⟨gb160, _, none⟩) (by first | exact Kd.uC (Kd.uK HO_5.out BK160.out (by decide)) | (rw [uG]; exact Kd.uC (Kd.uK HO_5.out BK160.out (by decide))) | (show (Addr.add _ _).block ≠ _; rw [uG]; exact Kd.uC (Kd.uK HO_5.out BK160.out (by decide))) | (dsimp only; exact Kd.uC (Kd.uK HO_5.out BK160.out (by decide)))) _).trans (((uS (p := ⟨gb160, _, none⟩) (by first | exact Kd.uC (Kd.uK HO_5.out BK160.out (by decide)) | (rw [uG]; exact Kd.uC (Kd.uK HO_5.out BK160.out (by decide))) | (show (Addr.add _ _).block ≠ _; rw [uG]; exact Kd.uC (Kd.uK HO_5.out BK160.out (by decide))) | (dsimp only; exact Kd.uC (Kd.uK HO_5.out BK160.out (by decide)))) _).trans (((uS (p := ⟨gb160, _, none⟩) (by first | exact Kd.uC (Kd.uK HO_5.out BK160.out (by decide)) | (rw [uG]; exact Kd.uC (Kd.uK HO_5.out BK160.out (by decide))) | (show (Addr.add _ _).block ≠ _; rw [uG]; exact Kd.uC (Kd.uK HO_5.out BK160.out (by decide))) | (dsimp only; exact Kd.uC (Kd.uK HO_5.out BK160.out (by decide)))) _).trans (((uS (p := ⟨gb160, _, none⟩) (by first | exact Kd.uC (Kd.uK HO_5.out BK160.out (by decide)) | (rw [uG]; exact Kd.uC (Kd.uK HO_5.out BK160.out (by decide))) | (show (Addr.add _ _).block ≠ _; rw [uG]; exact Kd.uC (Kd.uK HO_5.out BK160.out (by decide))) | (dsimp only; exact Kd.uC (Kd.uK HO_5.out BK160.out (by decide)))) _).trans (((uS (p := ⟨gb160, _, none⟩) (by first | exact Kd.uC (Kd.uK HO_5.out BK160.out (by decide)) | (rw [uG]; exact Kd.uC (Kd.uK HO_5.out BK160.out (by decide))) | (show (Addr.add _ _).block ≠ _; rw [uG]; exact Kd.uC (Kd.uK HO_5.out BK160.out (by decide))) | (dsimp only; exact Kd.uC (Kd.uK HO_5.out BK160.out (by decide)))) _).trans (hHeld.2.1)))))))))))), ((uS (p := ⟨gb160, _, none⟩) (by first | exact Kd.uC (Kd.uK HO_4.out BK160.out (by decide)) | (rw [uG]; exact Kd.uC (Kd.uK HO_4.out BK160.out (by decide))) | (show (Addr.add _ _).block ≠ _; rw [uG]; exact Kd.uC (Kd.uK HO_4.out BK160.out (by decide))) | (dsimp only; exact Kd.uC (Kd.uK HO_4.out BK160.out (by decide)))) _).trans (((uS (p := ⟨gb160, _, none⟩) (by first | exact Kd.uC (Kd.uK HO_4.out BK160.out (by decide)) | (rw [uG]; exact Kd.uC (Kd.uK HO_4.out BK160.out (by decide))) | (show (Addr.add _ _).block ≠ _; rw [uG]; exact Kd.uC (Kd.uK HO_4.out BK160.out (by decide))) | (dsimp only; exact Kd.uC (Kd.uK HO_4.out BK160.out (by decide)))) _).trans (((uS (p := ⟨gb160, _, none⟩) (by first | exact Kd.uC (Kd.uK HO_4.out BK160.out (by decide)) | (rw [uG]; exact Kd.uC (Kd.uK HO_4.out BK160.out (by decide))) | (show (Addr.add _ _).block ≠ _; rw [uG]; exact Kd.uC (Kd.uK HO_4.out BK160.out (by decide))) | (dsimp only; exact Kd.uC (Kd.uK HO_4.out BK160.out (by decide)))) _).trans (((uS (p := ⟨gb160, _, none⟩) (by first | exact Kd.uC (Kd.uK HO_4.out BK160.out (by decide)) | (rw [uG]; exact Kd.uC (Kd.uK HO_4.out BK160.out (by decide))) | (show (Addr.add _ _).block ≠ _; rw [uG]; exact Kd.uC (Kd.uK HO_4.out BK160.out (by decide))) | (dsimp only; exact Kd.uC (Kd.uK HO_4.out BK160.out (by decide)))) _).trans (((uS (p := ⟨gb160, _, none⟩) (by first | exact Kd.uC (Kd.uK HO_4.out BK160.out (by decide)) | (rw [uG]; exact Kd.uC (Kd.uK HO_4.out BK160.out (by decide))) | (show (Addr.add _ _).block ≠ _; rw [uG]; exact Kd.uC (Kd.uK HO_4.out BK160.out (by decide))) | (dsimp only; exact Kd.uC (Kd.uK HO_4.out BK160.out (by decide)))) _).trans (((uS (p := ⟨gb160, _, none⟩) (by first | exact Kd.uC (Kd.uK HO_4.out BK160.out (by decide)) | (rw [uG]; exact Kd.uC (Kd.uK HO_4.out BK160.out (by decide))) | (show (Addr.add _ _).block ≠ _; rw [uG]; exact Kd.uC (Kd.uK HO_4.out BK160.out (by decide))) | (dsimp only; exact Kd.uC (Kd.uK HO_4.out BK160.out (by decide)))) _).trans (hHeld.2.2.1)))))))))))), ((uS (p := ⟨gb160, _, none⟩) (by first | exact Kd.uC (Kd.uK HO_4.out BK160.out (by decide)) | (rw [uG]; exact Kd.uC (Kd.uK HO_4.out BK160.out (by decide))) | (show (Addr.add _ _).block ≠ _; rw [uG]; exact Kd.uC (Kd.uK HO_4.out BK160.out (by decide))) | (dsimp only; exact Kd.uC (Kd.uK HO_4.out BK160.out (by decide)))) _).trans (((uS (p := ⟨gb160, _, none⟩) (by first | exact Kd.uC (Kd.uK HO_4.out BK160.out (by decide)) | (rw [uG]; exact Kd.uC (Kd.uK HO_4.out BK160.out (by decide))) | (show (Addr.add _ _).block ≠ _; rw [uG]; exact Kd.uC (Kd.uK HO_4.out BK160.out (by decide))) | (dsimp only; exact Kd.uC (Kd.uK HO_4.out BK160.out (by decide)))) _).trans (((uS (p := ⟨gb160, _, none⟩) (by first | exact Kd.uC (Kd.uK HO_4.out BK160.out (by decide)) | (rw [uG]; exact Kd.uC (Kd.uK HO_4.out BK160.out (by decide))) | (show (Addr.add _ _).block ≠ _; rw [uG]; exact Kd.uC (Kd.uK HO_4.out BK160.out (by decide))) | (dsimp only; exact Kd.uC (Kd.uK HO_4.out BK160.out (by decide)))) _).trans (((uS (p := ⟨gb160, _, none⟩) (by first | exact Kd.uC (Kd.uK HO_4.out BK160.out (by decide)) | (rw [uG]; exact Kd.uC (Kd.uK HO_4.out BK160.out (by decide))) | (show (Addr.add _ _).block ≠ _; rw [uG]; exact Kd.uC (Kd.uK HO_4.out BK160.out (by decide))) | (dsimp only; exact Kd.uC (Kd.uK HO_4.out BK160.out (by decide)))) _).trans (((uS (p := ⟨gb160, _, none⟩) (by first | exact Kd.uC (Kd.uK HO_4.out BK160.out (by decide)) | (rw [uG]; exact Kd.uC (Kd.uK HO_4.out BK160.out (by decide))) | (show (Addr.add _ _).block ≠ _; rw [uG]; exact Kd.uC (Kd.uK HO_4.out BK160.out (by decide))) | (dsimp only; exact Kd.uC (Kd.uK HO_4.out BK160.out (by decide)))) _).trans (((uS (p := ⟨gb160, _, none⟩) (by first | exact Kd.uC (Kd.uK HO_4.out BK160.out (by decide)) | (rw [uG]; exact Kd.uC (Kd.uK HO_4.out BK160.out (by decide))) | (show (Addr.add _ _).block ≠ _; rw [uG]; exact Kd.uC (Kd.uK HO_4.out BK160.out (by decide))) | (dsimp only; exact Kd.uC (Kd.uK HO_4.out BK160.out (by decide)))) _).trans (hHeld.2.2.2))))))))))))⟩ (fun hHeld => ?_)
      clear hK K
      refine done_ (done_of HT_.out (by kernel_rfl)) ?_
      have p161 : 0 ≤ (1 : Int) := (by omega)
      have q161 : 1 < (t145.length : Int) := of_decide_eq_true uL
      obtain ⟨ad161, e161, hx161_0⟩ := Kd.at_string (Kd.uQ HO_4.out).2.2 1 p161 q161
      obtain rfl : ad148 = ad161 := (by injection e161)
      (try simp only [show (1 : Int).toNat = 1 from rfl, Nat.reduceMul, Nat.reduceEqDiff, Go.Addr.add, ↓reduceIte] at hx161_0)
      have qi161 : (1 < t145.length) = True := eq_true (by omega)
      (try rw [show ((1 : Int)).toNat = 1 from rfl] at hx161_0)
      have hn161_0 : ad148.block ≠ gb160 := Kd.uC (Kd.uK HO_4.out BK160.out (by decide))
      have hn161_1 : ad148.block ≠ gb160 := Kd.uC (Kd.uK HO_4.out BK160.out (by decide))
      have hn161_2 : ad148.block ≠ gb160 := Kd.uC (Kd.uK HO_4.out BK160.out (by decide))
      have hn161_3 : ad148.block ≠ gb160 := Kd.uC (Kd.uK HO_4.out BK160.out (by decide))
      have hn161_4 : ad148.block ≠ gb160 := Kd.uC (Kd.uK HO_4.out BK160.out (by decide))
      have hn161_5 : ad148.block ≠ gb160 := Kd.uC (Kd.uK HO_4.out BK160.out (by decide))
      replace hx161_0 := (uS (p := ⟨gb160, 0, none⟩) (by first | (rw [uG]; exact hn161_0) | (show (Addr.add _ _).block ≠ _; rw [uG]; exact hn161_0) | exact hn161_0) (.int .i64 t153)).trans hx161_0
      replace hx161_0 := (uS (p := ⟨gb160, 1, none⟩) (by first | (rw [uG]; exact hn161_1) | (show (Addr.add _ _).block ≠ _; rw [uG]; exact hn161_1) | exact hn161_1) (.int .i64 t155)).trans hx161_0
      replace hx161_0 := (uS (p := ⟨gb160, 2, none⟩) (by first | (rw [uG]; exact hn161_2) | (show (Addr.add _ _).block ≠ _; rw [uG]; exact hn161_2) | exact hn161_2) (.int .i64 0)).trans hx161_0
      replace hx161_0 := (uS (p := ⟨gb160, 3, none⟩) (by first | (rw [uG]; exact hn161_3) | (show (Addr.add _ _).block ≠ _; rw [uG]; exact hn161_3) | exact hn161_3) (.int .i64 t157)).trans hx161_0
      replace hx161_0 := (uS (p := ⟨gb160, 4, none⟩) (by first | (rw [uG]; exact hn161_4) | (show (Addr.add _ _).block ≠ _; rw [uG]; exact hn161_4) | exact hn161_4) (.int .i64 0)).trans hx161_0
      replace hx161_0 := (uS (p := ⟨gb160, 5, none⟩) (by first | (rw [uG]; exact hn161_5) | (show (Addr.add _ _).block ≠ _; rw [uG]; exact hn161_5) | exact hn161_5) (.int .i64 t159)).trans hx161_0
      clear hn161_0
      clear hn161_1
      clear hn161_2
      clear hn161_3
      clear hn161_4
      clear hn161_5
      replace p161 := eq_true p161
      replace q161 := eq_true q161
      go_upto_block 0 with (fail)
      go_cut [] (fun wc => ∃ (kq : Nat) (x161002_24 : Int) (x161004_24 : Int), Aside0 (spec_ParseOp.j1 kq a0 t153 t155 x161002_24 t157 x161004_24 t159 = some (r1, r2, r3, r4, r5, r6, r7)) ∧ Aside0 (kq ≤ kj4) ∧ Aside0 (wc.heap[gb144]? = some (.cells #[.int .i64 0, .int .i64 0, .int .i64 0, .int .i64 0, .int .i64 0, .int .i64 0] 64 (0, 0))) ∧ Aside0 (wc.heap[gb160]? = some (.cells #[.int .i64 t153, .int .i64 t155, .int .i64 x161002_24, .int .i64 t157, .int .i64 x161004_24, .int .i64 t159] 64 (0, 0))) ∧ Aside0 (Below w.heap.size w wc))
      case first =>
        have H := HC25.out
        clear HC25
        by_cases c40 : (rdOf ByteArray.empty t145 1).toList = ([119, 114, 105, 116, 101] : List UInt8)
        · rw [if_pos c40] at H
          have c40b0 : ((rdOf ByteArray.empty t145 1).toList == ([119, 114, 105, 116, 101] : List UInt8)) = true := beq_iff_eq.mpr c40
          have c40b1 : ((rdOf ByteArray.empty t145 1).toList != ([119, 114, 105, 116, 101] : List UInt8)) = false := bne_eq_false_iff_eq.mpr c40
          clear c40
          (first | rw [c40b0] | (simp only [uI, uO]; rw [c40b0]) | skip)
          have H' := Aside0.mk H
          clear H
          have hnb41 := NB160_144.out
          have hnc41 := NB144_160.out
          obtain ⟨hcz42_0, hcz42_1, hcz42_2, hcz42_3, hcz42_4, hcz42_5, hfz42_0, hfz42_1, hfz42_2, hfz42_3, hfz42_4, hfz42_5⟩ := cz6 BK160
          go_wp2
          go_meet
          case rel => exact ⟨_, (1), (0), H', ⟨by have := HJ4.out; first | omega | exact Nat.le_refl _⟩, ⟨by (with_reducible repeat (first | refine uD ?_ _ | refine uF ?_ | refine uB ?_ _)); refine blk_far ?_ NB144_160.out _; (with_reducible repeat (first | refine uD ?_ _ | refine uF ?_ | refine uB ?_ _)); refine blk_far ?_ NB144_160.out _; (with_reducible repeat (first | refine uD ?_ _ | refine uF ?_ | refine uB ?_ _)); refine blk_far ?_ NB144_160.out _; (with_reducible repeat (first | refine uD ?_ _ | refine uF ?_ | refine uB ?_ _)); refine blk_far ?_ NB144_160.out _; (with_reducible repeat (first | refine uD ?_ _ | refine uF ?_ | refine uB ?_ _)); refine blk_far ?_ NB144_160.out _; (with_reducible repeat (first | refine uD ?_ _ | refine uF ?_ | refine uB ?_ _)); refine blk_far ?_ NB144_160.out _; (with_reducible repeat (first | refine uD ?_ _ | refine uF ?_ | refine uB ?_ _)); refine blk_far ?_ NB144_160.out _; (with_reducible repeat (first | refine uD ?_ _ | refine uF ?_ | refine uB ?_ _)); exact BK144.out⟩, ⟨by (with_reducible repeat (first | refine uD ?_ _ | refine uF ?_ | refine uB ?_ _)); refine uP (cs := #[.int .i64 t153, .int .i64 t155, .int .i64 0, .int .i64 t157, .int .i64 0, .int .i64 t159]) ?_ 2 _ rfl; (with_reducible repeat (first | refine uD ?_ _ | refine uF ?_ | refine uB ?_ _)); refine uP (cs := #[.int .i64 t153, .int .i64 t155, .int .i64 0, .int .i64 t157, .int .i64 0, .int .i64 0]) ?_ 5 _ rfl; (with_reducible repeat (first | refine uD ?_ _ | refine uF ?_ | refine uB ?_ _)); refine uP (cs := #[.int .i64 t153, .int .i64 t155, .int .i64 0, .int .i64 t157, .int .i64 0, .int .i64 0]) ?_ 4 _ rfl; (with_reducible repeat (first | refine uD ?_ _ | refine uF ?_ | refine uB ?_ _)); refine uP (cs := #[.int .i64 t153, .int .i64 t155, .int .i64 0, .int .i64 0, .int .i64 0, .int .i64 0]) ?_ 3 _ rfl; (with_reducible repeat (first | refine uD ?_ _ | refine uF ?_ | refine uB ?_ _)); refine uP (cs := #[.int .i64 t153, .int .i64 t155, .int .i64 0, .int .i64 0, .int .i64 0, .int .i64 0]) ?_ 2 _ rfl; (with_reducible repeat (first | refine uD ?_ _ | refine uF ?_ | refine uB ?_ _)); refine uP (cs := #[.int .i64 t153, .int .i64 0, .int .i64 0, .int .i64 0, .int .i64 0, .int .i64 0]) ?_ 1 _ rfl; (with_reducible repeat (first | refine uD ?_ _ | refine uF ?_ | refine uB ?_ _)); refine uP (cs := #[.int .i64 0, .int .i64 0, .int .i64 0, .int .i64 0, .int .i64 0, .int .i64 0]) ?_ 0 _ rfl; (with_reducible repeat (first | refine uD ?_ _ | refine uF ?_ | refine uB ?_ _)); exact BK160.out⟩, ⟨cq0⟩⟩
        rw [if_neg c40] at H
        have c40b0 : ((rdOf ByteArray.empty t145 1).toList == ([119, 114, 105, 116, 101] : List UInt8)) = false := beq_eq_false_iff_ne.mpr c40
        have c40b1 : ((rdOf ByteArray.empty t145 1).toList != ([119, 114, 105, 116, 101] : List UInt8)) = true := bne_iff_ne.mpr c40
        (first | rw [c40b0] | (simp only [uI, uO]; rw [c40b0]) | skip)
        by_cases c43 : (rdOf ByteArray.empty t145 1).toList = ([115, 119, 97, 112] : List UInt8)
        rotate_left
        · rw [if_neg c43] at H
          have c43b0 : ((rdOf ByteArray.empty t145 1).toList == ([115, 119, 97, 112] : List UInt8)) = false := beq_eq_false_iff_ne.mpr c43
          have c43b1 : ((rdOf ByteArray.empty t145 1).toList != ([115, 119, 97, 112] : List UInt8)) = true := bne_iff_ne.mpr c43
          have H' := Aside0.mk H
          clear H
          go_wp2
          go_meet
          case rel => exact ⟨_, (0), (0), H', ⟨by have := HJ4.out; first | omega | exact Nat.le_refl _⟩, ⟨by (with_reducible repeat (first | refine uD ?_ _ | refine uF ?_ | refine uB ?_ _)); refine blk_far ?_ NB144_160.out _; (with_reducible repeat (first | refine uD ?_ _ | refine uF ?_ | refine uB ?_ _)); refine blk_far ?_ NB144_160.out _; (with_reducible repeat (first | refine uD ?_ _ | refine uF ?_ | refine uB ?_ _)); refine blk_far ?_ NB144_160.out _; (with_reducible repeat (first | refine uD ?_ _ | refine uF ?_ | refine uB ?_ _)); refine blk_far ?_ NB144_160.out _; (with_reducible repeat (first | refine uD ?_ _ | refine uF ?_ | refine uB ?_ _)); refine blk_far ?_ NB144_160.out _; (with_reducible repeat (first | refine uD ?_ _ | refine uF ?_ | refine uB ?_ _)); refine blk_far ?_ NB144_160.out _; (with_reducible repeat (first | refine uD ?_ _ | refine uF ?_ | refine uB ?_ _)); exact BK144.out⟩, ⟨by (with_reducible repeat (first | refine uD ?_ _ | refine uF ?_ | refine uB ?_ _)); refine uP (cs := #[.int .i64 t153, .int .i64 t155, .int .i64 0, .int .i64 t157, .int .i64 0, .int .i64 0]) ?_ 5 _ rfl; (with_reducible repeat (first | refine uD ?_ _ | refine uF ?_ | refine uB ?_ _)); refine uP (cs := #[.int .i64 t153, .int .i64 t155, .int .i64 0, .int .i64 t157, .int .i64 0, .int .i64 0]) ?_ 4 _ rfl; (with_reducible repeat (first | refine uD ?_ _ | refine uF ?_ | refine uB ?_ _)); refine uP (cs := #[.int .i64 t153, .int .i64 t155, .int .i64 0, .int .i64 0, .int .i64 0, .int .i64 0]) ?_ 3 _ rfl; (with_reducible repeat (first | refine uD ?_ _ | refine uF ?_ | refine uB ?_ _)); refine uP (cs := #[.int .i64 t153, .int .i64 t155, .int .i64 0, .int .i64 0, .int .i64 0, .int .i64 0]) ?_ 2 _ rfl; (with_reducible repeat (first | refine uD ?_ _ | refine uF ?_ | refine uB ?_ _)); refine uP (cs := #[.int .i64 t153, .int .i64 0, .int .i64 0, .int .i64 0, .int .i64 0, .int .i64 0]) ?_ 1 _ rfl; (with_reducible repeat (first | refine uD ?_ _ | refine uF ?_ | refine uB ?_ _)); refine uP (cs := #[.int .i64 0, .int .i64 0, .int .i64 0, .int .i64 0, .int .i64 0, .int .i64 0]) ?_ 0 _ rfl; (with_reducible repeat (first | refine uD ?_ _ | refine uF ?_ | refine uB ?_ _)); exact BK160.out⟩, ⟨cq0⟩⟩
        rw [if_pos c43] at H
        have c43b0 : ((rdOf ByteArray.empty t145 1).toList == ([115, 119, 97, 112] : List UInt8)) = true := beq_iff_eq.mpr c43
        have c43b1 : ((rdOf ByteArray.empty t145 1).toList != ([115, 119, 97, 112] : List UInt8)) = false := bne_eq_false_iff_eq.mpr c43
        clear c43
        by_cases c44 : 3 < (t145.length : Int)
        rotate_left
        · rw [if_neg c44] at H
          exact absurd H (by simp)
        rw [if_pos c44] at H
        have c44b0 := decide_eq_true c44
        have c44b1 : decide (3 < t145.length) = true := decide_eq_true (by omega)
        clear c44
        replace H := Option.bind_eq_some_iff.mp H
        obtain ⟨t163, A450, H⟩ := H
        try dsimp only at H
        have A45 := Aside0.mk A450
        clear A450
        have H' := Aside0.mk H
        clear H
        have hnb46 := NB160_144.out
        have hnc46 := NB144_160.out
        obtain ⟨hcz47_0, hcz47_1, hcz47_2, hcz47_3, hcz47_4, hcz47_5, hfz47_0, hfz47_1, hfz47_2, hfz47_3, hfz47_4, hfz47_5⟩ := cz6 BK160
        have p162 : 0 ≤ (3 : Int) := (by omega)
        have q162 : 3 < (t145.length : Int) := of_decide_eq_true uL
        obtain ⟨ad162, e162, hx162_0⟩ := Kd.at_string (Kd.uQ HO_4.out).2.2 3 p162 q162
        obtain rfl : ad148 = ad162 := (by injection e162)
        (try simp only [show (3 : Int).toNat = 3 from rfl, Nat.reduceMul, Nat.reduceEqDiff, Go.Addr.add, ↓reduceIte] at hx162_0)
        have qi162 : (3 < t145.length) = True := eq_true (by omega)
        (try rw [show ((3 : Int)).toNat = 3 from rfl] at hx162_0)
        have hn162_0 : ad148.block ≠ gb160 := Kd.uC (Kd.uK HO_4.out BK160.out (by decide))
        have hn162_1 : ad148.block ≠ gb160 := Kd.uC (Kd.uK HO_4.out BK160.out (by decide))
        have hn162_2 : ad148.block ≠ gb160 := Kd.uC (Kd.uK HO_4.out BK160.out (by decide))
        have hn162_3 : ad148.block ≠ gb160 := Kd.uC (Kd.uK HO_4.out BK160.out (by decide))
        have hn162_4 : ad148.block ≠ gb160 := Kd.uC (Kd.uK HO_4.out BK160.out (by decide))
        have hn162_5 : ad148.block ≠ gb160 := Kd.uC (Kd.uK HO_4.out BK160.out (by decide))
        have hn162_6 : ad148.block ≠ gb160 := Kd.uC (Kd.uK HO_4.out BK160.out (by decide))
        replace hx162_0 := (uS (p := ⟨gb160, 0, none⟩) (by first | (rw [uG]; exact hn162_0) | (show (Addr.add _ _).block ≠ _; rw [uG]; exact hn162_0) | exact hn162_0) (.int .i64 t153)).trans hx162_0
        replace hx162_0 := (uS (p := ⟨gb160, 1, none⟩) (by first | (rw [uG]; exact hn162_1) | (show (Addr.add _ _).block ≠ _; rw [uG]; exact hn162_1) | exact hn162_1) (.int .i64 t155)).trans hx162_0
        replace hx162_0 := (uS (p := ⟨gb160, 2, none⟩) (by first | (rw [uG]; exact hn162_2) | (show (Addr.add _ _).block ≠ _; rw [uG]; exact hn162_2) | exact hn162_2) (.int .i64 0)).trans hx162_0
        replace hx162_0 := (uS (p := ⟨gb160, 3, none⟩) (by first | (rw [uG]; exact hn162_3) | (show (Addr.add _ _).block ≠ _; rw [uG]; exact hn162_3) | exact hn162_3) (.int .i64 t157)).trans hx162_0
        replace hx162_0 := (uS (p := ⟨gb160, 4, none⟩) (by first | (rw [uG]; exact hn162_4) | (show (Addr.add _ _).block ≠ _; rw [uG]; exact hn162_4) | exact hn162_4) (.int .i64 0)).trans hx162_0
        replace hx162_0 := (uS (p := ⟨gb160, 5, none⟩) (by first | (rw [uG]; exact hn162_5) | (show (Addr.add _ _).block ≠ _; rw [uG]; exact hn162_5) | exact hn162_5) (.int .i64 t159)).trans hx162_0
        replace hx162_0 := (uS (p := ⟨gb160, 2, none⟩) (by first | (rw [uG]; exact hn162_6) | (show (Addr.add _ _).block ≠ _; rw [uG]; exact hn162_6) | exact hn162_6) (.int .i64 2)).trans hx162_0
        clear hn162_0
        clear hn162_1
        clear hn162_2
        clear hn162_3
        clear hn162_4
        clear hn162_5
        clear hn162_6
        replace p162 := eq_true p162
        replace q162 := eq_true q162
        go_wp2_with (first | ((with_reducible refine uM (f := 68) rfl ?_); refine uY (some 54) Tryd.func68 #[.string (rdOf ByteArray.empty t145 3)] ?_; (with_reducible refine (spec_l3Num.calls kj4 (rdOf ByteArray.empty t145 3) t163 _ A45.out).mono ?_); rintro e w48 ⟨rfl, hb⟩; refine ⟨_, rfl, ?_⟩; replace HO_4 := Aside0.mk (Kd.R_below (by (with_reducible repeat (first | apply Kd.uV | apply Kd.uU | apply Kd.uT)); exact (Kd.R_mono (Kd.uX (p := ⟨gb160, 2, none⟩) (Kd.uX (p := ⟨gb160, 5, none⟩) (Kd.uX (p := ⟨gb160, 4, none⟩) (Kd.uX (p := ⟨gb160, 3, none⟩) (Kd.uX (p := ⟨gb160, 2, none⟩) (Kd.uX (p := ⟨gb160, 1, none⟩) (Kd.uX (p := ⟨gb160, 0, none⟩) (Kd.R_types HO_4.out BK160.out (by decide)) (fun _ hk => hk.2) (.int .i64 t153)) (fun _ hk => hk.2) (.int .i64 t155)) (fun _ hk => hk.2) (.int .i64 0)) (fun _ hk => hk.2) (.int .i64 t157)) (fun _ hk => hk.2) (.int .i64 0)) (fun _ hk => hk.2) (.int .i64 t159)) (fun _ hk => hk.2) (.int .i64 2)) (fun _ h_ => h_.1))) hb); replace HO_5 := Aside0.mk (Kd.R_below (by (with_reducible repeat (first | apply Kd.uV | apply Kd.uU | apply Kd.uT)); exact (Kd.R_mono (Kd.uX (p := ⟨gb160, 2, none⟩) (Kd.uX (p := ⟨gb160, 5, none⟩) (Kd.uX (p := ⟨gb160, 4, none⟩) (Kd.uX (p := ⟨gb160, 3, none⟩) (Kd.uX (p := ⟨gb160, 2, none⟩) (Kd.uX (p := ⟨gb160, 1, none⟩) (Kd.uX (p := ⟨gb160, 0, none⟩) (Kd.R_types HO_5.out BK160.out (by decide)) (fun _ hk => hk.2) (.int .i64 t153)) (fun _ hk => hk.2) (.int .i64 t155)) (fun _ hk => hk.2) (.int .i64 0)) (fun _ hk => hk.2) (.int .i64 t157)) (fun _ hk => hk.2) (.int .i64 0)) (fun _ hk => hk.2) (.int .i64 t159)) (fun _ hk => hk.2) (.int .i64 2)) (fun _ h_ => h_.1))) hb); replace BK144 := tBlkF BK144 hb; replace BK160 := tBlkP BK160 #[.int .i64 t153, .int .i64 t155, .int .i64 2, .int .i64 t157, .int .i64 0, .int .i64 t159] hb; replace HB := uR HB hb; (try clear hb); obtain ⟨hcz49_0, hcz49_1, hcz49_2, hcz49_3, hcz49_4, hcz49_5, hfz49_0, hfz49_1, hfz49_2, hfz49_3, hfz49_4, hfz49_5⟩ := cz6 BK160))
        go_meet
        case rel => exact ⟨_, (2), (t163), H', ⟨by have := HJ4.out; first | omega | exact Nat.le_refl _⟩, ⟨by (with_reducible repeat (first | refine uD ?_ _ | refine uF ?_ | refine uB ?_ _)); refine blk_far ?_ NB144_160.out _; (with_reducible repeat (first | refine uD ?_ _ | refine uF ?_ | refine uB ?_ _)); exact BK144.out⟩, ⟨by (with_reducible repeat (first | refine uD ?_ _ | refine uF ?_ | refine uB ?_ _)); refine uP (cs := #[.int .i64 t153, .int .i64 t155, .int .i64 2, .int .i64 t157, .int .i64 0, .int .i64 t159]) ?_ 4 _ rfl; (with_reducible repeat (first | refine uD ?_ _ | refine uF ?_ | refine uB ?_ _)); exact BK160.out⟩, ⟨cq0⟩⟩
      case rest =>
        clear HC25
        try clear hx161_0
        try clear p161
        try clear q161
        obtain ⟨kq, x161002_24, x161004_24, HA, HJ24, BK144, BK160, HB⟩ := hcut
        cases kq with
        | zero => exact absurd HA.out (by simp [spec_ParseOp.j1])
        | succ kj24 =>
          have H := HA.out
          clear HA
          simp only [spec_ParseOp.j1] at H
          replace H := Option.bind_eq_some_iff.mp H
          obtain ⟨t164, A500, H⟩ := H
          try dsimp only at H
          have A50 := Aside0.mk A500
          clear A500
          have hnb57 := NB160_144.out
          have hnc57 := NB144_160.out
          obtain ⟨hcz58_0, hcz58_1, hcz58_2, hcz58_3, hcz58_4, hcz58_5, hfz58_0, hfz58_1, hfz58_2, hfz58_3, hfz58_4, hfz58_5⟩ := cz6 BK160
          go_wp2_with (first | ((with_reducible refine uM (f := 91) rfl ?_); refine uY (some 57) Tryd.func91 #[.agg #[.int .i64 t153, .int .i64 t155, .int .i64 x161002_24, .int .i64 t157, .int .i64 x161004_24, .int .i64 t159]] ?_; (with_reducible refine (spec_FormatOp.calls kj24 t153 t155 x161002_24 t157 x161004_24 t159 t164 _ A50.out).mono ?_); rintro e w59 ⟨rfl, hb⟩; refine ⟨_, rfl, ?_⟩; replace BK144 := tBlk BK144 hb; replace BK160 := tBlk BK160 hb; replace HB := uR HB hb; (try clear hb); refine ?roundEnd))
          case roundEnd =>
          by_cases c51 : t164.toList = a0.toList
          rotate_left
          · rw [if_neg c51] at H
            have c51b0 : (t164.toList == a0.toList) = false := beq_eq_false_iff_ne.mpr c51
            have c51b1 : (t164.toList != a0.toList) = true := bne_iff_ne.mpr c51
            simp only [Option.some.injEq, Prod.mk.injEq] at H
            obtain ⟨rfl, rfl, rfl, rfl, rfl, rfl, rfl⟩ := H
            obtain ⟨hcz60_0, hcz60_1, hcz60_2, hcz60_3, hcz60_4, hcz60_5, hfz60_0, hfz60_1, hfz60_2, hfz60_3, hfz60_4, hfz60_5⟩ := cz6 BK144
            go_wp2
            refine bodyPost_ret (results_ct rfl _ _ gb144 64 #[.int .i64 0, .int .i64 0, .int .i64 0, .int .i64 0, .int .i64 0, .int .i64 0] (0, 0) _ rfl (by (with_reducible repeat (first | refine uD ?_ _ | refine uF ?_ | refine uB ?_ _)); refine uP (cs := #[.int .i64 0, .int .i64 0, .int .i64 0, .int .i64 0, .int .i64 0, .int .i64 0]) ?_ 5 _ rfl; (with_reducible repeat (first | refine uD ?_ _ | refine uF ?_ | refine uB ?_ _)); refine uP (cs := #[.int .i64 0, .int .i64 0, .int .i64 0, .int .i64 0, .int .i64 0, .int .i64 0]) ?_ 4 _ rfl; (with_reducible repeat (first | refine uD ?_ _ | refine uF ?_ | refine uB ?_ _)); refine uP (cs := #[.int .i64 0, .int .i64 0, .int .i64 0, .int .i64 0, .int .i64 0, .int .i64 0]) ?_ 3 _ rfl; (with_reducible repeat (first | refine uD ?_ _ | refine uF ?_ | refine uB ?_ _)); refine uP (cs := #[.int .i64 0, .int .i64 0, .int .i64 0, .int .i64 0, .int .i64 0, .int .i64 0]) ?_ 2 _ rfl; (with_reducible repeat (first | refine uD ?_ _ | refine uF ?_ | refine uB ?_ _)); refine uP (cs := #[.int .i64 0, .int .i64 0, .int .i64 0, .int .i64 0, .int .i64 0, .int .i64 0]) ?_ 1 _ rfl; (with_reducible repeat (first | refine uD ?_ _ | refine uF ?_ | refine uB ?_ _)); refine uP (cs := #[.int .i64 0, .int .i64 0, .int .i64 0, .int .i64 0, .int .i64 0, .int .i64 0]) ?_ 0 _ rfl; (with_reducible repeat (first | refine uD ?_ _ | refine uF ?_ | refine uB ?_ _)); exact BK144.out) Tryd.underlying64 rfl (by kernel_rfl)) rfl ?_
            exact ⟨by first | rfl | (simp [errW_none, errW_some] <;> rfl) | (simp only [← hji20]; first | rfl | (simp [errW_none, errW_some] <;> rfl)) | (simp [*, errW_none, errW_some] <;> rfl), cq0⟩
          rw [if_pos c51] at H
          have c51b0 : (t164.toList == a0.toList) = true := beq_iff_eq.mpr c51
          have c51b1 : (t164.toList != a0.toList) = false := bne_eq_false_iff_eq.mpr c51
          clear c51
          simp only [Option.some.injEq, Prod.mk.injEq] at H
          obtain ⟨rfl, rfl, rfl, rfl, rfl, rfl, rfl⟩ := H
          obtain ⟨hcz55_0, hcz55_1, hcz55_2, hcz55_3, hcz55_4, hcz55_5, hfz55_0, hfz55_1, hfz55_2, hfz55_3, hfz55_4, hfz55_5⟩ := cz6 BK160
          obtain ⟨hcz56_0, hcz56_1, hcz56_2, hcz56_3, hcz56_4, hcz56_5, hfz56_0, hfz56_1, hfz56_2, hfz56_3, hfz56_4, hfz56_5⟩ := cz6 BK144
          go_wp2
          refine bodyPost_ret (results_ct rfl _ _ gb144 64 #[.int .i64 t153, .int .i64 t155, .int .i64 x161002_24, .int .i64 t157, .int .i64 x161004_24, .int .i64 t159] (0, 0) _ rfl (by (with_reducible repeat (first | refine uD ?_ _ | refine uF ?_ | refine uB ?_ _)); refine uP (cs := #[.int .i64 t153, .int .i64 t155, .int .i64 x161002_24, .int .i64 t157, .int .i64 x161004_24, .int .i64 0]) ?_ 5 _ rfl; (with_reducible repeat (first | refine uD ?_ _ | refine uF ?_ | refine uB ?_ _)); refine uP (cs := #[.int .i64 t153, .int .i64 t155, .int .i64 x161002_24, .int .i64 t157, .int .i64 0, .int .i64 0]) ?_ 4 _ rfl; (with_reducible repeat (first | refine uD ?_ _ | refine uF ?_ | refine uB ?_ _)); refine uP (cs := #[.int .i64 t153, .int .i64 t155, .int .i64 x161002_24, .int .i64 0, .int .i64 0, .int .i64 0]) ?_ 3 _ rfl; (with_reducible repeat (first | refine uD ?_ _ | refine uF ?_ | refine uB ?_ _)); refine uP (cs := #[.int .i64 t153, .int .i64 t155, .int .i64 0, .int .i64 0, .int .i64 0, .int .i64 0]) ?_ 2 _ rfl; (with_reducible repeat (first | refine uD ?_ _ | refine uF ?_ | refine uB ?_ _)); refine uP (cs := #[.int .i64 t153, .int .i64 0, .int .i64 0, .int .i64 0, .int .i64 0, .int .i64 0]) ?_ 1 _ rfl; (with_reducible repeat (first | refine uD ?_ _ | refine uF ?_ | refine uB ?_ _)); refine uP (cs := #[.int .i64 0, .int .i64 0, .int .i64 0, .int .i64 0, .int .i64 0, .int .i64 0]) ?_ 0 _ rfl; (with_reducible repeat (first | refine uD ?_ _ | refine uF ?_ | refine uB ?_ _)); exact BK144.out) Tryd.underlying64 rfl (by kernel_rfl)) rfl ?_
          exact ⟨by first | rfl | (simp [errW_none, errW_some] <;> rfl) | (simp only [← hji20]; first | rfl | (simp [errW_none, errW_some] <;> rfl)) | (simp [*, errW_none, errW_some] <;> rfl), cq0⟩

end Go.Proofs.YtcikahnmiiichaaDoor.L
