/- Go functions as Lean functions, and the proof that the code comes to them: written by a program of this session out of the translation. -/
import Derived.Test.YtcikahnmiiichaaN0
import Derived.Test.YtcikahnmiiichaaN11
import Derived.Test.YtcikahnmiiichaaN14
import Derived.Test.YtcikahnmiiichaaN15
namespace Go.Proofs.Ytcikahnmiiichaa.N
open List renaming setIfInBounds_toArray → yA, set_cons_zero → yB, set_cons_succ → yC, map_toArray → yD
open Go.World renaming block_lt_of_cell? → yG
open Go.RowKit Go.Proofs.YtcikahnmiiichaaW.PrintWords Go.Proofs.YtcikahnmiiichaaW.PrintLast Go.Proofs.YtcikahnmiiichaaW.PrintMore
attribute [local go_sem] max2_int min2_int max_two min_two vX vY max_four min_four   -- for this text's walks alone
set_option linter.unusedVariables false
set_option linter.unusedSimpArgs false

/-! ### impl_ResultAt: function 28 -/
def impl_ResultAt.j0 : Nat → List (S72) → Int → Bool → Option (Bool × Int × Bool)
  | 0, _, _, _ => none
  | k + 1, x0, x1, x21 => if x21 = true then (some (false, 0, false)) else (if 0 ≤ x1 then (if x1 ≤ (x0.length : Int) then ((impl_ReplayLog.f k (x0.take (x1 : Int).toNat)).bind fun bt234 => (if x1 < (x0.length : Int) then ((impl_ApplyOp.f k bt234.1 bt234.2.1 ((rd_T72 x0 x1).f1.f0) ((rd_T72 x0 x1).f1.f1) ((rd_T72 x0 x1).f1.f2) ((rd_T72 x0 x1).f1.f3) ((rd_T72 x0 x1).f1.f4) ((rd_T72 x0 x1).f1.f5)).bind fun bt243 => (some (bt243.2.2.1, bt243.2.2.2.1, bt243.2.2.2.2))) else (none))) else (none)) else (none))
def impl_ResultAt.f (k : Nat) (l0 : List (S72)) (a1 : Int) : Option (Bool × Int × Bool) := (impl_IsLog.f k l0).bind fun t228 => (if t228 = true then ((impl_within.f a1 0 (wrap64 ((l0.length : Int) - 1))).bind fun t229 => (impl_ResultAt.j0 k l0 a1 (!t229))) else (impl_ResultAt.j0 k l0 a1 true))
theorem impl_ResultAt.mono_l : ∀ k, (∀ y0 y1 y2, uI (impl_ResultAt.j0 k y0 y1 y2) (impl_ResultAt.j0 (k + 1) y0 y1 y2))
  | 0 => fun _ _ _ r h => by simp [impl_ResultAt.j0] at h
  | k + 1 => by
    have ih0 := impl_ResultAt.mono_l k
    intro y0 y1 y2
    unfold impl_ResultAt.j0
    repeat' first
    | (with_reducible exact ih0 _ _ _)
    | (with_reducible exact impl_ApplyOp.mono _ _ _ _ _ _ _ _ _)
    | (with_reducible exact impl_IsLog.mono _ _)
    | (with_reducible exact impl_ReplayLog.mono _ _)
    | (with_reducible exact uI.refl _)
    | (with_reducible exact uI.none _)
    | (with_reducible refine uI.ite ?_ ?_)
    | (with_reducible refine uI.bind ?_ (fun _ => ?_))
    | exact ih0 _ _ _
    | exact uI.none _
    | refine uI.ite ?_ ?_
    | refine uI.bind ?_ (fun _ => ?_)
theorem impl_ResultAt.mono : ∀ a0 a1 k, uI (impl_ResultAt.f k a0 a1) (impl_ResultAt.f (k + 1) a0 a1) := by
  intro a0 a1 k
  have ih0 := impl_ResultAt.mono_l k
  unfold impl_ResultAt.f
  repeat' first
      | (with_reducible exact ih0 _ _ _)
      | (with_reducible exact impl_ApplyOp.mono _ _ _ _ _ _ _ _ _)
      | (with_reducible exact impl_IsLog.mono _ _)
      | (with_reducible exact impl_ReplayLog.mono _ _)
      | (with_reducible exact uI.refl _)
      | (with_reducible exact uI.none _)
      | (with_reducible refine uI.ite ?_ ?_)
      | (with_reducible refine uI.bind ?_ (fun _ => ?_))
      | exact ih0 _ _ _
      | exact uI.none _
      | refine uI.ite ?_ ?_
      | refine uI.bind ?_ (fun _ => ?_)
def impl_ResultAt.T4 : Bool × List (List Nat × List Nat) := (true, [([], []), ([], []), ([], []), ([1, 2], [1, 2]), ([3], [3]), ([4], [4]), ([0, 5], [0, 5]), ([6], [6]), ([7], [7]), ([7], [7]), ([7], [7]), ([], []), ([], []), ([11, 8, 6, 0, 1, 2, 3, 4, 5, 6, 7, 8, 11, 12], [8, 11]), ([12, 9, 13, 0, 1, 2, 3, 4, 5, 6, 7, 8, 9, 11, 12, 13], [9, 12]), ([10, 14, 0, 1, 2, 3, 4, 5, 6, 7, 8, 9, 10, 11, 12, 13, 14], [10])])
def impl_ResultAt.B4 : List Nat := [0, 0, 0, 6, 14, 30, 63, 127, 255, 255, 255, 0, 0, 6655, 15359, 32767]
theorem impl_ResultAt.tab4 : rtab .any (opsOf Try.f28 4) = impl_ResultAt.T4 := by kernel_rfl
theorem impl_ResultAt.bits4 : waitsOk impl_ResultAt.T4.2 impl_ResultAt.B4 = true := by kernel_rfl
set_option maxHeartbeats 8000000 in
set_option maxRecDepth 100000 in
theorem impl_ResultAt.calls (k : Nat) (A0 : Option Addr) (c0 : Nat) (l0 : List (S72)) (a1 : Int) (r1 : Bool) (r2 : Int) (r3 : Bool) (w : World) (hr0 : Kd.C k72 w A0 l0.length l0) (hc0 : l0.length ≤ c0) (h : impl_ResultAt.f k l0 a1 = some (r1, r2, r3)) :
    Calls Try.prog 28 #[.slice A0 l0.length c0, .int .i64 a1] w fun e w' => e = .returned (.tuple #[.agg #[.bool r1, .int .i64 r2], .bool r3]) ∧ Below w.heap.size w w' := by
  have hu33 := Try.underlying33
  have hu31 := Try.underlying31
  have hu37 := Try.underlying37
  have HR0 := Aside0.mk hr0
  have HC0 := Aside0.mk hc0
  clear hr0 hc0
  have HB := Aside0.mk (Below.refl w.heap.size w)
  have H : ((impl_IsLog.f k l0).bind fun t228 => (if t228 = true then ((impl_within.f a1 0 (wrap64 ((l0.length : Int) - 1))).bind fun t229 => (impl_ResultAt.j0 k l0 a1 (!t229))) else (impl_ResultAt.j0 k l0 a1 true))) = some (r1, r2, r3) := h
  clear h
  have HC3 := Aside0.mk H
  clear H
  go_enter Try.func28, Try.ntmps28
  go_upto_region 1 with (first | ((with_reducible refine uJ (N := 4) rfl ?_); refine bxe 4 #[.bool false, .int .i64 0] 33 ?_; intro gb227 hg w4 hbox hb; have BK227 := Aside0.mk (hbox); have GW227 := tGe HB hg; have GE227 := tGe HB hg; replace HB := vB HB hb; clear hb hbox hg))
  (try simp only [Act.put, yA, yB, yC])
  go_cut [21] (fun v21 wc => ∃ (kq : Nat) (x21_2 : Bool), v21 = .bool x21_2 ∧ Aside0 (impl_ResultAt.j0 kq l0 a1 x21_2 = some (r1, r2, r3)) ∧ Aside0 (kq ≤ k) ∧ Aside0 (wc.heap[gb227]? = some (.cells #[.bool false, .int .i64 0] 33 (0, 0))) ∧ Aside0 (Below w.heap.size w wc))
  case first =>
    have H := HC3.out
    clear HC3
    replace H := Option.bind_eq_some_iff.mp H
    obtain ⟨t228, A50, H⟩ := H
    try dsimp only at H
    have A5 := Aside0.mk A50
    clear A50
    by_cases c6 : t228 = true
    rotate_left
    · replace c6 := Bool.eq_false_iff.mpr c6
      subst c6
      try rw [if_neg (show ¬ (false = true) by decide)] at H
      have H' := Aside0.mk H
      clear H
      go_wp2_with (first | ((with_reducible refine uF (f := 41) rfl ?_); refine uX (some 12) Try.func41 #[.slice A0 l0.length c0] ?_; (with_reducible refine (impl_IsLog.calls k _ _ l0 false _ ?side1 ?side2 A5.out).mono ?_); (case side1 => exact cq7); (case side2 => exact HC0.out); rintro e w9 ⟨rfl, hb⟩; refine ⟨_, rfl, ?_⟩; replace BK227 := uP BK227 hb; replace HB := vB HB hb; (try clear hb)))
      go_meet
      case rel => exact ⟨_, (true), cq15, H', ⟨by first | omega | exact Nat.le_refl _⟩, ⟨by (with_reducible repeat (first | refine uC ?_ _ | refine uE ?_ | refine uD ?_ _)); exact BK227.out⟩, ⟨vA⟩⟩
    subst c6
    try rw [if_pos rfl] at H
    replace H := Option.bind_eq_some_iff.mp H
    obtain ⟨t229, A70, H⟩ := H
    try dsimp only at H
    have A7 := Aside0.mk A70
    clear A70
    have H' := Aside0.mk H
    clear H
    go_wp2_with (first | ((with_reducible refine uF (f := 41) rfl ?_); refine uX (some 12) Try.func41 #[.slice A0 l0.length c0] ?_; (with_reducible refine (impl_IsLog.calls k _ _ l0 true _ ?side1 ?side2 A5.out).mono ?_); (case side1 => exact cq7); (case side2 => exact HC0.out); rintro e w8 ⟨rfl, hb⟩; refine ⟨_, rfl, ?_⟩; replace BK227 := uP BK227 hb; replace HB := vB HB hb; (try clear hb)) | (go_at_call 65; (with_reducible refine (impl_within.calls a1 0 (wrap64 ((l0.length : Int) - 1)) t229 _ A7.out).mono ?_); rintro e w' ⟨rfl, ⟨nd, rfl⟩⟩))
    go_meet
    case rel => exact ⟨_, (!t229), cq15, H', ⟨by first | omega | exact Nat.le_refl _⟩, ⟨by (with_reducible repeat (first | refine uC ?_ _ | refine uE ?_ | refine uD ?_ _)); exact BK227.out⟩, ⟨vA⟩⟩
  case rest =>
    clear HC3
    obtain ⟨kq, x21_2, rfl, HA, HJ2, BK227, HB⟩ := hcut
    cases kq with
    | zero => exact absurd HA.out (by simp [impl_ResultAt.j0])
    | succ kj2 =>
      have H := HA.out
      clear HA
      simp only [impl_ResultAt.j0] at H
      by_cases c10 : x21_2 = true
      · subst c10
        try rw [if_pos rfl] at H
        simp only [Option.some.injEq, Prod.mk.injEq] at H
        obtain ⟨rfl, rfl, rfl⟩ := H
        obtain ⟨hcz11_0, hcz11_1, hfz11_0, hfz11_1⟩ := cz2 BK227
        go_wp2
        refine bodyPost_ret (results_ct rfl _ _ gb227 33 #[.bool false, .int .i64 0] (0, 0) _ rfl (by (with_reducible repeat (first | refine uC ?_ _ | refine uE ?_ | refine uD ?_ _)); refine uL (cs := #[.bool false, .int .i64 0]) ?_ 1 _ rfl; (with_reducible repeat (first | refine uC ?_ _ | refine uE ?_ | refine uD ?_ _)); refine uL (cs := #[.bool false, .int .i64 0]) ?_ 0 _ rfl; (with_reducible repeat (first | refine uC ?_ _ | refine uE ?_ | refine uD ?_ _)); exact BK227.out) Try.underlying33 rfl (by kernel_rfl)) rfl ?_
        exact ⟨cq3, vA⟩
      replace c10 := Bool.eq_false_iff.mpr c10
      subst c10
      try rw [if_neg (show ¬ (false = true) by decide)] at H
      by_cases c12 : 0 ≤ a1
      rotate_left
      · rw [if_neg c12] at H
        exact absurd H (by simp)
      rw [if_pos c12] at H
      have c12b0 := eq_true c12
      have c12b1 := decide_eq_true c12
      clear c12
      by_cases c13 : a1 ≤ (l0.length : Int)
      rotate_left
      · rw [if_neg c13] at H
        exact absurd H (by simp)
      rw [if_pos c13] at H
      have c13b0 := eq_true c13
      have c13b1 := decide_eq_true c13
      clear c13
      obtain ⟨y230, hy230⟩ : ∃ y_ : List (S72), y_ = (l0.take (a1 : Int).toNat) := ⟨_, rfl⟩
      replace H : ((impl_ReplayLog.f kj2 y230).bind fun bt234 => (if a1 < (l0.length : Int) then ((impl_ApplyOp.f kj2 bt234.1 bt234.2.1 ((rd_T72 l0 a1).f1.f0) ((rd_T72 l0 a1).f1.f1) ((rd_T72 l0 a1).f1.f2) ((rd_T72 l0 a1).f1.f3) ((rd_T72 l0 a1).f1.f4) ((rd_T72 l0 a1).f1.f5)).bind fun bt243 => (some (bt243.2.2.1, bt243.2.2.2.1, bt243.2.2.2.2))) else (none))) = some (r1, r2, r3) := rpl hy230 H
      have Ny230 := Aside0.mk hy230
      clear hy230
      replace H := Option.bind_eq_some_iff.mp H
      obtain ⟨⟨t234, t237, t240⟩, A140, H⟩ := H
      try dsimp only at H
      have A14 := Aside0.mk A140
      clear A140
      obtain ⟨c15b0, H⟩ := ifD H
      replace H := Option.bind_eq_some_iff.mp H
      obtain ⟨⟨t243, t246, t249, t250, t251⟩, A160, H⟩ := H
      try dsimp only at H
      have A16 := Aside0.mk A160
      clear A160
      simp only [Option.some.injEq, Prod.mk.injEq] at H
      obtain ⟨rfl, rfl, rfl⟩ := H
      have q17 : (a1 : Int) ≤ ((l0.length : Int) : Int) := of_decide_eq_true cq12
      obtain ⟨i017, hi017, _, hsz17, _⟩ := info_parts info72
      have hroom17 : l0.length ≤ c0 := HC0.out
      have hC17 : Kd.C k72 _ A0 l0.length l0 := HR0.out
      have hcut17 := cut_to (P := Try.prog) 58 72 .i64 Try.underlying58 hi017 A0 l0.length c0 a1 (of_decide_eq_true cq12) q17 hroom17
      have hr17 := Kd.C_take (m := (a1 : Int).toNat) hC17 (by omega)
      have hy17 : y230.length = (a1 : Int).toNat := (by rw [Ny230.out, List.length_take]; omega)
      rw [← Ny230.out] at hr17
      rw [← hy17] at hcut17
      have HR233 := Aside0.mk hr17
      have HC233 := Aside0.mk (show y230.length ≤ c0 from by omega)
      clear hr17 hC17 hroom17 hi017 hsz17
      have KY17 := Aside0.mk hy17
      clear hy17
      replace q17 := eq_true q17
      try go_wp2_with (first | ((with_reducible refine uF (f := 31) rfl ?_); refine uX (some 27) Try.func31 #[.slice A0 y230.length c0] ?_; (with_reducible refine (impl_ReplayLog.calls kj2 _ _ y230 t234 t237 t240 _ ?side1 ?side2 A14.out).mono ?_); (case side1 => repeat (first | exact (Kd.vC HR233.out HB.out) | (with_reducible refine Kd.vW ?_ _) | (with_reducible refine Kd.vV ?_ _) | (with_reducible refine Kd.C_drew ?_))); (case side2 => exact HC233.out); rintro e w18 ⟨v235, v238, rfl, ho0, ho1, hb⟩; refine ⟨_, rfl, ?_⟩; have HO236 := Aside0.mk (Kd.uS ho0 (uO vA)); have HO239 := Aside0.mk (Kd.uS ho1 (uO vA)); replace BK227 := uP BK227 hb; replace HB := vB HB hb; (try clear hb); (try clear ho0); (try clear ho1)) | ((with_reducible refine uJ (N := 6) rfl ?_); refine bxe 6 #[.slice none 0 0, .slice none 0 0] 31 ?_; intro gb241 hg w19 hbox hb; have BK241 := Aside0.mk (hbox); have GW241 := tGe HB hg; have GE241 := tGe HB hg; have NB227_241 := tNl BK227 hg; have NB241_227 := tNg BK227 hg; replace HO236 := Kd.tR HO236 hb; replace HO239 := Kd.tR HO239 hb; replace BK227 := uP BK227 hb; replace HB := vB HB hb; clear hb hbox hg; obtain ⟨Ao20, co20, eo20⟩ := Kd.uY HO236.out; subst eo20; have hnb21 := NB241_227.out; have hnc21 := NB227_241.out; obtain ⟨hcz22_0, hcz22_1, hfz22_0, hfz22_1⟩ := cz2 BK241; obtain ⟨Ao23, co23, eo23⟩ := Kd.uY HO239.out; subst eo23))
      have n0_ : Aside0 (Kd.R (Kd.int .i64) 3 ((w19.setCell ⟨gb241, 0, none⟩ (.slice Ao20 t234.length co20)).setCell ⟨gb241, 1, none⟩ (.slice Ao23 t237.length co23)) w.heap.size (fun _ => True) (.slice Ao20 t234.length co20) t234) := ⟨by (with_reducible repeat (first | apply Kd.uQ | apply Kd.uR | apply Kd.uV)); exact Kd.uN (Kd.uM (p := ⟨gb241, 1, none⟩) (Kd.uM (p := ⟨gb241, 0, none⟩) (Kd.vG HO236.out BK241.out (by decide)) (fun _ hk => hk.2) (.slice Ao20 t234.length co20)) (fun _ hk => hk.2) (.slice Ao23 t237.length co23)) (fun _ hk => trivial)⟩
      have n1_ : Aside0 (Kd.R k49 49 ((w19.setCell ⟨gb241, 0, none⟩ (.slice Ao20 t234.length co20)).setCell ⟨gb241, 1, none⟩ (.slice Ao23 t237.length co23)) w.heap.size (fun _ => True) (.slice Ao23 t237.length co23) t237) := ⟨by (with_reducible repeat (first | apply Kd.uQ | apply Kd.uR | apply Kd.uV)); exact Kd.uN (Kd.uM (p := ⟨gb241, 1, none⟩) (Kd.uM (p := ⟨gb241, 0, none⟩) (Kd.vG HO239.out BK241.out (by decide)) (fun _ hk => hk.2) (.slice Ao20 t234.length co20)) (fun _ hk => hk.2) (.slice Ao23 t237.length co23)) (fun _ hk => trivial)⟩
      have n2_ : Aside0 (((w19.setCell ⟨gb241, 0, none⟩ (.slice Ao20 t234.length co20)).setCell ⟨gb241, 1, none⟩ (.slice Ao23 t237.length co23)).heap[gb227]? = some (.cells #[.bool false, .int .i64 0] 33 (0, 0))) := ⟨by (with_reducible repeat (first | refine uC ?_ _ | refine uE ?_ | refine uD ?_ _)); refine vO ?_ NB227_241.out _; (with_reducible repeat (first | refine uC ?_ _ | refine uE ?_ | refine uD ?_ _)); refine vO ?_ NB227_241.out _; (with_reducible repeat (first | refine uC ?_ _ | refine uE ?_ | refine uD ?_ _)); exact BK227.out⟩
      have n3_ : Aside0 (((w19.setCell ⟨gb241, 0, none⟩ (.slice Ao20 t234.length co20)).setCell ⟨gb241, 1, none⟩ (.slice Ao23 t237.length co23)).heap[gb241]? = some (.cells #[.slice Ao20 t234.length co20, .slice Ao23 t237.length co23] 31 (0, 0))) := ⟨by (with_reducible repeat (first | refine uC ?_ _ | refine uE ?_ | refine uD ?_ _)); refine uL (cs := #[.slice Ao20 t234.length co20, .slice none 0 0]) ?_ 1 _ rfl; (with_reducible repeat (first | refine uC ?_ _ | refine uE ?_ | refine uD ?_ _)); refine uL (cs := #[.slice none 0 0, .slice none 0 0]) ?_ 0 _ rfl; (with_reducible repeat (first | refine uC ?_ _ | refine uE ?_ | refine uD ?_ _)); exact BK241.out⟩
      have n4_ : Aside0 (Below w.heap.size w ((w19.setCell ⟨gb241, 0, none⟩ (.slice Ao20 t234.length co20)).setCell ⟨gb241, 1, none⟩ (.slice Ao23 t237.length co23))) := ⟨vA⟩
      generalize ((w19.setCell ⟨gb241, 0, none⟩ (.slice Ao20 t234.length co20)).setCell ⟨gb241, 1, none⟩ (.slice Ao23 t237.length co23)) = w24 at n0_ n1_ n2_ n3_ n4_ ⊢
      have HO236 := n0_
      have HO239 := n1_
      have BK227 := n2_
      have BK241 := n3_
      have HB := n4_
      clear n0_ n1_ n2_ n3_ n4_
      replace HO236 := Aside0.mk (Kd.uV HO236.out)
      replace HO239 := Aside0.mk (Kd.uV HO239.out)
      replace BK227 := Aside0.mk (uE BK227.out)
      replace BK241 := Aside0.mk (uE BK241.out)
      replace HB := Aside0.mk (vM HB.out)
      have p242 : 0 ≤ (a1 : Int) := of_decide_eq_true cq12
      have q242 : a1 < (l0.length : Int) := of_decide_eq_true cq12
      obtain ⟨ad242, e242, hx242_0, hx242_1, hx242_2, hx242_3, hx242_4, hx242_5, hx242_6⟩ := at_T72 HR0.out a1 p242 q242
      have hw242_6 := hx242_6
      have hw242_5 := hx242_5
      have hw242_4 := hx242_4
      have hw242_3 := hx242_3
      have hw242_2 := hx242_2
      have hw242_1 := hx242_1
      have hw242_0 := hx242_0
      cases e242
      replace hx242_0 := (HB.out.cell (yG w _ hx242_0)).trans hx242_0
      replace hx242_1 := (HB.out.cell (yG w _ hx242_1)).trans hx242_1
      replace hx242_2 := (HB.out.cell (yG w _ hx242_2)).trans hx242_2
      replace hx242_3 := (HB.out.cell (yG w _ hx242_3)).trans hx242_3
      replace hx242_4 := (HB.out.cell (yG w _ hx242_4)).trans hx242_4
      replace hx242_5 := (HB.out.cell (yG w _ hx242_5)).trans hx242_5
      replace hx242_6 := (HB.out.cell (yG w _ hx242_6)).trans hx242_6
      replace p242 := eq_true p242
      replace q242 := eq_true q242
      refine start_ (n := 16) (S := fun w' => w'.cell? ⟨gb241, 0, none⟩ = some (.slice Ao20 t234.length co20) ∧ w'.cell? ⟨gb241, 1, none⟩ = some (.slice Ao23 t237.length co23) ∧ w'.cell? (ad242.add ((a1).toNat * 7)) = some (.int .i64 ((rd_T72 l0 a1).f0)) ∧ w'.cell? ⟨(ad242.add ((a1).toNat * 7)).block, (ad242.add ((a1).toNat * 7)).off + 1, none⟩ = some (.int .i64 ((rd_T72 l0 a1).f1.f0)) ∧ w'.cell? ⟨(ad242.add ((a1).toNat * 7)).block, (ad242.add ((a1).toNat * 7)).off + 2, none⟩ = some (.int .i64 ((rd_T72 l0 a1).f1.f1)) ∧ w'.cell? ⟨(ad242.add ((a1).toNat * 7)).block, (ad242.add ((a1).toNat * 7)).off + 3, none⟩ = some (.int .i64 ((rd_T72 l0 a1).f1.f2)) ∧ w'.cell? ⟨(ad242.add ((a1).toNat * 7)).block, (ad242.add ((a1).toNat * 7)).off + 4, none⟩ = some (.int .i64 ((rd_T72 l0 a1).f1.f3)) ∧ w'.cell? ⟨(ad242.add ((a1).toNat * 7)).block, (ad242.add ((a1).toNat * 7)).off + 5, none⟩ = some (.int .i64 ((rd_T72 l0 a1).f1.f4)) ∧ w'.cell? ⟨(ad242.add ((a1).toNat * 7)).block, (ad242.add ((a1).toNat * 7)).off + 6, none⟩ = some (.int .i64 ((rd_T72 l0 a1).f1.f5))) (ds := []) tb15 (by kernel_rfl) rfl rfl ⟨(uB BK241.out 0).trans rfl, (uB BK241.out 1).trans rfl, ((HB.out.cell (yG w _ hw242_0)).trans hw242_0), ((HB.out.cell (yG w _ hw242_1)).trans hw242_1), ((HB.out.cell (yG w _ hw242_2)).trans hw242_2), ((HB.out.cell (yG w _ hw242_3)).trans hw242_3), ((HB.out.cell (yG w _ hw242_4)).trans hw242_4), ((HB.out.cell (yG w _ hw242_5)).trans hw242_5), ((HB.out.cell (yG w _ hw242_6)).trans hw242_6)⟩ (fun hHeld => ?_); refine with_tabW impl_ResultAt.tab4 impl_ResultAt.bits4 (fun HT_ HW_ => ?_)
      generalize w24.drew = w25 at HO236 HO239 BK227 BK241 HB hx242_0 hx242_1 hx242_2 hx242_3 hx242_4 hx242_5 hx242_6 hHeld ⊢
      refine vR 1 (some 32) tb16 ?_
      refine vR 2 (some 33) tb17 ?_
      refine vR 3 (some 34) tb18 ?_
      refine vR 4 (some 35) tb19 ?_
      refine takeT 0 (some 31) tb20 ?_
      refine takeT 5 (some 36) tb21 ?_
      refine join_ (σ := Value × Value × Nat × Nat) 3 tb0 (fun s_ => [(37, .tuple #[.agg #[s_.1, s_.2.1], .agg #[.bool t249, .int .i64 t250], .bool t251]), (8, .pointer (some ⟨s_.2.2.1, 0, none⟩)), (9, .pointer (some ⟨s_.2.2.2, 0, none⟩)), (30, .tuple #[.agg #[s_.1, s_.2.1], .agg #[.bool t249, .int .i64 t250], .bool t251]), (38, .agg #[s_.1, s_.2.1]), (39, .agg #[.bool t249, .int .i64 t250]), (40, .bool t251)]) (fun s_ w' => (w'.cell? ⟨gb241, 0, none⟩ = some (.slice Ao20 t234.length co20) ∧ w'.cell? ⟨gb241, 1, none⟩ = some (.slice Ao23 t237.length co23) ∧ w'.cell? (ad242.add ((a1).toNat * 7)) = some (.int .i64 ((rd_T72 l0 a1).f0)) ∧ w'.cell? ⟨(ad242.add ((a1).toNat * 7)).block, (ad242.add ((a1).toNat * 7)).off + 1, none⟩ = some (.int .i64 ((rd_T72 l0 a1).f1.f0)) ∧ w'.cell? ⟨(ad242.add ((a1).toNat * 7)).block, (ad242.add ((a1).toNat * 7)).off + 2, none⟩ = some (.int .i64 ((rd_T72 l0 a1).f1.f1)) ∧ w'.cell? ⟨(ad242.add ((a1).toNat * 7)).block, (ad242.add ((a1).toNat * 7)).off + 3, none⟩ = some (.int .i64 ((rd_T72 l0 a1).f1.f2)) ∧ w'.cell? ⟨(ad242.add ((a1).toNat * 7)).block, (ad242.add ((a1).toNat * 7)).off + 4, none⟩ = some (.int .i64 ((rd_T72 l0 a1).f1.f3)) ∧ w'.cell? ⟨(ad242.add ((a1).toNat * 7)).block, (ad242.add ((a1).toNat * 7)).off + 5, none⟩ = some (.int .i64 ((rd_T72 l0 a1).f1.f4)) ∧ w'.cell? ⟨(ad242.add ((a1).toNat * 7)).block, (ad242.add ((a1).toNat * 7)).off + 6, none⟩ = some (.int .i64 ((rd_T72 l0 a1).f1.f5))) ∧ (Kd.R (Kd.int .i64) 3 w' w.heap.size (fun k_ => some k_ ≠ (s_.1 : Value).ownBlock) (.slice Ao20 t234.length co20) t234) ∧ (Kd.R k49 49 w' w.heap.size (fun k_ => some k_ ≠ (s_.2.1 : Value).ownBlock) (.slice Ao23 t237.length co23) t237) ∧ (Kd.R (Kd.int .i64) 3 w' w.heap.size (fun k_ => some k_ ≠ (.slice Ao20 t234.length co20 : Value).ownBlock) s_.1 t243) ∧ (Kd.R k49 49 w' w.heap.size (fun k_ => some k_ ≠ (.slice Ao23 t237.length co23 : Value).ownBlock) s_.2.1 t246) ∧ (w'.heap[gb227]? = some (.cells #[.bool false, .int .i64 0] 33 (0, 0))) ∧ (w'.heap[gb241]? = some (.cells #[.slice Ao20 t234.length co20, .slice Ao23 t237.length co23] 31 (0, 0))) ∧ (w'.heap[s_.2.2.1]? = some (.cells #[.slice none 0 0, .slice none 0 0] 31 (0, 0))) ∧ (w'.heap[s_.2.2.2]? = some (.cells #[.bool false, .int .i64 0] 33 (0, 0))) ∧ (w.heap.size ≤ s_.2.2.1) ∧ (w.heap.size ≤ s_.2.2.1) ∧ (gb227 ≠ s_.2.2.1) ∧ (s_.2.2.1 ≠ gb227) ∧ (gb241 ≠ s_.2.2.1) ∧ (s_.2.2.1 ≠ gb241) ∧ (s_.2.2.2 ≠ s_.2.2.1) ∧ (s_.2.2.1 ≠ s_.2.2.2) ∧ (w.heap.size ≤ s_.2.2.2) ∧ (w.heap.size ≤ s_.2.2.2) ∧ (gb227 ≠ s_.2.2.2) ∧ (s_.2.2.2 ≠ gb227) ∧ (gb241 ≠ s_.2.2.2) ∧ (s_.2.2.2 ≠ gb241) ∧ (Below w.heap.size w w')) ?_ ?_
      rotate_left
      · intro hJ6_11_12
        refine join_ (σ := Value × Value × Nat) 4 tb3 (fun s_ => [(37, .tuple #[.agg #[s_.1, s_.2.1], .agg #[.bool t249, .int .i64 t250], .bool t251]), (8, .pointer (some ⟨s_.2.2, 0, none⟩)), (30, .tuple #[.agg #[s_.1, s_.2.1], .agg #[.bool t249, .int .i64 t250], .bool t251]), (38, .agg #[s_.1, s_.2.1]), (39, .agg #[.bool t249, .int .i64 t250]), (40, .bool t251)]) (fun s_ w' => (w'.cell? ⟨gb241, 0, none⟩ = some (.slice Ao20 t234.length co20) ∧ w'.cell? ⟨gb241, 1, none⟩ = some (.slice Ao23 t237.length co23) ∧ w'.cell? (ad242.add ((a1).toNat * 7)) = some (.int .i64 ((rd_T72 l0 a1).f0)) ∧ w'.cell? ⟨(ad242.add ((a1).toNat * 7)).block, (ad242.add ((a1).toNat * 7)).off + 1, none⟩ = some (.int .i64 ((rd_T72 l0 a1).f1.f0)) ∧ w'.cell? ⟨(ad242.add ((a1).toNat * 7)).block, (ad242.add ((a1).toNat * 7)).off + 2, none⟩ = some (.int .i64 ((rd_T72 l0 a1).f1.f1)) ∧ w'.cell? ⟨(ad242.add ((a1).toNat * 7)).block, (ad242.add ((a1).toNat * 7)).off + 3, none⟩ = some (.int .i64 ((rd_T72 l0 a1).f1.f2)) ∧ w'.cell? ⟨(ad242.add ((a1).toNat * 7)).block, (ad242.add ((a1).toNat * 7)).off + 4, none⟩ = some (.int .i64 ((rd_T72 l0 a1).f1.f3)) ∧ w'.cell? ⟨(ad242.add ((a1).toNat * 7)).block, (ad242.add ((a1).toNat * 7)).off + 5, none⟩ = some (.int .i64 ((rd_T72 l0 a1).f1.f4)) ∧ w'.cell? ⟨(ad242.add ((a1).toNat * 7)).block, (ad242.add ((a1).toNat * 7)).off + 6, none⟩ = some (.int .i64 ((rd_T72 l0 a1).f1.f5))) ∧ (Kd.R (Kd.int .i64) 3 w' w.heap.size (fun k_ => some k_ ≠ (s_.1 : Value).ownBlock) (.slice Ao20 t234.length co20) t234) ∧ (Kd.R k49 49 w' w.heap.size (fun k_ => some k_ ≠ (s_.2.1 : Value).ownBlock) (.slice Ao23 t237.length co23) t237) ∧ (Kd.R (Kd.int .i64) 3 w' w.heap.size (fun k_ => some k_ ≠ (.slice Ao20 t234.length co20 : Value).ownBlock) s_.1 t243) ∧ (Kd.R k49 49 w' w.heap.size (fun k_ => some k_ ≠ (.slice Ao23 t237.length co23 : Value).ownBlock) s_.2.1 t246) ∧ (w'.heap[gb227]? = some (.cells #[.bool false, .int .i64 0] 33 (0, 0))) ∧ (w'.heap[gb241]? = some (.cells #[.slice Ao20 t234.length co20, .slice Ao23 t237.length co23] 31 (0, 0))) ∧ (w'.heap[s_.2.2]? = some (.cells #[.slice none 0 0, .slice none 0 0] 31 (0, 0))) ∧ (w.heap.size ≤ s_.2.2) ∧ (w.heap.size ≤ s_.2.2) ∧ (gb227 ≠ s_.2.2) ∧ (s_.2.2 ≠ gb227) ∧ (gb241 ≠ s_.2.2) ∧ (s_.2.2 ≠ gb241) ∧ (Below w.heap.size w w')) ?_ ?_
        rotate_left
        · intro hJ6_11
          refine join_ (σ := Value × Value × Nat) 4 tb4 (fun s_ => [(37, .tuple #[.agg #[s_.1, s_.2.1], .agg #[.bool t249, .int .i64 t250], .bool t251]), (9, .pointer (some ⟨s_.2.2, 0, none⟩)), (30, .tuple #[.agg #[s_.1, s_.2.1], .agg #[.bool t249, .int .i64 t250], .bool t251]), (38, .agg #[s_.1, s_.2.1]), (39, .agg #[.bool t249, .int .i64 t250]), (40, .bool t251)]) (fun s_ w' => (w'.cell? ⟨gb241, 0, none⟩ = some (.slice Ao20 t234.length co20) ∧ w'.cell? ⟨gb241, 1, none⟩ = some (.slice Ao23 t237.length co23) ∧ w'.cell? (ad242.add ((a1).toNat * 7)) = some (.int .i64 ((rd_T72 l0 a1).f0)) ∧ w'.cell? ⟨(ad242.add ((a1).toNat * 7)).block, (ad242.add ((a1).toNat * 7)).off + 1, none⟩ = some (.int .i64 ((rd_T72 l0 a1).f1.f0)) ∧ w'.cell? ⟨(ad242.add ((a1).toNat * 7)).block, (ad242.add ((a1).toNat * 7)).off + 2, none⟩ = some (.int .i64 ((rd_T72 l0 a1).f1.f1)) ∧ w'.cell? ⟨(ad242.add ((a1).toNat * 7)).block, (ad242.add ((a1).toNat * 7)).off + 3, none⟩ = some (.int .i64 ((rd_T72 l0 a1).f1.f2)) ∧ w'.cell? ⟨(ad242.add ((a1).toNat * 7)).block, (ad242.add ((a1).toNat * 7)).off + 4, none⟩ = some (.int .i64 ((rd_T72 l0 a1).f1.f3)) ∧ w'.cell? ⟨(ad242.add ((a1).toNat * 7)).block, (ad242.add ((a1).toNat * 7)).off + 5, none⟩ = some (.int .i64 ((rd_T72 l0 a1).f1.f4)) ∧ w'.cell? ⟨(ad242.add ((a1).toNat * 7)).block, (ad242.add ((a1).toNat * 7)).off + 6, none⟩ = some (.int .i64 ((rd_T72 l0 a1).f1.f5))) ∧ (Kd.R (Kd.int .i64) 3 w' w.heap.size (fun k_ => some k_ ≠ (s_.1 : Value).ownBlock) (.slice Ao20 t234.length co20) t234) ∧ (Kd.R k49 49 w' w.heap.size (fun k_ => some k_ ≠ (s_.2.1 : Value).ownBlock) (.slice Ao23 t237.length co23) t237) ∧ (Kd.R (Kd.int .i64) 3 w' w.heap.size (fun k_ => some k_ ≠ (.slice Ao20 t234.length co20 : Value).ownBlock) s_.1 t243) ∧ (Kd.R k49 49 w' w.heap.size (fun k_ => some k_ ≠ (.slice Ao23 t237.length co23 : Value).ownBlock) s_.2.1 t246) ∧ (w'.heap[gb227]? = some (.cells #[.bool false, .int .i64 0] 33 (0, 0))) ∧ (w'.heap[gb241]? = some (.cells #[.slice Ao20 t234.length co20, .slice Ao23 t237.length co23] 31 (0, 0))) ∧ (w'.heap[s_.2.2]? = some (.cells #[.bool false, .int .i64 0] 33 (0, 0))) ∧ (w.heap.size ≤ s_.2.2) ∧ (w.heap.size ≤ s_.2.2) ∧ (gb227 ≠ s_.2.2) ∧ (s_.2.2 ≠ gb227) ∧ (gb241 ≠ s_.2.2) ∧ (s_.2.2 ≠ gb241) ∧ (Below w.heap.size w w')) ?_ ?_
          rotate_left
          · intro hJ6_12
            refine join_ (σ := Nat × Nat) 8 tb2 (fun s_ => [(8, .pointer (some ⟨s_.1, 0, none⟩)), (9, .pointer (some ⟨s_.2, 0, none⟩))]) (fun s_ w' => (w'.cell? ⟨gb241, 0, none⟩ = some (.slice Ao20 t234.length co20) ∧ w'.cell? ⟨gb241, 1, none⟩ = some (.slice Ao23 t237.length co23) ∧ w'.cell? (ad242.add ((a1).toNat * 7)) = some (.int .i64 ((rd_T72 l0 a1).f0)) ∧ w'.cell? ⟨(ad242.add ((a1).toNat * 7)).block, (ad242.add ((a1).toNat * 7)).off + 1, none⟩ = some (.int .i64 ((rd_T72 l0 a1).f1.f0)) ∧ w'.cell? ⟨(ad242.add ((a1).toNat * 7)).block, (ad242.add ((a1).toNat * 7)).off + 2, none⟩ = some (.int .i64 ((rd_T72 l0 a1).f1.f1)) ∧ w'.cell? ⟨(ad242.add ((a1).toNat * 7)).block, (ad242.add ((a1).toNat * 7)).off + 3, none⟩ = some (.int .i64 ((rd_T72 l0 a1).f1.f2)) ∧ w'.cell? ⟨(ad242.add ((a1).toNat * 7)).block, (ad242.add ((a1).toNat * 7)).off + 4, none⟩ = some (.int .i64 ((rd_T72 l0 a1).f1.f3)) ∧ w'.cell? ⟨(ad242.add ((a1).toNat * 7)).block, (ad242.add ((a1).toNat * 7)).off + 5, none⟩ = some (.int .i64 ((rd_T72 l0 a1).f1.f4)) ∧ w'.cell? ⟨(ad242.add ((a1).toNat * 7)).block, (ad242.add ((a1).toNat * 7)).off + 6, none⟩ = some (.int .i64 ((rd_T72 l0 a1).f1.f5))) ∧ (Kd.R (Kd.int .i64) 3 w' w.heap.size (fun _ => True) (.slice Ao20 t234.length co20) t234) ∧ (Kd.R k49 49 w' w.heap.size (fun _ => True) (.slice Ao23 t237.length co23) t237) ∧ (w'.heap[gb227]? = some (.cells #[.bool false, .int .i64 0] 33 (0, 0))) ∧ (w'.heap[gb241]? = some (.cells #[.slice Ao20 t234.length co20, .slice Ao23 t237.length co23] 31 (0, 0))) ∧ (w'.heap[s_.1]? = some (.cells #[.slice none 0 0, .slice none 0 0] 31 (0, 0))) ∧ (w'.heap[s_.2]? = some (.cells #[.bool false, .int .i64 0] 33 (0, 0))) ∧ (w.heap.size ≤ s_.1) ∧ (w.heap.size ≤ s_.1) ∧ (gb227 ≠ s_.1) ∧ (s_.1 ≠ gb227) ∧ (gb241 ≠ s_.1) ∧ (s_.1 ≠ gb241) ∧ (s_.2 ≠ s_.1) ∧ (s_.1 ≠ s_.2) ∧ (w.heap.size ≤ s_.2) ∧ (w.heap.size ≤ s_.2) ∧ (gb227 ≠ s_.2) ∧ (s_.2 ≠ gb227) ∧ (gb241 ≠ s_.2) ∧ (s_.2 ≠ gb241) ∧ (Below w.heap.size w w')) ?_ ?_
            rotate_left
            · intro hJ11_12
              refine join_ (σ := Value × Value) 5 tb8 (fun s_ => [(37, .tuple #[.agg #[s_.1, s_.2], .agg #[.bool t249, .int .i64 t250], .bool t251]), (30, .tuple #[.agg #[s_.1, s_.2], .agg #[.bool t249, .int .i64 t250], .bool t251]), (38, .agg #[s_.1, s_.2]), (39, .agg #[.bool t249, .int .i64 t250]), (40, .bool t251)]) (fun s_ w' => (w'.cell? ⟨gb241, 0, none⟩ = some (.slice Ao20 t234.length co20) ∧ w'.cell? ⟨gb241, 1, none⟩ = some (.slice Ao23 t237.length co23) ∧ w'.cell? (ad242.add ((a1).toNat * 7)) = some (.int .i64 ((rd_T72 l0 a1).f0)) ∧ w'.cell? ⟨(ad242.add ((a1).toNat * 7)).block, (ad242.add ((a1).toNat * 7)).off + 1, none⟩ = some (.int .i64 ((rd_T72 l0 a1).f1.f0)) ∧ w'.cell? ⟨(ad242.add ((a1).toNat * 7)).block, (ad242.add ((a1).toNat * 7)).off + 2, none⟩ = some (.int .i64 ((rd_T72 l0 a1).f1.f1)) ∧ w'.cell? ⟨(ad242.add ((a1).toNat * 7)).block, (ad242.add ((a1).toNat * 7)).off + 3, none⟩ = some (.int .i64 ((rd_T72 l0 a1).f1.f2)) ∧ w'.cell? ⟨(ad242.add ((a1).toNat * 7)).block, (ad242.add ((a1).toNat * 7)).off + 4, none⟩ = some (.int .i64 ((rd_T72 l0 a1).f1.f3)) ∧ w'.cell? ⟨(ad242.add ((a1).toNat * 7)).block, (ad242.add ((a1).toNat * 7)).off + 5, none⟩ = some (.int .i64 ((rd_T72 l0 a1).f1.f4)) ∧ w'.cell? ⟨(ad242.add ((a1).toNat * 7)).block, (ad242.add ((a1).toNat * 7)).off + 6, none⟩ = some (.int .i64 ((rd_T72 l0 a1).f1.f5))) ∧ (Kd.R (Kd.int .i64) 3 w' w.heap.size (fun k_ => some k_ ≠ (s_.1 : Value).ownBlock) (.slice Ao20 t234.length co20) t234) ∧ (Kd.R k49 49 w' w.heap.size (fun k_ => some k_ ≠ (s_.2 : Value).ownBlock) (.slice Ao23 t237.length co23) t237) ∧ (Kd.R (Kd.int .i64) 3 w' w.heap.size (fun k_ => some k_ ≠ (.slice Ao20 t234.length co20 : Value).ownBlock) s_.1 t243) ∧ (Kd.R k49 49 w' w.heap.size (fun k_ => some k_ ≠ (.slice Ao23 t237.length co23 : Value).ownBlock) s_.2 t246) ∧ (w'.heap[gb227]? = some (.cells #[.bool false, .int .i64 0] 33 (0, 0))) ∧ (w'.heap[gb241]? = some (.cells #[.slice Ao20 t234.length co20, .slice Ao23 t237.length co23] 31 (0, 0))) ∧ (Below w.heap.size w w')) ?_ ?_
              rotate_left
              · intro hJ6
                refine join_ (σ := Nat) 9 tb6 (fun s_ => [(8, .pointer (some ⟨s_, 0, none⟩))]) (fun s_ w' => (w'.cell? ⟨gb241, 0, none⟩ = some (.slice Ao20 t234.length co20) ∧ w'.cell? ⟨gb241, 1, none⟩ = some (.slice Ao23 t237.length co23) ∧ w'.cell? (ad242.add ((a1).toNat * 7)) = some (.int .i64 ((rd_T72 l0 a1).f0)) ∧ w'.cell? ⟨(ad242.add ((a1).toNat * 7)).block, (ad242.add ((a1).toNat * 7)).off + 1, none⟩ = some (.int .i64 ((rd_T72 l0 a1).f1.f0)) ∧ w'.cell? ⟨(ad242.add ((a1).toNat * 7)).block, (ad242.add ((a1).toNat * 7)).off + 2, none⟩ = some (.int .i64 ((rd_T72 l0 a1).f1.f1)) ∧ w'.cell? ⟨(ad242.add ((a1).toNat * 7)).block, (ad242.add ((a1).toNat * 7)).off + 3, none⟩ = some (.int .i64 ((rd_T72 l0 a1).f1.f2)) ∧ w'.cell? ⟨(ad242.add ((a1).toNat * 7)).block, (ad242.add ((a1).toNat * 7)).off + 4, none⟩ = some (.int .i64 ((rd_T72 l0 a1).f1.f3)) ∧ w'.cell? ⟨(ad242.add ((a1).toNat * 7)).block, (ad242.add ((a1).toNat * 7)).off + 5, none⟩ = some (.int .i64 ((rd_T72 l0 a1).f1.f4)) ∧ w'.cell? ⟨(ad242.add ((a1).toNat * 7)).block, (ad242.add ((a1).toNat * 7)).off + 6, none⟩ = some (.int .i64 ((rd_T72 l0 a1).f1.f5))) ∧ (Kd.R (Kd.int .i64) 3 w' w.heap.size (fun _ => True) (.slice Ao20 t234.length co20) t234) ∧ (Kd.R k49 49 w' w.heap.size (fun _ => True) (.slice Ao23 t237.length co23) t237) ∧ (w'.heap[gb227]? = some (.cells #[.bool false, .int .i64 0] 33 (0, 0))) ∧ (w'.heap[gb241]? = some (.cells #[.slice Ao20 t234.length co20, .slice Ao23 t237.length co23] 31 (0, 0))) ∧ (w'.heap[s_]? = some (.cells #[.slice none 0 0, .slice none 0 0] 31 (0, 0))) ∧ (w.heap.size ≤ s_) ∧ (w.heap.size ≤ s_) ∧ (gb227 ≠ s_) ∧ (s_ ≠ gb227) ∧ (gb241 ≠ s_) ∧ (s_ ≠ gb241) ∧ (Below w.heap.size w w')) ?_ ?_
                rotate_left
                · intro hJ11
                  refine join_ (σ := Nat) 9 tb7 (fun s_ => [(9, .pointer (some ⟨s_, 0, none⟩))]) (fun s_ w' => (w'.cell? ⟨gb241, 0, none⟩ = some (.slice Ao20 t234.length co20) ∧ w'.cell? ⟨gb241, 1, none⟩ = some (.slice Ao23 t237.length co23) ∧ w'.cell? (ad242.add ((a1).toNat * 7)) = some (.int .i64 ((rd_T72 l0 a1).f0)) ∧ w'.cell? ⟨(ad242.add ((a1).toNat * 7)).block, (ad242.add ((a1).toNat * 7)).off + 1, none⟩ = some (.int .i64 ((rd_T72 l0 a1).f1.f0)) ∧ w'.cell? ⟨(ad242.add ((a1).toNat * 7)).block, (ad242.add ((a1).toNat * 7)).off + 2, none⟩ = some (.int .i64 ((rd_T72 l0 a1).f1.f1)) ∧ w'.cell? ⟨(ad242.add ((a1).toNat * 7)).block, (ad242.add ((a1).toNat * 7)).off + 3, none⟩ = some (.int .i64 ((rd_T72 l0 a1).f1.f2)) ∧ w'.cell? ⟨(ad242.add ((a1).toNat * 7)).block, (ad242.add ((a1).toNat * 7)).off + 4, none⟩ = some (.int .i64 ((rd_T72 l0 a1).f1.f3)) ∧ w'.cell? ⟨(ad242.add ((a1).toNat * 7)).block, (ad242.add ((a1).toNat * 7)).off + 5, none⟩ = some (.int .i64 ((rd_T72 l0 a1).f1.f4)) ∧ w'.cell? ⟨(ad242.add ((a1).toNat * 7)).block, (ad242.add ((a1).toNat * 7)).off + 6, none⟩ = some (.int .i64 ((rd_T72 l0 a1).f1.f5))) ∧ (Kd.R (Kd.int .i64) 3 w' w.heap.size (fun _ => True) (.slice Ao20 t234.length co20) t234) ∧ (Kd.R k49 49 w' w.heap.size (fun _ => True) (.slice Ao23 t237.length co23) t237) ∧ (w'.heap[gb227]? = some (.cells #[.bool false, .int .i64 0] 33 (0, 0))) ∧ (w'.heap[gb241]? = some (.cells #[.slice Ao20 t234.length co20, .slice Ao23 t237.length co23] 31 (0, 0))) ∧ (w'.heap[s_]? = some (.cells #[.bool false, .int .i64 0] 33 (0, 0))) ∧ (w.heap.size ≤ s_) ∧ (w.heap.size ≤ s_) ∧ (gb227 ≠ s_) ∧ (s_ ≠ gb227) ∧ (gb241 ≠ s_) ∧ (s_ ≠ gb241) ∧ (Below w.heap.size w w')) ?_ ?_
                  rotate_left
                  · intro hJ12
                    refine three_ (i := 6) (j := 11) (k := 12) (Ni := some 37) (Nj := some 8) (Nk := some 9) tb22 tb6 tb7 rfl rfl rfl rfl rfl rfl (three_of HT_.out (by kernel_rfl)) (by decide) (by decide) (by decide) (fun K hK => ?_) (fun K hK => ?_) (fun K hK => ?_)
                    · skip
                      refine goesT Try.func12 #[.agg #[.slice Ao20 t234.length co20, .slice Ao23 t237.length co23], .agg #[.int .i64 ((rd_T72 l0 a1).f1.f0), .int .i64 ((rd_T72 l0 a1).f1.f1), .int .i64 ((rd_T72 l0 a1).f1.f2), .int .i64 ((rd_T72 l0 a1).f1.f3), .int .i64 ((rd_T72 l0 a1).f1.f4), .int .i64 ((rd_T72 l0 a1).f1.f5)]] ?_
                      with_reducible refine (impl_ApplyOp.calls kj2 _ _ t234 _ _ t237 ((rd_T72 l0 a1).f1.f0) ((rd_T72 l0 a1).f1.f1) ((rd_T72 l0 a1).f1.f2) ((rd_T72 l0 a1).f1.f3) ((rd_T72 l0 a1).f1.f4) ((rd_T72 l0 a1).f1.f5) t243 t246 t249 t250 t251 _ ?side1 ?side2 ?side3 ?side4 A16.out).mono ?_
                      (case side1 => exact cq70)
                      (case side2 => exact (Kd.uK HO236.out).2.1)
                      (case side3 => exact cq71)
                      (case side4 => exact (Kd.uK HO239.out).2.1)
                      rintro e w26 ⟨v244, v247, rfl, ho0, ho1, hb⟩
                      refine ⟨_, rfl, ?_⟩
                      have HO245 := Aside0.mk (Kd.uS (Kd.vT ho0 (Kd.R_lt (uZ HO236.out))) (uO vA))
                      have HO248 := Aside0.mk (Kd.uS (Kd.vT ho1 (Kd.R_lt (uZ HO239.out))) (uO vA))
                      replace HO236 := Aside0.mk (Kd.vI (uZ HO236.out) (Kd.vS ho0) hb)
                      replace HO239 := Aside0.mk (Kd.vI (uZ HO239.out) (Kd.vS ho1) hb)
                      replace BK227 := uP BK227 hb
                      replace BK241 := uP BK241 hb
                      replace HB := vB HB hb
                      (try clear hb)
                      (try clear ho0)
                      (try clear ho1)
                      refine hK.out _ _ ⟨(uB BK241.out 0).trans rfl, (uB BK241.out 1).trans rfl, ((HB.out.cell (yG w _ hw242_0)).trans hw242_0), ((HB.out.cell (yG w _ hw242_1)).trans hw242_1), ((HB.out.cell (yG w _ hw242_2)).trans hw242_2), ((HB.out.cell (yG w _ hw242_3)).trans hw242_3), ((HB.out.cell (yG w _ hw242_4)).trans hw242_4), ((HB.out.cell (yG w _ hw242_5)).trans hw242_5), ((HB.out.cell (yG w _ hw242_6)).trans hw242_6)⟩ (fun hHeld => ?_)
                      clear hK K
                      refine vL (some 37) ?_
                      refine vR 7 (some 30) tb23 ?_
                      refine vR 8 (some 38) tb27 ?_
                      refine vR 9 (some 39) tb31 ?_
                      refine vR 10 (some 40) tb8 ?_
                      exact vE cq6 (hJ6 (v244, v247) _ ⟨hHeld, cq107, cq108, cq109, cq110, (rSB BK227.out), (rSB BK241.out), vA⟩)
                    · skip
                      refine box_step ?hg (N := 8) ?hd (cs := #[.slice none 0 0, .slice none 0 0]) (t := 31) ?hr ?_; (case hd => rfl); (case hg => rfl); (case hr => first | (go_simp; done) | (go_simp; rfl))
                      intro gb252 hg w26 hbox hb
                      have BK252 := Aside0.mk (hbox)
                      have GW252 := tGe HB hg
                      have GE252 := tGe HB hg
                      have NB227_252 := tNl BK227 hg
                      have NB252_227 := tNg BK227 hg
                      have NB241_252 := tNl BK241 hg
                      have NB252_241 := tNg BK241 hg
                      replace HO236 := Kd.tR HO236 hb
                      replace HO239 := Kd.tR HO239 hb
                      replace BK227 := uP BK227 hb
                      replace BK241 := uP BK241 hb
                      replace HB := vB HB hb
                      clear hb hbox hg
                      refine hK.out _ _ ⟨(uB BK241.out 0).trans rfl, (uB BK241.out 1).trans rfl, ((HB.out.cell (yG w _ hw242_0)).trans hw242_0), ((HB.out.cell (yG w _ hw242_1)).trans hw242_1), ((HB.out.cell (yG w _ hw242_2)).trans hw242_2), ((HB.out.cell (yG w _ hw242_3)).trans hw242_3), ((HB.out.cell (yG w _ hw242_4)).trans hw242_4), ((HB.out.cell (yG w _ hw242_5)).trans hw242_5), ((HB.out.cell (yG w _ hw242_6)).trans hw242_6)⟩ (fun hHeld => ?_)
                      clear hK K
                      refine vL (some 8) ?_
                      exact vE cq6 (hJ11 (gb252) _ ⟨hHeld, (uZ HO236.out), (uZ HO239.out), (rSB BK227.out), (rSB BK241.out), (rSB BK252.out), GW252.out, GE252.out, NB227_252.out, NB252_227.out, NB241_252.out, NB252_241.out, vA⟩)
                    skip
                    refine box_step ?hg (N := 9) ?hd (cs := #[.bool false, .int .i64 0]) (t := 33) ?hr ?_; (case hd => rfl); (case hg => rfl); (case hr => first | (go_simp; done) | (go_simp; rfl))
                    intro gb253 hg w26 hbox hb
                    have BK253 := Aside0.mk (hbox)
                    have GW253 := tGe HB hg
                    have GE253 := tGe HB hg
                    have NB227_253 := tNl BK227 hg
                    have NB253_227 := tNg BK227 hg
                    have NB241_253 := tNl BK241 hg
                    have NB253_241 := tNg BK241 hg
                    replace HO236 := Kd.tR HO236 hb
                    replace HO239 := Kd.tR HO239 hb
                    replace BK227 := uP BK227 hb
                    replace BK241 := uP BK241 hb
                    replace HB := vB HB hb
                    clear hb hbox hg
                    refine hK.out _ _ ⟨(uB BK241.out 0).trans rfl, (uB BK241.out 1).trans rfl, ((HB.out.cell (yG w _ hw242_0)).trans hw242_0), ((HB.out.cell (yG w _ hw242_1)).trans hw242_1), ((HB.out.cell (yG w _ hw242_2)).trans hw242_2), ((HB.out.cell (yG w _ hw242_3)).trans hw242_3), ((HB.out.cell (yG w _ hw242_4)).trans hw242_4), ((HB.out.cell (yG w _ hw242_5)).trans hw242_5), ((HB.out.cell (yG w _ hw242_6)).trans hw242_6)⟩ (fun hHeld => ?_)
                    clear hK K
                    refine vL (some 9) ?_
                    exact vE cq6 (hJ12 (gb253) _ ⟨hHeld, (uZ HO236.out), (uZ HO239.out), (rSB BK227.out), (rSB BK241.out), (rSB BK253.out), GW253.out, GE253.out, NB227_253.out, NB253_227.out, NB241_253.out, NB253_241.out, vA⟩)
                  skip
                  rintro gb253 w27 ⟨hS_, h0_, h1_, h2_, h3_, h4_, h5_, h6_, h7_, h8_, h9_, h10_, h11_⟩
                  have n0_ : Aside0 (Kd.R (Kd.int .i64) 3 w27 w.heap.size (fun _ => True) (.slice Ao20 t234.length co20) t234) := ⟨h0_⟩
                  have n1_ : Aside0 (Kd.R k49 49 w27 w.heap.size (fun _ => True) (.slice Ao23 t237.length co23) t237) := ⟨h1_⟩
                  have n2_ : Aside0 (w27.heap[gb227]? = some (.cells #[.bool false, .int .i64 0] 33 (0, 0))) := ⟨h2_⟩
                  have n3_ : Aside0 (w27.heap[gb241]? = some (.cells #[.slice Ao20 t234.length co20, .slice Ao23 t237.length co23] 31 (0, 0))) := ⟨h3_⟩
                  have n4_ : Aside0 (w27.heap[gb253]? = some (.cells #[.bool false, .int .i64 0] 33 (0, 0))) := ⟨h4_⟩
                  have n5_ : Aside0 (w.heap.size ≤ gb253) := ⟨h5_⟩
                  have n6_ : Aside0 (w.heap.size ≤ gb253) := ⟨h6_⟩
                  have n7_ : Aside0 (gb227 ≠ gb253) := ⟨h7_⟩
                  have n8_ : Aside0 (gb253 ≠ gb227) := ⟨h8_⟩
                  have n9_ : Aside0 (gb241 ≠ gb253) := ⟨h9_⟩
                  have n10_ : Aside0 (gb253 ≠ gb241) := ⟨h10_⟩
                  have n11_ : Aside0 (Below w.heap.size w w27) := ⟨h11_⟩
                  clear HO236
                  clear HO239
                  clear BK227
                  clear BK241
                  clear HB
                  clear h0_ h1_ h2_ h3_ h4_ h5_ h6_ h7_ h8_ h9_ h10_ h11_
                  have HO236 := n0_
                  have HO239 := n1_
                  have BK227 := n2_
                  have BK241 := n3_
                  have BK253 := n4_
                  have GW253 := n5_
                  have GE253 := n6_
                  have NB227_253 := n7_
                  have NB253_227 := n8_
                  have NB241_253 := n9_
                  have NB253_241 := n10_
                  have HB := n11_
                  clear n0_ n1_ n2_ n3_ n4_ n5_ n6_ n7_ n8_ n9_ n10_ n11_
                  have hHeld : w27.cell? ⟨gb241, 0, none⟩ = some (.slice Ao20 t234.length co20) ∧ w27.cell? ⟨gb241, 1, none⟩ = some (.slice Ao23 t237.length co23) ∧ w27.cell? (ad242.add ((a1).toNat * 7)) = some (.int .i64 ((rd_T72 l0 a1).f0)) ∧ w27.cell? ⟨(ad242.add ((a1).toNat * 7)).block, (ad242.add ((a1).toNat * 7)).off + 1, none⟩ = some (.int .i64 ((rd_T72 l0 a1).f1.f0)) ∧ w27.cell? ⟨(ad242.add ((a1).toNat * 7)).block, (ad242.add ((a1).toNat * 7)).off + 2, none⟩ = some (.int .i64 ((rd_T72 l0 a1).f1.f1)) ∧ w27.cell? ⟨(ad242.add ((a1).toNat * 7)).block, (ad242.add ((a1).toNat * 7)).off + 3, none⟩ = some (.int .i64 ((rd_T72 l0 a1).f1.f2)) ∧ w27.cell? ⟨(ad242.add ((a1).toNat * 7)).block, (ad242.add ((a1).toNat * 7)).off + 4, none⟩ = some (.int .i64 ((rd_T72 l0 a1).f1.f3)) ∧ w27.cell? ⟨(ad242.add ((a1).toNat * 7)).block, (ad242.add ((a1).toNat * 7)).off + 5, none⟩ = some (.int .i64 ((rd_T72 l0 a1).f1.f4)) ∧ w27.cell? ⟨(ad242.add ((a1).toNat * 7)).block, (ad242.add ((a1).toNat * 7)).off + 6, none⟩ = some (.int .i64 ((rd_T72 l0 a1).f1.f5)) := hS_
                  refine vE (a' := ?_) ?_ ?_
                  rotate_left
                  · simp only [putAll, Act.put, yA, yB, yC]
                    rfl
                  refine two_ (i := 6) (j := 11) (Ni := some 37) (Nj := some 8) tb24 tb2 rfl rfl rfl rfl (two_of HT_.out (by kernel_rfl)) (by decide) (by decide) (fun K hK => ?_) (fun K hK => ?_)
                  · skip
                    refine goesT Try.func12 #[.agg #[.slice Ao20 t234.length co20, .slice Ao23 t237.length co23], .agg #[.int .i64 ((rd_T72 l0 a1).f1.f0), .int .i64 ((rd_T72 l0 a1).f1.f1), .int .i64 ((rd_T72 l0 a1).f1.f2), .int .i64 ((rd_T72 l0 a1).f1.f3), .int .i64 ((rd_T72 l0 a1).f1.f4), .int .i64 ((rd_T72 l0 a1).f1.f5)]] ?_
                    with_reducible refine (impl_ApplyOp.calls kj2 _ _ t234 _ _ t237 ((rd_T72 l0 a1).f1.f0) ((rd_T72 l0 a1).f1.f1) ((rd_T72 l0 a1).f1.f2) ((rd_T72 l0 a1).f1.f3) ((rd_T72 l0 a1).f1.f4) ((rd_T72 l0 a1).f1.f5) t243 t246 t249 t250 t251 _ ?side1 ?side2 ?side3 ?side4 A16.out).mono ?_
                    (case side1 => exact cq70)
                    (case side2 => exact (Kd.uK HO236.out).2.1)
                    (case side3 => exact cq71)
                    (case side4 => exact (Kd.uK HO239.out).2.1)
                    rintro e w28 ⟨v244, v247, rfl, ho0, ho1, hb⟩
                    refine ⟨_, rfl, ?_⟩
                    have HO245 := Aside0.mk (Kd.uS (Kd.vT ho0 (Kd.R_lt (uZ HO236.out))) (uO vA))
                    have HO248 := Aside0.mk (Kd.uS (Kd.vT ho1 (Kd.R_lt (uZ HO239.out))) (uO vA))
                    replace HO236 := Aside0.mk (Kd.vI (uZ HO236.out) (Kd.vS ho0) hb)
                    replace HO239 := Aside0.mk (Kd.vI (uZ HO239.out) (Kd.vS ho1) hb)
                    replace BK227 := uP BK227 hb
                    replace BK241 := uP BK241 hb
                    replace BK253 := uP BK253 hb
                    replace HB := vB HB hb
                    (try clear hb)
                    (try clear ho0)
                    (try clear ho1)
                    refine hK.out _ _ ⟨(uB BK241.out 0).trans rfl, (uB BK241.out 1).trans rfl, ((HB.out.cell (yG w _ hw242_0)).trans hw242_0), ((HB.out.cell (yG w _ hw242_1)).trans hw242_1), ((HB.out.cell (yG w _ hw242_2)).trans hw242_2), ((HB.out.cell (yG w _ hw242_3)).trans hw242_3), ((HB.out.cell (yG w _ hw242_4)).trans hw242_4), ((HB.out.cell (yG w _ hw242_5)).trans hw242_5), ((HB.out.cell (yG w _ hw242_6)).trans hw242_6)⟩ (fun hHeld => ?_)
                    clear hK K
                    refine vL (some 37) ?_
                    refine vR 7 (some 30) tb28 ?_
                    refine vR 8 (some 38) tb32 ?_
                    refine vR 9 (some 39) tb36 ?_
                    refine vR 10 (some 40) tb4 ?_
                    exact vE cq6 (hJ6_12 (v244, v247, gb253) _ ⟨hHeld, cq107, cq108, cq109, cq110, (rSB BK227.out), (rSB BK241.out), (rSB BK253.out), GW253.out, GE253.out, NB227_253.out, NB253_227.out, NB241_253.out, NB253_241.out, vA⟩)
                  skip
                  refine box_step ?hg (N := 8) ?hd (cs := #[.slice none 0 0, .slice none 0 0]) (t := 31) ?hr ?_; (case hd => rfl); (case hg => rfl); (case hr => first | (go_simp; done) | (go_simp; rfl))
                  intro gb252 hg w28 hbox hb
                  have BK252 := Aside0.mk (hbox)
                  have GW252 := tGe HB hg
                  have GE252 := tGe HB hg
                  have NB227_252 := tNl BK227 hg
                  have NB252_227 := tNg BK227 hg
                  have NB241_252 := tNl BK241 hg
                  have NB252_241 := tNg BK241 hg
                  have NB253_252 := tNl BK253 hg
                  have NB252_253 := tNg BK253 hg
                  replace HO236 := Kd.tR HO236 hb
                  replace HO239 := Kd.tR HO239 hb
                  replace BK227 := uP BK227 hb
                  replace BK241 := uP BK241 hb
                  replace BK253 := uP BK253 hb
                  replace HB := vB HB hb
                  clear hb hbox hg
                  refine hK.out _ _ ⟨(uB BK241.out 0).trans rfl, (uB BK241.out 1).trans rfl, ((HB.out.cell (yG w _ hw242_0)).trans hw242_0), ((HB.out.cell (yG w _ hw242_1)).trans hw242_1), ((HB.out.cell (yG w _ hw242_2)).trans hw242_2), ((HB.out.cell (yG w _ hw242_3)).trans hw242_3), ((HB.out.cell (yG w _ hw242_4)).trans hw242_4), ((HB.out.cell (yG w _ hw242_5)).trans hw242_5), ((HB.out.cell (yG w _ hw242_6)).trans hw242_6)⟩ (fun hHeld => ?_)
                  clear hK K
                  refine vL (some 8) ?_
                  exact vE cq6 (hJ11_12 (gb252, gb253) _ ⟨hHeld, (uZ HO236.out), (uZ HO239.out), (rSB BK227.out), (rSB BK241.out), (rSB BK252.out), (rSB BK253.out), GW252.out, GE252.out, NB227_252.out, NB252_227.out, NB241_252.out, NB252_241.out, NB253_252.out, NB252_253.out, GW253.out, GE253.out, NB227_253.out, NB253_227.out, NB241_253.out, NB253_241.out, vA⟩)
                skip
                rintro gb252 w27 ⟨hS_, h0_, h1_, h2_, h3_, h4_, h5_, h6_, h7_, h8_, h9_, h10_, h11_⟩
                have n0_ : Aside0 (Kd.R (Kd.int .i64) 3 w27 w.heap.size (fun _ => True) (.slice Ao20 t234.length co20) t234) := ⟨h0_⟩
                have n1_ : Aside0 (Kd.R k49 49 w27 w.heap.size (fun _ => True) (.slice Ao23 t237.length co23) t237) := ⟨h1_⟩
                have n2_ : Aside0 (w27.heap[gb227]? = some (.cells #[.bool false, .int .i64 0] 33 (0, 0))) := ⟨h2_⟩
                have n3_ : Aside0 (w27.heap[gb241]? = some (.cells #[.slice Ao20 t234.length co20, .slice Ao23 t237.length co23] 31 (0, 0))) := ⟨h3_⟩
                have n4_ : Aside0 (w27.heap[gb252]? = some (.cells #[.slice none 0 0, .slice none 0 0] 31 (0, 0))) := ⟨h4_⟩
                have n5_ : Aside0 (w.heap.size ≤ gb252) := ⟨h5_⟩
                have n6_ : Aside0 (w.heap.size ≤ gb252) := ⟨h6_⟩
                have n7_ : Aside0 (gb227 ≠ gb252) := ⟨h7_⟩
                have n8_ : Aside0 (gb252 ≠ gb227) := ⟨h8_⟩
                have n9_ : Aside0 (gb241 ≠ gb252) := ⟨h9_⟩
                have n10_ : Aside0 (gb252 ≠ gb241) := ⟨h10_⟩
                have n11_ : Aside0 (Below w.heap.size w w27) := ⟨h11_⟩
                clear HO236
                clear HO239
                clear BK227
                clear BK241
                clear HB
                clear h0_ h1_ h2_ h3_ h4_ h5_ h6_ h7_ h8_ h9_ h10_ h11_
                have HO236 := n0_
                have HO239 := n1_
                have BK227 := n2_
                have BK241 := n3_
                have BK252 := n4_
                have GW252 := n5_
                have GE252 := n6_
                have NB227_252 := n7_
                have NB252_227 := n8_
                have NB241_252 := n9_
                have NB252_241 := n10_
                have HB := n11_
                clear n0_ n1_ n2_ n3_ n4_ n5_ n6_ n7_ n8_ n9_ n10_ n11_
                have hHeld : w27.cell? ⟨gb241, 0, none⟩ = some (.slice Ao20 t234.length co20) ∧ w27.cell? ⟨gb241, 1, none⟩ = some (.slice Ao23 t237.length co23) ∧ w27.cell? (ad242.add ((a1).toNat * 7)) = some (.int .i64 ((rd_T72 l0 a1).f0)) ∧ w27.cell? ⟨(ad242.add ((a1).toNat * 7)).block, (ad242.add ((a1).toNat * 7)).off + 1, none⟩ = some (.int .i64 ((rd_T72 l0 a1).f1.f0)) ∧ w27.cell? ⟨(ad242.add ((a1).toNat * 7)).block, (ad242.add ((a1).toNat * 7)).off + 2, none⟩ = some (.int .i64 ((rd_T72 l0 a1).f1.f1)) ∧ w27.cell? ⟨(ad242.add ((a1).toNat * 7)).block, (ad242.add ((a1).toNat * 7)).off + 3, none⟩ = some (.int .i64 ((rd_T72 l0 a1).f1.f2)) ∧ w27.cell? ⟨(ad242.add ((a1).toNat * 7)).block, (ad242.add ((a1).toNat * 7)).off + 4, none⟩ = some (.int .i64 ((rd_T72 l0 a1).f1.f3)) ∧ w27.cell? ⟨(ad242.add ((a1).toNat * 7)).block, (ad242.add ((a1).toNat * 7)).off + 5, none⟩ = some (.int .i64 ((rd_T72 l0 a1).f1.f4)) ∧ w27.cell? ⟨(ad242.add ((a1).toNat * 7)).block, (ad242.add ((a1).toNat * 7)).off + 6, none⟩ = some (.int .i64 ((rd_T72 l0 a1).f1.f5)) := hS_
                refine vE (a' := ?_) ?_ ?_
                rotate_left
                · simp only [putAll, Act.put, yA, yB, yC]
                  rfl
                refine two_ (i := 6) (j := 12) (Ni := some 37) (Nj := some 9) tb25 tb2 rfl rfl rfl rfl (two_of HT_.out (by kernel_rfl)) (by decide) (by decide) (fun K hK => ?_) (fun K hK => ?_)
                · skip
                  refine goesT Try.func12 #[.agg #[.slice Ao20 t234.length co20, .slice Ao23 t237.length co23], .agg #[.int .i64 ((rd_T72 l0 a1).f1.f0), .int .i64 ((rd_T72 l0 a1).f1.f1), .int .i64 ((rd_T72 l0 a1).f1.f2), .int .i64 ((rd_T72 l0 a1).f1.f3), .int .i64 ((rd_T72 l0 a1).f1.f4), .int .i64 ((rd_T72 l0 a1).f1.f5)]] ?_
                  with_reducible refine (impl_ApplyOp.calls kj2 _ _ t234 _ _ t237 ((rd_T72 l0 a1).f1.f0) ((rd_T72 l0 a1).f1.f1) ((rd_T72 l0 a1).f1.f2) ((rd_T72 l0 a1).f1.f3) ((rd_T72 l0 a1).f1.f4) ((rd_T72 l0 a1).f1.f5) t243 t246 t249 t250 t251 _ ?side1 ?side2 ?side3 ?side4 A16.out).mono ?_
                  (case side1 => exact cq70)
                  (case side2 => exact (Kd.uK HO236.out).2.1)
                  (case side3 => exact cq71)
                  (case side4 => exact (Kd.uK HO239.out).2.1)
                  rintro e w28 ⟨v244, v247, rfl, ho0, ho1, hb⟩
                  refine ⟨_, rfl, ?_⟩
                  have HO245 := Aside0.mk (Kd.uS (Kd.vT ho0 (Kd.R_lt (uZ HO236.out))) (uO vA))
                  have HO248 := Aside0.mk (Kd.uS (Kd.vT ho1 (Kd.R_lt (uZ HO239.out))) (uO vA))
                  replace HO236 := Aside0.mk (Kd.vI (uZ HO236.out) (Kd.vS ho0) hb)
                  replace HO239 := Aside0.mk (Kd.vI (uZ HO239.out) (Kd.vS ho1) hb)
                  replace BK227 := uP BK227 hb
                  replace BK241 := uP BK241 hb
                  replace BK252 := uP BK252 hb
                  replace HB := vB HB hb
                  (try clear hb)
                  (try clear ho0)
                  (try clear ho1)
                  refine hK.out _ _ ⟨(uB BK241.out 0).trans rfl, (uB BK241.out 1).trans rfl, ((HB.out.cell (yG w _ hw242_0)).trans hw242_0), ((HB.out.cell (yG w _ hw242_1)).trans hw242_1), ((HB.out.cell (yG w _ hw242_2)).trans hw242_2), ((HB.out.cell (yG w _ hw242_3)).trans hw242_3), ((HB.out.cell (yG w _ hw242_4)).trans hw242_4), ((HB.out.cell (yG w _ hw242_5)).trans hw242_5), ((HB.out.cell (yG w _ hw242_6)).trans hw242_6)⟩ (fun hHeld => ?_)
                  clear hK K
                  refine vL (some 37) ?_
                  refine vR 7 (some 30) tb29 ?_
                  refine vR 8 (some 38) tb33 ?_
                  refine vR 9 (some 39) tb37 ?_
                  refine vR 10 (some 40) tb3 ?_
                  exact vE cq6 (hJ6_11 (v244, v247, gb252) _ ⟨hHeld, cq107, cq108, cq109, cq110, (rSB BK227.out), (rSB BK241.out), (rSB BK252.out), GW252.out, GE252.out, NB227_252.out, NB252_227.out, NB241_252.out, NB252_241.out, vA⟩)
                skip
                refine box_step ?hg (N := 9) ?hd (cs := #[.bool false, .int .i64 0]) (t := 33) ?hr ?_; (case hd => rfl); (case hg => rfl); (case hr => first | (go_simp; done) | (go_simp; rfl))
                intro gb253 hg w28 hbox hb
                have BK253 := Aside0.mk (hbox)
                have GW253 := tGe HB hg
                have GE253 := tGe HB hg
                have NB227_253 := tNl BK227 hg
                have NB253_227 := tNg BK227 hg
                have NB241_253 := tNl BK241 hg
                have NB253_241 := tNg BK241 hg
                have NB252_253 := tNl BK252 hg
                have NB253_252 := tNg BK252 hg
                replace HO236 := Kd.tR HO236 hb
                replace HO239 := Kd.tR HO239 hb
                replace BK227 := uP BK227 hb
                replace BK241 := uP BK241 hb
                replace BK252 := uP BK252 hb
                replace HB := vB HB hb
                clear hb hbox hg
                refine hK.out _ _ ⟨(uB BK241.out 0).trans rfl, (uB BK241.out 1).trans rfl, ((HB.out.cell (yG w _ hw242_0)).trans hw242_0), ((HB.out.cell (yG w _ hw242_1)).trans hw242_1), ((HB.out.cell (yG w _ hw242_2)).trans hw242_2), ((HB.out.cell (yG w _ hw242_3)).trans hw242_3), ((HB.out.cell (yG w _ hw242_4)).trans hw242_4), ((HB.out.cell (yG w _ hw242_5)).trans hw242_5), ((HB.out.cell (yG w _ hw242_6)).trans hw242_6)⟩ (fun hHeld => ?_)
                clear hK K
                refine vL (some 9) ?_
                exact vE cq6 (hJ11_12 (gb252, gb253) _ ⟨hHeld, (uZ HO236.out), (uZ HO239.out), (rSB BK227.out), (rSB BK241.out), (rSB BK252.out), (rSB BK253.out), GW252.out, GE252.out, NB227_252.out, NB252_227.out, NB241_252.out, NB252_241.out, NB253_252.out, NB252_253.out, GW253.out, GE253.out, NB227_253.out, NB253_227.out, NB241_253.out, NB253_241.out, vA⟩)
              skip
              rintro ⟨v244, v247⟩ w27 ⟨hS_, h0_, h1_, h2_, h3_, h4_, h5_, h6_⟩
              have n0_ : Aside0 (Kd.R (Kd.int .i64) 3 w27 w.heap.size (fun k_ => some k_ ≠ (v244 : Value).ownBlock) (.slice Ao20 t234.length co20) t234) := ⟨h0_⟩
              have n1_ : Aside0 (Kd.R k49 49 w27 w.heap.size (fun k_ => some k_ ≠ (v247 : Value).ownBlock) (.slice Ao23 t237.length co23) t237) := ⟨h1_⟩
              have n2_ : Aside0 (Kd.R (Kd.int .i64) 3 w27 w.heap.size (fun k_ => some k_ ≠ (.slice Ao20 t234.length co20 : Value).ownBlock) v244 t243) := ⟨h2_⟩
              have n3_ : Aside0 (Kd.R k49 49 w27 w.heap.size (fun k_ => some k_ ≠ (.slice Ao23 t237.length co23 : Value).ownBlock) v247 t246) := ⟨h3_⟩
              have n4_ : Aside0 (w27.heap[gb227]? = some (.cells #[.bool false, .int .i64 0] 33 (0, 0))) := ⟨h4_⟩
              have n5_ : Aside0 (w27.heap[gb241]? = some (.cells #[.slice Ao20 t234.length co20, .slice Ao23 t237.length co23] 31 (0, 0))) := ⟨h5_⟩
              have n6_ : Aside0 (Below w.heap.size w w27) := ⟨h6_⟩
              clear HO236
              clear HO239
              clear BK227
              clear BK241
              clear HB
              clear h0_ h1_ h2_ h3_ h4_ h5_ h6_
              have HO236 := n0_
              have HO239 := n1_
              have HO245 := n2_
              have HO248 := n3_
              have BK227 := n4_
              have BK241 := n5_
              have HB := n6_
              clear n0_ n1_ n2_ n3_ n4_ n5_ n6_
              have hHeld : w27.cell? ⟨gb241, 0, none⟩ = some (.slice Ao20 t234.length co20) ∧ w27.cell? ⟨gb241, 1, none⟩ = some (.slice Ao23 t237.length co23) ∧ w27.cell? (ad242.add ((a1).toNat * 7)) = some (.int .i64 ((rd_T72 l0 a1).f0)) ∧ w27.cell? ⟨(ad242.add ((a1).toNat * 7)).block, (ad242.add ((a1).toNat * 7)).off + 1, none⟩ = some (.int .i64 ((rd_T72 l0 a1).f1.f0)) ∧ w27.cell? ⟨(ad242.add ((a1).toNat * 7)).block, (ad242.add ((a1).toNat * 7)).off + 2, none⟩ = some (.int .i64 ((rd_T72 l0 a1).f1.f1)) ∧ w27.cell? ⟨(ad242.add ((a1).toNat * 7)).block, (ad242.add ((a1).toNat * 7)).off + 3, none⟩ = some (.int .i64 ((rd_T72 l0 a1).f1.f2)) ∧ w27.cell? ⟨(ad242.add ((a1).toNat * 7)).block, (ad242.add ((a1).toNat * 7)).off + 4, none⟩ = some (.int .i64 ((rd_T72 l0 a1).f1.f3)) ∧ w27.cell? ⟨(ad242.add ((a1).toNat * 7)).block, (ad242.add ((a1).toNat * 7)).off + 5, none⟩ = some (.int .i64 ((rd_T72 l0 a1).f1.f4)) ∧ w27.cell? ⟨(ad242.add ((a1).toNat * 7)).block, (ad242.add ((a1).toNat * 7)).off + 6, none⟩ = some (.int .i64 ((rd_T72 l0 a1).f1.f5)) := hS_
              refine vE (a' := ?_) ?_ ?_
              rotate_left
              · simp only [putAll, Act.put, yA, yB, yC]
                rfl
              refine two_ (i := 11) (j := 12) (Ni := some 8) (Nj := some 9) tb3 tb4 rfl rfl rfl rfl (two_of HT_.out (by kernel_rfl)) (by decide) (by decide) (fun K hK => ?_) (fun K hK => ?_)
              · skip
                refine box_step ?hg (N := 8) ?hd (cs := #[.slice none 0 0, .slice none 0 0]) (t := 31) ?hr ?_; (case hd => rfl); (case hg => rfl); (case hr => first | (go_simp; done) | (go_simp; rfl))
                intro gb252 hg w28 hbox hb
                have BK252 := Aside0.mk (hbox)
                have GW252 := tGe HB hg
                have GE252 := tGe HB hg
                have NB227_252 := tNl BK227 hg
                have NB252_227 := tNg BK227 hg
                have NB241_252 := tNl BK241 hg
                have NB252_241 := tNg BK241 hg
                replace HO236 := Kd.tR HO236 hb
                replace HO239 := Kd.tR HO239 hb
                replace HO245 := Kd.tR HO245 hb
                replace HO248 := Kd.tR HO248 hb
                replace BK227 := uP BK227 hb
                replace BK241 := uP BK241 hb
                replace HB := vB HB hb
                clear hb hbox hg
                refine hK.out _ _ ⟨(uB BK241.out 0).trans rfl, (uB BK241.out 1).trans rfl, ((HB.out.cell (yG w _ hw242_0)).trans hw242_0), ((HB.out.cell (yG w _ hw242_1)).trans hw242_1), ((HB.out.cell (yG w _ hw242_2)).trans hw242_2), ((HB.out.cell (yG w _ hw242_3)).trans hw242_3), ((HB.out.cell (yG w _ hw242_4)).trans hw242_4), ((HB.out.cell (yG w _ hw242_5)).trans hw242_5), ((HB.out.cell (yG w _ hw242_6)).trans hw242_6)⟩ (fun hHeld => ?_)
                clear hK K
                refine vL (some 8) ?_
                exact vE cq6 (hJ6_11 (v244, v247, gb252) _ ⟨hHeld, (uZ HO236.out), (uZ HO239.out), (uZ HO245.out), (uZ HO248.out), (rSB BK227.out), (rSB BK241.out), (rSB BK252.out), GW252.out, GE252.out, NB227_252.out, NB252_227.out, NB241_252.out, NB252_241.out, vA⟩)
              skip
              refine box_step ?hg (N := 9) ?hd (cs := #[.bool false, .int .i64 0]) (t := 33) ?hr ?_; (case hd => rfl); (case hg => rfl); (case hr => first | (go_simp; done) | (go_simp; rfl))
              intro gb253 hg w28 hbox hb
              have BK253 := Aside0.mk (hbox)
              have GW253 := tGe HB hg
              have GE253 := tGe HB hg
              have NB227_253 := tNl BK227 hg
              have NB253_227 := tNg BK227 hg
              have NB241_253 := tNl BK241 hg
              have NB253_241 := tNg BK241 hg
              replace HO236 := Kd.tR HO236 hb
              replace HO239 := Kd.tR HO239 hb
              replace HO245 := Kd.tR HO245 hb
              replace HO248 := Kd.tR HO248 hb
              replace BK227 := uP BK227 hb
              replace BK241 := uP BK241 hb
              replace HB := vB HB hb
              clear hb hbox hg
              refine hK.out _ _ ⟨(uB BK241.out 0).trans rfl, (uB BK241.out 1).trans rfl, ((HB.out.cell (yG w _ hw242_0)).trans hw242_0), ((HB.out.cell (yG w _ hw242_1)).trans hw242_1), ((HB.out.cell (yG w _ hw242_2)).trans hw242_2), ((HB.out.cell (yG w _ hw242_3)).trans hw242_3), ((HB.out.cell (yG w _ hw242_4)).trans hw242_4), ((HB.out.cell (yG w _ hw242_5)).trans hw242_5), ((HB.out.cell (yG w _ hw242_6)).trans hw242_6)⟩ (fun hHeld => ?_)
              clear hK K
              refine vL (some 9) ?_
              exact vE cq6 (hJ6_12 (v244, v247, gb253) _ ⟨hHeld, (uZ HO236.out), (uZ HO239.out), (uZ HO245.out), (uZ HO248.out), (rSB BK227.out), (rSB BK241.out), (rSB BK253.out), GW253.out, GE253.out, NB227_253.out, NB253_227.out, NB241_253.out, NB253_241.out, vA⟩)
            skip
            rintro ⟨gb252, gb253⟩ w28 ⟨hS_, h0_, h1_, h2_, h3_, h4_, h5_, h6_, h7_, h8_, h9_, h10_, h11_, h12_, h13_, h14_, h15_, h16_, h17_, h18_, h19_, h20_⟩
            have n0_ : Aside0 (Kd.R (Kd.int .i64) 3 w28 w.heap.size (fun _ => True) (.slice Ao20 t234.length co20) t234) := ⟨h0_⟩
            have n1_ : Aside0 (Kd.R k49 49 w28 w.heap.size (fun _ => True) (.slice Ao23 t237.length co23) t237) := ⟨h1_⟩
            have n2_ : Aside0 (w28.heap[gb227]? = some (.cells #[.bool false, .int .i64 0] 33 (0, 0))) := ⟨h2_⟩
            have n3_ : Aside0 (w28.heap[gb241]? = some (.cells #[.slice Ao20 t234.length co20, .slice Ao23 t237.length co23] 31 (0, 0))) := ⟨h3_⟩
            have n4_ : Aside0 (w28.heap[gb252]? = some (.cells #[.slice none 0 0, .slice none 0 0] 31 (0, 0))) := ⟨h4_⟩
            have n5_ : Aside0 (w28.heap[gb253]? = some (.cells #[.bool false, .int .i64 0] 33 (0, 0))) := ⟨h5_⟩
            have n6_ : Aside0 (w.heap.size ≤ gb252) := ⟨h6_⟩
            have n7_ : Aside0 (w.heap.size ≤ gb252) := ⟨h7_⟩
            have n8_ : Aside0 (gb227 ≠ gb252) := ⟨h8_⟩
            have n9_ : Aside0 (gb252 ≠ gb227) := ⟨h9_⟩
            have n10_ : Aside0 (gb241 ≠ gb252) := ⟨h10_⟩
            have n11_ : Aside0 (gb252 ≠ gb241) := ⟨h11_⟩
            have n12_ : Aside0 (gb253 ≠ gb252) := ⟨h12_⟩
            have n13_ : Aside0 (gb252 ≠ gb253) := ⟨h13_⟩
            have n14_ : Aside0 (w.heap.size ≤ gb253) := ⟨h14_⟩
            have n15_ : Aside0 (w.heap.size ≤ gb253) := ⟨h15_⟩
            have n16_ : Aside0 (gb227 ≠ gb253) := ⟨h16_⟩
            have n17_ : Aside0 (gb253 ≠ gb227) := ⟨h17_⟩
            have n18_ : Aside0 (gb241 ≠ gb253) := ⟨h18_⟩
            have n19_ : Aside0 (gb253 ≠ gb241) := ⟨h19_⟩
            have n20_ : Aside0 (Below w.heap.size w w28) := ⟨h20_⟩
            clear HO236
            clear HO239
            clear BK227
            clear BK241
            clear HB
            clear h0_ h1_ h2_ h3_ h4_ h5_ h6_ h7_ h8_ h9_ h10_ h11_ h12_ h13_ h14_ h15_ h16_ h17_ h18_ h19_ h20_
            have HO236 := n0_
            have HO239 := n1_
            have BK227 := n2_
            have BK241 := n3_
            have BK252 := n4_
            have BK253 := n5_
            have GW252 := n6_
            have GE252 := n7_
            have NB227_252 := n8_
            have NB252_227 := n9_
            have NB241_252 := n10_
            have NB252_241 := n11_
            have NB253_252 := n12_
            have NB252_253 := n13_
            have GW253 := n14_
            have GE253 := n15_
            have NB227_253 := n16_
            have NB253_227 := n17_
            have NB241_253 := n18_
            have NB253_241 := n19_
            have HB := n20_
            clear n0_ n1_ n2_ n3_ n4_ n5_ n6_ n7_ n8_ n9_ n10_ n11_ n12_ n13_ n14_ n15_ n16_ n17_ n18_ n19_ n20_
            have hHeld : w28.cell? ⟨gb241, 0, none⟩ = some (.slice Ao20 t234.length co20) ∧ w28.cell? ⟨gb241, 1, none⟩ = some (.slice Ao23 t237.length co23) ∧ w28.cell? (ad242.add ((a1).toNat * 7)) = some (.int .i64 ((rd_T72 l0 a1).f0)) ∧ w28.cell? ⟨(ad242.add ((a1).toNat * 7)).block, (ad242.add ((a1).toNat * 7)).off + 1, none⟩ = some (.int .i64 ((rd_T72 l0 a1).f1.f0)) ∧ w28.cell? ⟨(ad242.add ((a1).toNat * 7)).block, (ad242.add ((a1).toNat * 7)).off + 2, none⟩ = some (.int .i64 ((rd_T72 l0 a1).f1.f1)) ∧ w28.cell? ⟨(ad242.add ((a1).toNat * 7)).block, (ad242.add ((a1).toNat * 7)).off + 3, none⟩ = some (.int .i64 ((rd_T72 l0 a1).f1.f2)) ∧ w28.cell? ⟨(ad242.add ((a1).toNat * 7)).block, (ad242.add ((a1).toNat * 7)).off + 4, none⟩ = some (.int .i64 ((rd_T72 l0 a1).f1.f3)) ∧ w28.cell? ⟨(ad242.add ((a1).toNat * 7)).block, (ad242.add ((a1).toNat * 7)).off + 5, none⟩ = some (.int .i64 ((rd_T72 l0 a1).f1.f4)) ∧ w28.cell? ⟨(ad242.add ((a1).toNat * 7)).block, (ad242.add ((a1).toNat * 7)).off + 6, none⟩ = some (.int .i64 ((rd_T72 l0 a1).f1.f5)) := hS_
            refine vE (a' := ?_) ?_ ?_
            rotate_left
            · simp only [putAll, Act.put, yA, yB, yC]
              rfl
            refine oneT 6 (some 37) tb30 (fun K hK => ?_)
            refine goesT Try.func12 #[.agg #[.slice Ao20 t234.length co20, .slice Ao23 t237.length co23], .agg #[.int .i64 ((rd_T72 l0 a1).f1.f0), .int .i64 ((rd_T72 l0 a1).f1.f1), .int .i64 ((rd_T72 l0 a1).f1.f2), .int .i64 ((rd_T72 l0 a1).f1.f3), .int .i64 ((rd_T72 l0 a1).f1.f4), .int .i64 ((rd_T72 l0 a1).f1.f5)]] ?_
            with_reducible refine (impl_ApplyOp.calls kj2 _ _ t234 _ _ t237 ((rd_T72 l0 a1).f1.f0) ((rd_T72 l0 a1).f1.f1) ((rd_T72 l0 a1).f1.f2) ((rd_T72 l0 a1).f1.f3) ((rd_T72 l0 a1).f1.f4) ((rd_T72 l0 a1).f1.f5) t243 t246 t249 t250 t251 _ ?side1 ?side2 ?side3 ?side4 A16.out).mono ?_
            (case side1 => exact cq70)
            (case side2 => exact (Kd.uK HO236.out).2.1)
            (case side3 => exact cq71)
            (case side4 => exact (Kd.uK HO239.out).2.1)
            rintro e w29 ⟨v244, v247, rfl, ho0, ho1, hb⟩
            refine ⟨_, rfl, ?_⟩
            have HO245 := Aside0.mk (Kd.uS (Kd.vT ho0 (Kd.R_lt (uZ HO236.out))) (uO vA))
            have HO248 := Aside0.mk (Kd.uS (Kd.vT ho1 (Kd.R_lt (uZ HO239.out))) (uO vA))
            replace HO236 := Aside0.mk (Kd.vI (uZ HO236.out) (Kd.vS ho0) hb)
            replace HO239 := Aside0.mk (Kd.vI (uZ HO239.out) (Kd.vS ho1) hb)
            replace BK227 := uP BK227 hb
            replace BK241 := uP BK241 hb
            replace BK252 := uP BK252 hb
            replace BK253 := uP BK253 hb
            replace HB := vB HB hb
            (try clear hb)
            (try clear ho0)
            (try clear ho1)
            refine hK.out _ _ ⟨(uB BK241.out 0).trans rfl, (uB BK241.out 1).trans rfl, ((HB.out.cell (yG w _ hw242_0)).trans hw242_0), ((HB.out.cell (yG w _ hw242_1)).trans hw242_1), ((HB.out.cell (yG w _ hw242_2)).trans hw242_2), ((HB.out.cell (yG w _ hw242_3)).trans hw242_3), ((HB.out.cell (yG w _ hw242_4)).trans hw242_4), ((HB.out.cell (yG w _ hw242_5)).trans hw242_5), ((HB.out.cell (yG w _ hw242_6)).trans hw242_6)⟩ (fun hHeld => ?_)
            clear hK K
            refine vL (some 37) ?_
            refine vR 7 (some 30) tb34 ?_
            refine vR 8 (some 38) tb38 ?_
            refine vR 9 (some 39) tb39 ?_
            refine vR 10 (some 40) tb0 ?_
            exact vE cq6 (hJ6_11_12 (v244, v247, gb252, gb253) _ ⟨hHeld, cq107, cq108, cq109, cq110, (rSB BK227.out), (rSB BK241.out), (rSB BK252.out), (rSB BK253.out), GW252.out, GE252.out, NB227_252.out, NB252_227.out, NB241_252.out, NB252_241.out, NB253_252.out, NB252_253.out, GW253.out, GE253.out, NB227_253.out, NB253_227.out, NB241_253.out, NB253_241.out, vA⟩)
          skip
          rintro ⟨v244, v247, gb253⟩ w28 ⟨hS_, h0_, h1_, h2_, h3_, h4_, h5_, h6_, h7_, h8_, h9_, h10_, h11_, h12_, h13_⟩
          have n0_ : Aside0 (Kd.R (Kd.int .i64) 3 w28 w.heap.size (fun k_ => some k_ ≠ (v244 : Value).ownBlock) (.slice Ao20 t234.length co20) t234) := ⟨h0_⟩
          have n1_ : Aside0 (Kd.R k49 49 w28 w.heap.size (fun k_ => some k_ ≠ (v247 : Value).ownBlock) (.slice Ao23 t237.length co23) t237) := ⟨h1_⟩
          have n2_ : Aside0 (Kd.R (Kd.int .i64) 3 w28 w.heap.size (fun k_ => some k_ ≠ (.slice Ao20 t234.length co20 : Value).ownBlock) v244 t243) := ⟨h2_⟩
          have n3_ : Aside0 (Kd.R k49 49 w28 w.heap.size (fun k_ => some k_ ≠ (.slice Ao23 t237.length co23 : Value).ownBlock) v247 t246) := ⟨h3_⟩
          have n4_ : Aside0 (w28.heap[gb227]? = some (.cells #[.bool false, .int .i64 0] 33 (0, 0))) := ⟨h4_⟩
          have n5_ : Aside0 (w28.heap[gb241]? = some (.cells #[.slice Ao20 t234.length co20, .slice Ao23 t237.length co23] 31 (0, 0))) := ⟨h5_⟩
          have n6_ : Aside0 (w28.heap[gb253]? = some (.cells #[.bool false, .int .i64 0] 33 (0, 0))) := ⟨h6_⟩
          have n7_ : Aside0 (w.heap.size ≤ gb253) := ⟨h7_⟩
          have n8_ : Aside0 (w.heap.size ≤ gb253) := ⟨h8_⟩
          have n9_ : Aside0 (gb227 ≠ gb253) := ⟨h9_⟩
          have n10_ : Aside0 (gb253 ≠ gb227) := ⟨h10_⟩
          have n11_ : Aside0 (gb241 ≠ gb253) := ⟨h11_⟩
          have n12_ : Aside0 (gb253 ≠ gb241) := ⟨h12_⟩
          have n13_ : Aside0 (Below w.heap.size w w28) := ⟨h13_⟩
          clear HO236
          clear HO239
          clear BK227
          clear BK241
          clear HB
          clear h0_ h1_ h2_ h3_ h4_ h5_ h6_ h7_ h8_ h9_ h10_ h11_ h12_ h13_
          have HO236 := n0_
          have HO239 := n1_
          have HO245 := n2_
          have HO248 := n3_
          have BK227 := n4_
          have BK241 := n5_
          have BK253 := n6_
          have GW253 := n7_
          have GE253 := n8_
          have NB227_253 := n9_
          have NB253_227 := n10_
          have NB241_253 := n11_
          have NB253_241 := n12_
          have HB := n13_
          clear n0_ n1_ n2_ n3_ n4_ n5_ n6_ n7_ n8_ n9_ n10_ n11_ n12_ n13_
          have hHeld : w28.cell? ⟨gb241, 0, none⟩ = some (.slice Ao20 t234.length co20) ∧ w28.cell? ⟨gb241, 1, none⟩ = some (.slice Ao23 t237.length co23) ∧ w28.cell? (ad242.add ((a1).toNat * 7)) = some (.int .i64 ((rd_T72 l0 a1).f0)) ∧ w28.cell? ⟨(ad242.add ((a1).toNat * 7)).block, (ad242.add ((a1).toNat * 7)).off + 1, none⟩ = some (.int .i64 ((rd_T72 l0 a1).f1.f0)) ∧ w28.cell? ⟨(ad242.add ((a1).toNat * 7)).block, (ad242.add ((a1).toNat * 7)).off + 2, none⟩ = some (.int .i64 ((rd_T72 l0 a1).f1.f1)) ∧ w28.cell? ⟨(ad242.add ((a1).toNat * 7)).block, (ad242.add ((a1).toNat * 7)).off + 3, none⟩ = some (.int .i64 ((rd_T72 l0 a1).f1.f2)) ∧ w28.cell? ⟨(ad242.add ((a1).toNat * 7)).block, (ad242.add ((a1).toNat * 7)).off + 4, none⟩ = some (.int .i64 ((rd_T72 l0 a1).f1.f3)) ∧ w28.cell? ⟨(ad242.add ((a1).toNat * 7)).block, (ad242.add ((a1).toNat * 7)).off + 5, none⟩ = some (.int .i64 ((rd_T72 l0 a1).f1.f4)) ∧ w28.cell? ⟨(ad242.add ((a1).toNat * 7)).block, (ad242.add ((a1).toNat * 7)).off + 6, none⟩ = some (.int .i64 ((rd_T72 l0 a1).f1.f5)) := hS_
          refine vE (a' := ?_) ?_ ?_
          rotate_left
          · simp only [putAll, Act.put, yA, yB, yC]
            rfl
          refine oneT 11 (some 8) tb0 (fun K hK => ?_)
          refine box_step ?hg (N := 8) ?hd (cs := #[.slice none 0 0, .slice none 0 0]) (t := 31) ?hr ?_; (case hd => rfl); (case hg => rfl); (case hr => first | (go_simp; done) | (go_simp; rfl))
          intro gb252 hg w29 hbox hb
          have BK252 := Aside0.mk (hbox)
          have GW252 := tGe HB hg
          have GE252 := tGe HB hg
          have NB227_252 := tNl BK227 hg
          have NB252_227 := tNg BK227 hg
          have NB241_252 := tNl BK241 hg
          have NB252_241 := tNg BK241 hg
          have NB253_252 := tNl BK253 hg
          have NB252_253 := tNg BK253 hg
          replace HO236 := Kd.tR HO236 hb
          replace HO239 := Kd.tR HO239 hb
          replace HO245 := Kd.tR HO245 hb
          replace HO248 := Kd.tR HO248 hb
          replace BK227 := uP BK227 hb
          replace BK241 := uP BK241 hb
          replace BK253 := uP BK253 hb
          replace HB := vB HB hb
          clear hb hbox hg
          refine hK.out _ _ ⟨(uB BK241.out 0).trans rfl, (uB BK241.out 1).trans rfl, ((HB.out.cell (yG w _ hw242_0)).trans hw242_0), ((HB.out.cell (yG w _ hw242_1)).trans hw242_1), ((HB.out.cell (yG w _ hw242_2)).trans hw242_2), ((HB.out.cell (yG w _ hw242_3)).trans hw242_3), ((HB.out.cell (yG w _ hw242_4)).trans hw242_4), ((HB.out.cell (yG w _ hw242_5)).trans hw242_5), ((HB.out.cell (yG w _ hw242_6)).trans hw242_6)⟩ (fun hHeld => ?_)
          clear hK K
          refine vL (some 8) ?_
          exact vE cq6 (hJ6_11_12 (v244, v247, gb252, gb253) _ ⟨hHeld, (uZ HO236.out), (uZ HO239.out), (uZ HO245.out), (uZ HO248.out), (rSB BK227.out), (rSB BK241.out), (rSB BK252.out), (rSB BK253.out), GW252.out, GE252.out, NB227_252.out, NB252_227.out, NB241_252.out, NB252_241.out, NB253_252.out, NB252_253.out, GW253.out, GE253.out, NB227_253.out, NB253_227.out, NB241_253.out, NB253_241.out, vA⟩)
        skip
        rintro ⟨v244, v247, gb252⟩ w28 ⟨hS_, h0_, h1_, h2_, h3_, h4_, h5_, h6_, h7_, h8_, h9_, h10_, h11_, h12_, h13_⟩
        have n0_ : Aside0 (Kd.R (Kd.int .i64) 3 w28 w.heap.size (fun k_ => some k_ ≠ (v244 : Value).ownBlock) (.slice Ao20 t234.length co20) t234) := ⟨h0_⟩
        have n1_ : Aside0 (Kd.R k49 49 w28 w.heap.size (fun k_ => some k_ ≠ (v247 : Value).ownBlock) (.slice Ao23 t237.length co23) t237) := ⟨h1_⟩
        have n2_ : Aside0 (Kd.R (Kd.int .i64) 3 w28 w.heap.size (fun k_ => some k_ ≠ (.slice Ao20 t234.length co20 : Value).ownBlock) v244 t243) := ⟨h2_⟩
        have n3_ : Aside0 (Kd.R k49 49 w28 w.heap.size (fun k_ => some k_ ≠ (.slice Ao23 t237.length co23 : Value).ownBlock) v247 t246) := ⟨h3_⟩
        have n4_ : Aside0 (w28.heap[gb227]? = some (.cells #[.bool false, .int .i64 0] 33 (0, 0))) := ⟨h4_⟩
        have n5_ : Aside0 (w28.heap[gb241]? = some (.cells #[.slice Ao20 t234.length co20, .slice Ao23 t237.length co23] 31 (0, 0))) := ⟨h5_⟩
        have n6_ : Aside0 (w28.heap[gb252]? = some (.cells #[.slice none 0 0, .slice none 0 0] 31 (0, 0))) := ⟨h6_⟩
        have n7_ : Aside0 (w.heap.size ≤ gb252) := ⟨h7_⟩
        have n8_ : Aside0 (w.heap.size ≤ gb252) := ⟨h8_⟩
        have n9_ : Aside0 (gb227 ≠ gb252) := ⟨h9_⟩
        have n10_ : Aside0 (gb252 ≠ gb227) := ⟨h10_⟩
        have n11_ : Aside0 (gb241 ≠ gb252) := ⟨h11_⟩
        have n12_ : Aside0 (gb252 ≠ gb241) := ⟨h12_⟩
        have n13_ : Aside0 (Below w.heap.size w w28) := ⟨h13_⟩
        clear HO236
        clear HO239
        clear BK227
        clear BK241
        clear HB
        clear h0_ h1_ h2_ h3_ h4_ h5_ h6_ h7_ h8_ h9_ h10_ h11_ h12_ h13_
        have HO236 := n0_
        have HO239 := n1_
        have HO245 := n2_
        have HO248 := n3_
        have BK227 := n4_
        have BK241 := n5_
        have BK252 := n6_
        have GW252 := n7_
        have GE252 := n8_
        have NB227_252 := n9_
        have NB252_227 := n10_
        have NB241_252 := n11_
        have NB252_241 := n12_
        have HB := n13_
        clear n0_ n1_ n2_ n3_ n4_ n5_ n6_ n7_ n8_ n9_ n10_ n11_ n12_ n13_
        have hHeld : w28.cell? ⟨gb241, 0, none⟩ = some (.slice Ao20 t234.length co20) ∧ w28.cell? ⟨gb241, 1, none⟩ = some (.slice Ao23 t237.length co23) ∧ w28.cell? (ad242.add ((a1).toNat * 7)) = some (.int .i64 ((rd_T72 l0 a1).f0)) ∧ w28.cell? ⟨(ad242.add ((a1).toNat * 7)).block, (ad242.add ((a1).toNat * 7)).off + 1, none⟩ = some (.int .i64 ((rd_T72 l0 a1).f1.f0)) ∧ w28.cell? ⟨(ad242.add ((a1).toNat * 7)).block, (ad242.add ((a1).toNat * 7)).off + 2, none⟩ = some (.int .i64 ((rd_T72 l0 a1).f1.f1)) ∧ w28.cell? ⟨(ad242.add ((a1).toNat * 7)).block, (ad242.add ((a1).toNat * 7)).off + 3, none⟩ = some (.int .i64 ((rd_T72 l0 a1).f1.f2)) ∧ w28.cell? ⟨(ad242.add ((a1).toNat * 7)).block, (ad242.add ((a1).toNat * 7)).off + 4, none⟩ = some (.int .i64 ((rd_T72 l0 a1).f1.f3)) ∧ w28.cell? ⟨(ad242.add ((a1).toNat * 7)).block, (ad242.add ((a1).toNat * 7)).off + 5, none⟩ = some (.int .i64 ((rd_T72 l0 a1).f1.f4)) ∧ w28.cell? ⟨(ad242.add ((a1).toNat * 7)).block, (ad242.add ((a1).toNat * 7)).off + 6, none⟩ = some (.int .i64 ((rd_T72 l0 a1).f1.f5)) := hS_
        refine vE (a' := ?_) ?_ ?_
        rotate_left
        · simp only [putAll, Act.put, yA, yB, yC]
          rfl
        refine oneT 12 (some 9) tb0 (fun K hK => ?_)
        refine box_step ?hg (N := 9) ?hd (cs := #[.bool false, .int .i64 0]) (t := 33) ?hr ?_; (case hd => rfl); (case hg => rfl); (case hr => first | (go_simp; done) | (go_simp; rfl))
        intro gb253 hg w29 hbox hb
        have BK253 := Aside0.mk (hbox)
        have GW253 := tGe HB hg
        have GE253 := tGe HB hg
        have NB227_253 := tNl BK227 hg
        have NB253_227 := tNg BK227 hg
        have NB241_253 := tNl BK241 hg
        have NB253_241 := tNg BK241 hg
        have NB252_253 := tNl BK252 hg
        have NB253_252 := tNg BK252 hg
        replace HO236 := Kd.tR HO236 hb
        replace HO239 := Kd.tR HO239 hb
        replace HO245 := Kd.tR HO245 hb
        replace HO248 := Kd.tR HO248 hb
        replace BK227 := uP BK227 hb
        replace BK241 := uP BK241 hb
        replace BK252 := uP BK252 hb
        replace HB := vB HB hb
        clear hb hbox hg
        refine hK.out _ _ ⟨(uB BK241.out 0).trans rfl, (uB BK241.out 1).trans rfl, ((HB.out.cell (yG w _ hw242_0)).trans hw242_0), ((HB.out.cell (yG w _ hw242_1)).trans hw242_1), ((HB.out.cell (yG w _ hw242_2)).trans hw242_2), ((HB.out.cell (yG w _ hw242_3)).trans hw242_3), ((HB.out.cell (yG w _ hw242_4)).trans hw242_4), ((HB.out.cell (yG w _ hw242_5)).trans hw242_5), ((HB.out.cell (yG w _ hw242_6)).trans hw242_6)⟩ (fun hHeld => ?_)
        clear hK K
        refine vL (some 9) ?_
        exact vE cq6 (hJ6_11_12 (v244, v247, gb252, gb253) _ ⟨hHeld, (uZ HO236.out), (uZ HO239.out), (uZ HO245.out), (uZ HO248.out), (rSB BK227.out), (rSB BK241.out), (rSB BK252.out), (rSB BK253.out), GW252.out, GE252.out, NB227_252.out, NB252_227.out, NB241_252.out, NB252_241.out, NB253_252.out, NB252_253.out, GW253.out, GE253.out, NB227_253.out, NB253_227.out, NB241_253.out, NB253_241.out, vA⟩)
      rintro ⟨v244, v247, gb252, gb253⟩ w29 ⟨hS_, h0_, h1_, h2_, h3_, h4_, h5_, h6_, h7_, h8_, h9_, h10_, h11_, h12_, h13_, h14_, h15_, h16_, h17_, h18_, h19_, h20_, h21_, h22_⟩
      have n0_ : Aside0 (Kd.R (Kd.int .i64) 3 w29 w.heap.size (fun k_ => some k_ ≠ (v244 : Value).ownBlock) (.slice Ao20 t234.length co20) t234) := ⟨h0_⟩
      have n1_ : Aside0 (Kd.R k49 49 w29 w.heap.size (fun k_ => some k_ ≠ (v247 : Value).ownBlock) (.slice Ao23 t237.length co23) t237) := ⟨h1_⟩
      have n2_ : Aside0 (Kd.R (Kd.int .i64) 3 w29 w.heap.size (fun k_ => some k_ ≠ (.slice Ao20 t234.length co20 : Value).ownBlock) v244 t243) := ⟨h2_⟩
      have n3_ : Aside0 (Kd.R k49 49 w29 w.heap.size (fun k_ => some k_ ≠ (.slice Ao23 t237.length co23 : Value).ownBlock) v247 t246) := ⟨h3_⟩
      have n4_ : Aside0 (w29.heap[gb227]? = some (.cells #[.bool false, .int .i64 0] 33 (0, 0))) := ⟨h4_⟩
      have n5_ : Aside0 (w29.heap[gb241]? = some (.cells #[.slice Ao20 t234.length co20, .slice Ao23 t237.length co23] 31 (0, 0))) := ⟨h5_⟩
      have n6_ : Aside0 (w29.heap[gb252]? = some (.cells #[.slice none 0 0, .slice none 0 0] 31 (0, 0))) := ⟨h6_⟩
      have n7_ : Aside0 (w29.heap[gb253]? = some (.cells #[.bool false, .int .i64 0] 33 (0, 0))) := ⟨h7_⟩
      have n8_ : Aside0 (w.heap.size ≤ gb252) := ⟨h8_⟩
      have n9_ : Aside0 (w.heap.size ≤ gb252) := ⟨h9_⟩
      have n10_ : Aside0 (gb227 ≠ gb252) := ⟨h10_⟩
      have n11_ : Aside0 (gb252 ≠ gb227) := ⟨h11_⟩
      have n12_ : Aside0 (gb241 ≠ gb252) := ⟨h12_⟩
      have n13_ : Aside0 (gb252 ≠ gb241) := ⟨h13_⟩
      have n14_ : Aside0 (gb253 ≠ gb252) := ⟨h14_⟩
      have n15_ : Aside0 (gb252 ≠ gb253) := ⟨h15_⟩
      have n16_ : Aside0 (w.heap.size ≤ gb253) := ⟨h16_⟩
      have n17_ : Aside0 (w.heap.size ≤ gb253) := ⟨h17_⟩
      have n18_ : Aside0 (gb227 ≠ gb253) := ⟨h18_⟩
      have n19_ : Aside0 (gb253 ≠ gb227) := ⟨h19_⟩
      have n20_ : Aside0 (gb241 ≠ gb253) := ⟨h20_⟩
      have n21_ : Aside0 (gb253 ≠ gb241) := ⟨h21_⟩
      have n22_ : Aside0 (Below w.heap.size w w29) := ⟨h22_⟩
      clear HO236
      clear HO239
      clear BK227
      clear BK241
      clear HB
      clear h0_ h1_ h2_ h3_ h4_ h5_ h6_ h7_ h8_ h9_ h10_ h11_ h12_ h13_ h14_ h15_ h16_ h17_ h18_ h19_ h20_ h21_ h22_
      have HO236 := n0_
      have HO239 := n1_
      have HO245 := n2_
      have HO248 := n3_
      have BK227 := n4_
      have BK241 := n5_
      have BK252 := n6_
      have BK253 := n7_
      have GW252 := n8_
      have GE252 := n9_
      have NB227_252 := n10_
      have NB252_227 := n11_
      have NB241_252 := n12_
      have NB252_241 := n13_
      have NB253_252 := n14_
      have NB252_253 := n15_
      have GW253 := n16_
      have GE253 := n17_
      have NB227_253 := n18_
      have NB253_227 := n19_
      have NB241_253 := n20_
      have NB253_241 := n21_
      have HB := n22_
      clear n0_ n1_ n2_ n3_ n4_ n5_ n6_ n7_ n8_ n9_ n10_ n11_ n12_ n13_ n14_ n15_ n16_ n17_ n18_ n19_ n20_ n21_ n22_
      have hHeld : w29.cell? ⟨gb241, 0, none⟩ = some (.slice Ao20 t234.length co20) ∧ w29.cell? ⟨gb241, 1, none⟩ = some (.slice Ao23 t237.length co23) ∧ w29.cell? (ad242.add ((a1).toNat * 7)) = some (.int .i64 ((rd_T72 l0 a1).f0)) ∧ w29.cell? ⟨(ad242.add ((a1).toNat * 7)).block, (ad242.add ((a1).toNat * 7)).off + 1, none⟩ = some (.int .i64 ((rd_T72 l0 a1).f1.f0)) ∧ w29.cell? ⟨(ad242.add ((a1).toNat * 7)).block, (ad242.add ((a1).toNat * 7)).off + 2, none⟩ = some (.int .i64 ((rd_T72 l0 a1).f1.f1)) ∧ w29.cell? ⟨(ad242.add ((a1).toNat * 7)).block, (ad242.add ((a1).toNat * 7)).off + 3, none⟩ = some (.int .i64 ((rd_T72 l0 a1).f1.f2)) ∧ w29.cell? ⟨(ad242.add ((a1).toNat * 7)).block, (ad242.add ((a1).toNat * 7)).off + 4, none⟩ = some (.int .i64 ((rd_T72 l0 a1).f1.f3)) ∧ w29.cell? ⟨(ad242.add ((a1).toNat * 7)).block, (ad242.add ((a1).toNat * 7)).off + 5, none⟩ = some (.int .i64 ((rd_T72 l0 a1).f1.f4)) ∧ w29.cell? ⟨(ad242.add ((a1).toNat * 7)).block, (ad242.add ((a1).toNat * 7)).off + 6, none⟩ = some (.int .i64 ((rd_T72 l0 a1).f1.f5)) := hS_
      obtain ⟨Ao30, co30, eo30⟩ := Kd.uY HO245.out
      (first | subst eo30 | (injection eo30 with f1_ f2_ f3_; have f4_ := f1_.symm; have f5_ := f3_.symm; clear f1_ f2_ f3_; subst f4_; subst f5_))
      obtain ⟨Ao32, co32, eo32⟩ := Kd.uY HO248.out
      (first | subst eo32 | (injection eo32 with f1_ f2_ f3_; have f4_ := f1_.symm; have f5_ := f3_.symm; clear f1_ f2_ f3_; subst f4_; subst f5_))
      refine vE (a' := ?_) ?_ ?_
      rotate_left
      · simp only [putAll, Act.put, yA, yB, yC]
        rfl
      refine one_ (i := 13) (N := none) tb41 rfl rfl (one_of HT_.out (by kernel_rfl)) (by decide) (fun K hK => ?_)
      have hs31 : w29.cell? ⟨gb252, 0, none⟩ = some (.slice none 0 0) := (uB BK252.out 0).trans rfl
      have hfs31 := vK BK252.out 0
      have hns31_0 := NB227_252.out
      have hns31_1 := NB241_252.out
      have hns31_3 := NB253_252.out
      have hms31_0 := NB252_227.out
      have hms31_1 := NB252_241.out
      have hms31_3 := NB252_253.out
      have hs33 : w29.cell? ⟨gb252, 1, none⟩ = some (.slice none 0 0) := (uB BK252.out 1).trans rfl
      have hfs33 := vK BK252.out 1
      have hns33_0 := NB227_252.out
      have hns33_1 := NB241_252.out
      have hns33_3 := NB253_252.out
      have hms33_0 := NB252_227.out
      have hms33_1 := NB252_241.out
      have hms33_3 := NB252_253.out
      refine skip_ (w1 := ?_) (by rfl) rfl ?_ ?_
      rotate_left
      · go_simp
        rfl
      refine hK.out _ _ ⟨((uU (p := ⟨gb252, _, none⟩) NB241_252.out _).trans (((uU (p := ⟨gb252, _, none⟩) NB241_252.out _).trans (hHeld.1)))), ((uU (p := ⟨gb252, _, none⟩) NB241_252.out _).trans (((uU (p := ⟨gb252, _, none⟩) NB241_252.out _).trans (hHeld.2.1)))), ((uU (p := ⟨gb252, _, none⟩) (by first | exact Nat.ne_of_lt (Nat.lt_of_lt_of_le (by have := yG _ _ hw242_0; first | rwa [uA] at this | exact this) GW252.out) | (rw [uA]; exact Nat.ne_of_lt (Nat.lt_of_lt_of_le (by have := yG _ _ hw242_0; first | rwa [uA] at this | exact this) GW252.out)) | (show (Addr.add _ _).block ≠ _; rw [uA]; exact Nat.ne_of_lt (Nat.lt_of_lt_of_le (by have := yG _ _ hw242_0; first | rwa [uA] at this | exact this) GW252.out)) | (dsimp only; exact Nat.ne_of_lt (Nat.lt_of_lt_of_le (by have := yG _ _ hw242_0; first | rwa [uA] at this | exact this) GW252.out))) _).trans (((uU (p := ⟨gb252, _, none⟩) (by first | exact Nat.ne_of_lt (Nat.lt_of_lt_of_le (by have := yG _ _ hw242_0; first | rwa [uA] at this | exact this) GW252.out) | (rw [uA]; exact Nat.ne_of_lt (Nat.lt_of_lt_of_le (by have := yG _ _ hw242_0; first | rwa [uA] at this | exact this) GW252.out)) | (show (Addr.add _ _).block ≠ _; rw [uA]; exact Nat.ne_of_lt (Nat.lt_of_lt_of_le (by have := yG _ _ hw242_0; first | rwa [uA] at this | exact this) GW252.out)) | (dsimp only; exact Nat.ne_of_lt (Nat.lt_of_lt_of_le (by have := yG _ _ hw242_0; first | rwa [uA] at this | exact this) GW252.out))) _).trans (hHeld.2.2.1)))), ((uU (p := ⟨gb252, _, none⟩) (by first | exact Nat.ne_of_lt (Nat.lt_of_lt_of_le (by have := yG _ _ hw242_1; first | rwa [uA] at this | exact this) GW252.out) | (rw [uA]; exact Nat.ne_of_lt (Nat.lt_of_lt_of_le (by have := yG _ _ hw242_1; first | rwa [uA] at this | exact this) GW252.out)) | (show (Addr.add _ _).block ≠ _; rw [uA]; exact Nat.ne_of_lt (Nat.lt_of_lt_of_le (by have := yG _ _ hw242_1; first | rwa [uA] at this | exact this) GW252.out)) | (dsimp only; exact Nat.ne_of_lt (Nat.lt_of_lt_of_le (by have := yG _ _ hw242_1; first | rwa [uA] at this | exact this) GW252.out))) _).trans (((uU (p := ⟨gb252, _, none⟩) (by first | exact Nat.ne_of_lt (Nat.lt_of_lt_of_le (by have := yG _ _ hw242_1; first | rwa [uA] at this | exact this) GW252.out) | (rw [uA]; exact Nat.ne_of_lt (Nat.lt_of_lt_of_le (by have := yG _ _ hw242_1; first | rwa [uA] at this | exact this) GW252.out)) | (show (Addr.add _ _).block ≠ _; rw [uA]; exact Nat.ne_of_lt (Nat.lt_of_lt_of_le (by have := yG _ _ hw242_1; first | rwa [uA] at this | exact this) GW252.out)) | (dsimp only; exact Nat.ne_of_lt (Nat.lt_of_lt_of_le (by have := yG _ _ hw242_1; first | rwa [uA] at this | exact this) GW252.out))) _).trans (hHeld.2.2.2.1)))), ((uU (p := ⟨gb252, _, none⟩) (by first | exact Nat.ne_of_lt (Nat.lt_of_lt_of_le (by have := yG _ _ hw242_2; first | rwa [uA] at this | exact this) GW252.out) | (rw [uA]; exact Nat.ne_of_lt (Nat.lt_of_lt_of_le (by have := yG _ _ hw242_2; first | rwa [uA] at this | exact this) GW252.out)) | (show (Addr.add _ _).block ≠ _; rw [uA]; exact Nat.ne_of_lt (Nat.lt_of_lt_of_le (by have := yG _ _ hw242_2; first | rwa [uA] at this | exact this) GW252.out)) | (dsimp only; exact Nat.ne_of_lt (Nat.lt_of_lt_of_le (by have := yG _ _ hw242_2; first | rwa [uA] at this | exact this) GW252.out))) _).trans (((uU (p := ⟨gb252, _, none⟩) (by first | exact Nat.ne_of_lt (Nat.lt_of_lt_of_le (by have := yG _ _ hw242_2; first | rwa [uA] at this | exact this) GW252.out) | (rw [uA]; exact Nat.ne_of_lt (Nat.lt_of_lt_of_le (by have := yG _ _ hw242_2; first | rwa [uA] at this | exact this) GW252.out)) | (show (Addr.add _ _).block ≠ _; rw [uA]; exact Nat.ne_of_lt (Nat.lt_of_lt_of_le (by have := yG _ _ hw242_2; first | rwa [uA] at this | exact this) GW252.out)) | (dsimp only; exact Nat.ne_of_lt (Nat.lt_of_lt_of_le (by have := yG _ _ hw242_2; first | rwa [uA] at this | exact this) GW252.out))) _).trans (hHeld.2.2.2.2.1)))), ((uU (p := ⟨gb252, _, none⟩) (by first | exact Nat.ne_of_lt (Nat.lt_of_lt_of_le (by have := yG _ _ hw242_3; first | rwa [uA] at this | exact this) GW252.out) | (rw [uA]; exact Nat.ne_of_lt (Nat.lt_of_lt_of_le (by have := yG _ _ hw242_3; first | rwa [uA] at this | exact this) GW252.out)) | (show (Addr.add _ _).block ≠ _; rw [uA]; exact Nat.ne_of_lt (Nat.lt_of_lt_of_le (by have := yG _ _ hw242_3; first | rwa [uA] at this | exact this) GW252.out)) | (dsimp only; exact Nat.ne_of_lt (Nat.lt_of_lt_of_le (by have := yG _ _ hw242_3; first | rwa [uA] at this | exact this) GW252.out))) _).trans (((uU (p := ⟨gb252, _, none⟩) (by first | exact Nat.ne_of_lt (Nat.lt_of_lt_of_le (by have := yG _ _ hw242_3; first | rwa [uA] at this | exact this) GW252.out) | (rw [uA]; exact Nat.ne_of_lt (Nat.lt_of_lt_of_le (by have := yG _ _ hw242_3; first | rwa [uA] at this | exact this) GW252.out)) | (show (Addr.add _ _).block ≠ _; rw [uA]; exact Nat.ne_of_lt (Nat.lt_of_lt_of_le (by have := yG _ _ hw242_3; first | rwa [uA] at this | exact this) GW252.out)) | (dsimp only; exact Nat.ne_of_lt (Nat.lt_of_lt_of_le (by have := yG _ _ hw242_3; first | rwa [uA] at this | exact this) GW252.out))) _).trans (hHeld.2.2.2.2.2.1)))), ((uU (p := ⟨gb252, _, none⟩) (by first | exact Nat.ne_of_lt (Nat.lt_of_lt_of_le (by have := yG _ _ hw242_4; first | rwa [uA] at this | exact this) GW252.out) | (rw [uA]; exact Nat.ne_of_lt (Nat.lt_of_lt_of_le (by have := yG _ _ hw242_4; first | rwa [uA] at this | exact this) GW252.out)) | (show (Addr.add _ _).block ≠ _; rw [uA]; exact Nat.ne_of_lt (Nat.lt_of_lt_of_le (by have := yG _ _ hw242_4; first | rwa [uA] at this | exact this) GW252.out)) | (dsimp only; exact Nat.ne_of_lt (Nat.lt_of_lt_of_le (by have := yG _ _ hw242_4; first | rwa [uA] at this | exact this) GW252.out))) _).trans (((uU (p := ⟨gb252, _, none⟩) (by first | exact Nat.ne_of_lt (Nat.lt_of_lt_of_le (by have := yG _ _ hw242_4; first | rwa [uA] at this | exact this) GW252.out) | (rw [uA]; exact Nat.ne_of_lt (Nat.lt_of_lt_of_le (by have := yG _ _ hw242_4; first | rwa [uA] at this | exact this) GW252.out)) | (show (Addr.add _ _).block ≠ _; rw [uA]; exact Nat.ne_of_lt (Nat.lt_of_lt_of_le (by have := yG _ _ hw242_4; first | rwa [uA] at this | exact this) GW252.out)) | (dsimp only; exact Nat.ne_of_lt (Nat.lt_of_lt_of_le (by have := yG _ _ hw242_4; first | rwa [uA] at this | exact this) GW252.out))) _).trans (hHeld.2.2.2.2.2.2.1)))), ((uU (p := ⟨gb252, _, none⟩) (by first | exact Nat.ne_of_lt (Nat.lt_of_lt_of_le (by have := yG _ _ hw242_5; first | rwa [uA] at this | exact this) GW252.out) | (rw [uA]; exact Nat.ne_of_lt (Nat.lt_of_lt_of_le (by have := yG _ _ hw242_5; first | rwa [uA] at this | exact this) GW252.out)) | (show (Addr.add _ _).block ≠ _; rw [uA]; exact Nat.ne_of_lt (Nat.lt_of_lt_of_le (by have := yG _ _ hw242_5; first | rwa [uA] at this | exact this) GW252.out)) | (dsimp only; exact Nat.ne_of_lt (Nat.lt_of_lt_of_le (by have := yG _ _ hw242_5; first | rwa [uA] at this | exact this) GW252.out))) _).trans (((uU (p := ⟨gb252, _, none⟩) (by first | exact Nat.ne_of_lt (Nat.lt_of_lt_of_le (by have := yG _ _ hw242_5; first | rwa [uA] at this | exact this) GW252.out) | (rw [uA]; exact Nat.ne_of_lt (Nat.lt_of_lt_of_le (by have := yG _ _ hw242_5; first | rwa [uA] at this | exact this) GW252.out)) | (show (Addr.add _ _).block ≠ _; rw [uA]; exact Nat.ne_of_lt (Nat.lt_of_lt_of_le (by have := yG _ _ hw242_5; first | rwa [uA] at this | exact this) GW252.out)) | (dsimp only; exact Nat.ne_of_lt (Nat.lt_of_lt_of_le (by have := yG _ _ hw242_5; first | rwa [uA] at this | exact this) GW252.out))) _).trans (hHeld.2.2.2.2.2.2.2.1)))), ((uU (p := ⟨gb252, _, none⟩) (by first | exact Nat.ne_of_lt (Nat.lt_of_lt_of_le (by have := yG _ _ hw242_6; first | rwa [uA] at this | exact this) GW252.out) | (rw [uA]; exact Nat.ne_of_lt (Nat.lt_of_lt_of_le (by have := yG _ _ hw242_6; first | rwa [uA] at this | exact this) GW252.out)) | (show (Addr.add _ _).block ≠ _; rw [uA]; exact Nat.ne_of_lt (Nat.lt_of_lt_of_le (by have := yG _ _ hw242_6; first | rwa [uA] at this | exact this) GW252.out)) | (dsimp only; exact Nat.ne_of_lt (Nat.lt_of_lt_of_le (by have := yG _ _ hw242_6; first | rwa [uA] at this | exact this) GW252.out))) _).trans (((uU (p := ⟨gb252, _, none⟩) (by first | exact Nat.ne_of_lt (Nat.lt_of_lt_of_le (by have := yG _ _ hw242_6; first | rwa [uA] at this | exact this) GW252.out) | (rw [uA]; exact Nat.ne_of_lt (Nat.lt_of_lt_of_le (by have := yG _ _ hw242_6; first | rwa [uA] at this | exact this) GW252.out)) | (show (Addr.add _ _).block ≠ _; rw [uA]; exact Nat.ne_of_lt (Nat.lt_of_lt_of_le (by have := yG _ _ hw242_6; first | rwa [uA] at this | exact this) GW252.out)) | (dsimp only; exact Nat.ne_of_lt (Nat.lt_of_lt_of_le (by have := yG _ _ hw242_6; first | rwa [uA] at this | exact this) GW252.out))) _).trans (hHeld.2.2.2.2.2.2.2.2))))⟩ (fun hHeld => ?_)
      clear hK K
      refine one_ (i := 14) (N := none) tb42 rfl rfl (one_of HT_.out (by kernel_rfl)) (by decide) (fun K hK => ?_)
      have hs34 : w29.cell? ⟨gb253, 0, none⟩ = some (.bool false) := (uB BK253.out 0).trans rfl
      have hfs34 := vK BK253.out 0
      have hns34_0 := NB227_253.out
      have hns34_1 := NB241_253.out
      have hns34_2 := NB252_253.out
      have hms34_0 := NB253_227.out
      have hms34_1 := NB253_241.out
      have hms34_2 := NB253_252.out
      have hs35 : w29.cell? ⟨gb253, 1, none⟩ = some (.int .i64 0) := (uB BK253.out 1).trans rfl
      have hfs35 := vK BK253.out 1
      have hns35_0 := NB227_253.out
      have hns35_1 := NB241_253.out
      have hns35_2 := NB252_253.out
      have hms35_0 := NB253_227.out
      have hms35_1 := NB253_241.out
      have hms35_2 := NB253_252.out
      refine skip_ (w1 := ?_) (by rfl) rfl ?_ ?_
      rotate_left
      · go_simp
        rfl
      refine hK.out _ _ ⟨((uU (p := ⟨gb253, _, none⟩) NB241_253.out _).trans (((uU (p := ⟨gb253, _, none⟩) NB241_253.out _).trans (hHeld.1)))), ((uU (p := ⟨gb253, _, none⟩) NB241_253.out _).trans (((uU (p := ⟨gb253, _, none⟩) NB241_253.out _).trans (hHeld.2.1)))), ((uU (p := ⟨gb253, _, none⟩) (by first | exact Nat.ne_of_lt (Nat.lt_of_lt_of_le (by have := yG _ _ hw242_0; first | rwa [uA] at this | exact this) GW253.out) | (rw [uA]; exact Nat.ne_of_lt (Nat.lt_of_lt_of_le (by have := yG _ _ hw242_0; first | rwa [uA] at this | exact this) GW253.out)) | (show (Addr.add _ _).block ≠ _; rw [uA]; exact Nat.ne_of_lt (Nat.lt_of_lt_of_le (by have := yG _ _ hw242_0; first | rwa [uA] at this | exact this) GW253.out)) | (dsimp only; exact Nat.ne_of_lt (Nat.lt_of_lt_of_le (by have := yG _ _ hw242_0; first | rwa [uA] at this | exact this) GW253.out))) _).trans (((uU (p := ⟨gb253, _, none⟩) (by first | exact Nat.ne_of_lt (Nat.lt_of_lt_of_le (by have := yG _ _ hw242_0; first | rwa [uA] at this | exact this) GW253.out) | (rw [uA]; exact Nat.ne_of_lt (Nat.lt_of_lt_of_le (by have := yG _ _ hw242_0; first | rwa [uA] at this | exact this) GW253.out)) | (show (Addr.add _ _).block ≠ _; rw [uA]; exact Nat.ne_of_lt (Nat.lt_of_lt_of_le (by have := yG _ _ hw242_0; first | rwa [uA] at this | exact this) GW253.out)) | (dsimp only; exact Nat.ne_of_lt (Nat.lt_of_lt_of_le (by have := yG _ _ hw242_0; first | rwa [uA] at this | exact this) GW253.out))) _).trans (hHeld.2.2.1)))), ((uU (p := ⟨gb253, _, none⟩) (by first | exact Nat.ne_of_lt (Nat.lt_of_lt_of_le (by have := yG _ _ hw242_1; first | rwa [uA] at this | exact this) GW253.out) | (rw [uA]; exact Nat.ne_of_lt (Nat.lt_of_lt_of_le (by have := yG _ _ hw242_1; first | rwa [uA] at this | exact this) GW253.out)) | (show (Addr.add _ _).block ≠ _; rw [uA]; exact Nat.ne_of_lt (Nat.lt_of_lt_of_le (by have := yG _ _ hw242_1; first | rwa [uA] at this | exact this) GW253.out)) | (dsimp only; exact Nat.ne_of_lt (Nat.lt_of_lt_of_le (by have := yG _ _ hw242_1; first | rwa [uA] at this | exact this) GW253.out))) _).trans (((uU (p := ⟨gb253, _, none⟩) (by first | exact Nat.ne_of_lt (Nat.lt_of_lt_of_le (by have := yG _ _ hw242_1; first | rwa [uA] at this | exact this) GW253.out) | (rw [uA]; exact Nat.ne_of_lt (Nat.lt_of_lt_of_le (by have := yG _ _ hw242_1; first | rwa [uA] at this | exact this) GW253.out)) | (show (Addr.add _ _).block ≠ _; rw [uA]; exact Nat.ne_of_lt (Nat.lt_of_lt_of_le (by have := yG _ _ hw242_1; first | rwa [uA] at this | exact this) GW253.out)) | (dsimp only; exact Nat.ne_of_lt (Nat.lt_of_lt_of_le (by have := yG _ _ hw242_1; first | rwa [uA] at this | exact this) GW253.out))) _).trans (hHeld.2.2.2.1)))), ((uU (p := ⟨gb253, _, none⟩) (by first | exact Nat.ne_of_lt (Nat.lt_of_lt_of_le (by have := yG _ _ hw242_2; first | rwa [uA] at this | exact this) GW253.out) | (rw [uA]; exact Nat.ne_of_lt (Nat.lt_of_lt_of_le (by have := yG _ _ hw242_2; first | rwa [uA] at this | exact this) GW253.out)) | (show (Addr.add _ _).block ≠ _; rw [uA]; exact Nat.ne_of_lt (Nat.lt_of_lt_of_le (by have := yG _ _ hw242_2; first | rwa [uA] at this | exact this) GW253.out)) | (dsimp only; exact Nat.ne_of_lt (Nat.lt_of_lt_of_le (by have := yG _ _ hw242_2; first | rwa [uA] at this | exact this) GW253.out))) _).trans (((uU (p := ⟨gb253, _, none⟩) (by first | exact Nat.ne_of_lt (Nat.lt_of_lt_of_le (by have := yG _ _ hw242_2; first | rwa [uA] at this | exact this) GW253.out) | (rw [uA]; exact Nat.ne_of_lt (Nat.lt_of_lt_of_le (by have := yG _ _ hw242_2; first | rwa [uA] at this | exact this) GW253.out)) | (show (Addr.add _ _).block ≠ _; rw [uA]; exact Nat.ne_of_lt (Nat.lt_of_lt_of_le (by have := yG _ _ hw242_2; first | rwa [uA] at this | exact this) GW253.out)) | (dsimp only; exact Nat.ne_of_lt (Nat.lt_of_lt_of_le (by have := yG _ _ hw242_2; first | rwa [uA] at this | exact this) GW253.out))) _).trans (hHeld.2.2.2.2.1)))), ((uU (p := ⟨gb253, _, none⟩) (by first | exact Nat.ne_of_lt (Nat.lt_of_lt_of_le (by have := yG _ _ hw242_3; first | rwa [uA] at this | exact this) GW253.out) | (rw [uA]; exact Nat.ne_of_lt (Nat.lt_of_lt_of_le (by have := yG _ _ hw242_3; first | rwa [uA] at this | exact this) GW253.out)) | (show (Addr.add _ _).block ≠ _; rw [uA]; exact Nat.ne_of_lt (Nat.lt_of_lt_of_le (by have := yG _ _ hw242_3; first | rwa [uA] at this | exact this) GW253.out)) | (dsimp only; exact Nat.ne_of_lt (Nat.lt_of_lt_of_le (by have := yG _ _ hw242_3; first | rwa [uA] at this | exact this) GW253.out))) _).trans (((uU (p := ⟨gb253, _, none⟩) (by first | exact Nat.ne_of_lt (Nat.lt_of_lt_of_le (by have := yG _ _ hw242_3; first | rwa [uA] at this | exact this) GW253.out) | (rw [uA]; exact Nat.ne_of_lt (Nat.lt_of_lt_of_le (by have := yG _ _ hw242_3; first | rwa [uA] at this | exact this) GW253.out)) | (show (Addr.add _ _).block ≠ _; rw [uA]; exact Nat.ne_of_lt (Nat.lt_of_lt_of_le (by have := yG _ _ hw242_3; first | rwa [uA] at this | exact this) GW253.out)) | (dsimp only; exact Nat.ne_of_lt (Nat.lt_of_lt_of_le (by have := yG _ _ hw242_3; first | rwa [uA] at this | exact this) GW253.out))) _).trans (hHeld.2.2.2.2.2.1)))), ((uU (p := ⟨gb253, _, none⟩) (by first | exact Nat.ne_of_lt (Nat.lt_of_lt_of_le (by have := yG _ _ hw242_4; first | rwa [uA] at this | exact this) GW253.out) | (rw [uA]; exact Nat.ne_of_lt (Nat.lt_of_lt_of_le (by have := yG _ _ hw242_4; first | rwa [uA] at this | exact this) GW253.out)) | (show (Addr.add _ _).block ≠ _; rw [uA]; exact Nat.ne_of_lt (Nat.lt_of_lt_of_le (by have := yG _ _ hw242_4; first | rwa [uA] at this | exact this) GW253.out)) | (dsimp only; exact Nat.ne_of_lt (Nat.lt_of_lt_of_le (by have := yG _ _ hw242_4; first | rwa [uA] at this | exact this) GW253.out))) _).trans (((uU (p := ⟨gb253, _, none⟩) (by first | exact Nat.ne_of_lt (Nat.lt_of_lt_of_le (by have := yG _ _ hw242_4; first | rwa [uA] at this | exact this) GW253.out) | (rw [uA]; exact Nat.ne_of_lt (Nat.lt_of_lt_of_le (by have := yG _ _ hw242_4; first | rwa [uA] at this | exact this) GW253.out)) | (show (Addr.add _ _).block ≠ _; rw [uA]; exact Nat.ne_of_lt (Nat.lt_of_lt_of_le (by have := yG _ _ hw242_4; first | rwa [uA] at this | exact this) GW253.out)) | (dsimp only; exact Nat.ne_of_lt (Nat.lt_of_lt_of_le (by have := yG _ _ hw242_4; first | rwa [uA] at this | exact this) GW253.out))) _).trans (hHeld.2.2.2.2.2.2.1)))), ((uU (p := ⟨gb253, _, none⟩) (by first | exact Nat.ne_of_lt (Nat.lt_of_lt_of_le (by have := yG _ _ hw242_5; first | rwa [uA] at this | exact this) GW253.out) | (rw [uA]; exact Nat.ne_of_lt (Nat.lt_of_lt_of_le (by have := yG _ _ hw242_5; first | rwa [uA] at this | exact this) GW253.out)) | (show (Addr.add _ _).block ≠ _; rw [uA]; exact Nat.ne_of_lt (Nat.lt_of_lt_of_le (by have := yG _ _ hw242_5; first | rwa [uA] at this | exact this) GW253.out)) | (dsimp only; exact Nat.ne_of_lt (Nat.lt_of_lt_of_le (by have := yG _ _ hw242_5; first | rwa [uA] at this | exact this) GW253.out))) _).trans (((uU (p := ⟨gb253, _, none⟩) (by first | exact Nat.ne_of_lt (Nat.lt_of_lt_of_le (by have := yG _ _ hw242_5; first | rwa [uA] at this | exact this) GW253.out) | (rw [uA]; exact Nat.ne_of_lt (Nat.lt_of_lt_of_le (by have := yG _ _ hw242_5; first | rwa [uA] at this | exact this) GW253.out)) | (show (Addr.add _ _).block ≠ _; rw [uA]; exact Nat.ne_of_lt (Nat.lt_of_lt_of_le (by have := yG _ _ hw242_5; first | rwa [uA] at this | exact this) GW253.out)) | (dsimp only; exact Nat.ne_of_lt (Nat.lt_of_lt_of_le (by have := yG _ _ hw242_5; first | rwa [uA] at this | exact this) GW253.out))) _).trans (hHeld.2.2.2.2.2.2.2.1)))), ((uU (p := ⟨gb253, _, none⟩) (by first | exact Nat.ne_of_lt (Nat.lt_of_lt_of_le (by have := yG _ _ hw242_6; first | rwa [uA] at this | exact this) GW253.out) | (rw [uA]; exact Nat.ne_of_lt (Nat.lt_of_lt_of_le (by have := yG _ _ hw242_6; first | rwa [uA] at this | exact this) GW253.out)) | (show (Addr.add _ _).block ≠ _; rw [uA]; exact Nat.ne_of_lt (Nat.lt_of_lt_of_le (by have := yG _ _ hw242_6; first | rwa [uA] at this | exact this) GW253.out)) | (dsimp only; exact Nat.ne_of_lt (Nat.lt_of_lt_of_le (by have := yG _ _ hw242_6; first | rwa [uA] at this | exact this) GW253.out))) _).trans (((uU (p := ⟨gb253, _, none⟩) (by first | exact Nat.ne_of_lt (Nat.lt_of_lt_of_le (by have := yG _ _ hw242_6; first | rwa [uA] at this | exact this) GW253.out) | (rw [uA]; exact Nat.ne_of_lt (Nat.lt_of_lt_of_le (by have := yG _ _ hw242_6; first | rwa [uA] at this | exact this) GW253.out)) | (show (Addr.add _ _).block ≠ _; rw [uA]; exact Nat.ne_of_lt (Nat.lt_of_lt_of_le (by have := yG _ _ hw242_6; first | rwa [uA] at this | exact this) GW253.out)) | (dsimp only; exact Nat.ne_of_lt (Nat.lt_of_lt_of_le (by have := yG _ _ hw242_6; first | rwa [uA] at this | exact this) GW253.out))) _).trans (hHeld.2.2.2.2.2.2.2.2))))⟩ (fun hHeld => ?_)
      clear hK K
      refine vR 15 (some 10) tb43 ?_
      refine done_ (done_of HT_.out (by kernel_rfl)) ?_
      have hnb36 := NB253_227.out
      have hnc36 := NB227_253.out
      have hnb37 := NB253_241.out
      have hnc37 := NB241_253.out
      have hnb38 := NB253_252.out
      have hnc38 := NB252_253.out
      obtain ⟨hcz39_0, hcz39_1, hfz39_0, hfz39_1⟩ := cz2 BK253
      have hnb40 := NB227_252.out
      have hnc40 := NB252_227.out
      obtain ⟨hcz41_0, hcz41_1, hfz41_0, hfz41_1⟩ := cz2 BK227
      try go_wp2
      refine bodyPost_ret (results_ct rfl _ _ gb227 33 #[.bool t249, .int .i64 t250] (0, 0) _ rfl (by (with_reducible repeat (first | refine uC ?_ _ | refine uE ?_ | refine uD ?_ _)); refine uL (cs := #[.bool t249, .int .i64 0]) ?_ 1 _ rfl; (with_reducible repeat (first | refine uC ?_ _ | refine uE ?_ | refine uD ?_ _)); refine uL (cs := #[.bool false, .int .i64 0]) ?_ 0 _ rfl; (with_reducible repeat (first | refine uC ?_ _ | refine uE ?_ | refine uD ?_ _)); refine vO ?_ NB227_253.out _; (with_reducible repeat (first | refine uC ?_ _ | refine uE ?_ | refine uD ?_ _)); refine vO ?_ NB227_253.out _; (with_reducible repeat (first | refine uC ?_ _ | refine uE ?_ | refine uD ?_ _)); refine vO ?_ NB227_252.out _; (with_reducible repeat (first | refine uC ?_ _ | refine uE ?_ | refine uD ?_ _)); refine vO ?_ NB227_252.out _; (with_reducible repeat (first | refine uC ?_ _ | refine uE ?_ | refine uD ?_ _)); exact BK227.out) Try.underlying33 rfl (by kernel_rfl)) rfl ?_
      exact ⟨cq3, vA⟩

end Go.Proofs.Ytcikahnmiiichaa.N
