/- Go functions as Lean functions, and the proof that the code comes to them: written by a program of this session out of the translation. -/
import Derived.Test.YtcikahnmiiichaaT0
import Derived.Test.YtcikahnmiiichaaT1
import Derived.Test.YtcikahnmiiichaaT4
import Derived.Test.YtcikahnmiiichaaT5
import Derived.Test.YtcikahnmiiichaaT6
namespace Go.Proofs.Ytcikahnmiiichaa.T
open List renaming setIfInBounds_toArray → vU, set_cons_zero → vV, set_cons_succ → vW, map_toArray → vX, length_take → vY, length_drop → vZ
open Go.World renaming block_lt_of_cell? → yA
open Go.RowKit Go.Proofs.YtcikahnmiiichaaW.PrintWords Go.Proofs.YtcikahnmiiichaaW.PrintLast Go.Proofs.YtcikahnmiiichaaW.PrintMore
attribute [local go_sem] max2_int min2_int max_two min_two max_three min_three max_four min_four   -- for this text's walks alone
set_option linter.unusedVariables false
set_option linter.unusedSimpArgs false

/-! ### spec_ResultAt: function 26 -/
def spec_ResultAt.j0 : Nat → List (S72) → Int → Bool → Option (Bool × Int × Bool)
  | 0, _, _, _ => none
  | k + 1, x0, x1, x21 => if x21 = true then (some (false, 0, false)) else (if 0 ≤ x1 then (if x1 ≤ (x0.length : Int) then ((spec_ReplayLog.f k (x0.take (x1 : Int).toNat)).bind fun bt158 => (if x1 < (x0.length : Int) then ((spec_ApplyOp.f k bt158.1 bt158.2.1 ((rd_T72 x0 x1).f1.f0) ((rd_T72 x0 x1).f1.f1) ((rd_T72 x0 x1).f1.f2) ((rd_T72 x0 x1).f1.f3) ((rd_T72 x0 x1).f1.f4) ((rd_T72 x0 x1).f1.f5)).bind fun bt167 => (some (bt167.2.2.1, bt167.2.2.2.1, bt167.2.2.2.2))) else (none))) else (none)) else (none))
def spec_ResultAt.f (k : Nat) (l0 : List (S72)) (a1 : Int) : Option (Bool × Int × Bool) := (spec_IsLog.f k l0).bind fun t152 => (if t152 = true then ((spec_l1In.f a1 0 (wrap64 ((l0.length : Int) - 1))).bind fun t153 => (spec_ResultAt.j0 k l0 a1 (!t153))) else (spec_ResultAt.j0 k l0 a1 true))
theorem spec_ResultAt.mono_l : ∀ k, (∀ y0 y1 y2, vB (spec_ResultAt.j0 k y0 y1 y2) (spec_ResultAt.j0 (k + 1) y0 y1 y2))
  | 0 => fun _ _ _ r h => by simp [spec_ResultAt.j0] at h
  | k + 1 => by
    have ih0 := spec_ResultAt.mono_l k
    intro y0 y1 y2
    unfold spec_ResultAt.j0
    repeat' first
    | (with_reducible exact ih0 _ _ _)
    | (with_reducible exact spec_ApplyOp.mono _ _ _ _ _ _ _ _ _)
    | (with_reducible exact spec_IsLog.mono _ _)
    | (with_reducible exact spec_ReplayLog.mono _ _)
    | (with_reducible exact vB.refl _)
    | (with_reducible exact vB.none _)
    | (with_reducible refine vB.ite ?_ ?_)
    | (with_reducible refine vB.bind ?_ (fun _ => ?_))
    | exact ih0 _ _ _
    | exact spec_ApplyOp.mono _ _ _ _ _ _ _ _ _
    | exact spec_IsLog.mono _ _
    | exact spec_ReplayLog.mono _ _
    | exact vB.none _
    | refine vB.ite ?_ ?_
    | refine vB.bind ?_ (fun _ => ?_)
theorem spec_ResultAt.mono : ∀ a0 a1 k, vB (spec_ResultAt.f k a0 a1) (spec_ResultAt.f (k + 1) a0 a1) := by
  intro a0 a1 k
  have ih0 := spec_ResultAt.mono_l k
  unfold spec_ResultAt.f
  repeat' first
      | (with_reducible exact ih0 _ _ _)
      | (with_reducible exact spec_ApplyOp.mono _ _ _ _ _ _ _ _ _)
      | (with_reducible exact spec_IsLog.mono _ _)
      | (with_reducible exact spec_ReplayLog.mono _ _)
      | (with_reducible exact vB.refl _)
      | (with_reducible exact vB.none _)
      | (with_reducible refine vB.ite ?_ ?_)
      | (with_reducible refine vB.bind ?_ (fun _ => ?_))
      | exact ih0 _ _ _
      | exact spec_ApplyOp.mono _ _ _ _ _ _ _ _ _
      | exact spec_IsLog.mono _ _
      | exact spec_ReplayLog.mono _ _
      | exact vB.none _
      | refine vB.ite ?_ ?_
      | refine vB.bind ?_ (fun _ => ?_)
def spec_ResultAt.T4 : Bool × List (List Nat × List Nat) := (true, [([], []), ([], []), ([], []), ([1, 2], [1, 2]), ([3], [3]), ([4], [4]), ([0, 5], [0, 5]), ([6], [6]), ([7], [7]), ([7], [7]), ([7], [7]), ([], []), ([], []), ([11, 8, 6, 0, 1, 2, 3, 4, 5, 6, 7, 8, 11, 12], [8, 11]), ([12, 9, 13, 0, 1, 2, 3, 4, 5, 6, 7, 8, 9, 11, 12, 13], [9, 12]), ([10, 14, 0, 1, 2, 3, 4, 5, 6, 7, 8, 9, 10, 11, 12, 13, 14], [10])])
def spec_ResultAt.B4 : List Nat := [0, 0, 0, 6, 14, 30, 63, 127, 255, 255, 255, 0, 0, 6655, 15359, 32767]
theorem spec_ResultAt.tab4 : rtab .any (opsOf Try.f26 4) = spec_ResultAt.T4 := by kernel_rfl
theorem spec_ResultAt.bits4 : waitsOk spec_ResultAt.T4.2 spec_ResultAt.B4 = true := by kernel_rfl
set_option maxHeartbeats 8000000 in
set_option maxRecDepth 100000 in
theorem spec_ResultAt.calls (k : Nat) (A0 : Option Addr) (c0 : Nat) (l0 : List (S72)) (a1 : Int) (r1 : Bool) (r2 : Int) (r3 : Bool) (w : World) (hr0 : Kd.C k72 w A0 l0.length l0) (hc0 : l0.length ≤ c0) (h : spec_ResultAt.f k l0 a1 = some (r1, r2, r3)) :
    Calls Try.prog 26 #[.slice A0 l0.length c0, .int .i64 a1] w fun e w' => e = .returned (.tuple #[.agg #[.bool r1, .int .i64 r2], .bool r3]) ∧ Below w.heap.size w w' := by
  have hu33 := Try.underlying33
  have hu31 := Try.underlying31
  have hu37 := Try.underlying37
  have HR0 := Aside0.mk hr0
  have HC0 := Aside0.mk hc0
  clear hr0 hc0
  have HB := Aside0.mk (Below.refl w.heap.size w)
  have H : ((spec_IsLog.f k l0).bind fun t152 => (if t152 = true then ((spec_l1In.f a1 0 (wrap64 ((l0.length : Int) - 1))).bind fun t153 => (spec_ResultAt.j0 k l0 a1 (!t153))) else (spec_ResultAt.j0 k l0 a1 true))) = some (r1, r2, r3) := h
  clear h
  have HC3 := Aside0.mk H
  clear H
  go_enter Try.func26, Try.ntmps26
  go_upto_region 1 with (first | ((with_reducible refine uU (N := 4) rfl ?_); refine uT ?hg (N := 4) ?hd (cs := #[.bool false, .int .i64 0]) (t := 33) ?hr ?_; (case hd => rfl); (case hg => rfl); (case hr => first | (go_simp; done) | (go_simp; rfl)); intro gb151 hg w4 hbox hb; have n0_ := Aside0.mk (uS (by repeat (first | (with_reducible first | exact HB.out | apply uG | apply uA | apply uF) | exact HB.out)) hb); have n1_ := Aside0.mk (hbox); have n2_ := Aside0.mk ((by rw [hg]; exact (uQ (by repeat (first | (with_reducible first | exact HB.out | apply uG | apply uA | apply uF) | exact HB.out))) : w.heap.size ≤ gb151)); have n3_ := Aside0.mk ((by rw [hg]; exact (uQ (by repeat (first | (with_reducible first | exact HB.out | apply uG | apply uA | apply uF) | exact HB.out))) : w.heap.size ≤ gb151)); clear HB; have HB := n0_; have BK151 := n1_; have GW151 := n2_; have GE151 := n3_; clear n0_ n1_ n2_ n3_; clear hb hbox hg))
  (try simp only [Act.put, vU, vV, vW])
  go_cut [21] (fun v21 wc => ∃ (kq : Nat) (x21_2 : Bool), v21 = .bool x21_2 ∧ Aside0 (spec_ResultAt.j0 kq l0 a1 x21_2 = some (r1, r2, r3)) ∧ Aside0 (kq ≤ k) ∧ Aside0 (wc.heap[gb151]? = some (.cells #[.bool false, .int .i64 0] 33 (0, 0))) ∧ Aside0 (Below w.heap.size w wc))
  case first =>
    have H := HC3.out
    clear HC3
    replace H := Option.bind_eq_some_iff.mp H
    obtain ⟨t152, A50, H⟩ := H
    replace H : (if t152 = true then ((spec_l1In.f a1 0 (wrap64 ((l0.length : Int) - 1))).bind fun t153 => (spec_ResultAt.j0 k l0 a1 (!t153))) else (spec_ResultAt.j0 k l0 a1 true)) = some (r1, r2, r3) := H
    have A5 := Aside0.mk A50
    clear A50
    by_cases c6 : t152 = true
    rotate_left
    · replace c6 := Bool.eq_false_iff.mpr c6
      subst c6
      have H1 : (spec_ResultAt.j0 k l0 a1 true) = some (r1, r2, r3) := by first | (rw [if_neg (show ¬ (false = true) by decide)] at H; exact H) | rfl
      clear H
      have H := H1
      clear H1
      have H' := Aside0.mk H
      clear H
      go_wp2_with (first | ((with_reducible refine uX (f := 67) rfl ?_); refine vM (some 12) rfl rfl Try.func67 (by kernel_rfl) rfl #[.slice A0 l0.length c0] rfl (by (try simp only [vX, List.map_cons, List.map_nil]); first | done | rfl | (simp only [vZ, vY]; rfl)) ?_; (with_reducible refine (spec_IsLog.calls k _ _ l0 false _ ?side1 ?side2 A5.out).mono ?_); (case side1 => repeat (first | exact (Kd.vE HR0.out HB.out) | (with_reducible refine Kd.vQ ?_ _) | (with_reducible refine Kd.vP ?_ _) | (with_reducible refine Kd.vS ?_))); (case side2 => exact HC0.out); rintro e w9 ⟨rfl, hb⟩; refine ⟨_, rfl, ?_⟩; have n0_ := Aside0.mk (uR (g := gb151) (o := .cells #[.bool false, .int .i64 0] 33 (0, 0)) (by (with_reducible repeat (first | refine uC ?_ _ | refine uE ?_ | refine uD ?_ _)); exact BK151.out) hb); have n1_ := Aside0.mk (uS (by repeat (first | (with_reducible first | exact HB.out | apply uG | apply uA | apply uF | refine uB ?_ GE151.out) | exact HB.out)) hb); clear BK151; clear HB; have BK151 := n0_; have HB := n1_; clear n0_ n1_; (try clear hb); (try clear hb2); (try clear hk); (try clear hi)))
      go_meet
      case rel => exact ⟨_, (true), (by first | rfl | (simp; done) | (simp [*]; done)), H', ⟨by first | omega | exact Nat.le_refl _⟩, ⟨by (with_reducible repeat (first | refine uC ?_ _ | refine uE ?_ | refine uD ?_ _)); exact BK151.out⟩, ⟨by repeat (first | (with_reducible first | exact HB.out | apply uG | apply uA | apply uF | refine uB ?_ GE151.out) | exact HB.out)⟩⟩
    subst c6
    have H1 : ((spec_l1In.f a1 0 (wrap64 ((l0.length : Int) - 1))).bind fun t153 => (spec_ResultAt.j0 k l0 a1 (!t153))) = some (r1, r2, r3) := by first | (rw [if_pos rfl] at H; exact H) | rfl
    clear H
    have H := H1
    clear H1
    replace H := Option.bind_eq_some_iff.mp H
    obtain ⟨t153, A70, H⟩ := H
    replace H : (spec_ResultAt.j0 k l0 a1 (!t153)) = some (r1, r2, r3) := H
    have A7 := Aside0.mk A70
    clear A70
    have H' := Aside0.mk H
    clear H
    go_wp2_with (first | ((with_reducible refine uX (f := 67) rfl ?_); refine vM (some 12) rfl rfl Try.func67 (by kernel_rfl) rfl #[.slice A0 l0.length c0] rfl (by (try simp only [vX, List.map_cons, List.map_nil]); first | done | rfl | (simp only [vZ, vY]; rfl)) ?_; (with_reducible refine (spec_IsLog.calls k _ _ l0 true _ ?side1 ?side2 A5.out).mono ?_); (case side1 => repeat (first | exact (Kd.vE HR0.out HB.out) | (with_reducible refine Kd.vQ ?_ _) | (with_reducible refine Kd.vP ?_ _) | (with_reducible refine Kd.vS ?_))); (case side2 => exact HC0.out); rintro e w8 ⟨rfl, hb⟩; refine ⟨_, rfl, ?_⟩; have n0_ := Aside0.mk (uR (g := gb151) (o := .cells #[.bool false, .int .i64 0] 33 (0, 0)) (by (with_reducible repeat (first | refine uC ?_ _ | refine uE ?_ | refine uD ?_ _)); exact BK151.out) hb); have n1_ := Aside0.mk (uS (by repeat (first | (with_reducible first | exact HB.out | apply uG | apply uA | apply uF | refine uB ?_ GE151.out) | exact HB.out)) hb); clear BK151; clear HB; have BK151 := n0_; have HB := n1_; clear n0_ n1_; (try clear hb); (try clear hb2); (try clear hk); (try clear hi)) | (go_at_call 66; (with_reducible refine (spec_l1In.calls a1 0 (wrap64 ((l0.length : Int) - 1)) t153 _ A7.out).mono ?_); rintro e w' ⟨rfl, ⟨nd, rfl⟩⟩))
    go_meet
    case rel => exact ⟨_, (!t153), (by first | rfl | (simp; done) | (simp [*]; done)), H', ⟨by first | omega | exact Nat.le_refl _⟩, ⟨by (with_reducible repeat (first | refine uC ?_ _ | refine uE ?_ | refine uD ?_ _)); exact BK151.out⟩, ⟨by repeat (first | (with_reducible first | exact HB.out | apply uG | apply uA | apply uF | refine uB ?_ GE151.out) | exact HB.out)⟩⟩
  case rest =>
    clear HC3
    try clear c2
    try clear p2
    try clear c6
    try clear p6
    obtain ⟨kq, x21_2, rfl, HA, HJ2, BK151, HB⟩ := hcut
    cases kq with
    | zero => exact absurd HA.out (by simp [spec_ResultAt.j0])
    | succ kj2 =>
      have H := HA.out
      clear HA
      simp only [spec_ResultAt.j0] at H
      by_cases c10 : x21_2 = true
      · subst c10
        have H1 : (some (false, 0, false)) = some (r1, r2, r3) := by first | (rw [if_pos rfl] at H; exact H) | rfl
        clear H
        have H := H1
        clear H1
        simp only [Option.some.injEq, Prod.mk.injEq] at H
        obtain ⟨rfl, rfl, rfl⟩ := H
        have hcz11_0 : wc.cell? ⟨gb151, 0, none⟩ = some (.bool false) := (uI BK151.out 0).trans rfl
        have hcz11_1 : wc.cell? ⟨gb151, 1, none⟩ = some (.int .i64 0) := (uI BK151.out 1).trans rfl
        have hfz11_0 := uK BK151.out 0
        have hfz11_1 := uK BK151.out 1
        go_wp2
        refine bodyPost_ret (results_ct rfl _ _ gb151 33 #[.bool false, .int .i64 0] (0, 0) _ rfl (by (with_reducible repeat (first | refine uC ?_ _ | refine uE ?_ | refine uD ?_ _)); refine uW (cs := #[.bool false, .int .i64 0]) ?_ 1 _ rfl; (with_reducible repeat (first | refine uC ?_ _ | refine uE ?_ | refine uD ?_ _)); refine uW (cs := #[.bool false, .int .i64 0]) ?_ 0 _ rfl; (with_reducible repeat (first | refine uC ?_ _ | refine uE ?_ | refine uD ?_ _)); exact BK151.out) Try.underlying33 rfl (by kernel_rfl)) rfl ?_
        exact ⟨by first | rfl | (simp [errW_none, errW_some] <;> rfl) | (simp [*, errW_none, errW_some] <;> rfl), by repeat (first | (with_reducible first | exact HB.out | apply uG | apply uA | apply uF | refine uB ?_ GE151.out) | exact HB.out)⟩
      replace c10 := Bool.eq_false_iff.mpr c10
      subst c10
      have H1 : (if 0 ≤ a1 then (if a1 ≤ (l0.length : Int) then ((spec_ReplayLog.f kj2 (l0.take (a1 : Int).toNat)).bind fun bt158 => (if a1 < (l0.length : Int) then ((spec_ApplyOp.f kj2 bt158.1 bt158.2.1 ((rd_T72 l0 a1).f1.f0) ((rd_T72 l0 a1).f1.f1) ((rd_T72 l0 a1).f1.f2) ((rd_T72 l0 a1).f1.f3) ((rd_T72 l0 a1).f1.f4) ((rd_T72 l0 a1).f1.f5)).bind fun bt167 => (some (bt167.2.2.1, bt167.2.2.2.1, bt167.2.2.2.2))) else (none))) else (none)) else (none)) = some (r1, r2, r3) := by first | (rw [if_neg (show ¬ (false = true) by decide)] at H; exact H) | rfl
      clear H
      have H := H1
      clear H1
      by_cases c12 : 0 ≤ a1
      rotate_left
      · rw [if_neg c12] at H
        exact absurd H (by simp)
      rw [if_pos c12] at H
      have c12b0 := eq_true c12
      have c12b1 : decide (0 ≤ a1) = true := decide_eq_true c12
      clear c12
      by_cases c13 : a1 ≤ (l0.length : Int)
      rotate_left
      · rw [if_neg c13] at H
        exact absurd H (by simp)
      rw [if_pos c13] at H
      have c13b0 := eq_true c13
      have c13b1 : decide (a1 ≤ (l0.length : Int)) = true := decide_eq_true c13
      clear c13
      obtain ⟨y154, hy154⟩ : ∃ y_ : List (S72), y_ = (l0.take (a1 : Int).toNat) := ⟨_, rfl⟩
      replace H : ((spec_ReplayLog.f kj2 y154).bind fun bt158 => (if a1 < (l0.length : Int) then ((spec_ApplyOp.f kj2 bt158.1 bt158.2.1 ((rd_T72 l0 a1).f1.f0) ((rd_T72 l0 a1).f1.f1) ((rd_T72 l0 a1).f1.f2) ((rd_T72 l0 a1).f1.f3) ((rd_T72 l0 a1).f1.f4) ((rd_T72 l0 a1).f1.f5)).bind fun bt167 => (some (bt167.2.2.1, bt167.2.2.2.1, bt167.2.2.2.2))) else (none))) = some (r1, r2, r3) := by first | (rw [hy154]; with_reducible exact H) | (have H2_ := (Option.bind_some _ _).symm.trans H; rw [hy154]; with_reducible exact H2_) | (have H2_ := (Option.bind_some _ _).symm.trans H; with_reducible exact H2_) | with_reducible exact H | (rw [hy154]; exact H) | exact H | rfl
      have Ny154 := Aside0.mk hy154
      clear hy154
      replace H := Option.bind_eq_some_iff.mp H
      obtain ⟨⟨t158, t161, t164⟩, A140, H⟩ := H
      replace H : (if a1 < (l0.length : Int) then ((spec_ApplyOp.f kj2 t158 t161 ((rd_T72 l0 a1).f1.f0) ((rd_T72 l0 a1).f1.f1) ((rd_T72 l0 a1).f1.f2) ((rd_T72 l0 a1).f1.f3) ((rd_T72 l0 a1).f1.f4) ((rd_T72 l0 a1).f1.f5)).bind fun bt167 => (some (bt167.2.2.1, bt167.2.2.2.1, bt167.2.2.2.2))) else (none)) = some (r1, r2, r3) := H
      have A14 := Aside0.mk A140
      clear A140
      by_cases c15 : a1 < (l0.length : Int)
      rotate_left
      · rw [if_neg c15] at H
        exact absurd H (by simp)
      rw [if_pos c15] at H
      have c15b0 : decide (a1 < (l0.length : Int)) = true := decide_eq_true c15
      clear c15
      replace H := Option.bind_eq_some_iff.mp H
      obtain ⟨⟨t167, t170, t173, t174, t175⟩, A160, H⟩ := H
      replace H : (some (t173, t174, t175)) = some (r1, r2, r3) := H
      have A16 := Aside0.mk A160
      clear A160
      simp only [Option.some.injEq, Prod.mk.injEq] at H
      obtain ⟨rfl, rfl, rfl⟩ := H
      have q17 : (a1 : Int) ≤ ((l0.length : Int) : Int) := of_decide_eq_true (by first | (with_reducible assumption) | assumption)
      obtain ⟨i017, hi017, _, hsz17, _⟩ := info_parts info72
      have hroom17 : l0.length ≤ c0 := HC0.out
      have hC17 : Kd.C k72 _ A0 l0.length l0 := HR0.out
      have hcut17 := cut_to (P := Try.prog) 58 72 .i64 Try.underlying58 hi017 A0 l0.length c0 a1 (of_decide_eq_true (by first | (with_reducible assumption) | assumption)) q17 hroom17
      have hr17 := Kd.C_take (m := (a1 : Int).toNat) hC17 (by omega)
      have hy17 : y154.length = (a1 : Int).toNat := (by rw [Ny154.out, vY]; omega)
      rw [← Ny154.out] at hr17
      rw [← hy17] at hcut17
      have HR157 := Aside0.mk hr17
      have HC157 := Aside0.mk (show y154.length ≤ c0 from by omega)
      clear hr17 hC17 hroom17 hi017 hsz17
      have KY17 := Aside0.mk hy17
      clear hy17
      replace q17 := eq_true q17
      try go_wp2_with (first | ((with_reducible refine uX (f := 30) rfl ?_); refine vM (some 27) rfl rfl Try.func30 (by kernel_rfl) rfl #[.slice A0 y154.length c0] rfl (by (try simp only [vX, List.map_cons, List.map_nil]); first | done | rfl | (simp only [vZ, vY]; rfl)) ?_; (with_reducible refine (spec_ReplayLog.calls kj2 _ _ y154 t158 t161 t164 _ ?side1 ?side2 A14.out).mono ?_); (case side1 => repeat (first | exact (Kd.vE HR157.out HB.out) | (with_reducible refine Kd.vQ ?_ _) | (with_reducible refine Kd.vP ?_ _) | (with_reducible refine Kd.vS ?_))); (case side2 => exact HC157.out); rintro e w18 ⟨v159, v162, rfl, ho0, ho1, hb⟩; refine ⟨_, rfl, ?_⟩; have n0_ := Aside0.mk (Kd.vO ho0 (uQ (by repeat (first | (with_reducible first | exact HB.out | apply uG | apply uA | apply uF | refine uB ?_ GE151.out) | exact HB.out)))); have n1_ := Aside0.mk (Kd.vO ho1 (uQ (by repeat (first | (with_reducible first | exact HB.out | apply uG | apply uA | apply uF | refine uB ?_ GE151.out) | exact HB.out)))); have n2_ := Aside0.mk (uR (g := gb151) (o := .cells #[.bool false, .int .i64 0] 33 (0, 0)) (by (with_reducible repeat (first | refine uC ?_ _ | refine uE ?_ | refine uD ?_ _)); exact BK151.out) hb); have n3_ := Aside0.mk (uS (by repeat (first | (with_reducible first | exact HB.out | apply uG | apply uA | apply uF | refine uB ?_ GE151.out) | exact HB.out)) hb); clear BK151; clear HB; have HO160 := n0_; have HO163 := n1_; have BK151 := n2_; have HB := n3_; clear n0_ n1_ n2_ n3_; (try clear hb); (try clear hb2); (try clear hk); (try clear hi); (try clear ho0); (try clear ho1)) | ((with_reducible refine uU (N := 6) rfl ?_); refine uT ?hg (N := 6) ?hd (cs := #[.slice none 0 0, .slice none 0 0]) (t := 31) ?hr ?_; (case hd => rfl); (case hg => rfl); (case hr => first | (go_simp; done) | (go_simp; rfl)); intro gb165 hg w19 hbox hb; have n0_ := Aside0.mk (Kd.vD (by (with_reducible repeat (first | apply Kd.uN | apply Kd.uO | apply Kd.uP)); exact HO160.out) hb); have n1_ := Aside0.mk (Kd.vD (by (with_reducible repeat (first | apply Kd.uN | apply Kd.uO | apply Kd.uP)); exact HO163.out) hb); have n2_ := Aside0.mk (uR (g := gb151) (o := .cells #[.bool false, .int .i64 0] 33 (0, 0)) (by (with_reducible repeat (first | refine uC ?_ _ | refine uE ?_ | refine uD ?_ _)); exact BK151.out) hb); have n3_ := Aside0.mk (uS (by repeat (first | (with_reducible first | exact HB.out | apply uG | apply uA | apply uF | refine uB ?_ GE151.out) | exact HB.out)) hb); have n4_ := Aside0.mk (hbox); have n5_ := Aside0.mk ((by rw [hg]; exact (uQ (by repeat (first | (with_reducible first | exact HB.out | apply uG | apply uA | apply uF | refine uB ?_ GE151.out) | exact HB.out))) : w.heap.size ≤ gb165)); have n6_ := Aside0.mk ((by rw [hg]; exact (uQ (by repeat (first | (with_reducible first | exact HB.out | apply uG | apply uA | apply uF | refine uB ?_ GE151.out) | exact HB.out))) : w.heap.size ≤ gb165)); have n7_ := Aside0.mk ((by rw [hg]; exact Nat.ne_of_lt (uV (g := gb151) (o := .cells #[.bool false, .int .i64 0] 33 (0, 0)) (by (with_reducible repeat (first | refine uC ?_ _ | refine uE ?_ | refine uD ?_ _)); exact BK151.out)) : gb151 ≠ gb165)); have n8_ := Aside0.mk ((by rw [hg]; exact Nat.ne_of_gt (uV (g := gb151) (o := .cells #[.bool false, .int .i64 0] 33 (0, 0)) (by (with_reducible repeat (first | refine uC ?_ _ | refine uE ?_ | refine uD ?_ _)); exact BK151.out)) : gb165 ≠ gb151)); clear HO160; clear HO163; clear BK151; clear HB; have HO160 := n0_; have HO163 := n1_; have BK151 := n2_; have HB := n3_; have BK165 := n4_; have GW165 := n5_; have GE165 := n6_; have NB151_165 := n7_; have NB165_151 := n8_; clear n0_ n1_ n2_ n3_ n4_ n5_ n6_ n7_ n8_; clear hb hbox hg; obtain ⟨Ao20, co20, eo20⟩ := Kd.vN HO160.out; subst eo20; have hnb21 := NB165_151.out; have hnc21 := NB151_165.out; have hcz22_0 : w19.cell? ⟨gb165, 0, none⟩ = some (.slice none 0 0) := (uI BK165.out 0).trans rfl; have hcz22_1 : w19.cell? ⟨gb165, 1, none⟩ = some (.slice none 0 0) := (uI BK165.out 1).trans rfl; have hfz22_0 := uK BK165.out 0; have hfz22_1 := uK BK165.out 1; obtain ⟨Ao23, co23, eo23⟩ := Kd.vN HO163.out; subst eo23))
      have n0_ : Aside0 (Kd.R (Kd.int .i64) 3 ((w19.setCell ⟨gb165, 0, none⟩ (.slice Ao20 t158.length co20)).setCell ⟨gb165, 1, none⟩ (.slice Ao23 t161.length co23)) w.heap.size (fun _ => True) (.slice Ao20 t158.length co20) t158) := ⟨by (with_reducible repeat (first | apply Kd.uN | apply Kd.uO | apply Kd.uP)); exact Kd.uZ (Kd.vG (p := ⟨gb165, 1, none⟩) (Kd.vG (p := ⟨gb165, 0, none⟩) (Kd.vR HO160.out BK165.out (by decide)) (fun _ hk => hk.2) (.slice Ao20 t158.length co20)) (fun _ hk => hk.2) (.slice Ao23 t161.length co23)) (fun _ hk => trivial)⟩
      have n1_ : Aside0 (Kd.R k49 49 ((w19.setCell ⟨gb165, 0, none⟩ (.slice Ao20 t158.length co20)).setCell ⟨gb165, 1, none⟩ (.slice Ao23 t161.length co23)) w.heap.size (fun _ => True) (.slice Ao23 t161.length co23) t161) := ⟨by (with_reducible repeat (first | apply Kd.uN | apply Kd.uO | apply Kd.uP)); exact Kd.uZ (Kd.vG (p := ⟨gb165, 1, none⟩) (Kd.vG (p := ⟨gb165, 0, none⟩) (Kd.vR HO163.out BK165.out (by decide)) (fun _ hk => hk.2) (.slice Ao20 t158.length co20)) (fun _ hk => hk.2) (.slice Ao23 t161.length co23)) (fun _ hk => trivial)⟩
      have n2_ : Aside0 (((w19.setCell ⟨gb165, 0, none⟩ (.slice Ao20 t158.length co20)).setCell ⟨gb165, 1, none⟩ (.slice Ao23 t161.length co23)).heap[gb151]? = some (.cells #[.bool false, .int .i64 0] 33 (0, 0))) := ⟨by (with_reducible repeat (first | refine uC ?_ _ | refine uE ?_ | refine uD ?_ _)); refine vF ?_ NB151_165.out _; (with_reducible repeat (first | refine uC ?_ _ | refine uE ?_ | refine uD ?_ _)); refine vF ?_ NB151_165.out _; (with_reducible repeat (first | refine uC ?_ _ | refine uE ?_ | refine uD ?_ _)); exact BK151.out⟩
      have n3_ : Aside0 (((w19.setCell ⟨gb165, 0, none⟩ (.slice Ao20 t158.length co20)).setCell ⟨gb165, 1, none⟩ (.slice Ao23 t161.length co23)).heap[gb165]? = some (.cells #[.slice Ao20 t158.length co20, .slice Ao23 t161.length co23] 31 (0, 0))) := ⟨by (with_reducible repeat (first | refine uC ?_ _ | refine uE ?_ | refine uD ?_ _)); refine uW (cs := #[.slice Ao20 t158.length co20, .slice none 0 0]) ?_ 1 _ rfl; (with_reducible repeat (first | refine uC ?_ _ | refine uE ?_ | refine uD ?_ _)); refine uW (cs := #[.slice none 0 0, .slice none 0 0]) ?_ 0 _ rfl; (with_reducible repeat (first | refine uC ?_ _ | refine uE ?_ | refine uD ?_ _)); exact BK165.out⟩
      have n4_ : Aside0 (Below w.heap.size w ((w19.setCell ⟨gb165, 0, none⟩ (.slice Ao20 t158.length co20)).setCell ⟨gb165, 1, none⟩ (.slice Ao23 t161.length co23))) := ⟨by repeat (first | (with_reducible first | exact HB.out | apply uG | apply uA | apply uF | refine uB ?_ GE151.out | refine uB ?_ GE165.out) | exact HB.out)⟩
      (try clear HO160)
      (try clear HO163)
      (try clear BK151)
      (try clear BK165)
      (try clear HB)
      generalize ((w19.setCell ⟨gb165, 0, none⟩ (.slice Ao20 t158.length co20)).setCell ⟨gb165, 1, none⟩ (.slice Ao23 t161.length co23)) = w24 at n0_ n1_ n2_ n3_ n4_ ⊢
      have HO160 := n0_
      have HO163 := n1_
      have BK151 := n2_
      have BK165 := n3_
      have HB := n4_
      clear n0_ n1_ n2_ n3_ n4_
      have n0_ := Aside0.mk (Kd.uP HO160.out)
      have n1_ := Aside0.mk (Kd.uP HO163.out)
      have n2_ := Aside0.mk (uE BK151.out)
      have n3_ := Aside0.mk (uE BK165.out)
      have n4_ := Aside0.mk (uF HB.out)
      clear HO160
      clear HO163
      clear BK151
      clear BK165
      clear HB
      have HO160 := n0_
      have HO163 := n1_
      have BK151 := n2_
      have BK165 := n3_
      have HB := n4_
      clear n0_ n1_ n2_ n3_ n4_
      have p166 : 0 ≤ (a1 : Int) := of_decide_eq_true (by first | (with_reducible assumption) | assumption)
      have q166 : a1 < (l0.length : Int) := of_decide_eq_true (by first | (with_reducible assumption) | assumption)
      obtain ⟨ad166, e166, hx166_0, hx166_1, hx166_2, hx166_3, hx166_4, hx166_5, hx166_6⟩ := at_T72 HR0.out a1 p166 q166
      have hw166_6 := hx166_6
      have hw166_5 := hx166_5
      have hw166_4 := hx166_4
      have hw166_3 := hx166_3
      have hw166_2 := hx166_2
      have hw166_1 := hx166_1
      have hw166_0 := hx166_0
      cases e166
      replace hx166_0 := (HB.out.cell (yA w _ hx166_0)).trans hx166_0
      replace hx166_1 := (HB.out.cell (yA w _ hx166_1)).trans hx166_1
      replace hx166_2 := (HB.out.cell (yA w _ hx166_2)).trans hx166_2
      replace hx166_3 := (HB.out.cell (yA w _ hx166_3)).trans hx166_3
      replace hx166_4 := (HB.out.cell (yA w _ hx166_4)).trans hx166_4
      replace hx166_5 := (HB.out.cell (yA w _ hx166_5)).trans hx166_5
      replace hx166_6 := (HB.out.cell (yA w _ hx166_6)).trans hx166_6
      replace p166 := eq_true p166
      replace q166 := eq_true q166
      refine start_ (n := 16) (S := fun w' => w'.cell? ⟨gb165, 0, none⟩ = some (.slice Ao20 t158.length co20) ∧ w'.cell? ⟨gb165, 1, none⟩ = some (.slice Ao23 t161.length co23) ∧ w'.cell? (ad166.add ((a1).toNat * 7)) = some (.int .i64 ((rd_T72 l0 a1).f0)) ∧ w'.cell? ⟨(ad166.add ((a1).toNat * 7)).block, (ad166.add ((a1).toNat * 7)).off + 1, none⟩ = some (.int .i64 ((rd_T72 l0 a1).f1.f0)) ∧ w'.cell? ⟨(ad166.add ((a1).toNat * 7)).block, (ad166.add ((a1).toNat * 7)).off + 2, none⟩ = some (.int .i64 ((rd_T72 l0 a1).f1.f1)) ∧ w'.cell? ⟨(ad166.add ((a1).toNat * 7)).block, (ad166.add ((a1).toNat * 7)).off + 3, none⟩ = some (.int .i64 ((rd_T72 l0 a1).f1.f2)) ∧ w'.cell? ⟨(ad166.add ((a1).toNat * 7)).block, (ad166.add ((a1).toNat * 7)).off + 4, none⟩ = some (.int .i64 ((rd_T72 l0 a1).f1.f3)) ∧ w'.cell? ⟨(ad166.add ((a1).toNat * 7)).block, (ad166.add ((a1).toNat * 7)).off + 5, none⟩ = some (.int .i64 ((rd_T72 l0 a1).f1.f4)) ∧ w'.cell? ⟨(ad166.add ((a1).toNat * 7)).block, (ad166.add ((a1).toNat * 7)).off + 6, none⟩ = some (.int .i64 ((rd_T72 l0 a1).f1.f5))) (ds := []) tb11 (by kernel_rfl) rfl rfl ⟨(uI BK165.out 0).trans rfl, (uI BK165.out 1).trans rfl, ((HB.out.cell (yA w _ hw166_0)).trans hw166_0), ((HB.out.cell (yA w _ hw166_1)).trans hw166_1), ((HB.out.cell (yA w _ hw166_2)).trans hw166_2), ((HB.out.cell (yA w _ hw166_3)).trans hw166_3), ((HB.out.cell (yA w _ hw166_4)).trans hw166_4), ((HB.out.cell (yA w _ hw166_5)).trans hw166_5), ((HB.out.cell (yA w _ hw166_6)).trans hw166_6)⟩ (fun hHeld => ?_); refine with_tabW spec_ResultAt.tab4 spec_ResultAt.bits4 (fun HT_ HW_ => ?_)
      generalize w24.drew = w25 at HO160 HO163 BK151 BK165 HB hx166_0 hx166_1 hx166_2 hx166_3 hx166_4 hx166_5 hx166_6 hHeld ⊢
      refine uJ (i := 1) (N := some 32) (v := ?_) (a' := ?_) tb12 rfl rfl (vL HT_.out (by kernel_rfl)) (fun _ _ _ h => h) (Or.inl ⟨by rfl, ?_⟩) ?_ ?_
      rotate_left
      · intro w'
        go_simp
        with_reducible rfl
      rotate_left
      · simp only [Act.put, vU, vV, vW, uL, uM]
        rfl
      refine uJ (i := 2) (N := some 33) (v := ?_) (a' := ?_) tb13 rfl rfl (vL HT_.out (by kernel_rfl)) (fun _ _ _ h => h) (Or.inl ⟨by rfl, ?_⟩) ?_ ?_
      rotate_left
      · intro w'
        go_simp
        with_reducible rfl
      rotate_left
      · simp only [Act.put, vU, vV, vW, uL, uM]
        rfl
      refine uJ (i := 3) (N := some 34) (v := ?_) (a' := ?_) tb14 rfl rfl (vL HT_.out (by kernel_rfl)) (fun _ _ _ h => h) (Or.inl ⟨by rfl, ?_⟩) ?_ ?_
      rotate_left
      · intro w'
        go_simp
        with_reducible rfl
      rotate_left
      · simp only [Act.put, vU, vV, vW, uL, uM]
        rfl
      refine uJ (i := 4) (N := some 35) (v := ?_) (a' := ?_) tb15 rfl rfl (vL HT_.out (by kernel_rfl)) (fun _ _ _ h => h) (Or.inl ⟨by rfl, ?_⟩) ?_ ?_
      rotate_left
      · intro w'
        go_simp
        with_reducible rfl
      rotate_left
      · simp only [Act.put, vU, vV, vW, uL, uM]
        rfl
      refine take_ (i := 0) (N := some 31) (v := ?_) (a' := ?_) tb16 rfl rfl (take_ofW HT_.out HW_.out (by kernel_rfl)) (fun _ _ _ h => h) (Or.inl ⟨by rfl, ?_⟩) hHeld ?_ ?_
      rotate_left
      · rintro w' ⟨s0, s1, s2, s3, s4, s5, s6, s7, s8⟩
        go_simp
        with_reducible rfl
      rotate_left
      · simp only [Act.put, vU, vV, vW, uL, uM]
        rfl
      refine take_ (i := 5) (N := some 36) (v := ?_) (a' := ?_) tb17 rfl rfl (take_ofW HT_.out HW_.out (by kernel_rfl)) (fun _ _ _ h => h) (Or.inl ⟨by rfl, ?_⟩) hHeld ?_ ?_
      rotate_left
      · rintro w' ⟨s0, s1, s2, s3, s4, s5, s6, s7, s8⟩
        go_simp
        with_reducible rfl
      rotate_left
      · simp only [Act.put, vU, vV, vW, uL, uM]
        rfl
      refine join_ (σ := Value × Value × Nat × Nat) 3 tb0 (fun s_ => [(37, .tuple #[.agg #[s_.1, s_.2.1], .agg #[.bool t173, .int .i64 t174], .bool t175]), (8, .pointer (some ⟨s_.2.2.1, 0, none⟩)), (9, .pointer (some ⟨s_.2.2.2, 0, none⟩)), (30, .tuple #[.agg #[s_.1, s_.2.1], .agg #[.bool t173, .int .i64 t174], .bool t175]), (38, .agg #[s_.1, s_.2.1]), (39, .agg #[.bool t173, .int .i64 t174]), (40, .bool t175)]) (fun s_ w' => (w'.cell? ⟨gb165, 0, none⟩ = some (.slice Ao20 t158.length co20) ∧ w'.cell? ⟨gb165, 1, none⟩ = some (.slice Ao23 t161.length co23) ∧ w'.cell? (ad166.add ((a1).toNat * 7)) = some (.int .i64 ((rd_T72 l0 a1).f0)) ∧ w'.cell? ⟨(ad166.add ((a1).toNat * 7)).block, (ad166.add ((a1).toNat * 7)).off + 1, none⟩ = some (.int .i64 ((rd_T72 l0 a1).f1.f0)) ∧ w'.cell? ⟨(ad166.add ((a1).toNat * 7)).block, (ad166.add ((a1).toNat * 7)).off + 2, none⟩ = some (.int .i64 ((rd_T72 l0 a1).f1.f1)) ∧ w'.cell? ⟨(ad166.add ((a1).toNat * 7)).block, (ad166.add ((a1).toNat * 7)).off + 3, none⟩ = some (.int .i64 ((rd_T72 l0 a1).f1.f2)) ∧ w'.cell? ⟨(ad166.add ((a1).toNat * 7)).block, (ad166.add ((a1).toNat * 7)).off + 4, none⟩ = some (.int .i64 ((rd_T72 l0 a1).f1.f3)) ∧ w'.cell? ⟨(ad166.add ((a1).toNat * 7)).block, (ad166.add ((a1).toNat * 7)).off + 5, none⟩ = some (.int .i64 ((rd_T72 l0 a1).f1.f4)) ∧ w'.cell? ⟨(ad166.add ((a1).toNat * 7)).block, (ad166.add ((a1).toNat * 7)).off + 6, none⟩ = some (.int .i64 ((rd_T72 l0 a1).f1.f5))) ∧ (Kd.R (Kd.int .i64) 3 w' w.heap.size (fun k_ => some k_ ≠ (s_.1 : Value).ownBlock) (.slice Ao20 t158.length co20) t158) ∧ (Kd.R k49 49 w' w.heap.size (fun k_ => some k_ ≠ (s_.2.1 : Value).ownBlock) (.slice Ao23 t161.length co23) t161) ∧ (Kd.R (Kd.int .i64) 3 w' w.heap.size (fun k_ => some k_ ≠ (.slice Ao20 t158.length co20 : Value).ownBlock) s_.1 t167) ∧ (Kd.R k49 49 w' w.heap.size (fun k_ => some k_ ≠ (.slice Ao23 t161.length co23 : Value).ownBlock) s_.2.1 t170) ∧ (w'.heap[gb151]? = some (.cells #[.bool false, .int .i64 0] 33 (0, 0))) ∧ (w'.heap[gb165]? = some (.cells #[.slice Ao20 t158.length co20, .slice Ao23 t161.length co23] 31 (0, 0))) ∧ (w'.heap[s_.2.2.1]? = some (.cells #[.slice none 0 0, .slice none 0 0] 31 (0, 0))) ∧ (w'.heap[s_.2.2.2]? = some (.cells #[.bool false, .int .i64 0] 33 (0, 0))) ∧ (w.heap.size ≤ s_.2.2.1) ∧ (w.heap.size ≤ s_.2.2.1) ∧ (gb151 ≠ s_.2.2.1) ∧ (s_.2.2.1 ≠ gb151) ∧ (gb165 ≠ s_.2.2.1) ∧ (s_.2.2.1 ≠ gb165) ∧ (s_.2.2.2 ≠ s_.2.2.1) ∧ (s_.2.2.1 ≠ s_.2.2.2) ∧ (w.heap.size ≤ s_.2.2.2) ∧ (w.heap.size ≤ s_.2.2.2) ∧ (gb151 ≠ s_.2.2.2) ∧ (s_.2.2.2 ≠ gb151) ∧ (gb165 ≠ s_.2.2.2) ∧ (s_.2.2.2 ≠ gb165) ∧ (Below w.heap.size w w')) ?_ ?_
      rotate_left
      · intro hJ6_11_12
        refine join_ (σ := Value × Value × Nat) 4 tb2 (fun s_ => [(37, .tuple #[.agg #[s_.1, s_.2.1], .agg #[.bool t173, .int .i64 t174], .bool t175]), (8, .pointer (some ⟨s_.2.2, 0, none⟩)), (30, .tuple #[.agg #[s_.1, s_.2.1], .agg #[.bool t173, .int .i64 t174], .bool t175]), (38, .agg #[s_.1, s_.2.1]), (39, .agg #[.bool t173, .int .i64 t174]), (40, .bool t175)]) (fun s_ w' => (w'.cell? ⟨gb165, 0, none⟩ = some (.slice Ao20 t158.length co20) ∧ w'.cell? ⟨gb165, 1, none⟩ = some (.slice Ao23 t161.length co23) ∧ w'.cell? (ad166.add ((a1).toNat * 7)) = some (.int .i64 ((rd_T72 l0 a1).f0)) ∧ w'.cell? ⟨(ad166.add ((a1).toNat * 7)).block, (ad166.add ((a1).toNat * 7)).off + 1, none⟩ = some (.int .i64 ((rd_T72 l0 a1).f1.f0)) ∧ w'.cell? ⟨(ad166.add ((a1).toNat * 7)).block, (ad166.add ((a1).toNat * 7)).off + 2, none⟩ = some (.int .i64 ((rd_T72 l0 a1).f1.f1)) ∧ w'.cell? ⟨(ad166.add ((a1).toNat * 7)).block, (ad166.add ((a1).toNat * 7)).off + 3, none⟩ = some (.int .i64 ((rd_T72 l0 a1).f1.f2)) ∧ w'.cell? ⟨(ad166.add ((a1).toNat * 7)).block, (ad166.add ((a1).toNat * 7)).off + 4, none⟩ = some (.int .i64 ((rd_T72 l0 a1).f1.f3)) ∧ w'.cell? ⟨(ad166.add ((a1).toNat * 7)).block, (ad166.add ((a1).toNat * 7)).off + 5, none⟩ = some (.int .i64 ((rd_T72 l0 a1).f1.f4)) ∧ w'.cell? ⟨(ad166.add ((a1).toNat * 7)).block, (ad166.add ((a1).toNat * 7)).off + 6, none⟩ = some (.int .i64 ((rd_T72 l0 a1).f1.f5))) ∧ (Kd.R (Kd.int .i64) 3 w' w.heap.size (fun k_ => some k_ ≠ (s_.1 : Value).ownBlock) (.slice Ao20 t158.length co20) t158) ∧ (Kd.R k49 49 w' w.heap.size (fun k_ => some k_ ≠ (s_.2.1 : Value).ownBlock) (.slice Ao23 t161.length co23) t161) ∧ (Kd.R (Kd.int .i64) 3 w' w.heap.size (fun k_ => some k_ ≠ (.slice Ao20 t158.length co20 : Value).ownBlock) s_.1 t167) ∧ (Kd.R k49 49 w' w.heap.size (fun k_ => some k_ ≠ (.slice Ao23 t161.length co23 : Value).ownBlock) s_.2.1 t170) ∧ (w'.heap[gb151]? = some (.cells #[.bool false, .int .i64 0] 33 (0, 0))) ∧ (w'.heap[gb165]? = some (.cells #[.slice Ao20 t158.length co20, .slice Ao23 t161.length co23] 31 (0, 0))) ∧ (w'.heap[s_.2.2]? = some (.cells #[.slice none 0 0, .slice none 0 0] 31 (0, 0))) ∧ (w.heap.size ≤ s_.2.2) ∧ (w.heap.size ≤ s_.2.2) ∧ (gb151 ≠ s_.2.2) ∧ (s_.2.2 ≠ gb151) ∧ (gb165 ≠ s_.2.2) ∧ (s_.2.2 ≠ gb165) ∧ (Below w.heap.size w w')) ?_ ?_
        rotate_left
        · intro hJ6_11
          refine join_ (σ := Value × Value × Nat) 4 tb3 (fun s_ => [(37, .tuple #[.agg #[s_.1, s_.2.1], .agg #[.bool t173, .int .i64 t174], .bool t175]), (9, .pointer (some ⟨s_.2.2, 0, none⟩)), (30, .tuple #[.agg #[s_.1, s_.2.1], .agg #[.bool t173, .int .i64 t174], .bool t175]), (38, .agg #[s_.1, s_.2.1]), (39, .agg #[.bool t173, .int .i64 t174]), (40, .bool t175)]) (fun s_ w' => (w'.cell? ⟨gb165, 0, none⟩ = some (.slice Ao20 t158.length co20) ∧ w'.cell? ⟨gb165, 1, none⟩ = some (.slice Ao23 t161.length co23) ∧ w'.cell? (ad166.add ((a1).toNat * 7)) = some (.int .i64 ((rd_T72 l0 a1).f0)) ∧ w'.cell? ⟨(ad166.add ((a1).toNat * 7)).block, (ad166.add ((a1).toNat * 7)).off + 1, none⟩ = some (.int .i64 ((rd_T72 l0 a1).f1.f0)) ∧ w'.cell? ⟨(ad166.add ((a1).toNat * 7)).block, (ad166.add ((a1).toNat * 7)).off + 2, none⟩ = some (.int .i64 ((rd_T72 l0 a1).f1.f1)) ∧ w'.cell? ⟨(ad166.add ((a1).toNat * 7)).block, (ad166.add ((a1).toNat * 7)).off + 3, none⟩ = some (.int .i64 ((rd_T72 l0 a1).f1.f2)) ∧ w'.cell? ⟨(ad166.add ((a1).toNat * 7)).block, (ad166.add ((a1).toNat * 7)).off + 4, none⟩ = some (.int .i64 ((rd_T72 l0 a1).f1.f3)) ∧ w'.cell? ⟨(ad166.add ((a1).toNat * 7)).block, (ad166.add ((a1).toNat * 7)).off + 5, none⟩ = some (.int .i64 ((rd_T72 l0 a1).f1.f4)) ∧ w'.cell? ⟨(ad166.add ((a1).toNat * 7)).block, (ad166.add ((a1).toNat * 7)).off + 6, none⟩ = some (.int .i64 ((rd_T72 l0 a1).f1.f5))) ∧ (Kd.R (Kd.int .i64) 3 w' w.heap.size (fun k_ => some k_ ≠ (s_.1 : Value).ownBlock) (.slice Ao20 t158.length co20) t158) ∧ (Kd.R k49 49 w' w.heap.size (fun k_ => some k_ ≠ (s_.2.1 : Value).ownBlock) (.slice Ao23 t161.length co23) t161) ∧ (Kd.R (Kd.int .i64) 3 w' w.heap.size (fun k_ => some k_ ≠ (.slice Ao20 t158.length co20 : Value).ownBlock) s_.1 t167) ∧ (Kd.R k49 49 w' w.heap.size (fun k_ => some k_ ≠ (.slice Ao23 t161.length co23 : Value).ownBlock) s_.2.1 t170) ∧ (w'.heap[gb151]? = some (.cells #[.bool false, .int .i64 0] 33 (0, 0))) ∧ (w'.heap[gb165]? = some (.cells #[.slice Ao20 t158.length co20, .slice Ao23 t161.length co23] 31 (0, 0))) ∧ (w'.heap[s_.2.2]? = some (.cells #[.bool false, .int .i64 0] 33 (0, 0))) ∧ (w.heap.size ≤ s_.2.2) ∧ (w.heap.size ≤ s_.2.2) ∧ (gb151 ≠ s_.2.2) ∧ (s_.2.2 ≠ gb151) ∧ (gb165 ≠ s_.2.2) ∧ (s_.2.2 ≠ gb165) ∧ (Below w.heap.size w w')) ?_ ?_
          rotate_left
          · intro hJ6_12
            refine join_ (σ := Nat × Nat) 8 tb1 (fun s_ => [(8, .pointer (some ⟨s_.1, 0, none⟩)), (9, .pointer (some ⟨s_.2, 0, none⟩))]) (fun s_ w' => (w'.cell? ⟨gb165, 0, none⟩ = some (.slice Ao20 t158.length co20) ∧ w'.cell? ⟨gb165, 1, none⟩ = some (.slice Ao23 t161.length co23) ∧ w'.cell? (ad166.add ((a1).toNat * 7)) = some (.int .i64 ((rd_T72 l0 a1).f0)) ∧ w'.cell? ⟨(ad166.add ((a1).toNat * 7)).block, (ad166.add ((a1).toNat * 7)).off + 1, none⟩ = some (.int .i64 ((rd_T72 l0 a1).f1.f0)) ∧ w'.cell? ⟨(ad166.add ((a1).toNat * 7)).block, (ad166.add ((a1).toNat * 7)).off + 2, none⟩ = some (.int .i64 ((rd_T72 l0 a1).f1.f1)) ∧ w'.cell? ⟨(ad166.add ((a1).toNat * 7)).block, (ad166.add ((a1).toNat * 7)).off + 3, none⟩ = some (.int .i64 ((rd_T72 l0 a1).f1.f2)) ∧ w'.cell? ⟨(ad166.add ((a1).toNat * 7)).block, (ad166.add ((a1).toNat * 7)).off + 4, none⟩ = some (.int .i64 ((rd_T72 l0 a1).f1.f3)) ∧ w'.cell? ⟨(ad166.add ((a1).toNat * 7)).block, (ad166.add ((a1).toNat * 7)).off + 5, none⟩ = some (.int .i64 ((rd_T72 l0 a1).f1.f4)) ∧ w'.cell? ⟨(ad166.add ((a1).toNat * 7)).block, (ad166.add ((a1).toNat * 7)).off + 6, none⟩ = some (.int .i64 ((rd_T72 l0 a1).f1.f5))) ∧ (Kd.R (Kd.int .i64) 3 w' w.heap.size (fun _ => True) (.slice Ao20 t158.length co20) t158) ∧ (Kd.R k49 49 w' w.heap.size (fun _ => True) (.slice Ao23 t161.length co23) t161) ∧ (w'.heap[gb151]? = some (.cells #[.bool false, .int .i64 0] 33 (0, 0))) ∧ (w'.heap[gb165]? = some (.cells #[.slice Ao20 t158.length co20, .slice Ao23 t161.length co23] 31 (0, 0))) ∧ (w'.heap[s_.1]? = some (.cells #[.slice none 0 0, .slice none 0 0] 31 (0, 0))) ∧ (w'.heap[s_.2]? = some (.cells #[.bool false, .int .i64 0] 33 (0, 0))) ∧ (w.heap.size ≤ s_.1) ∧ (w.heap.size ≤ s_.1) ∧ (gb151 ≠ s_.1) ∧ (s_.1 ≠ gb151) ∧ (gb165 ≠ s_.1) ∧ (s_.1 ≠ gb165) ∧ (s_.2 ≠ s_.1) ∧ (s_.1 ≠ s_.2) ∧ (w.heap.size ≤ s_.2) ∧ (w.heap.size ≤ s_.2) ∧ (gb151 ≠ s_.2) ∧ (s_.2 ≠ gb151) ∧ (gb165 ≠ s_.2) ∧ (s_.2 ≠ gb165) ∧ (Below w.heap.size w w')) ?_ ?_
            rotate_left
            · intro hJ11_12
              refine join_ (σ := Value × Value) 5 tb7 (fun s_ => [(37, .tuple #[.agg #[s_.1, s_.2], .agg #[.bool t173, .int .i64 t174], .bool t175]), (30, .tuple #[.agg #[s_.1, s_.2], .agg #[.bool t173, .int .i64 t174], .bool t175]), (38, .agg #[s_.1, s_.2]), (39, .agg #[.bool t173, .int .i64 t174]), (40, .bool t175)]) (fun s_ w' => (w'.cell? ⟨gb165, 0, none⟩ = some (.slice Ao20 t158.length co20) ∧ w'.cell? ⟨gb165, 1, none⟩ = some (.slice Ao23 t161.length co23) ∧ w'.cell? (ad166.add ((a1).toNat * 7)) = some (.int .i64 ((rd_T72 l0 a1).f0)) ∧ w'.cell? ⟨(ad166.add ((a1).toNat * 7)).block, (ad166.add ((a1).toNat * 7)).off + 1, none⟩ = some (.int .i64 ((rd_T72 l0 a1).f1.f0)) ∧ w'.cell? ⟨(ad166.add ((a1).toNat * 7)).block, (ad166.add ((a1).toNat * 7)).off + 2, none⟩ = some (.int .i64 ((rd_T72 l0 a1).f1.f1)) ∧ w'.cell? ⟨(ad166.add ((a1).toNat * 7)).block, (ad166.add ((a1).toNat * 7)).off + 3, none⟩ = some (.int .i64 ((rd_T72 l0 a1).f1.f2)) ∧ w'.cell? ⟨(ad166.add ((a1).toNat * 7)).block, (ad166.add ((a1).toNat * 7)).off + 4, none⟩ = some (.int .i64 ((rd_T72 l0 a1).f1.f3)) ∧ w'.cell? ⟨(ad166.add ((a1).toNat * 7)).block, (ad166.add ((a1).toNat * 7)).off + 5, none⟩ = some (.int .i64 ((rd_T72 l0 a1).f1.f4)) ∧ w'.cell? ⟨(ad166.add ((a1).toNat * 7)).block, (ad166.add ((a1).toNat * 7)).off + 6, none⟩ = some (.int .i64 ((rd_T72 l0 a1).f1.f5))) ∧ (Kd.R (Kd.int .i64) 3 w' w.heap.size (fun k_ => some k_ ≠ (s_.1 : Value).ownBlock) (.slice Ao20 t158.length co20) t158) ∧ (Kd.R k49 49 w' w.heap.size (fun k_ => some k_ ≠ (s_.2 : Value).ownBlock) (.slice Ao23 t161.length co23) t161) ∧ (Kd.R (Kd.int .i64) 3 w' w.heap.size (fun k_ => some k_ ≠ (.slice Ao20 t158.length co20 : Value).ownBlock) s_.1 t167) ∧ (Kd.R k49 49 w' w.heap.size (fun k_ => some k_ ≠ (.slice Ao23 t161.length co23 : Value).ownBlock) s_.2 t170) ∧ (w'.heap[gb151]? = some (.cells #[.bool false, .int .i64 0] 33 (0, 0))) ∧ (w'.heap[gb165]? = some (.cells #[.slice Ao20 t158.length co20, .slice Ao23 t161.length co23] 31 (0, 0))) ∧ (Below w.heap.size w w')) ?_ ?_
              rotate_left
              · intro hJ6
                refine join_ (σ := Nat) 9 tb5 (fun s_ => [(8, .pointer (some ⟨s_, 0, none⟩))]) (fun s_ w' => (w'.cell? ⟨gb165, 0, none⟩ = some (.slice Ao20 t158.length co20) ∧ w'.cell? ⟨gb165, 1, none⟩ = some (.slice Ao23 t161.length co23) ∧ w'.cell? (ad166.add ((a1).toNat * 7)) = some (.int .i64 ((rd_T72 l0 a1).f0)) ∧ w'.cell? ⟨(ad166.add ((a1).toNat * 7)).block, (ad166.add ((a1).toNat * 7)).off + 1, none⟩ = some (.int .i64 ((rd_T72 l0 a1).f1.f0)) ∧ w'.cell? ⟨(ad166.add ((a1).toNat * 7)).block, (ad166.add ((a1).toNat * 7)).off + 2, none⟩ = some (.int .i64 ((rd_T72 l0 a1).f1.f1)) ∧ w'.cell? ⟨(ad166.add ((a1).toNat * 7)).block, (ad166.add ((a1).toNat * 7)).off + 3, none⟩ = some (.int .i64 ((rd_T72 l0 a1).f1.f2)) ∧ w'.cell? ⟨(ad166.add ((a1).toNat * 7)).block, (ad166.add ((a1).toNat * 7)).off + 4, none⟩ = some (.int .i64 ((rd_T72 l0 a1).f1.f3)) ∧ w'.cell? ⟨(ad166.add ((a1).toNat * 7)).block, (ad166.add ((a1).toNat * 7)).off + 5, none⟩ = some (.int .i64 ((rd_T72 l0 a1).f1.f4)) ∧ w'.cell? ⟨(ad166.add ((a1).toNat * 7)).block, (ad166.add ((a1).toNat * 7)).off + 6, none⟩ = some (.int .i64 ((rd_T72 l0 a1).f1.f5))) ∧ (Kd.R (Kd.int .i64) 3 w' w.heap.size (fun _ => True) (.slice Ao20 t158.length co20) t158) ∧ (Kd.R k49 49 w' w.heap.size (fun _ => True) (.slice Ao23 t161.length co23) t161) ∧ (w'.heap[gb151]? = some (.cells #[.bool false, .int .i64 0] 33 (0, 0))) ∧ (w'.heap[gb165]? = some (.cells #[.slice Ao20 t158.length co20, .slice Ao23 t161.length co23] 31 (0, 0))) ∧ (w'.heap[s_]? = some (.cells #[.slice none 0 0, .slice none 0 0] 31 (0, 0))) ∧ (w.heap.size ≤ s_) ∧ (w.heap.size ≤ s_) ∧ (gb151 ≠ s_) ∧ (s_ ≠ gb151) ∧ (gb165 ≠ s_) ∧ (s_ ≠ gb165) ∧ (Below w.heap.size w w')) ?_ ?_
                rotate_left
                · intro hJ11
                  refine join_ (σ := Nat) 9 tb6 (fun s_ => [(9, .pointer (some ⟨s_, 0, none⟩))]) (fun s_ w' => (w'.cell? ⟨gb165, 0, none⟩ = some (.slice Ao20 t158.length co20) ∧ w'.cell? ⟨gb165, 1, none⟩ = some (.slice Ao23 t161.length co23) ∧ w'.cell? (ad166.add ((a1).toNat * 7)) = some (.int .i64 ((rd_T72 l0 a1).f0)) ∧ w'.cell? ⟨(ad166.add ((a1).toNat * 7)).block, (ad166.add ((a1).toNat * 7)).off + 1, none⟩ = some (.int .i64 ((rd_T72 l0 a1).f1.f0)) ∧ w'.cell? ⟨(ad166.add ((a1).toNat * 7)).block, (ad166.add ((a1).toNat * 7)).off + 2, none⟩ = some (.int .i64 ((rd_T72 l0 a1).f1.f1)) ∧ w'.cell? ⟨(ad166.add ((a1).toNat * 7)).block, (ad166.add ((a1).toNat * 7)).off + 3, none⟩ = some (.int .i64 ((rd_T72 l0 a1).f1.f2)) ∧ w'.cell? ⟨(ad166.add ((a1).toNat * 7)).block, (ad166.add ((a1).toNat * 7)).off + 4, none⟩ = some (.int .i64 ((rd_T72 l0 a1).f1.f3)) ∧ w'.cell? ⟨(ad166.add ((a1).toNat * 7)).block, (ad166.add ((a1).toNat * 7)).off + 5, none⟩ = some (.int .i64 ((rd_T72 l0 a1).f1.f4)) ∧ w'.cell? ⟨(ad166.add ((a1).toNat * 7)).block, (ad166.add ((a1).toNat * 7)).off + 6, none⟩ = some (.int .i64 ((rd_T72 l0 a1).f1.f5))) ∧ (Kd.R (Kd.int .i64) 3 w' w.heap.size (fun _ => True) (.slice Ao20 t158.length co20) t158) ∧ (Kd.R k49 49 w' w.heap.size (fun _ => True) (.slice Ao23 t161.length co23) t161) ∧ (w'.heap[gb151]? = some (.cells #[.bool false, .int .i64 0] 33 (0, 0))) ∧ (w'.heap[gb165]? = some (.cells #[.slice Ao20 t158.length co20, .slice Ao23 t161.length co23] 31 (0, 0))) ∧ (w'.heap[s_]? = some (.cells #[.bool false, .int .i64 0] 33 (0, 0))) ∧ (w.heap.size ≤ s_) ∧ (w.heap.size ≤ s_) ∧ (gb151 ≠ s_) ∧ (s_ ≠ gb151) ∧ (gb165 ≠ s_) ∧ (s_ ≠ gb165) ∧ (Below w.heap.size w w')) ?_ ?_
                  rotate_left
                  · intro hJ12
                    refine three_ (i := 6) (j := 11) (k := 12) (Ni := some 37) (Nj := some 8) (Nk := some 9) tb19 tb5 tb6 rfl rfl rfl rfl rfl rfl (three_of HT_.out (by kernel_rfl)) (by decide) (by decide) (by decide) (fun K hK => ?_) (fun K hK => ?_) (fun K hK => ?_)
                    · skip
                      refine goes_ Try.func9 (by kernel_rfl) rfl #[.agg #[.slice Ao20 t158.length co20, .slice Ao23 t161.length co23], .agg #[.int .i64 ((rd_T72 l0 a1).f1.f0), .int .i64 ((rd_T72 l0 a1).f1.f1), .int .i64 ((rd_T72 l0 a1).f1.f2), .int .i64 ((rd_T72 l0 a1).f1.f3), .int .i64 ((rd_T72 l0 a1).f1.f4), .int .i64 ((rd_T72 l0 a1).f1.f5)]] (by rfl) rfl rfl (by (try simp only [vX, List.map_cons, List.map_nil]); first | done | rfl | (simp only [vZ, vY]; rfl)) ?_
                      with_reducible refine (spec_ApplyOp.calls kj2 _ _ t158 _ _ t161 ((rd_T72 l0 a1).f1.f0) ((rd_T72 l0 a1).f1.f1) ((rd_T72 l0 a1).f1.f2) ((rd_T72 l0 a1).f1.f3) ((rd_T72 l0 a1).f1.f4) ((rd_T72 l0 a1).f1.f5) t167 t170 t173 t174 t175 _ ?side1 ?side2 ?side3 ?side4 A16.out).mono ?_
                      (case side1 => repeat (first | exact (Kd.vH HO160.out).2.2 | (with_reducible refine Kd.vQ ?_ _) | (with_reducible refine Kd.vP ?_ _) | (with_reducible refine Kd.vS ?_)))
                      (case side2 => exact (Kd.vH HO160.out).2.1)
                      (case side3 => repeat (first | exact (Kd.vH HO163.out).2.2 | (with_reducible refine Kd.vQ ?_ _) | (with_reducible refine Kd.vP ?_ _) | (with_reducible refine Kd.vS ?_)))
                      (case side4 => exact (Kd.vH HO163.out).2.1)
                      rintro e w26 ⟨v168, v171, rfl, ho0, ho1, hb⟩
                      refine ⟨_, rfl, ?_⟩
                      have n0_ := Aside0.mk (Kd.R_elder' (by (with_reducible repeat (first | apply Kd.uN | apply Kd.uO | apply Kd.uP)); exact HO160.out) (Kd.R_base ho0) hb)
                      have n1_ := Aside0.mk (Kd.R_elder' (by (with_reducible repeat (first | apply Kd.uN | apply Kd.uO | apply Kd.uP)); exact HO163.out) (Kd.R_base ho1) hb)
                      have n2_ := Aside0.mk (Kd.vO (Kd.R_new' ho0 (Kd.R_lt (by (with_reducible repeat (first | apply Kd.uN | apply Kd.uO | apply Kd.uP)); exact HO160.out))) (uQ (by repeat (first | (with_reducible first | exact HB.out | apply uG | apply uA | apply uF | refine uB ?_ GE151.out | refine uB ?_ GE165.out) | exact HB.out))))
                      have n3_ := Aside0.mk (Kd.vO (Kd.R_new' ho1 (Kd.R_lt (by (with_reducible repeat (first | apply Kd.uN | apply Kd.uO | apply Kd.uP)); exact HO163.out))) (uQ (by repeat (first | (with_reducible first | exact HB.out | apply uG | apply uA | apply uF | refine uB ?_ GE151.out | refine uB ?_ GE165.out) | exact HB.out))))
                      have n4_ := Aside0.mk (uR (g := gb151) (o := .cells #[.bool false, .int .i64 0] 33 (0, 0)) (by (with_reducible repeat (first | refine uC ?_ _ | refine uE ?_ | refine uD ?_ _)); exact BK151.out) hb)
                      have n5_ := Aside0.mk (uR (g := gb165) (o := .cells #[.slice Ao20 t158.length co20, .slice Ao23 t161.length co23] 31 (0, 0)) (by (with_reducible repeat (first | refine uC ?_ _ | refine uE ?_ | refine uD ?_ _)); exact BK165.out) hb)
                      have n6_ := Aside0.mk (uS (by repeat (first | (with_reducible first | exact HB.out | apply uG | apply uA | apply uF | refine uB ?_ GE151.out | refine uB ?_ GE165.out) | exact HB.out)) hb)
                      clear HO160
                      clear HO163
                      clear BK151
                      clear BK165
                      clear HB
                      have HO160 := n0_
                      have HO163 := n1_
                      have HO169 := n2_
                      have HO172 := n3_
                      have BK151 := n4_
                      have BK165 := n5_
                      have HB := n6_
                      clear n0_ n1_ n2_ n3_ n4_ n5_ n6_
                      (try clear hb)
                      (try clear hb2)
                      (try clear hk)
                      (try clear hi)
                      (try clear ho0)
                      (try clear ho1)
                      refine hK.out _ _ ⟨(uI BK165.out 0).trans rfl, (uI BK165.out 1).trans rfl, ((HB.out.cell (yA w _ hw166_0)).trans hw166_0), ((HB.out.cell (yA w _ hw166_1)).trans hw166_1), ((HB.out.cell (yA w _ hw166_2)).trans hw166_2), ((HB.out.cell (yA w _ hw166_3)).trans hw166_3), ((HB.out.cell (yA w _ hw166_4)).trans hw166_4), ((HB.out.cell (yA w _ hw166_5)).trans hw166_5), ((HB.out.cell (yA w _ hw166_6)).trans hw166_6)⟩ (fun hHeld => ?_)
                      clear hK K
                      refine vC (a' := ?_) ?_ ?_
                      rotate_left
                      · show Act.put _ (some 37) _ = _
                        simp only [Act.put, vU, vV, vW, uL, uM]
                        rfl
                      refine uJ (i := 7) (N := some 30) (v := ?_) (a' := ?_) tb20 rfl rfl (vL HT_.out (by kernel_rfl)) (fun _ _ _ h => h) (Or.inl ⟨by rfl, ?_⟩) ?_ ?_
                      rotate_left
                      · intro w'
                        go_simp
                        with_reducible rfl
                      rotate_left
                      · simp only [Act.put, vU, vV, vW, uL, uM]
                        rfl
                      refine uJ (i := 8) (N := some 38) (v := ?_) (a' := ?_) tb23 rfl rfl (vL HT_.out (by kernel_rfl)) (fun _ _ _ h => h) (Or.inl ⟨by rfl, ?_⟩) ?_ ?_
                      rotate_left
                      · intro w'
                        go_simp
                        with_reducible rfl
                      rotate_left
                      · simp only [Act.put, vU, vV, vW, uL, uM]
                        rfl
                      refine uJ (i := 9) (N := some 39) (v := ?_) (a' := ?_) tb27 rfl rfl (vL HT_.out (by kernel_rfl)) (fun _ _ _ h => h) (Or.inl ⟨by rfl, ?_⟩) ?_ ?_
                      rotate_left
                      · intro w'
                        go_simp
                        with_reducible rfl
                      rotate_left
                      · simp only [Act.put, vU, vV, vW, uL, uM]
                        rfl
                      refine uJ (i := 10) (N := some 40) (v := ?_) (a' := ?_) tb7 rfl rfl (vL HT_.out (by kernel_rfl)) (fun _ _ _ h => h) (Or.inl ⟨by rfl, ?_⟩) ?_ ?_
                      rotate_left
                      · intro w'
                        go_simp
                        with_reducible rfl
                      rotate_left
                      · simp only [Act.put, vU, vV, vW, uL, uM]
                        rfl
                      exact vC (by first | (simp only [vK, Act.put, vU, vV, vW]; done) | (simp only [vK, Act.put, vU, vV, vW]; rfl)) (hJ6 (v168, v171) _ ⟨hHeld, (by (with_reducible repeat (first | apply Kd.uN | apply Kd.uO | apply Kd.uP)); exact Kd.uZ HO160.out (fun _ hk => hk.2)), (by (with_reducible repeat (first | apply Kd.uN | apply Kd.uO | apply Kd.uP)); exact Kd.uZ HO163.out (fun _ hk => hk.2)), (by (with_reducible repeat (first | apply Kd.uN | apply Kd.uO | apply Kd.uP)); exact Kd.uZ HO169.out (fun _ hk => hk.2)), (by (with_reducible repeat (first | apply Kd.uN | apply Kd.uO | apply Kd.uP)); exact Kd.uZ HO172.out (fun _ hk => hk.2)), (by (with_reducible repeat (first | refine uC ?_ _ | refine uE ?_ | refine uD ?_ _)); exact BK151.out), (by (with_reducible repeat (first | refine uC ?_ _ | refine uE ?_ | refine uD ?_ _)); exact BK165.out), (by repeat (first | (with_reducible first | exact HB.out | apply uG | apply uA | apply uF | refine uB ?_ GE151.out | refine uB ?_ GE165.out) | exact HB.out))⟩)
                    · skip
                      refine box_step ?hg (N := 8) ?hd (cs := #[.slice none 0 0, .slice none 0 0]) (t := 31) ?hr ?_; (case hd => rfl); (case hg => rfl); (case hr => first | (go_simp; done) | (go_simp; rfl))
                      intro gb176 hg w26 hbox hb
                      have n0_ := Aside0.mk (Kd.vD (by (with_reducible repeat (first | apply Kd.uN | apply Kd.uO | apply Kd.uP)); exact HO160.out) hb)
                      have n1_ := Aside0.mk (Kd.vD (by (with_reducible repeat (first | apply Kd.uN | apply Kd.uO | apply Kd.uP)); exact HO163.out) hb)
                      have n2_ := Aside0.mk (uR (g := gb151) (o := .cells #[.bool false, .int .i64 0] 33 (0, 0)) (by (with_reducible repeat (first | refine uC ?_ _ | refine uE ?_ | refine uD ?_ _)); exact BK151.out) hb)
                      have n3_ := Aside0.mk (uR (g := gb165) (o := .cells #[.slice Ao20 t158.length co20, .slice Ao23 t161.length co23] 31 (0, 0)) (by (with_reducible repeat (first | refine uC ?_ _ | refine uE ?_ | refine uD ?_ _)); exact BK165.out) hb)
                      have n4_ := Aside0.mk (uS (by repeat (first | (with_reducible first | exact HB.out | apply uG | apply uA | apply uF | refine uB ?_ GE151.out | refine uB ?_ GE165.out) | exact HB.out)) hb)
                      have n5_ := Aside0.mk (hbox)
                      have n6_ := Aside0.mk ((by rw [hg]; exact (uQ (by repeat (first | (with_reducible first | exact HB.out | apply uG | apply uA | apply uF | refine uB ?_ GE151.out | refine uB ?_ GE165.out) | exact HB.out))) : w.heap.size ≤ gb176))
                      have n7_ := Aside0.mk ((by rw [hg]; exact (uQ (by repeat (first | (with_reducible first | exact HB.out | apply uG | apply uA | apply uF | refine uB ?_ GE151.out | refine uB ?_ GE165.out) | exact HB.out))) : w.heap.size ≤ gb176))
                      have n8_ := Aside0.mk ((by rw [hg]; exact Nat.ne_of_lt (uV (g := gb151) (o := .cells #[.bool false, .int .i64 0] 33 (0, 0)) (by (with_reducible repeat (first | refine uC ?_ _ | refine uE ?_ | refine uD ?_ _)); exact BK151.out)) : gb151 ≠ gb176))
                      have n9_ := Aside0.mk ((by rw [hg]; exact Nat.ne_of_gt (uV (g := gb151) (o := .cells #[.bool false, .int .i64 0] 33 (0, 0)) (by (with_reducible repeat (first | refine uC ?_ _ | refine uE ?_ | refine uD ?_ _)); exact BK151.out)) : gb176 ≠ gb151))
                      have n10_ := Aside0.mk ((by rw [hg]; exact Nat.ne_of_lt (uV (g := gb165) (o := .cells #[.slice Ao20 t158.length co20, .slice Ao23 t161.length co23] 31 (0, 0)) (by (with_reducible repeat (first | refine uC ?_ _ | refine uE ?_ | refine uD ?_ _)); exact BK165.out)) : gb165 ≠ gb176))
                      have n11_ := Aside0.mk ((by rw [hg]; exact Nat.ne_of_gt (uV (g := gb165) (o := .cells #[.slice Ao20 t158.length co20, .slice Ao23 t161.length co23] 31 (0, 0)) (by (with_reducible repeat (first | refine uC ?_ _ | refine uE ?_ | refine uD ?_ _)); exact BK165.out)) : gb176 ≠ gb165))
                      clear HO160
                      clear HO163
                      clear BK151
                      clear BK165
                      clear HB
                      have HO160 := n0_
                      have HO163 := n1_
                      have BK151 := n2_
                      have BK165 := n3_
                      have HB := n4_
                      have BK176 := n5_
                      have GW176 := n6_
                      have GE176 := n7_
                      have NB151_176 := n8_
                      have NB176_151 := n9_
                      have NB165_176 := n10_
                      have NB176_165 := n11_
                      clear n0_ n1_ n2_ n3_ n4_ n5_ n6_ n7_ n8_ n9_ n10_ n11_
                      clear hb hbox hg
                      refine hK.out _ _ ⟨(uI BK165.out 0).trans rfl, (uI BK165.out 1).trans rfl, ((HB.out.cell (yA w _ hw166_0)).trans hw166_0), ((HB.out.cell (yA w _ hw166_1)).trans hw166_1), ((HB.out.cell (yA w _ hw166_2)).trans hw166_2), ((HB.out.cell (yA w _ hw166_3)).trans hw166_3), ((HB.out.cell (yA w _ hw166_4)).trans hw166_4), ((HB.out.cell (yA w _ hw166_5)).trans hw166_5), ((HB.out.cell (yA w _ hw166_6)).trans hw166_6)⟩ (fun hHeld => ?_)
                      clear hK K
                      refine vC (a' := ?_) ?_ ?_
                      rotate_left
                      · show Act.put _ (some 8) _ = _
                        simp only [Act.put, vU, vV, vW, uL, uM]
                        rfl
                      exact vC (by first | (simp only [vK, Act.put, vU, vV, vW]; done) | (simp only [vK, Act.put, vU, vV, vW]; rfl)) (hJ11 (gb176) _ ⟨hHeld, (by (with_reducible repeat (first | apply Kd.uN | apply Kd.uO | apply Kd.uP)); exact HO160.out), (by (with_reducible repeat (first | apply Kd.uN | apply Kd.uO | apply Kd.uP)); exact HO163.out), (by (with_reducible repeat (first | refine uC ?_ _ | refine uE ?_ | refine uD ?_ _)); exact BK151.out), (by (with_reducible repeat (first | refine uC ?_ _ | refine uE ?_ | refine uD ?_ _)); exact BK165.out), (by (with_reducible repeat (first | refine uC ?_ _ | refine uE ?_ | refine uD ?_ _)); exact BK176.out), GW176.out, GE176.out, NB151_176.out, NB176_151.out, NB165_176.out, NB176_165.out, (by repeat (first | (with_reducible first | exact HB.out | apply uG | apply uA | apply uF | refine uB ?_ GE151.out | refine uB ?_ GE165.out | refine uB ?_ GE176.out) | exact HB.out))⟩)
                    skip
                    refine box_step ?hg (N := 9) ?hd (cs := #[.bool false, .int .i64 0]) (t := 33) ?hr ?_; (case hd => rfl); (case hg => rfl); (case hr => first | (go_simp; done) | (go_simp; rfl))
                    intro gb177 hg w26 hbox hb
                    have n0_ := Aside0.mk (Kd.vD (by (with_reducible repeat (first | apply Kd.uN | apply Kd.uO | apply Kd.uP)); exact HO160.out) hb)
                    have n1_ := Aside0.mk (Kd.vD (by (with_reducible repeat (first | apply Kd.uN | apply Kd.uO | apply Kd.uP)); exact HO163.out) hb)
                    have n2_ := Aside0.mk (uR (g := gb151) (o := .cells #[.bool false, .int .i64 0] 33 (0, 0)) (by (with_reducible repeat (first | refine uC ?_ _ | refine uE ?_ | refine uD ?_ _)); exact BK151.out) hb)
                    have n3_ := Aside0.mk (uR (g := gb165) (o := .cells #[.slice Ao20 t158.length co20, .slice Ao23 t161.length co23] 31 (0, 0)) (by (with_reducible repeat (first | refine uC ?_ _ | refine uE ?_ | refine uD ?_ _)); exact BK165.out) hb)
                    have n4_ := Aside0.mk (uS (by repeat (first | (with_reducible first | exact HB.out | apply uG | apply uA | apply uF | refine uB ?_ GE151.out | refine uB ?_ GE165.out) | exact HB.out)) hb)
                    have n5_ := Aside0.mk (hbox)
                    have n6_ := Aside0.mk ((by rw [hg]; exact (uQ (by repeat (first | (with_reducible first | exact HB.out | apply uG | apply uA | apply uF | refine uB ?_ GE151.out | refine uB ?_ GE165.out) | exact HB.out))) : w.heap.size ≤ gb177))
                    have n7_ := Aside0.mk ((by rw [hg]; exact (uQ (by repeat (first | (with_reducible first | exact HB.out | apply uG | apply uA | apply uF | refine uB ?_ GE151.out | refine uB ?_ GE165.out) | exact HB.out))) : w.heap.size ≤ gb177))
                    have n8_ := Aside0.mk ((by rw [hg]; exact Nat.ne_of_lt (uV (g := gb151) (o := .cells #[.bool false, .int .i64 0] 33 (0, 0)) (by (with_reducible repeat (first | refine uC ?_ _ | refine uE ?_ | refine uD ?_ _)); exact BK151.out)) : gb151 ≠ gb177))
                    have n9_ := Aside0.mk ((by rw [hg]; exact Nat.ne_of_gt (uV (g := gb151) (o := .cells #[.bool false, .int .i64 0] 33 (0, 0)) (by (with_reducible repeat (first | refine uC ?_ _ | refine uE ?_ | refine uD ?_ _)); exact BK151.out)) : gb177 ≠ gb151))
                    have n10_ := Aside0.mk ((by rw [hg]; exact Nat.ne_of_lt (uV (g := gb165) (o := .cells #[.slice Ao20 t158.length co20, .slice Ao23 t161.length co23] 31 (0, 0)) (by (with_reducible repeat (first | refine uC ?_ _ | refine uE ?_ | refine uD ?_ _)); exact BK165.out)) : gb165 ≠ gb177))
                    have n11_ := Aside0.mk ((by rw [hg]; exact Nat.ne_of_gt (uV (g := gb165) (o := .cells #[.slice Ao20 t158.length co20, .slice Ao23 t161.length co23] 31 (0, 0)) (by (with_reducible repeat (first | refine uC ?_ _ | refine uE ?_ | refine uD ?_ _)); exact BK165.out)) : gb177 ≠ gb165))
                    clear HO160
                    clear HO163
                    clear BK151
                    clear BK165
                    clear HB
                    have HO160 := n0_
                    have HO163 := n1_
                    have BK151 := n2_
                    have BK165 := n3_
                    have HB := n4_
                    have BK177 := n5_
                    have GW177 := n6_
                    have GE177 := n7_
                    have NB151_177 := n8_
                    have NB177_151 := n9_
                    have NB165_177 := n10_
                    have NB177_165 := n11_
                    clear n0_ n1_ n2_ n3_ n4_ n5_ n6_ n7_ n8_ n9_ n10_ n11_
                    clear hb hbox hg
                    refine hK.out _ _ ⟨(uI BK165.out 0).trans rfl, (uI BK165.out 1).trans rfl, ((HB.out.cell (yA w _ hw166_0)).trans hw166_0), ((HB.out.cell (yA w _ hw166_1)).trans hw166_1), ((HB.out.cell (yA w _ hw166_2)).trans hw166_2), ((HB.out.cell (yA w _ hw166_3)).trans hw166_3), ((HB.out.cell (yA w _ hw166_4)).trans hw166_4), ((HB.out.cell (yA w _ hw166_5)).trans hw166_5), ((HB.out.cell (yA w _ hw166_6)).trans hw166_6)⟩ (fun hHeld => ?_)
                    clear hK K
                    refine vC (a' := ?_) ?_ ?_
                    rotate_left
                    · show Act.put _ (some 9) _ = _
                      simp only [Act.put, vU, vV, vW, uL, uM]
                      rfl
                    exact vC (by first | (simp only [vK, Act.put, vU, vV, vW]; done) | (simp only [vK, Act.put, vU, vV, vW]; rfl)) (hJ12 (gb177) _ ⟨hHeld, (by (with_reducible repeat (first | apply Kd.uN | apply Kd.uO | apply Kd.uP)); exact HO160.out), (by (with_reducible repeat (first | apply Kd.uN | apply Kd.uO | apply Kd.uP)); exact HO163.out), (by (with_reducible repeat (first | refine uC ?_ _ | refine uE ?_ | refine uD ?_ _)); exact BK151.out), (by (with_reducible repeat (first | refine uC ?_ _ | refine uE ?_ | refine uD ?_ _)); exact BK165.out), (by (with_reducible repeat (first | refine uC ?_ _ | refine uE ?_ | refine uD ?_ _)); exact BK177.out), GW177.out, GE177.out, NB151_177.out, NB177_151.out, NB165_177.out, NB177_165.out, (by repeat (first | (with_reducible first | exact HB.out | apply uG | apply uA | apply uF | refine uB ?_ GE151.out | refine uB ?_ GE165.out | refine uB ?_ GE177.out) | exact HB.out))⟩)
                  skip
                  rintro gb177 w27 ⟨hS_, h0_, h1_, h2_, h3_, h4_, h5_, h6_, h7_, h8_, h9_, h10_, h11_⟩
                  have n0_ : Aside0 (Kd.R (Kd.int .i64) 3 w27 w.heap.size (fun _ => True) (.slice Ao20 t158.length co20) t158) := ⟨h0_⟩
                  have n1_ : Aside0 (Kd.R k49 49 w27 w.heap.size (fun _ => True) (.slice Ao23 t161.length co23) t161) := ⟨h1_⟩
                  have n2_ : Aside0 (w27.heap[gb151]? = some (.cells #[.bool false, .int .i64 0] 33 (0, 0))) := ⟨h2_⟩
                  have n3_ : Aside0 (w27.heap[gb165]? = some (.cells #[.slice Ao20 t158.length co20, .slice Ao23 t161.length co23] 31 (0, 0))) := ⟨h3_⟩
                  have n4_ : Aside0 (w27.heap[gb177]? = some (.cells #[.bool false, .int .i64 0] 33 (0, 0))) := ⟨h4_⟩
                  have n5_ : Aside0 (w.heap.size ≤ gb177) := ⟨h5_⟩
                  have n6_ : Aside0 (w.heap.size ≤ gb177) := ⟨h6_⟩
                  have n7_ : Aside0 (gb151 ≠ gb177) := ⟨h7_⟩
                  have n8_ : Aside0 (gb177 ≠ gb151) := ⟨h8_⟩
                  have n9_ : Aside0 (gb165 ≠ gb177) := ⟨h9_⟩
                  have n10_ : Aside0 (gb177 ≠ gb165) := ⟨h10_⟩
                  have n11_ : Aside0 (Below w.heap.size w w27) := ⟨h11_⟩
                  clear HO160
                  clear HO163
                  clear BK151
                  clear BK165
                  clear HB
                  clear h0_ h1_ h2_ h3_ h4_ h5_ h6_ h7_ h8_ h9_ h10_ h11_
                  have HO160 := n0_
                  have HO163 := n1_
                  have BK151 := n2_
                  have BK165 := n3_
                  have BK177 := n4_
                  have GW177 := n5_
                  have GE177 := n6_
                  have NB151_177 := n7_
                  have NB177_151 := n8_
                  have NB165_177 := n9_
                  have NB177_165 := n10_
                  have HB := n11_
                  clear n0_ n1_ n2_ n3_ n4_ n5_ n6_ n7_ n8_ n9_ n10_ n11_
                  have hHeld : w27.cell? ⟨gb165, 0, none⟩ = some (.slice Ao20 t158.length co20) ∧ w27.cell? ⟨gb165, 1, none⟩ = some (.slice Ao23 t161.length co23) ∧ w27.cell? (ad166.add ((a1).toNat * 7)) = some (.int .i64 ((rd_T72 l0 a1).f0)) ∧ w27.cell? ⟨(ad166.add ((a1).toNat * 7)).block, (ad166.add ((a1).toNat * 7)).off + 1, none⟩ = some (.int .i64 ((rd_T72 l0 a1).f1.f0)) ∧ w27.cell? ⟨(ad166.add ((a1).toNat * 7)).block, (ad166.add ((a1).toNat * 7)).off + 2, none⟩ = some (.int .i64 ((rd_T72 l0 a1).f1.f1)) ∧ w27.cell? ⟨(ad166.add ((a1).toNat * 7)).block, (ad166.add ((a1).toNat * 7)).off + 3, none⟩ = some (.int .i64 ((rd_T72 l0 a1).f1.f2)) ∧ w27.cell? ⟨(ad166.add ((a1).toNat * 7)).block, (ad166.add ((a1).toNat * 7)).off + 4, none⟩ = some (.int .i64 ((rd_T72 l0 a1).f1.f3)) ∧ w27.cell? ⟨(ad166.add ((a1).toNat * 7)).block, (ad166.add ((a1).toNat * 7)).off + 5, none⟩ = some (.int .i64 ((rd_T72 l0 a1).f1.f4)) ∧ w27.cell? ⟨(ad166.add ((a1).toNat * 7)).block, (ad166.add ((a1).toNat * 7)).off + 6, none⟩ = some (.int .i64 ((rd_T72 l0 a1).f1.f5)) := hS_
                  refine vC (a' := ?_) ?_ ?_
                  rotate_left
                  · simp only [vK, Act.put, vU, vV, vW]
                    rfl
                  refine two_ (i := 6) (j := 11) (Ni := some 37) (Nj := some 8) tb21 tb1 rfl rfl rfl rfl (two_of HT_.out (by kernel_rfl)) (by decide) (by decide) (fun K hK => ?_) (fun K hK => ?_)
                  · skip
                    refine goes_ Try.func9 (by kernel_rfl) rfl #[.agg #[.slice Ao20 t158.length co20, .slice Ao23 t161.length co23], .agg #[.int .i64 ((rd_T72 l0 a1).f1.f0), .int .i64 ((rd_T72 l0 a1).f1.f1), .int .i64 ((rd_T72 l0 a1).f1.f2), .int .i64 ((rd_T72 l0 a1).f1.f3), .int .i64 ((rd_T72 l0 a1).f1.f4), .int .i64 ((rd_T72 l0 a1).f1.f5)]] (by rfl) rfl rfl (by (try simp only [vX, List.map_cons, List.map_nil]); first | done | rfl | (simp only [vZ, vY]; rfl)) ?_
                    with_reducible refine (spec_ApplyOp.calls kj2 _ _ t158 _ _ t161 ((rd_T72 l0 a1).f1.f0) ((rd_T72 l0 a1).f1.f1) ((rd_T72 l0 a1).f1.f2) ((rd_T72 l0 a1).f1.f3) ((rd_T72 l0 a1).f1.f4) ((rd_T72 l0 a1).f1.f5) t167 t170 t173 t174 t175 _ ?side1 ?side2 ?side3 ?side4 A16.out).mono ?_
                    (case side1 => repeat (first | exact (Kd.vH HO160.out).2.2 | (with_reducible refine Kd.vQ ?_ _) | (with_reducible refine Kd.vP ?_ _) | (with_reducible refine Kd.vS ?_)))
                    (case side2 => exact (Kd.vH HO160.out).2.1)
                    (case side3 => repeat (first | exact (Kd.vH HO163.out).2.2 | (with_reducible refine Kd.vQ ?_ _) | (with_reducible refine Kd.vP ?_ _) | (with_reducible refine Kd.vS ?_)))
                    (case side4 => exact (Kd.vH HO163.out).2.1)
                    rintro e w28 ⟨v168, v171, rfl, ho0, ho1, hb⟩
                    refine ⟨_, rfl, ?_⟩
                    have n0_ := Aside0.mk (Kd.R_elder' (by (with_reducible repeat (first | apply Kd.uN | apply Kd.uO | apply Kd.uP)); exact HO160.out) (Kd.R_base ho0) hb)
                    have n1_ := Aside0.mk (Kd.R_elder' (by (with_reducible repeat (first | apply Kd.uN | apply Kd.uO | apply Kd.uP)); exact HO163.out) (Kd.R_base ho1) hb)
                    have n2_ := Aside0.mk (Kd.vO (Kd.R_new' ho0 (Kd.R_lt (by (with_reducible repeat (first | apply Kd.uN | apply Kd.uO | apply Kd.uP)); exact HO160.out))) (uQ (by repeat (first | (with_reducible first | exact HB.out | apply uG | apply uA | apply uF | refine uB ?_ GE151.out | refine uB ?_ GE165.out | refine uB ?_ GE177.out) | exact HB.out))))
                    have n3_ := Aside0.mk (Kd.vO (Kd.R_new' ho1 (Kd.R_lt (by (with_reducible repeat (first | apply Kd.uN | apply Kd.uO | apply Kd.uP)); exact HO163.out))) (uQ (by repeat (first | (with_reducible first | exact HB.out | apply uG | apply uA | apply uF | refine uB ?_ GE151.out | refine uB ?_ GE165.out | refine uB ?_ GE177.out) | exact HB.out))))
                    have n4_ := Aside0.mk (uR (g := gb151) (o := .cells #[.bool false, .int .i64 0] 33 (0, 0)) (by (with_reducible repeat (first | refine uC ?_ _ | refine uE ?_ | refine uD ?_ _)); exact BK151.out) hb)
                    have n5_ := Aside0.mk (uR (g := gb165) (o := .cells #[.slice Ao20 t158.length co20, .slice Ao23 t161.length co23] 31 (0, 0)) (by (with_reducible repeat (first | refine uC ?_ _ | refine uE ?_ | refine uD ?_ _)); exact BK165.out) hb)
                    have n6_ := Aside0.mk (uR (g := gb177) (o := .cells #[.bool false, .int .i64 0] 33 (0, 0)) (by (with_reducible repeat (first | refine uC ?_ _ | refine uE ?_ | refine uD ?_ _)); exact BK177.out) hb)
                    have n7_ := Aside0.mk (uS (by repeat (first | (with_reducible first | exact HB.out | apply uG | apply uA | apply uF | refine uB ?_ GE151.out | refine uB ?_ GE165.out | refine uB ?_ GE177.out) | exact HB.out)) hb)
                    clear HO160
                    clear HO163
                    clear BK151
                    clear BK165
                    clear BK177
                    clear HB
                    have HO160 := n0_
                    have HO163 := n1_
                    have HO169 := n2_
                    have HO172 := n3_
                    have BK151 := n4_
                    have BK165 := n5_
                    have BK177 := n6_
                    have HB := n7_
                    clear n0_ n1_ n2_ n3_ n4_ n5_ n6_ n7_
                    (try clear hb)
                    (try clear hb2)
                    (try clear hk)
                    (try clear hi)
                    (try clear ho0)
                    (try clear ho1)
                    refine hK.out _ _ ⟨(uI BK165.out 0).trans rfl, (uI BK165.out 1).trans rfl, ((HB.out.cell (yA w _ hw166_0)).trans hw166_0), ((HB.out.cell (yA w _ hw166_1)).trans hw166_1), ((HB.out.cell (yA w _ hw166_2)).trans hw166_2), ((HB.out.cell (yA w _ hw166_3)).trans hw166_3), ((HB.out.cell (yA w _ hw166_4)).trans hw166_4), ((HB.out.cell (yA w _ hw166_5)).trans hw166_5), ((HB.out.cell (yA w _ hw166_6)).trans hw166_6)⟩ (fun hHeld => ?_)
                    clear hK K
                    refine vC (a' := ?_) ?_ ?_
                    rotate_left
                    · show Act.put _ (some 37) _ = _
                      simp only [Act.put, vU, vV, vW, uL, uM]
                      rfl
                    refine uJ (i := 7) (N := some 30) (v := ?_) (a' := ?_) tb24 rfl rfl (vL HT_.out (by kernel_rfl)) (fun _ _ _ h => h) (Or.inl ⟨by rfl, ?_⟩) ?_ ?_
                    rotate_left
                    · intro w'
                      go_simp
                      with_reducible rfl
                    rotate_left
                    · simp only [Act.put, vU, vV, vW, uL, uM]
                      rfl
                    refine uJ (i := 8) (N := some 38) (v := ?_) (a' := ?_) tb28 rfl rfl (vL HT_.out (by kernel_rfl)) (fun _ _ _ h => h) (Or.inl ⟨by rfl, ?_⟩) ?_ ?_
                    rotate_left
                    · intro w'
                      go_simp
                      with_reducible rfl
                    rotate_left
                    · simp only [Act.put, vU, vV, vW, uL, uM]
                      rfl
                    refine uJ (i := 9) (N := some 39) (v := ?_) (a' := ?_) tb31 rfl rfl (vL HT_.out (by kernel_rfl)) (fun _ _ _ h => h) (Or.inl ⟨by rfl, ?_⟩) ?_ ?_
                    rotate_left
                    · intro w'
                      go_simp
                      with_reducible rfl
                    rotate_left
                    · simp only [Act.put, vU, vV, vW, uL, uM]
                      rfl
                    refine uJ (i := 10) (N := some 40) (v := ?_) (a' := ?_) tb3 rfl rfl (vL HT_.out (by kernel_rfl)) (fun _ _ _ h => h) (Or.inl ⟨by rfl, ?_⟩) ?_ ?_
                    rotate_left
                    · intro w'
                      go_simp
                      with_reducible rfl
                    rotate_left
                    · simp only [Act.put, vU, vV, vW, uL, uM]
                      rfl
                    exact vC (by first | (simp only [vK, Act.put, vU, vV, vW]; done) | (simp only [vK, Act.put, vU, vV, vW]; rfl)) (hJ6_12 (v168, v171, gb177) _ ⟨hHeld, (by (with_reducible repeat (first | apply Kd.uN | apply Kd.uO | apply Kd.uP)); exact Kd.uZ HO160.out (fun _ hk => hk.2)), (by (with_reducible repeat (first | apply Kd.uN | apply Kd.uO | apply Kd.uP)); exact Kd.uZ HO163.out (fun _ hk => hk.2)), (by (with_reducible repeat (first | apply Kd.uN | apply Kd.uO | apply Kd.uP)); exact Kd.uZ HO169.out (fun _ hk => hk.2)), (by (with_reducible repeat (first | apply Kd.uN | apply Kd.uO | apply Kd.uP)); exact Kd.uZ HO172.out (fun _ hk => hk.2)), (by (with_reducible repeat (first | refine uC ?_ _ | refine uE ?_ | refine uD ?_ _)); exact BK151.out), (by (with_reducible repeat (first | refine uC ?_ _ | refine uE ?_ | refine uD ?_ _)); exact BK165.out), (by (with_reducible repeat (first | refine uC ?_ _ | refine uE ?_ | refine uD ?_ _)); exact BK177.out), GW177.out, GE177.out, NB151_177.out, NB177_151.out, NB165_177.out, NB177_165.out, (by repeat (first | (with_reducible first | exact HB.out | apply uG | apply uA | apply uF | refine uB ?_ GE151.out | refine uB ?_ GE165.out | refine uB ?_ GE177.out) | exact HB.out))⟩)
                  skip
                  refine box_step ?hg (N := 8) ?hd (cs := #[.slice none 0 0, .slice none 0 0]) (t := 31) ?hr ?_; (case hd => rfl); (case hg => rfl); (case hr => first | (go_simp; done) | (go_simp; rfl))
                  intro gb176 hg w28 hbox hb
                  have n0_ := Aside0.mk (Kd.vD (by (with_reducible repeat (first | apply Kd.uN | apply Kd.uO | apply Kd.uP)); exact HO160.out) hb)
                  have n1_ := Aside0.mk (Kd.vD (by (with_reducible repeat (first | apply Kd.uN | apply Kd.uO | apply Kd.uP)); exact HO163.out) hb)
                  have n2_ := Aside0.mk (uR (g := gb151) (o := .cells #[.bool false, .int .i64 0] 33 (0, 0)) (by (with_reducible repeat (first | refine uC ?_ _ | refine uE ?_ | refine uD ?_ _)); exact BK151.out) hb)
                  have n3_ := Aside0.mk (uR (g := gb165) (o := .cells #[.slice Ao20 t158.length co20, .slice Ao23 t161.length co23] 31 (0, 0)) (by (with_reducible repeat (first | refine uC ?_ _ | refine uE ?_ | refine uD ?_ _)); exact BK165.out) hb)
                  have n4_ := Aside0.mk (uR (g := gb177) (o := .cells #[.bool false, .int .i64 0] 33 (0, 0)) (by (with_reducible repeat (first | refine uC ?_ _ | refine uE ?_ | refine uD ?_ _)); exact BK177.out) hb)
                  have n5_ := Aside0.mk (uS (by repeat (first | (with_reducible first | exact HB.out | apply uG | apply uA | apply uF | refine uB ?_ GE151.out | refine uB ?_ GE165.out | refine uB ?_ GE177.out) | exact HB.out)) hb)
                  have n6_ := Aside0.mk (hbox)
                  have n7_ := Aside0.mk ((by rw [hg]; exact (uQ (by repeat (first | (with_reducible first | exact HB.out | apply uG | apply uA | apply uF | refine uB ?_ GE151.out | refine uB ?_ GE165.out | refine uB ?_ GE177.out) | exact HB.out))) : w.heap.size ≤ gb176))
                  have n8_ := Aside0.mk ((by rw [hg]; exact (uQ (by repeat (first | (with_reducible first | exact HB.out | apply uG | apply uA | apply uF | refine uB ?_ GE151.out | refine uB ?_ GE165.out | refine uB ?_ GE177.out) | exact HB.out))) : w.heap.size ≤ gb176))
                  have n9_ := Aside0.mk ((by rw [hg]; exact Nat.ne_of_lt (uV (g := gb151) (o := .cells #[.bool false, .int .i64 0] 33 (0, 0)) (by (with_reducible repeat (first | refine uC ?_ _ | refine uE ?_ | refine uD ?_ _)); exact BK151.out)) : gb151 ≠ gb176))
                  have n10_ := Aside0.mk ((by rw [hg]; exact Nat.ne_of_gt (uV (g := gb151) (o := .cells #[.bool false, .int .i64 0] 33 (0, 0)) (by (with_reducible repeat (first | refine uC ?_ _ | refine uE ?_ | refine uD ?_ _)); exact BK151.out)) : gb176 ≠ gb151))
                  have n11_ := Aside0.mk ((by rw [hg]; exact Nat.ne_of_lt (uV (g := gb165) (o := .cells #[.slice Ao20 t158.length co20, .slice Ao23 t161.length co23] 31 (0, 0)) (by (with_reducible repeat (first | refine uC ?_ _ | refine uE ?_ | refine uD ?_ _)); exact BK165.out)) : gb165 ≠ gb176))
                  have n12_ := Aside0.mk ((by rw [hg]; exact Nat.ne_of_gt (uV (g := gb165) (o := .cells #[.slice Ao20 t158.length co20, .slice Ao23 t161.length co23] 31 (0, 0)) (by (with_reducible repeat (first | refine uC ?_ _ | refine uE ?_ | refine uD ?_ _)); exact BK165.out)) : gb176 ≠ gb165))
                  have n13_ := Aside0.mk ((by rw [hg]; exact Nat.ne_of_lt (uV (g := gb177) (o := .cells #[.bool false, .int .i64 0] 33 (0, 0)) (by (with_reducible repeat (first | refine uC ?_ _ | refine uE ?_ | refine uD ?_ _)); exact BK177.out)) : gb177 ≠ gb176))
                  have n14_ := Aside0.mk ((by rw [hg]; exact Nat.ne_of_gt (uV (g := gb177) (o := .cells #[.bool false, .int .i64 0] 33 (0, 0)) (by (with_reducible repeat (first | refine uC ?_ _ | refine uE ?_ | refine uD ?_ _)); exact BK177.out)) : gb176 ≠ gb177))
                  clear HO160
                  clear HO163
                  clear BK151
                  clear BK165
                  clear BK177
                  clear HB
                  have HO160 := n0_
                  have HO163 := n1_
                  have BK151 := n2_
                  have BK165 := n3_
                  have BK177 := n4_
                  have HB := n5_
                  have BK176 := n6_
                  have GW176 := n7_
                  have GE176 := n8_
                  have NB151_176 := n9_
                  have NB176_151 := n10_
                  have NB165_176 := n11_
                  have NB176_165 := n12_
                  have NB177_176 := n13_
                  have NB176_177 := n14_
                  clear n0_ n1_ n2_ n3_ n4_ n5_ n6_ n7_ n8_ n9_ n10_ n11_ n12_ n13_ n14_
                  clear hb hbox hg
                  refine hK.out _ _ ⟨(uI BK165.out 0).trans rfl, (uI BK165.out 1).trans rfl, ((HB.out.cell (yA w _ hw166_0)).trans hw166_0), ((HB.out.cell (yA w _ hw166_1)).trans hw166_1), ((HB.out.cell (yA w _ hw166_2)).trans hw166_2), ((HB.out.cell (yA w _ hw166_3)).trans hw166_3), ((HB.out.cell (yA w _ hw166_4)).trans hw166_4), ((HB.out.cell (yA w _ hw166_5)).trans hw166_5), ((HB.out.cell (yA w _ hw166_6)).trans hw166_6)⟩ (fun hHeld => ?_)
                  clear hK K
                  refine vC (a' := ?_) ?_ ?_
                  rotate_left
                  · show Act.put _ (some 8) _ = _
                    simp only [Act.put, vU, vV, vW, uL, uM]
                    rfl
                  exact vC (by first | (simp only [vK, Act.put, vU, vV, vW]; done) | (simp only [vK, Act.put, vU, vV, vW]; rfl)) (hJ11_12 (gb176, gb177) _ ⟨hHeld, (by (with_reducible repeat (first | apply Kd.uN | apply Kd.uO | apply Kd.uP)); exact HO160.out), (by (with_reducible repeat (first | apply Kd.uN | apply Kd.uO | apply Kd.uP)); exact HO163.out), (by (with_reducible repeat (first | refine uC ?_ _ | refine uE ?_ | refine uD ?_ _)); exact BK151.out), (by (with_reducible repeat (first | refine uC ?_ _ | refine uE ?_ | refine uD ?_ _)); exact BK165.out), (by (with_reducible repeat (first | refine uC ?_ _ | refine uE ?_ | refine uD ?_ _)); exact BK176.out), (by (with_reducible repeat (first | refine uC ?_ _ | refine uE ?_ | refine uD ?_ _)); exact BK177.out), GW176.out, GE176.out, NB151_176.out, NB176_151.out, NB165_176.out, NB176_165.out, NB177_176.out, NB176_177.out, GW177.out, GE177.out, NB151_177.out, NB177_151.out, NB165_177.out, NB177_165.out, (by repeat (first | (with_reducible first | exact HB.out | apply uG | apply uA | apply uF | refine uB ?_ GE151.out | refine uB ?_ GE165.out | refine uB ?_ GE177.out | refine uB ?_ GE176.out) | exact HB.out))⟩)
                skip
                rintro gb176 w27 ⟨hS_, h0_, h1_, h2_, h3_, h4_, h5_, h6_, h7_, h8_, h9_, h10_, h11_⟩
                have n0_ : Aside0 (Kd.R (Kd.int .i64) 3 w27 w.heap.size (fun _ => True) (.slice Ao20 t158.length co20) t158) := ⟨h0_⟩
                have n1_ : Aside0 (Kd.R k49 49 w27 w.heap.size (fun _ => True) (.slice Ao23 t161.length co23) t161) := ⟨h1_⟩
                have n2_ : Aside0 (w27.heap[gb151]? = some (.cells #[.bool false, .int .i64 0] 33 (0, 0))) := ⟨h2_⟩
                have n3_ : Aside0 (w27.heap[gb165]? = some (.cells #[.slice Ao20 t158.length co20, .slice Ao23 t161.length co23] 31 (0, 0))) := ⟨h3_⟩
                have n4_ : Aside0 (w27.heap[gb176]? = some (.cells #[.slice none 0 0, .slice none 0 0] 31 (0, 0))) := ⟨h4_⟩
                have n5_ : Aside0 (w.heap.size ≤ gb176) := ⟨h5_⟩
                have n6_ : Aside0 (w.heap.size ≤ gb176) := ⟨h6_⟩
                have n7_ : Aside0 (gb151 ≠ gb176) := ⟨h7_⟩
                have n8_ : Aside0 (gb176 ≠ gb151) := ⟨h8_⟩
                have n9_ : Aside0 (gb165 ≠ gb176) := ⟨h9_⟩
                have n10_ : Aside0 (gb176 ≠ gb165) := ⟨h10_⟩
                have n11_ : Aside0 (Below w.heap.size w w27) := ⟨h11_⟩
                clear HO160
                clear HO163
                clear BK151
                clear BK165
                clear HB
                clear h0_ h1_ h2_ h3_ h4_ h5_ h6_ h7_ h8_ h9_ h10_ h11_
                have HO160 := n0_
                have HO163 := n1_
                have BK151 := n2_
                have BK165 := n3_
                have BK176 := n4_
                have GW176 := n5_
                have GE176 := n6_
                have NB151_176 := n7_
                have NB176_151 := n8_
                have NB165_176 := n9_
                have NB176_165 := n10_
                have HB := n11_
                clear n0_ n1_ n2_ n3_ n4_ n5_ n6_ n7_ n8_ n9_ n10_ n11_
                have hHeld : w27.cell? ⟨gb165, 0, none⟩ = some (.slice Ao20 t158.length co20) ∧ w27.cell? ⟨gb165, 1, none⟩ = some (.slice Ao23 t161.length co23) ∧ w27.cell? (ad166.add ((a1).toNat * 7)) = some (.int .i64 ((rd_T72 l0 a1).f0)) ∧ w27.cell? ⟨(ad166.add ((a1).toNat * 7)).block, (ad166.add ((a1).toNat * 7)).off + 1, none⟩ = some (.int .i64 ((rd_T72 l0 a1).f1.f0)) ∧ w27.cell? ⟨(ad166.add ((a1).toNat * 7)).block, (ad166.add ((a1).toNat * 7)).off + 2, none⟩ = some (.int .i64 ((rd_T72 l0 a1).f1.f1)) ∧ w27.cell? ⟨(ad166.add ((a1).toNat * 7)).block, (ad166.add ((a1).toNat * 7)).off + 3, none⟩ = some (.int .i64 ((rd_T72 l0 a1).f1.f2)) ∧ w27.cell? ⟨(ad166.add ((a1).toNat * 7)).block, (ad166.add ((a1).toNat * 7)).off + 4, none⟩ = some (.int .i64 ((rd_T72 l0 a1).f1.f3)) ∧ w27.cell? ⟨(ad166.add ((a1).toNat * 7)).block, (ad166.add ((a1).toNat * 7)).off + 5, none⟩ = some (.int .i64 ((rd_T72 l0 a1).f1.f4)) ∧ w27.cell? ⟨(ad166.add ((a1).toNat * 7)).block, (ad166.add ((a1).toNat * 7)).off + 6, none⟩ = some (.int .i64 ((rd_T72 l0 a1).f1.f5)) := hS_
                refine vC (a' := ?_) ?_ ?_
                rotate_left
                · simp only [vK, Act.put, vU, vV, vW]
                  rfl
                refine two_ (i := 6) (j := 12) (Ni := some 37) (Nj := some 9) tb22 tb1 rfl rfl rfl rfl (two_of HT_.out (by kernel_rfl)) (by decide) (by decide) (fun K hK => ?_) (fun K hK => ?_)
                · skip
                  refine goes_ Try.func9 (by kernel_rfl) rfl #[.agg #[.slice Ao20 t158.length co20, .slice Ao23 t161.length co23], .agg #[.int .i64 ((rd_T72 l0 a1).f1.f0), .int .i64 ((rd_T72 l0 a1).f1.f1), .int .i64 ((rd_T72 l0 a1).f1.f2), .int .i64 ((rd_T72 l0 a1).f1.f3), .int .i64 ((rd_T72 l0 a1).f1.f4), .int .i64 ((rd_T72 l0 a1).f1.f5)]] (by rfl) rfl rfl (by (try simp only [vX, List.map_cons, List.map_nil]); first | done | rfl | (simp only [vZ, vY]; rfl)) ?_
                  with_reducible refine (spec_ApplyOp.calls kj2 _ _ t158 _ _ t161 ((rd_T72 l0 a1).f1.f0) ((rd_T72 l0 a1).f1.f1) ((rd_T72 l0 a1).f1.f2) ((rd_T72 l0 a1).f1.f3) ((rd_T72 l0 a1).f1.f4) ((rd_T72 l0 a1).f1.f5) t167 t170 t173 t174 t175 _ ?side1 ?side2 ?side3 ?side4 A16.out).mono ?_
                  (case side1 => repeat (first | exact (Kd.vH HO160.out).2.2 | (with_reducible refine Kd.vQ ?_ _) | (with_reducible refine Kd.vP ?_ _) | (with_reducible refine Kd.vS ?_)))
                  (case side2 => exact (Kd.vH HO160.out).2.1)
                  (case side3 => repeat (first | exact (Kd.vH HO163.out).2.2 | (with_reducible refine Kd.vQ ?_ _) | (with_reducible refine Kd.vP ?_ _) | (with_reducible refine Kd.vS ?_)))
                  (case side4 => exact (Kd.vH HO163.out).2.1)
                  rintro e w28 ⟨v168, v171, rfl, ho0, ho1, hb⟩
                  refine ⟨_, rfl, ?_⟩
                  have n0_ := Aside0.mk (Kd.R_elder' (by (with_reducible repeat (first | apply Kd.uN | apply Kd.uO | apply Kd.uP)); exact HO160.out) (Kd.R_base ho0) hb)
                  have n1_ := Aside0.mk (Kd.R_elder' (by (with_reducible repeat (first | apply Kd.uN | apply Kd.uO | apply Kd.uP)); exact HO163.out) (Kd.R_base ho1) hb)
                  have n2_ := Aside0.mk (Kd.vO (Kd.R_new' ho0 (Kd.R_lt (by (with_reducible repeat (first | apply Kd.uN | apply Kd.uO | apply Kd.uP)); exact HO160.out))) (uQ (by repeat (first | (with_reducible first | exact HB.out | apply uG | apply uA | apply uF | refine uB ?_ GE151.out | refine uB ?_ GE165.out | refine uB ?_ GE176.out) | exact HB.out))))
                  have n3_ := Aside0.mk (Kd.vO (Kd.R_new' ho1 (Kd.R_lt (by (with_reducible repeat (first | apply Kd.uN | apply Kd.uO | apply Kd.uP)); exact HO163.out))) (uQ (by repeat (first | (with_reducible first | exact HB.out | apply uG | apply uA | apply uF | refine uB ?_ GE151.out | refine uB ?_ GE165.out | refine uB ?_ GE176.out) | exact HB.out))))
                  have n4_ := Aside0.mk (uR (g := gb151) (o := .cells #[.bool false, .int .i64 0] 33 (0, 0)) (by (with_reducible repeat (first | refine uC ?_ _ | refine uE ?_ | refine uD ?_ _)); exact BK151.out) hb)
                  have n5_ := Aside0.mk (uR (g := gb165) (o := .cells #[.slice Ao20 t158.length co20, .slice Ao23 t161.length co23] 31 (0, 0)) (by (with_reducible repeat (first | refine uC ?_ _ | refine uE ?_ | refine uD ?_ _)); exact BK165.out) hb)
                  have n6_ := Aside0.mk (uR (g := gb176) (o := .cells #[.slice none 0 0, .slice none 0 0] 31 (0, 0)) (by (with_reducible repeat (first | refine uC ?_ _ | refine uE ?_ | refine uD ?_ _)); exact BK176.out) hb)
                  have n7_ := Aside0.mk (uS (by repeat (first | (with_reducible first | exact HB.out | apply uG | apply uA | apply uF | refine uB ?_ GE151.out | refine uB ?_ GE165.out | refine uB ?_ GE176.out) | exact HB.out)) hb)
                  clear HO160
                  clear HO163
                  clear BK151
                  clear BK165
                  clear BK176
                  clear HB
                  have HO160 := n0_
                  have HO163 := n1_
                  have HO169 := n2_
                  have HO172 := n3_
                  have BK151 := n4_
                  have BK165 := n5_
                  have BK176 := n6_
                  have HB := n7_
                  clear n0_ n1_ n2_ n3_ n4_ n5_ n6_ n7_
                  (try clear hb)
                  (try clear hb2)
                  (try clear hk)
                  (try clear hi)
                  (try clear ho0)
                  (try clear ho1)
                  refine hK.out _ _ ⟨(uI BK165.out 0).trans rfl, (uI BK165.out 1).trans rfl, ((HB.out.cell (yA w _ hw166_0)).trans hw166_0), ((HB.out.cell (yA w _ hw166_1)).trans hw166_1), ((HB.out.cell (yA w _ hw166_2)).trans hw166_2), ((HB.out.cell (yA w _ hw166_3)).trans hw166_3), ((HB.out.cell (yA w _ hw166_4)).trans hw166_4), ((HB.out.cell (yA w _ hw166_5)).trans hw166_5), ((HB.out.cell (yA w _ hw166_6)).trans hw166_6)⟩ (fun hHeld => ?_)
                  clear hK K
                  refine vC (a' := ?_) ?_ ?_
                  rotate_left
                  · show Act.put _ (some 37) _ = _
                    simp only [Act.put, vU, vV, vW, uL, uM]
                    rfl
                  refine uJ (i := 7) (N := some 30) (v := ?_) (a' := ?_) tb25 rfl rfl (vL HT_.out (by kernel_rfl)) (fun _ _ _ h => h) (Or.inl ⟨by rfl, ?_⟩) ?_ ?_
                  rotate_left
                  · intro w'
                    go_simp
                    with_reducible rfl
                  rotate_left
                  · simp only [Act.put, vU, vV, vW, uL, uM]
                    rfl
                  refine uJ (i := 8) (N := some 38) (v := ?_) (a' := ?_) tb29 rfl rfl (vL HT_.out (by kernel_rfl)) (fun _ _ _ h => h) (Or.inl ⟨by rfl, ?_⟩) ?_ ?_
                  rotate_left
                  · intro w'
                    go_simp
                    with_reducible rfl
                  rotate_left
                  · simp only [Act.put, vU, vV, vW, uL, uM]
                    rfl
                  refine uJ (i := 9) (N := some 39) (v := ?_) (a' := ?_) tb32 rfl rfl (vL HT_.out (by kernel_rfl)) (fun _ _ _ h => h) (Or.inl ⟨by rfl, ?_⟩) ?_ ?_
                  rotate_left
                  · intro w'
                    go_simp
                    with_reducible rfl
                  rotate_left
                  · simp only [Act.put, vU, vV, vW, uL, uM]
                    rfl
                  refine uJ (i := 10) (N := some 40) (v := ?_) (a' := ?_) tb2 rfl rfl (vL HT_.out (by kernel_rfl)) (fun _ _ _ h => h) (Or.inl ⟨by rfl, ?_⟩) ?_ ?_
                  rotate_left
                  · intro w'
                    go_simp
                    with_reducible rfl
                  rotate_left
                  · simp only [Act.put, vU, vV, vW, uL, uM]
                    rfl
                  exact vC (by first | (simp only [vK, Act.put, vU, vV, vW]; done) | (simp only [vK, Act.put, vU, vV, vW]; rfl)) (hJ6_11 (v168, v171, gb176) _ ⟨hHeld, (by (with_reducible repeat (first | apply Kd.uN | apply Kd.uO | apply Kd.uP)); exact Kd.uZ HO160.out (fun _ hk => hk.2)), (by (with_reducible repeat (first | apply Kd.uN | apply Kd.uO | apply Kd.uP)); exact Kd.uZ HO163.out (fun _ hk => hk.2)), (by (with_reducible repeat (first | apply Kd.uN | apply Kd.uO | apply Kd.uP)); exact Kd.uZ HO169.out (fun _ hk => hk.2)), (by (with_reducible repeat (first | apply Kd.uN | apply Kd.uO | apply Kd.uP)); exact Kd.uZ HO172.out (fun _ hk => hk.2)), (by (with_reducible repeat (first | refine uC ?_ _ | refine uE ?_ | refine uD ?_ _)); exact BK151.out), (by (with_reducible repeat (first | refine uC ?_ _ | refine uE ?_ | refine uD ?_ _)); exact BK165.out), (by (with_reducible repeat (first | refine uC ?_ _ | refine uE ?_ | refine uD ?_ _)); exact BK176.out), GW176.out, GE176.out, NB151_176.out, NB176_151.out, NB165_176.out, NB176_165.out, (by repeat (first | (with_reducible first | exact HB.out | apply uG | apply uA | apply uF | refine uB ?_ GE151.out | refine uB ?_ GE165.out | refine uB ?_ GE176.out) | exact HB.out))⟩)
                skip
                refine box_step ?hg (N := 9) ?hd (cs := #[.bool false, .int .i64 0]) (t := 33) ?hr ?_; (case hd => rfl); (case hg => rfl); (case hr => first | (go_simp; done) | (go_simp; rfl))
                intro gb177 hg w28 hbox hb
                have n0_ := Aside0.mk (Kd.vD (by (with_reducible repeat (first | apply Kd.uN | apply Kd.uO | apply Kd.uP)); exact HO160.out) hb)
                have n1_ := Aside0.mk (Kd.vD (by (with_reducible repeat (first | apply Kd.uN | apply Kd.uO | apply Kd.uP)); exact HO163.out) hb)
                have n2_ := Aside0.mk (uR (g := gb151) (o := .cells #[.bool false, .int .i64 0] 33 (0, 0)) (by (with_reducible repeat (first | refine uC ?_ _ | refine uE ?_ | refine uD ?_ _)); exact BK151.out) hb)
                have n3_ := Aside0.mk (uR (g := gb165) (o := .cells #[.slice Ao20 t158.length co20, .slice Ao23 t161.length co23] 31 (0, 0)) (by (with_reducible repeat (first | refine uC ?_ _ | refine uE ?_ | refine uD ?_ _)); exact BK165.out) hb)
                have n4_ := Aside0.mk (uR (g := gb176) (o := .cells #[.slice none 0 0, .slice none 0 0] 31 (0, 0)) (by (with_reducible repeat (first | refine uC ?_ _ | refine uE ?_ | refine uD ?_ _)); exact BK176.out) hb)
                have n5_ := Aside0.mk (uS (by repeat (first | (with_reducible first | exact HB.out | apply uG | apply uA | apply uF | refine uB ?_ GE151.out | refine uB ?_ GE165.out | refine uB ?_ GE176.out) | exact HB.out)) hb)
                have n6_ := Aside0.mk (hbox)
                have n7_ := Aside0.mk ((by rw [hg]; exact (uQ (by repeat (first | (with_reducible first | exact HB.out | apply uG | apply uA | apply uF | refine uB ?_ GE151.out | refine uB ?_ GE165.out | refine uB ?_ GE176.out) | exact HB.out))) : w.heap.size ≤ gb177))
                have n8_ := Aside0.mk ((by rw [hg]; exact (uQ (by repeat (first | (with_reducible first | exact HB.out | apply uG | apply uA | apply uF | refine uB ?_ GE151.out | refine uB ?_ GE165.out | refine uB ?_ GE176.out) | exact HB.out))) : w.heap.size ≤ gb177))
                have n9_ := Aside0.mk ((by rw [hg]; exact Nat.ne_of_lt (uV (g := gb151) (o := .cells #[.bool false, .int .i64 0] 33 (0, 0)) (by (with_reducible repeat (first | refine uC ?_ _ | refine uE ?_ | refine uD ?_ _)); exact BK151.out)) : gb151 ≠ gb177))
                have n10_ := Aside0.mk ((by rw [hg]; exact Nat.ne_of_gt (uV (g := gb151) (o := .cells #[.bool false, .int .i64 0] 33 (0, 0)) (by (with_reducible repeat (first | refine uC ?_ _ | refine uE ?_ | refine uD ?_ _)); exact BK151.out)) : gb177 ≠ gb151))
                have n11_ := Aside0.mk ((by rw [hg]; exact Nat.ne_of_lt (uV (g := gb165) (o := .cells #[.slice Ao20 t158.length co20, .slice Ao23 t161.length co23] 31 (0, 0)) (by (with_reducible repeat (first | refine uC ?_ _ | refine uE ?_ | refine uD ?_ _)); exact BK165.out)) : gb165 ≠ gb177))
                have n12_ := Aside0.mk ((by rw [hg]; exact Nat.ne_of_gt (uV (g := gb165) (o := .cells #[.slice Ao20 t158.length co20, .slice Ao23 t161.length co23] 31 (0, 0)) (by (with_reducible repeat (first | refine uC ?_ _ | refine uE ?_ | refine uD ?_ _)); exact BK165.out)) : gb177 ≠ gb165))
                have n13_ := Aside0.mk ((by rw [hg]; exact Nat.ne_of_lt (uV (g := gb176) (o := .cells #[.slice none 0 0, .slice none 0 0] 31 (0, 0)) (by (with_reducible repeat (first | refine uC ?_ _ | refine uE ?_ | refine uD ?_ _)); exact BK176.out)) : gb176 ≠ gb177))
                have n14_ := Aside0.mk ((by rw [hg]; exact Nat.ne_of_gt (uV (g := gb176) (o := .cells #[.slice none 0 0, .slice none 0 0] 31 (0, 0)) (by (with_reducible repeat (first | refine uC ?_ _ | refine uE ?_ | refine uD ?_ _)); exact BK176.out)) : gb177 ≠ gb176))
                clear HO160
                clear HO163
                clear BK151
                clear BK165
                clear BK176
                clear HB
                have HO160 := n0_
                have HO163 := n1_
                have BK151 := n2_
                have BK165 := n3_
                have BK176 := n4_
                have HB := n5_
                have BK177 := n6_
                have GW177 := n7_
                have GE177 := n8_
                have NB151_177 := n9_
                have NB177_151 := n10_
                have NB165_177 := n11_
                have NB177_165 := n12_
                have NB176_177 := n13_
                have NB177_176 := n14_
                clear n0_ n1_ n2_ n3_ n4_ n5_ n6_ n7_ n8_ n9_ n10_ n11_ n12_ n13_ n14_
                clear hb hbox hg
                refine hK.out _ _ ⟨(uI BK165.out 0).trans rfl, (uI BK165.out 1).trans rfl, ((HB.out.cell (yA w _ hw166_0)).trans hw166_0), ((HB.out.cell (yA w _ hw166_1)).trans hw166_1), ((HB.out.cell (yA w _ hw166_2)).trans hw166_2), ((HB.out.cell (yA w _ hw166_3)).trans hw166_3), ((HB.out.cell (yA w _ hw166_4)).trans hw166_4), ((HB.out.cell (yA w _ hw166_5)).trans hw166_5), ((HB.out.cell (yA w _ hw166_6)).trans hw166_6)⟩ (fun hHeld => ?_)
                clear hK K
                refine vC (a' := ?_) ?_ ?_
                rotate_left
                · show Act.put _ (some 9) _ = _
                  simp only [Act.put, vU, vV, vW, uL, uM]
                  rfl
                exact vC (by first | (simp only [vK, Act.put, vU, vV, vW]; done) | (simp only [vK, Act.put, vU, vV, vW]; rfl)) (hJ11_12 (gb176, gb177) _ ⟨hHeld, (by (with_reducible repeat (first | apply Kd.uN | apply Kd.uO | apply Kd.uP)); exact HO160.out), (by (with_reducible repeat (first | apply Kd.uN | apply Kd.uO | apply Kd.uP)); exact HO163.out), (by (with_reducible repeat (first | refine uC ?_ _ | refine uE ?_ | refine uD ?_ _)); exact BK151.out), (by (with_reducible repeat (first | refine uC ?_ _ | refine uE ?_ | refine uD ?_ _)); exact BK165.out), (by (with_reducible repeat (first | refine uC ?_ _ | refine uE ?_ | refine uD ?_ _)); exact BK176.out), (by (with_reducible repeat (first | refine uC ?_ _ | refine uE ?_ | refine uD ?_ _)); exact BK177.out), GW176.out, GE176.out, NB151_176.out, NB176_151.out, NB165_176.out, NB176_165.out, NB177_176.out, NB176_177.out, GW177.out, GE177.out, NB151_177.out, NB177_151.out, NB165_177.out, NB177_165.out, (by repeat (first | (with_reducible first | exact HB.out | apply uG | apply uA | apply uF | refine uB ?_ GE151.out | refine uB ?_ GE165.out | refine uB ?_ GE176.out | refine uB ?_ GE177.out) | exact HB.out))⟩)
              skip
              rintro ⟨v168, v171⟩ w27 ⟨hS_, h0_, h1_, h2_, h3_, h4_, h5_, h6_⟩
              have n0_ : Aside0 (Kd.R (Kd.int .i64) 3 w27 w.heap.size (fun k_ => some k_ ≠ (v168 : Value).ownBlock) (.slice Ao20 t158.length co20) t158) := ⟨h0_⟩
              have n1_ : Aside0 (Kd.R k49 49 w27 w.heap.size (fun k_ => some k_ ≠ (v171 : Value).ownBlock) (.slice Ao23 t161.length co23) t161) := ⟨h1_⟩
              have n2_ : Aside0 (Kd.R (Kd.int .i64) 3 w27 w.heap.size (fun k_ => some k_ ≠ (.slice Ao20 t158.length co20 : Value).ownBlock) v168 t167) := ⟨h2_⟩
              have n3_ : Aside0 (Kd.R k49 49 w27 w.heap.size (fun k_ => some k_ ≠ (.slice Ao23 t161.length co23 : Value).ownBlock) v171 t170) := ⟨h3_⟩
              have n4_ : Aside0 (w27.heap[gb151]? = some (.cells #[.bool false, .int .i64 0] 33 (0, 0))) := ⟨h4_⟩
              have n5_ : Aside0 (w27.heap[gb165]? = some (.cells #[.slice Ao20 t158.length co20, .slice Ao23 t161.length co23] 31 (0, 0))) := ⟨h5_⟩
              have n6_ : Aside0 (Below w.heap.size w w27) := ⟨h6_⟩
              clear HO160
              clear HO163
              clear BK151
              clear BK165
              clear HB
              clear h0_ h1_ h2_ h3_ h4_ h5_ h6_
              have HO160 := n0_
              have HO163 := n1_
              have HO169 := n2_
              have HO172 := n3_
              have BK151 := n4_
              have BK165 := n5_
              have HB := n6_
              clear n0_ n1_ n2_ n3_ n4_ n5_ n6_
              have hHeld : w27.cell? ⟨gb165, 0, none⟩ = some (.slice Ao20 t158.length co20) ∧ w27.cell? ⟨gb165, 1, none⟩ = some (.slice Ao23 t161.length co23) ∧ w27.cell? (ad166.add ((a1).toNat * 7)) = some (.int .i64 ((rd_T72 l0 a1).f0)) ∧ w27.cell? ⟨(ad166.add ((a1).toNat * 7)).block, (ad166.add ((a1).toNat * 7)).off + 1, none⟩ = some (.int .i64 ((rd_T72 l0 a1).f1.f0)) ∧ w27.cell? ⟨(ad166.add ((a1).toNat * 7)).block, (ad166.add ((a1).toNat * 7)).off + 2, none⟩ = some (.int .i64 ((rd_T72 l0 a1).f1.f1)) ∧ w27.cell? ⟨(ad166.add ((a1).toNat * 7)).block, (ad166.add ((a1).toNat * 7)).off + 3, none⟩ = some (.int .i64 ((rd_T72 l0 a1).f1.f2)) ∧ w27.cell? ⟨(ad166.add ((a1).toNat * 7)).block, (ad166.add ((a1).toNat * 7)).off + 4, none⟩ = some (.int .i64 ((rd_T72 l0 a1).f1.f3)) ∧ w27.cell? ⟨(ad166.add ((a1).toNat * 7)).block, (ad166.add ((a1).toNat * 7)).off + 5, none⟩ = some (.int .i64 ((rd_T72 l0 a1).f1.f4)) ∧ w27.cell? ⟨(ad166.add ((a1).toNat * 7)).block, (ad166.add ((a1).toNat * 7)).off + 6, none⟩ = some (.int .i64 ((rd_T72 l0 a1).f1.f5)) := hS_
              refine vC (a' := ?_) ?_ ?_
              rotate_left
              · simp only [vK, Act.put, vU, vV, vW]
                rfl
              refine two_ (i := 11) (j := 12) (Ni := some 8) (Nj := some 9) tb2 tb3 rfl rfl rfl rfl (two_of HT_.out (by kernel_rfl)) (by decide) (by decide) (fun K hK => ?_) (fun K hK => ?_)
              · skip
                refine box_step ?hg (N := 8) ?hd (cs := #[.slice none 0 0, .slice none 0 0]) (t := 31) ?hr ?_; (case hd => rfl); (case hg => rfl); (case hr => first | (go_simp; done) | (go_simp; rfl))
                intro gb176 hg w28 hbox hb
                have n0_ := Aside0.mk (Kd.vD (by (with_reducible repeat (first | apply Kd.uN | apply Kd.uO | apply Kd.uP)); exact HO160.out) hb)
                have n1_ := Aside0.mk (Kd.vD (by (with_reducible repeat (first | apply Kd.uN | apply Kd.uO | apply Kd.uP)); exact HO163.out) hb)
                have n2_ := Aside0.mk (Kd.vD (by (with_reducible repeat (first | apply Kd.uN | apply Kd.uO | apply Kd.uP)); exact HO169.out) hb)
                have n3_ := Aside0.mk (Kd.vD (by (with_reducible repeat (first | apply Kd.uN | apply Kd.uO | apply Kd.uP)); exact HO172.out) hb)
                have n4_ := Aside0.mk (uR (g := gb151) (o := .cells #[.bool false, .int .i64 0] 33 (0, 0)) (by (with_reducible repeat (first | refine uC ?_ _ | refine uE ?_ | refine uD ?_ _)); exact BK151.out) hb)
                have n5_ := Aside0.mk (uR (g := gb165) (o := .cells #[.slice Ao20 t158.length co20, .slice Ao23 t161.length co23] 31 (0, 0)) (by (with_reducible repeat (first | refine uC ?_ _ | refine uE ?_ | refine uD ?_ _)); exact BK165.out) hb)
                have n6_ := Aside0.mk (uS (by repeat (first | (with_reducible first | exact HB.out | apply uG | apply uA | apply uF | refine uB ?_ GE151.out | refine uB ?_ GE165.out) | exact HB.out)) hb)
                have n7_ := Aside0.mk (hbox)
                have n8_ := Aside0.mk ((by rw [hg]; exact (uQ (by repeat (first | (with_reducible first | exact HB.out | apply uG | apply uA | apply uF | refine uB ?_ GE151.out | refine uB ?_ GE165.out) | exact HB.out))) : w.heap.size ≤ gb176))
                have n9_ := Aside0.mk ((by rw [hg]; exact (uQ (by repeat (first | (with_reducible first | exact HB.out | apply uG | apply uA | apply uF | refine uB ?_ GE151.out | refine uB ?_ GE165.out) | exact HB.out))) : w.heap.size ≤ gb176))
                have n10_ := Aside0.mk ((by rw [hg]; exact Nat.ne_of_lt (uV (g := gb151) (o := .cells #[.bool false, .int .i64 0] 33 (0, 0)) (by (with_reducible repeat (first | refine uC ?_ _ | refine uE ?_ | refine uD ?_ _)); exact BK151.out)) : gb151 ≠ gb176))
                have n11_ := Aside0.mk ((by rw [hg]; exact Nat.ne_of_gt (uV (g := gb151) (o := .cells #[.bool false, .int .i64 0] 33 (0, 0)) (by (with_reducible repeat (first | refine uC ?_ _ | refine uE ?_ | refine uD ?_ _)); exact BK151.out)) : gb176 ≠ gb151))
                have n12_ := Aside0.mk ((by rw [hg]; exact Nat.ne_of_lt (uV (g := gb165) (o := .cells #[.slice Ao20 t158.length co20, .slice Ao23 t161.length co23] 31 (0, 0)) (by (with_reducible repeat (first | refine uC ?_ _ | refine uE ?_ | refine uD ?_ _)); exact BK165.out)) : gb165 ≠ gb176))
                have n13_ := Aside0.mk ((by rw [hg]; exact Nat.ne_of_gt (uV (g := gb165) (o := .cells #[.slice Ao20 t158.length co20, .slice Ao23 t161.length co23] 31 (0, 0)) (by (with_reducible repeat (first | refine uC ?_ _ | refine uE ?_ | refine uD ?_ _)); exact BK165.out)) : gb176 ≠ gb165))
                clear HO160
                clear HO163
                clear HO169
                clear HO172
                clear BK151
                clear BK165
                clear HB
                have HO160 := n0_
                have HO163 := n1_
                have HO169 := n2_
                have HO172 := n3_
                have BK151 := n4_
                have BK165 := n5_
                have HB := n6_
                have BK176 := n7_
                have GW176 := n8_
                have GE176 := n9_
                have NB151_176 := n10_
                have NB176_151 := n11_
                have NB165_176 := n12_
                have NB176_165 := n13_
                clear n0_ n1_ n2_ n3_ n4_ n5_ n6_ n7_ n8_ n9_ n10_ n11_ n12_ n13_
                clear hb hbox hg
                refine hK.out _ _ ⟨(uI BK165.out 0).trans rfl, (uI BK165.out 1).trans rfl, ((HB.out.cell (yA w _ hw166_0)).trans hw166_0), ((HB.out.cell (yA w _ hw166_1)).trans hw166_1), ((HB.out.cell (yA w _ hw166_2)).trans hw166_2), ((HB.out.cell (yA w _ hw166_3)).trans hw166_3), ((HB.out.cell (yA w _ hw166_4)).trans hw166_4), ((HB.out.cell (yA w _ hw166_5)).trans hw166_5), ((HB.out.cell (yA w _ hw166_6)).trans hw166_6)⟩ (fun hHeld => ?_)
                clear hK K
                refine vC (a' := ?_) ?_ ?_
                rotate_left
                · show Act.put _ (some 8) _ = _
                  simp only [Act.put, vU, vV, vW, uL, uM]
                  rfl
                exact vC (by first | (simp only [vK, Act.put, vU, vV, vW]; done) | (simp only [vK, Act.put, vU, vV, vW]; rfl)) (hJ6_11 (v168, v171, gb176) _ ⟨hHeld, (by (with_reducible repeat (first | apply Kd.uN | apply Kd.uO | apply Kd.uP)); exact HO160.out), (by (with_reducible repeat (first | apply Kd.uN | apply Kd.uO | apply Kd.uP)); exact HO163.out), (by (with_reducible repeat (first | apply Kd.uN | apply Kd.uO | apply Kd.uP)); exact HO169.out), (by (with_reducible repeat (first | apply Kd.uN | apply Kd.uO | apply Kd.uP)); exact HO172.out), (by (with_reducible repeat (first | refine uC ?_ _ | refine uE ?_ | refine uD ?_ _)); exact BK151.out), (by (with_reducible repeat (first | refine uC ?_ _ | refine uE ?_ | refine uD ?_ _)); exact BK165.out), (by (with_reducible repeat (first | refine uC ?_ _ | refine uE ?_ | refine uD ?_ _)); exact BK176.out), GW176.out, GE176.out, NB151_176.out, NB176_151.out, NB165_176.out, NB176_165.out, (by repeat (first | (with_reducible first | exact HB.out | apply uG | apply uA | apply uF | refine uB ?_ GE151.out | refine uB ?_ GE165.out | refine uB ?_ GE176.out) | exact HB.out))⟩)
              skip
              refine box_step ?hg (N := 9) ?hd (cs := #[.bool false, .int .i64 0]) (t := 33) ?hr ?_; (case hd => rfl); (case hg => rfl); (case hr => first | (go_simp; done) | (go_simp; rfl))
              intro gb177 hg w28 hbox hb
              have n0_ := Aside0.mk (Kd.vD (by (with_reducible repeat (first | apply Kd.uN | apply Kd.uO | apply Kd.uP)); exact HO160.out) hb)
              have n1_ := Aside0.mk (Kd.vD (by (with_reducible repeat (first | apply Kd.uN | apply Kd.uO | apply Kd.uP)); exact HO163.out) hb)
              have n2_ := Aside0.mk (Kd.vD (by (with_reducible repeat (first | apply Kd.uN | apply Kd.uO | apply Kd.uP)); exact HO169.out) hb)
              have n3_ := Aside0.mk (Kd.vD (by (with_reducible repeat (first | apply Kd.uN | apply Kd.uO | apply Kd.uP)); exact HO172.out) hb)
              have n4_ := Aside0.mk (uR (g := gb151) (o := .cells #[.bool false, .int .i64 0] 33 (0, 0)) (by (with_reducible repeat (first | refine uC ?_ _ | refine uE ?_ | refine uD ?_ _)); exact BK151.out) hb)
              have n5_ := Aside0.mk (uR (g := gb165) (o := .cells #[.slice Ao20 t158.length co20, .slice Ao23 t161.length co23] 31 (0, 0)) (by (with_reducible repeat (first | refine uC ?_ _ | refine uE ?_ | refine uD ?_ _)); exact BK165.out) hb)
              have n6_ := Aside0.mk (uS (by repeat (first | (with_reducible first | exact HB.out | apply uG | apply uA | apply uF | refine uB ?_ GE151.out | refine uB ?_ GE165.out) | exact HB.out)) hb)
              have n7_ := Aside0.mk (hbox)
              have n8_ := Aside0.mk ((by rw [hg]; exact (uQ (by repeat (first | (with_reducible first | exact HB.out | apply uG | apply uA | apply uF | refine uB ?_ GE151.out | refine uB ?_ GE165.out) | exact HB.out))) : w.heap.size ≤ gb177))
              have n9_ := Aside0.mk ((by rw [hg]; exact (uQ (by repeat (first | (with_reducible first | exact HB.out | apply uG | apply uA | apply uF | refine uB ?_ GE151.out | refine uB ?_ GE165.out) | exact HB.out))) : w.heap.size ≤ gb177))
              have n10_ := Aside0.mk ((by rw [hg]; exact Nat.ne_of_lt (uV (g := gb151) (o := .cells #[.bool false, .int .i64 0] 33 (0, 0)) (by (with_reducible repeat (first | refine uC ?_ _ | refine uE ?_ | refine uD ?_ _)); exact BK151.out)) : gb151 ≠ gb177))
              have n11_ := Aside0.mk ((by rw [hg]; exact Nat.ne_of_gt (uV (g := gb151) (o := .cells #[.bool false, .int .i64 0] 33 (0, 0)) (by (with_reducible repeat (first | refine uC ?_ _ | refine uE ?_ | refine uD ?_ _)); exact BK151.out)) : gb177 ≠ gb151))
              have n12_ := Aside0.mk ((by rw [hg]; exact Nat.ne_of_lt (uV (g := gb165) (o := .cells #[.slice Ao20 t158.length co20, .slice Ao23 t161.length co23] 31 (0, 0)) (by (with_reducible repeat (first | refine uC ?_ _ | refine uE ?_ | refine uD ?_ _)); exact BK165.out)) : gb165 ≠ gb177))
              have n13_ := Aside0.mk ((by rw [hg]; exact Nat.ne_of_gt (uV (g := gb165) (o := .cells #[.slice Ao20 t158.length co20, .slice Ao23 t161.length co23] 31 (0, 0)) (by (with_reducible repeat (first | refine uC ?_ _ | refine uE ?_ | refine uD ?_ _)); exact BK165.out)) : gb177 ≠ gb165))
              clear HO160
              clear HO163
              clear HO169
              clear HO172
              clear BK151
              clear BK165
              clear HB
              have HO160 := n0_
              have HO163 := n1_
              have HO169 := n2_
              have HO172 := n3_
              have BK151 := n4_
              have BK165 := n5_
              have HB := n6_
              have BK177 := n7_
              have GW177 := n8_
              have GE177 := n9_
              have NB151_177 := n10_
              have NB177_151 := n11_
              have NB165_177 := n12_
              have NB177_165 := n13_
              clear n0_ n1_ n2_ n3_ n4_ n5_ n6_ n7_ n8_ n9_ n10_ n11_ n12_ n13_
              clear hb hbox hg
              refine hK.out _ _ ⟨(uI BK165.out 0).trans rfl, (uI BK165.out 1).trans rfl, ((HB.out.cell (yA w _ hw166_0)).trans hw166_0), ((HB.out.cell (yA w _ hw166_1)).trans hw166_1), ((HB.out.cell (yA w _ hw166_2)).trans hw166_2), ((HB.out.cell (yA w _ hw166_3)).trans hw166_3), ((HB.out.cell (yA w _ hw166_4)).trans hw166_4), ((HB.out.cell (yA w _ hw166_5)).trans hw166_5), ((HB.out.cell (yA w _ hw166_6)).trans hw166_6)⟩ (fun hHeld => ?_)
              clear hK K
              refine vC (a' := ?_) ?_ ?_
              rotate_left
              · show Act.put _ (some 9) _ = _
                simp only [Act.put, vU, vV, vW, uL, uM]
                rfl
              exact vC (by first | (simp only [vK, Act.put, vU, vV, vW]; done) | (simp only [vK, Act.put, vU, vV, vW]; rfl)) (hJ6_12 (v168, v171, gb177) _ ⟨hHeld, (by (with_reducible repeat (first | apply Kd.uN | apply Kd.uO | apply Kd.uP)); exact HO160.out), (by (with_reducible repeat (first | apply Kd.uN | apply Kd.uO | apply Kd.uP)); exact HO163.out), (by (with_reducible repeat (first | apply Kd.uN | apply Kd.uO | apply Kd.uP)); exact HO169.out), (by (with_reducible repeat (first | apply Kd.uN | apply Kd.uO | apply Kd.uP)); exact HO172.out), (by (with_reducible repeat (first | refine uC ?_ _ | refine uE ?_ | refine uD ?_ _)); exact BK151.out), (by (with_reducible repeat (first | refine uC ?_ _ | refine uE ?_ | refine uD ?_ _)); exact BK165.out), (by (with_reducible repeat (first | refine uC ?_ _ | refine uE ?_ | refine uD ?_ _)); exact BK177.out), GW177.out, GE177.out, NB151_177.out, NB177_151.out, NB165_177.out, NB177_165.out, (by repeat (first | (with_reducible first | exact HB.out | apply uG | apply uA | apply uF | refine uB ?_ GE151.out | refine uB ?_ GE165.out | refine uB ?_ GE177.out) | exact HB.out))⟩)
            skip
            rintro ⟨gb176, gb177⟩ w28 ⟨hS_, h0_, h1_, h2_, h3_, h4_, h5_, h6_, h7_, h8_, h9_, h10_, h11_, h12_, h13_, h14_, h15_, h16_, h17_, h18_, h19_, h20_⟩
            have n0_ : Aside0 (Kd.R (Kd.int .i64) 3 w28 w.heap.size (fun _ => True) (.slice Ao20 t158.length co20) t158) := ⟨h0_⟩
            have n1_ : Aside0 (Kd.R k49 49 w28 w.heap.size (fun _ => True) (.slice Ao23 t161.length co23) t161) := ⟨h1_⟩
            have n2_ : Aside0 (w28.heap[gb151]? = some (.cells #[.bool false, .int .i64 0] 33 (0, 0))) := ⟨h2_⟩
            have n3_ : Aside0 (w28.heap[gb165]? = some (.cells #[.slice Ao20 t158.length co20, .slice Ao23 t161.length co23] 31 (0, 0))) := ⟨h3_⟩
            have n4_ : Aside0 (w28.heap[gb176]? = some (.cells #[.slice none 0 0, .slice none 0 0] 31 (0, 0))) := ⟨h4_⟩
            have n5_ : Aside0 (w28.heap[gb177]? = some (.cells #[.bool false, .int .i64 0] 33 (0, 0))) := ⟨h5_⟩
            have n6_ : Aside0 (w.heap.size ≤ gb176) := ⟨h6_⟩
            have n7_ : Aside0 (w.heap.size ≤ gb176) := ⟨h7_⟩
            have n8_ : Aside0 (gb151 ≠ gb176) := ⟨h8_⟩
            have n9_ : Aside0 (gb176 ≠ gb151) := ⟨h9_⟩
            have n10_ : Aside0 (gb165 ≠ gb176) := ⟨h10_⟩
            have n11_ : Aside0 (gb176 ≠ gb165) := ⟨h11_⟩
            have n12_ : Aside0 (gb177 ≠ gb176) := ⟨h12_⟩
            have n13_ : Aside0 (gb176 ≠ gb177) := ⟨h13_⟩
            have n14_ : Aside0 (w.heap.size ≤ gb177) := ⟨h14_⟩
            have n15_ : Aside0 (w.heap.size ≤ gb177) := ⟨h15_⟩
            have n16_ : Aside0 (gb151 ≠ gb177) := ⟨h16_⟩
            have n17_ : Aside0 (gb177 ≠ gb151) := ⟨h17_⟩
            have n18_ : Aside0 (gb165 ≠ gb177) := ⟨h18_⟩
            have n19_ : Aside0 (gb177 ≠ gb165) := ⟨h19_⟩
            have n20_ : Aside0 (Below w.heap.size w w28) := ⟨h20_⟩
            clear HO160
            clear HO163
            clear BK151
            clear BK165
            clear HB
            clear h0_ h1_ h2_ h3_ h4_ h5_ h6_ h7_ h8_ h9_ h10_ h11_ h12_ h13_ h14_ h15_ h16_ h17_ h18_ h19_ h20_
            have HO160 := n0_
            have HO163 := n1_
            have BK151 := n2_
            have BK165 := n3_
            have BK176 := n4_
            have BK177 := n5_
            have GW176 := n6_
            have GE176 := n7_
            have NB151_176 := n8_
            have NB176_151 := n9_
            have NB165_176 := n10_
            have NB176_165 := n11_
            have NB177_176 := n12_
            have NB176_177 := n13_
            have GW177 := n14_
            have GE177 := n15_
            have NB151_177 := n16_
            have NB177_151 := n17_
            have NB165_177 := n18_
            have NB177_165 := n19_
            have HB := n20_
            clear n0_ n1_ n2_ n3_ n4_ n5_ n6_ n7_ n8_ n9_ n10_ n11_ n12_ n13_ n14_ n15_ n16_ n17_ n18_ n19_ n20_
            have hHeld : w28.cell? ⟨gb165, 0, none⟩ = some (.slice Ao20 t158.length co20) ∧ w28.cell? ⟨gb165, 1, none⟩ = some (.slice Ao23 t161.length co23) ∧ w28.cell? (ad166.add ((a1).toNat * 7)) = some (.int .i64 ((rd_T72 l0 a1).f0)) ∧ w28.cell? ⟨(ad166.add ((a1).toNat * 7)).block, (ad166.add ((a1).toNat * 7)).off + 1, none⟩ = some (.int .i64 ((rd_T72 l0 a1).f1.f0)) ∧ w28.cell? ⟨(ad166.add ((a1).toNat * 7)).block, (ad166.add ((a1).toNat * 7)).off + 2, none⟩ = some (.int .i64 ((rd_T72 l0 a1).f1.f1)) ∧ w28.cell? ⟨(ad166.add ((a1).toNat * 7)).block, (ad166.add ((a1).toNat * 7)).off + 3, none⟩ = some (.int .i64 ((rd_T72 l0 a1).f1.f2)) ∧ w28.cell? ⟨(ad166.add ((a1).toNat * 7)).block, (ad166.add ((a1).toNat * 7)).off + 4, none⟩ = some (.int .i64 ((rd_T72 l0 a1).f1.f3)) ∧ w28.cell? ⟨(ad166.add ((a1).toNat * 7)).block, (ad166.add ((a1).toNat * 7)).off + 5, none⟩ = some (.int .i64 ((rd_T72 l0 a1).f1.f4)) ∧ w28.cell? ⟨(ad166.add ((a1).toNat * 7)).block, (ad166.add ((a1).toNat * 7)).off + 6, none⟩ = some (.int .i64 ((rd_T72 l0 a1).f1.f5)) := hS_
            refine vC (a' := ?_) ?_ ?_
            rotate_left
            · simp only [vK, Act.put, vU, vV, vW]
              rfl
            refine one_ (i := 6) (N := some 37) tb26 rfl rfl (one_of HT_.out (by kernel_rfl)) (by decide) (fun K hK => ?_)
            refine goes_ Try.func9 (by kernel_rfl) rfl #[.agg #[.slice Ao20 t158.length co20, .slice Ao23 t161.length co23], .agg #[.int .i64 ((rd_T72 l0 a1).f1.f0), .int .i64 ((rd_T72 l0 a1).f1.f1), .int .i64 ((rd_T72 l0 a1).f1.f2), .int .i64 ((rd_T72 l0 a1).f1.f3), .int .i64 ((rd_T72 l0 a1).f1.f4), .int .i64 ((rd_T72 l0 a1).f1.f5)]] (by rfl) rfl rfl (by (try simp only [vX, List.map_cons, List.map_nil]); first | done | rfl | (simp only [vZ, vY]; rfl)) ?_
            with_reducible refine (spec_ApplyOp.calls kj2 _ _ t158 _ _ t161 ((rd_T72 l0 a1).f1.f0) ((rd_T72 l0 a1).f1.f1) ((rd_T72 l0 a1).f1.f2) ((rd_T72 l0 a1).f1.f3) ((rd_T72 l0 a1).f1.f4) ((rd_T72 l0 a1).f1.f5) t167 t170 t173 t174 t175 _ ?side1 ?side2 ?side3 ?side4 A16.out).mono ?_
            (case side1 => repeat (first | exact (Kd.vH HO160.out).2.2 | (with_reducible refine Kd.vQ ?_ _) | (with_reducible refine Kd.vP ?_ _) | (with_reducible refine Kd.vS ?_)))
            (case side2 => exact (Kd.vH HO160.out).2.1)
            (case side3 => repeat (first | exact (Kd.vH HO163.out).2.2 | (with_reducible refine Kd.vQ ?_ _) | (with_reducible refine Kd.vP ?_ _) | (with_reducible refine Kd.vS ?_)))
            (case side4 => exact (Kd.vH HO163.out).2.1)
            rintro e w29 ⟨v168, v171, rfl, ho0, ho1, hb⟩
            refine ⟨_, rfl, ?_⟩
            have n0_ := Aside0.mk (Kd.R_elder' (by (with_reducible repeat (first | apply Kd.uN | apply Kd.uO | apply Kd.uP)); exact HO160.out) (Kd.R_base ho0) hb)
            have n1_ := Aside0.mk (Kd.R_elder' (by (with_reducible repeat (first | apply Kd.uN | apply Kd.uO | apply Kd.uP)); exact HO163.out) (Kd.R_base ho1) hb)
            have n2_ := Aside0.mk (Kd.vO (Kd.R_new' ho0 (Kd.R_lt (by (with_reducible repeat (first | apply Kd.uN | apply Kd.uO | apply Kd.uP)); exact HO160.out))) (uQ (by repeat (first | (with_reducible first | exact HB.out | apply uG | apply uA | apply uF | refine uB ?_ GE151.out | refine uB ?_ GE165.out | refine uB ?_ GE176.out | refine uB ?_ GE177.out) | exact HB.out))))
            have n3_ := Aside0.mk (Kd.vO (Kd.R_new' ho1 (Kd.R_lt (by (with_reducible repeat (first | apply Kd.uN | apply Kd.uO | apply Kd.uP)); exact HO163.out))) (uQ (by repeat (first | (with_reducible first | exact HB.out | apply uG | apply uA | apply uF | refine uB ?_ GE151.out | refine uB ?_ GE165.out | refine uB ?_ GE176.out | refine uB ?_ GE177.out) | exact HB.out))))
            have n4_ := Aside0.mk (uR (g := gb151) (o := .cells #[.bool false, .int .i64 0] 33 (0, 0)) (by (with_reducible repeat (first | refine uC ?_ _ | refine uE ?_ | refine uD ?_ _)); exact BK151.out) hb)
            have n5_ := Aside0.mk (uR (g := gb165) (o := .cells #[.slice Ao20 t158.length co20, .slice Ao23 t161.length co23] 31 (0, 0)) (by (with_reducible repeat (first | refine uC ?_ _ | refine uE ?_ | refine uD ?_ _)); exact BK165.out) hb)
            have n6_ := Aside0.mk (uR (g := gb176) (o := .cells #[.slice none 0 0, .slice none 0 0] 31 (0, 0)) (by (with_reducible repeat (first | refine uC ?_ _ | refine uE ?_ | refine uD ?_ _)); exact BK176.out) hb)
            have n7_ := Aside0.mk (uR (g := gb177) (o := .cells #[.bool false, .int .i64 0] 33 (0, 0)) (by (with_reducible repeat (first | refine uC ?_ _ | refine uE ?_ | refine uD ?_ _)); exact BK177.out) hb)
            have n8_ := Aside0.mk (uS (by repeat (first | (with_reducible first | exact HB.out | apply uG | apply uA | apply uF | refine uB ?_ GE151.out | refine uB ?_ GE165.out | refine uB ?_ GE176.out | refine uB ?_ GE177.out) | exact HB.out)) hb)
            clear HO160
            clear HO163
            clear BK151
            clear BK165
            clear BK176
            clear BK177
            clear HB
            have HO160 := n0_
            have HO163 := n1_
            have HO169 := n2_
            have HO172 := n3_
            have BK151 := n4_
            have BK165 := n5_
            have BK176 := n6_
            have BK177 := n7_
            have HB := n8_
            clear n0_ n1_ n2_ n3_ n4_ n5_ n6_ n7_ n8_
            (try clear hb)
            (try clear hb2)
            (try clear hk)
            (try clear hi)
            (try clear ho0)
            (try clear ho1)
            refine hK.out _ _ ⟨(uI BK165.out 0).trans rfl, (uI BK165.out 1).trans rfl, ((HB.out.cell (yA w _ hw166_0)).trans hw166_0), ((HB.out.cell (yA w _ hw166_1)).trans hw166_1), ((HB.out.cell (yA w _ hw166_2)).trans hw166_2), ((HB.out.cell (yA w _ hw166_3)).trans hw166_3), ((HB.out.cell (yA w _ hw166_4)).trans hw166_4), ((HB.out.cell (yA w _ hw166_5)).trans hw166_5), ((HB.out.cell (yA w _ hw166_6)).trans hw166_6)⟩ (fun hHeld => ?_)
            clear hK K
            refine vC (a' := ?_) ?_ ?_
            rotate_left
            · show Act.put _ (some 37) _ = _
              simp only [Act.put, vU, vV, vW, uL, uM]
              rfl
            refine uJ (i := 7) (N := some 30) (v := ?_) (a' := ?_) tb30 rfl rfl (vL HT_.out (by kernel_rfl)) (fun _ _ _ h => h) (Or.inl ⟨by rfl, ?_⟩) ?_ ?_
            rotate_left
            · intro w'
              go_simp
              with_reducible rfl
            rotate_left
            · simp only [Act.put, vU, vV, vW, uL, uM]
              rfl
            refine uJ (i := 8) (N := some 38) (v := ?_) (a' := ?_) tb33 rfl rfl (vL HT_.out (by kernel_rfl)) (fun _ _ _ h => h) (Or.inl ⟨by rfl, ?_⟩) ?_ ?_
            rotate_left
            · intro w'
              go_simp
              with_reducible rfl
            rotate_left
            · simp only [Act.put, vU, vV, vW, uL, uM]
              rfl
            refine uJ (i := 9) (N := some 39) (v := ?_) (a' := ?_) tb34 rfl rfl (vL HT_.out (by kernel_rfl)) (fun _ _ _ h => h) (Or.inl ⟨by rfl, ?_⟩) ?_ ?_
            rotate_left
            · intro w'
              go_simp
              with_reducible rfl
            rotate_left
            · simp only [Act.put, vU, vV, vW, uL, uM]
              rfl
            refine uJ (i := 10) (N := some 40) (v := ?_) (a' := ?_) tb0 rfl rfl (vL HT_.out (by kernel_rfl)) (fun _ _ _ h => h) (Or.inl ⟨by rfl, ?_⟩) ?_ ?_
            rotate_left
            · intro w'
              go_simp
              with_reducible rfl
            rotate_left
            · simp only [Act.put, vU, vV, vW, uL, uM]
              rfl
            exact vC (by first | (simp only [vK, Act.put, vU, vV, vW]; done) | (simp only [vK, Act.put, vU, vV, vW]; rfl)) (hJ6_11_12 (v168, v171, gb176, gb177) _ ⟨hHeld, (by (with_reducible repeat (first | apply Kd.uN | apply Kd.uO | apply Kd.uP)); exact Kd.uZ HO160.out (fun _ hk => hk.2)), (by (with_reducible repeat (first | apply Kd.uN | apply Kd.uO | apply Kd.uP)); exact Kd.uZ HO163.out (fun _ hk => hk.2)), (by (with_reducible repeat (first | apply Kd.uN | apply Kd.uO | apply Kd.uP)); exact Kd.uZ HO169.out (fun _ hk => hk.2)), (by (with_reducible repeat (first | apply Kd.uN | apply Kd.uO | apply Kd.uP)); exact Kd.uZ HO172.out (fun _ hk => hk.2)), (by (with_reducible repeat (first | refine uC ?_ _ | refine uE ?_ | refine uD ?_ _)); exact BK151.out), (by (with_reducible repeat (first | refine uC ?_ _ | refine uE ?_ | refine uD ?_ _)); exact BK165.out), (by (with_reducible repeat (first | refine uC ?_ _ | refine uE ?_ | refine uD ?_ _)); exact BK176.out), (by (with_reducible repeat (first | refine uC ?_ _ | refine uE ?_ | refine uD ?_ _)); exact BK177.out), GW176.out, GE176.out, NB151_176.out, NB176_151.out, NB165_176.out, NB176_165.out, NB177_176.out, NB176_177.out, GW177.out, GE177.out, NB151_177.out, NB177_151.out, NB165_177.out, NB177_165.out, (by repeat (first | (with_reducible first | exact HB.out | apply uG | apply uA | apply uF | refine uB ?_ GE151.out | refine uB ?_ GE165.out | refine uB ?_ GE176.out | refine uB ?_ GE177.out) | exact HB.out))⟩)
          skip
          rintro ⟨v168, v171, gb177⟩ w28 ⟨hS_, h0_, h1_, h2_, h3_, h4_, h5_, h6_, h7_, h8_, h9_, h10_, h11_, h12_, h13_⟩
          have n0_ : Aside0 (Kd.R (Kd.int .i64) 3 w28 w.heap.size (fun k_ => some k_ ≠ (v168 : Value).ownBlock) (.slice Ao20 t158.length co20) t158) := ⟨h0_⟩
          have n1_ : Aside0 (Kd.R k49 49 w28 w.heap.size (fun k_ => some k_ ≠ (v171 : Value).ownBlock) (.slice Ao23 t161.length co23) t161) := ⟨h1_⟩
          have n2_ : Aside0 (Kd.R (Kd.int .i64) 3 w28 w.heap.size (fun k_ => some k_ ≠ (.slice Ao20 t158.length co20 : Value).ownBlock) v168 t167) := ⟨h2_⟩
          have n3_ : Aside0 (Kd.R k49 49 w28 w.heap.size (fun k_ => some k_ ≠ (.slice Ao23 t161.length co23 : Value).ownBlock) v171 t170) := ⟨h3_⟩
          have n4_ : Aside0 (w28.heap[gb151]? = some (.cells #[.bool false, .int .i64 0] 33 (0, 0))) := ⟨h4_⟩
          have n5_ : Aside0 (w28.heap[gb165]? = some (.cells #[.slice Ao20 t158.length co20, .slice Ao23 t161.length co23] 31 (0, 0))) := ⟨h5_⟩
          have n6_ : Aside0 (w28.heap[gb177]? = some (.cells #[.bool false, .int .i64 0] 33 (0, 0))) := ⟨h6_⟩
          have n7_ : Aside0 (w.heap.size ≤ gb177) := ⟨h7_⟩
          have n8_ : Aside0 (w.heap.size ≤ gb177) := ⟨h8_⟩
          have n9_ : Aside0 (gb151 ≠ gb177) := ⟨h9_⟩
          have n10_ : Aside0 (gb177 ≠ gb151) := ⟨h10_⟩
          have n11_ : Aside0 (gb165 ≠ gb177) := ⟨h11_⟩
          have n12_ : Aside0 (gb177 ≠ gb165) := ⟨h12_⟩
          have n13_ : Aside0 (Below w.heap.size w w28) := ⟨h13_⟩
          clear HO160
          clear HO163
          clear BK151
          clear BK165
          clear HB
          clear h0_ h1_ h2_ h3_ h4_ h5_ h6_ h7_ h8_ h9_ h10_ h11_ h12_ h13_
          have HO160 := n0_
          have HO163 := n1_
          have HO169 := n2_
          have HO172 := n3_
          have BK151 := n4_
          have BK165 := n5_
          have BK177 := n6_
          have GW177 := n7_
          have GE177 := n8_
          have NB151_177 := n9_
          have NB177_151 := n10_
          have NB165_177 := n11_
          have NB177_165 := n12_
          have HB := n13_
          clear n0_ n1_ n2_ n3_ n4_ n5_ n6_ n7_ n8_ n9_ n10_ n11_ n12_ n13_
          have hHeld : w28.cell? ⟨gb165, 0, none⟩ = some (.slice Ao20 t158.length co20) ∧ w28.cell? ⟨gb165, 1, none⟩ = some (.slice Ao23 t161.length co23) ∧ w28.cell? (ad166.add ((a1).toNat * 7)) = some (.int .i64 ((rd_T72 l0 a1).f0)) ∧ w28.cell? ⟨(ad166.add ((a1).toNat * 7)).block, (ad166.add ((a1).toNat * 7)).off + 1, none⟩ = some (.int .i64 ((rd_T72 l0 a1).f1.f0)) ∧ w28.cell? ⟨(ad166.add ((a1).toNat * 7)).block, (ad166.add ((a1).toNat * 7)).off + 2, none⟩ = some (.int .i64 ((rd_T72 l0 a1).f1.f1)) ∧ w28.cell? ⟨(ad166.add ((a1).toNat * 7)).block, (ad166.add ((a1).toNat * 7)).off + 3, none⟩ = some (.int .i64 ((rd_T72 l0 a1).f1.f2)) ∧ w28.cell? ⟨(ad166.add ((a1).toNat * 7)).block, (ad166.add ((a1).toNat * 7)).off + 4, none⟩ = some (.int .i64 ((rd_T72 l0 a1).f1.f3)) ∧ w28.cell? ⟨(ad166.add ((a1).toNat * 7)).block, (ad166.add ((a1).toNat * 7)).off + 5, none⟩ = some (.int .i64 ((rd_T72 l0 a1).f1.f4)) ∧ w28.cell? ⟨(ad166.add ((a1).toNat * 7)).block, (ad166.add ((a1).toNat * 7)).off + 6, none⟩ = some (.int .i64 ((rd_T72 l0 a1).f1.f5)) := hS_
          refine vC (a' := ?_) ?_ ?_
          rotate_left
          · simp only [vK, Act.put, vU, vV, vW]
            rfl
          refine one_ (i := 11) (N := some 8) tb0 rfl rfl (one_of HT_.out (by kernel_rfl)) (by decide) (fun K hK => ?_)
          refine box_step ?hg (N := 8) ?hd (cs := #[.slice none 0 0, .slice none 0 0]) (t := 31) ?hr ?_; (case hd => rfl); (case hg => rfl); (case hr => first | (go_simp; done) | (go_simp; rfl))
          intro gb176 hg w29 hbox hb
          have n0_ := Aside0.mk (Kd.vD (by (with_reducible repeat (first | apply Kd.uN | apply Kd.uO | apply Kd.uP)); exact HO160.out) hb)
          have n1_ := Aside0.mk (Kd.vD (by (with_reducible repeat (first | apply Kd.uN | apply Kd.uO | apply Kd.uP)); exact HO163.out) hb)
          have n2_ := Aside0.mk (Kd.vD (by (with_reducible repeat (first | apply Kd.uN | apply Kd.uO | apply Kd.uP)); exact HO169.out) hb)
          have n3_ := Aside0.mk (Kd.vD (by (with_reducible repeat (first | apply Kd.uN | apply Kd.uO | apply Kd.uP)); exact HO172.out) hb)
          have n4_ := Aside0.mk (uR (g := gb151) (o := .cells #[.bool false, .int .i64 0] 33 (0, 0)) (by (with_reducible repeat (first | refine uC ?_ _ | refine uE ?_ | refine uD ?_ _)); exact BK151.out) hb)
          have n5_ := Aside0.mk (uR (g := gb165) (o := .cells #[.slice Ao20 t158.length co20, .slice Ao23 t161.length co23] 31 (0, 0)) (by (with_reducible repeat (first | refine uC ?_ _ | refine uE ?_ | refine uD ?_ _)); exact BK165.out) hb)
          have n6_ := Aside0.mk (uR (g := gb177) (o := .cells #[.bool false, .int .i64 0] 33 (0, 0)) (by (with_reducible repeat (first | refine uC ?_ _ | refine uE ?_ | refine uD ?_ _)); exact BK177.out) hb)
          have n7_ := Aside0.mk (uS (by repeat (first | (with_reducible first | exact HB.out | apply uG | apply uA | apply uF | refine uB ?_ GE151.out | refine uB ?_ GE165.out | refine uB ?_ GE177.out) | exact HB.out)) hb)
          have n8_ := Aside0.mk (hbox)
          have n9_ := Aside0.mk ((by rw [hg]; exact (uQ (by repeat (first | (with_reducible first | exact HB.out | apply uG | apply uA | apply uF | refine uB ?_ GE151.out | refine uB ?_ GE165.out | refine uB ?_ GE177.out) | exact HB.out))) : w.heap.size ≤ gb176))
          have n10_ := Aside0.mk ((by rw [hg]; exact (uQ (by repeat (first | (with_reducible first | exact HB.out | apply uG | apply uA | apply uF | refine uB ?_ GE151.out | refine uB ?_ GE165.out | refine uB ?_ GE177.out) | exact HB.out))) : w.heap.size ≤ gb176))
          have n11_ := Aside0.mk ((by rw [hg]; exact Nat.ne_of_lt (uV (g := gb151) (o := .cells #[.bool false, .int .i64 0] 33 (0, 0)) (by (with_reducible repeat (first | refine uC ?_ _ | refine uE ?_ | refine uD ?_ _)); exact BK151.out)) : gb151 ≠ gb176))
          have n12_ := Aside0.mk ((by rw [hg]; exact Nat.ne_of_gt (uV (g := gb151) (o := .cells #[.bool false, .int .i64 0] 33 (0, 0)) (by (with_reducible repeat (first | refine uC ?_ _ | refine uE ?_ | refine uD ?_ _)); exact BK151.out)) : gb176 ≠ gb151))
          have n13_ := Aside0.mk ((by rw [hg]; exact Nat.ne_of_lt (uV (g := gb165) (o := .cells #[.slice Ao20 t158.length co20, .slice Ao23 t161.length co23] 31 (0, 0)) (by (with_reducible repeat (first | refine uC ?_ _ | refine uE ?_ | refine uD ?_ _)); exact BK165.out)) : gb165 ≠ gb176))
          have n14_ := Aside0.mk ((by rw [hg]; exact Nat.ne_of_gt (uV (g := gb165) (o := .cells #[.slice Ao20 t158.length co20, .slice Ao23 t161.length co23] 31 (0, 0)) (by (with_reducible repeat (first | refine uC ?_ _ | refine uE ?_ | refine uD ?_ _)); exact BK165.out)) : gb176 ≠ gb165))
          have n15_ := Aside0.mk ((by rw [hg]; exact Nat.ne_of_lt (uV (g := gb177) (o := .cells #[.bool false, .int .i64 0] 33 (0, 0)) (by (with_reducible repeat (first | refine uC ?_ _ | refine uE ?_ | refine uD ?_ _)); exact BK177.out)) : gb177 ≠ gb176))
          have n16_ := Aside0.mk ((by rw [hg]; exact Nat.ne_of_gt (uV (g := gb177) (o := .cells #[.bool false, .int .i64 0] 33 (0, 0)) (by (with_reducible repeat (first | refine uC ?_ _ | refine uE ?_ | refine uD ?_ _)); exact BK177.out)) : gb176 ≠ gb177))
          clear HO160
          clear HO163
          clear HO169
          clear HO172
          clear BK151
          clear BK165
          clear BK177
          clear HB
          have HO160 := n0_
          have HO163 := n1_
          have HO169 := n2_
          have HO172 := n3_
          have BK151 := n4_
          have BK165 := n5_
          have BK177 := n6_
          have HB := n7_
          have BK176 := n8_
          have GW176 := n9_
          have GE176 := n10_
          have NB151_176 := n11_
          have NB176_151 := n12_
          have NB165_176 := n13_
          have NB176_165 := n14_
          have NB177_176 := n15_
          have NB176_177 := n16_
          clear n0_ n1_ n2_ n3_ n4_ n5_ n6_ n7_ n8_ n9_ n10_ n11_ n12_ n13_ n14_ n15_ n16_
          clear hb hbox hg
          refine hK.out _ _ ⟨(uI BK165.out 0).trans rfl, (uI BK165.out 1).trans rfl, ((HB.out.cell (yA w _ hw166_0)).trans hw166_0), ((HB.out.cell (yA w _ hw166_1)).trans hw166_1), ((HB.out.cell (yA w _ hw166_2)).trans hw166_2), ((HB.out.cell (yA w _ hw166_3)).trans hw166_3), ((HB.out.cell (yA w _ hw166_4)).trans hw166_4), ((HB.out.cell (yA w _ hw166_5)).trans hw166_5), ((HB.out.cell (yA w _ hw166_6)).trans hw166_6)⟩ (fun hHeld => ?_)
          clear hK K
          refine vC (a' := ?_) ?_ ?_
          rotate_left
          · show Act.put _ (some 8) _ = _
            simp only [Act.put, vU, vV, vW, uL, uM]
            rfl
          exact vC (by first | (simp only [vK, Act.put, vU, vV, vW]; done) | (simp only [vK, Act.put, vU, vV, vW]; rfl)) (hJ6_11_12 (v168, v171, gb176, gb177) _ ⟨hHeld, (by (with_reducible repeat (first | apply Kd.uN | apply Kd.uO | apply Kd.uP)); exact HO160.out), (by (with_reducible repeat (first | apply Kd.uN | apply Kd.uO | apply Kd.uP)); exact HO163.out), (by (with_reducible repeat (first | apply Kd.uN | apply Kd.uO | apply Kd.uP)); exact HO169.out), (by (with_reducible repeat (first | apply Kd.uN | apply Kd.uO | apply Kd.uP)); exact HO172.out), (by (with_reducible repeat (first | refine uC ?_ _ | refine uE ?_ | refine uD ?_ _)); exact BK151.out), (by (with_reducible repeat (first | refine uC ?_ _ | refine uE ?_ | refine uD ?_ _)); exact BK165.out), (by (with_reducible repeat (first | refine uC ?_ _ | refine uE ?_ | refine uD ?_ _)); exact BK176.out), (by (with_reducible repeat (first | refine uC ?_ _ | refine uE ?_ | refine uD ?_ _)); exact BK177.out), GW176.out, GE176.out, NB151_176.out, NB176_151.out, NB165_176.out, NB176_165.out, NB177_176.out, NB176_177.out, GW177.out, GE177.out, NB151_177.out, NB177_151.out, NB165_177.out, NB177_165.out, (by repeat (first | (with_reducible first | exact HB.out | apply uG | apply uA | apply uF | refine uB ?_ GE151.out | refine uB ?_ GE165.out | refine uB ?_ GE177.out | refine uB ?_ GE176.out) | exact HB.out))⟩)
        skip
        rintro ⟨v168, v171, gb176⟩ w28 ⟨hS_, h0_, h1_, h2_, h3_, h4_, h5_, h6_, h7_, h8_, h9_, h10_, h11_, h12_, h13_⟩
        have n0_ : Aside0 (Kd.R (Kd.int .i64) 3 w28 w.heap.size (fun k_ => some k_ ≠ (v168 : Value).ownBlock) (.slice Ao20 t158.length co20) t158) := ⟨h0_⟩
        have n1_ : Aside0 (Kd.R k49 49 w28 w.heap.size (fun k_ => some k_ ≠ (v171 : Value).ownBlock) (.slice Ao23 t161.length co23) t161) := ⟨h1_⟩
        have n2_ : Aside0 (Kd.R (Kd.int .i64) 3 w28 w.heap.size (fun k_ => some k_ ≠ (.slice Ao20 t158.length co20 : Value).ownBlock) v168 t167) := ⟨h2_⟩
        have n3_ : Aside0 (Kd.R k49 49 w28 w.heap.size (fun k_ => some k_ ≠ (.slice Ao23 t161.length co23 : Value).ownBlock) v171 t170) := ⟨h3_⟩
        have n4_ : Aside0 (w28.heap[gb151]? = some (.cells #[.bool false, .int .i64 0] 33 (0, 0))) := ⟨h4_⟩
        have n5_ : Aside0 (w28.heap[gb165]? = some (.cells #[.slice Ao20 t158.length co20, .slice Ao23 t161.length co23] 31 (0, 0))) := ⟨h5_⟩
        have n6_ : Aside0 (w28.heap[gb176]? = some (.cells #[.slice none 0 0, .slice none 0 0] 31 (0, 0))) := ⟨h6_⟩
        have n7_ : Aside0 (w.heap.size ≤ gb176) := ⟨h7_⟩
        have n8_ : Aside0 (w.heap.size ≤ gb176) := ⟨h8_⟩
        have n9_ : Aside0 (gb151 ≠ gb176) := ⟨h9_⟩
        have n10_ : Aside0 (gb176 ≠ gb151) := ⟨h10_⟩
        have n11_ : Aside0 (gb165 ≠ gb176) := ⟨h11_⟩
        have n12_ : Aside0 (gb176 ≠ gb165) := ⟨h12_⟩
        have n13_ : Aside0 (Below w.heap.size w w28) := ⟨h13_⟩
        clear HO160
        clear HO163
        clear BK151
        clear BK165
        clear HB
        clear h0_ h1_ h2_ h3_ h4_ h5_ h6_ h7_ h8_ h9_ h10_ h11_ h12_ h13_
        have HO160 := n0_
        have HO163 := n1_
        have HO169 := n2_
        have HO172 := n3_
        have BK151 := n4_
        have BK165 := n5_
        have BK176 := n6_
        have GW176 := n7_
        have GE176 := n8_
        have NB151_176 := n9_
        have NB176_151 := n10_
        have NB165_176 := n11_
        have NB176_165 := n12_
        have HB := n13_
        clear n0_ n1_ n2_ n3_ n4_ n5_ n6_ n7_ n8_ n9_ n10_ n11_ n12_ n13_
        have hHeld : w28.cell? ⟨gb165, 0, none⟩ = some (.slice Ao20 t158.length co20) ∧ w28.cell? ⟨gb165, 1, none⟩ = some (.slice Ao23 t161.length co23) ∧ w28.cell? (ad166.add ((a1).toNat * 7)) = some (.int .i64 ((rd_T72 l0 a1).f0)) ∧ w28.cell? ⟨(ad166.add ((a1).toNat * 7)).block, (ad166.add ((a1).toNat * 7)).off + 1, none⟩ = some (.int .i64 ((rd_T72 l0 a1).f1.f0)) ∧ w28.cell? ⟨(ad166.add ((a1).toNat * 7)).block, (ad166.add ((a1).toNat * 7)).off + 2, none⟩ = some (.int .i64 ((rd_T72 l0 a1).f1.f1)) ∧ w28.cell? ⟨(ad166.add ((a1).toNat * 7)).block, (ad166.add ((a1).toNat * 7)).off + 3, none⟩ = some (.int .i64 ((rd_T72 l0 a1).f1.f2)) ∧ w28.cell? ⟨(ad166.add ((a1).toNat * 7)).block, (ad166.add ((a1).toNat * 7)).off + 4, none⟩ = some (.int .i64 ((rd_T72 l0 a1).f1.f3)) ∧ w28.cell? ⟨(ad166.add ((a1).toNat * 7)).block, (ad166.add ((a1).toNat * 7)).off + 5, none⟩ = some (.int .i64 ((rd_T72 l0 a1).f1.f4)) ∧ w28.cell? ⟨(ad166.add ((a1).toNat * 7)).block, (ad166.add ((a1).toNat * 7)).off + 6, none⟩ = some (.int .i64 ((rd_T72 l0 a1).f1.f5)) := hS_
        refine vC (a' := ?_) ?_ ?_
        rotate_left
        · simp only [vK, Act.put, vU, vV, vW]
          rfl
        refine one_ (i := 12) (N := some 9) tb0 rfl rfl (one_of HT_.out (by kernel_rfl)) (by decide) (fun K hK => ?_)
        refine box_step ?hg (N := 9) ?hd (cs := #[.bool false, .int .i64 0]) (t := 33) ?hr ?_; (case hd => rfl); (case hg => rfl); (case hr => first | (go_simp; done) | (go_simp; rfl))
        intro gb177 hg w29 hbox hb
        have n0_ := Aside0.mk (Kd.vD (by (with_reducible repeat (first | apply Kd.uN | apply Kd.uO | apply Kd.uP)); exact HO160.out) hb)
        have n1_ := Aside0.mk (Kd.vD (by (with_reducible repeat (first | apply Kd.uN | apply Kd.uO | apply Kd.uP)); exact HO163.out) hb)
        have n2_ := Aside0.mk (Kd.vD (by (with_reducible repeat (first | apply Kd.uN | apply Kd.uO | apply Kd.uP)); exact HO169.out) hb)
        have n3_ := Aside0.mk (Kd.vD (by (with_reducible repeat (first | apply Kd.uN | apply Kd.uO | apply Kd.uP)); exact HO172.out) hb)
        have n4_ := Aside0.mk (uR (g := gb151) (o := .cells #[.bool false, .int .i64 0] 33 (0, 0)) (by (with_reducible repeat (first | refine uC ?_ _ | refine uE ?_ | refine uD ?_ _)); exact BK151.out) hb)
        have n5_ := Aside0.mk (uR (g := gb165) (o := .cells #[.slice Ao20 t158.length co20, .slice Ao23 t161.length co23] 31 (0, 0)) (by (with_reducible repeat (first | refine uC ?_ _ | refine uE ?_ | refine uD ?_ _)); exact BK165.out) hb)
        have n6_ := Aside0.mk (uR (g := gb176) (o := .cells #[.slice none 0 0, .slice none 0 0] 31 (0, 0)) (by (with_reducible repeat (first | refine uC ?_ _ | refine uE ?_ | refine uD ?_ _)); exact BK176.out) hb)
        have n7_ := Aside0.mk (uS (by repeat (first | (with_reducible first | exact HB.out | apply uG | apply uA | apply uF | refine uB ?_ GE151.out | refine uB ?_ GE165.out | refine uB ?_ GE176.out) | exact HB.out)) hb)
        have n8_ := Aside0.mk (hbox)
        have n9_ := Aside0.mk ((by rw [hg]; exact (uQ (by repeat (first | (with_reducible first | exact HB.out | apply uG | apply uA | apply uF | refine uB ?_ GE151.out | refine uB ?_ GE165.out | refine uB ?_ GE176.out) | exact HB.out))) : w.heap.size ≤ gb177))
        have n10_ := Aside0.mk ((by rw [hg]; exact (uQ (by repeat (first | (with_reducible first | exact HB.out | apply uG | apply uA | apply uF | refine uB ?_ GE151.out | refine uB ?_ GE165.out | refine uB ?_ GE176.out) | exact HB.out))) : w.heap.size ≤ gb177))
        have n11_ := Aside0.mk ((by rw [hg]; exact Nat.ne_of_lt (uV (g := gb151) (o := .cells #[.bool false, .int .i64 0] 33 (0, 0)) (by (with_reducible repeat (first | refine uC ?_ _ | refine uE ?_ | refine uD ?_ _)); exact BK151.out)) : gb151 ≠ gb177))
        have n12_ := Aside0.mk ((by rw [hg]; exact Nat.ne_of_gt (uV (g := gb151) (o := .cells #[.bool false, .int .i64 0] 33 (0, 0)) (by (with_reducible repeat (first | refine uC ?_ _ | refine uE ?_ | refine uD ?_ _)); exact BK151.out)) : gb177 ≠ gb151))
        have n13_ := Aside0.mk ((by rw [hg]; exact Nat.ne_of_lt (uV (g := gb165) (o := .cells #[.slice Ao20 t158.length co20, .slice Ao23 t161.length co23] 31 (0, 0)) (by (with_reducible repeat (first | refine uC ?_ _ | refine uE ?_ | refine uD ?_ _)); exact BK165.out)) : gb165 ≠ gb177))
        have n14_ := Aside0.mk ((by rw [hg]; exact Nat.ne_of_gt (uV (g := gb165) (o := .cells #[.slice Ao20 t158.length co20, .slice Ao23 t161.length co23] 31 (0, 0)) (by (with_reducible repeat (first | refine uC ?_ _ | refine uE ?_ | refine uD ?_ _)); exact BK165.out)) : gb177 ≠ gb165))
        have n15_ := Aside0.mk ((by rw [hg]; exact Nat.ne_of_lt (uV (g := gb176) (o := .cells #[.slice none 0 0, .slice none 0 0] 31 (0, 0)) (by (with_reducible repeat (first | refine uC ?_ _ | refine uE ?_ | refine uD ?_ _)); exact BK176.out)) : gb176 ≠ gb177))
        have n16_ := Aside0.mk ((by rw [hg]; exact Nat.ne_of_gt (uV (g := gb176) (o := .cells #[.slice none 0 0, .slice none 0 0] 31 (0, 0)) (by (with_reducible repeat (first | refine uC ?_ _ | refine uE ?_ | refine uD ?_ _)); exact BK176.out)) : gb177 ≠ gb176))
        clear HO160
        clear HO163
        clear HO169
        clear HO172
        clear BK151
        clear BK165
        clear BK176
        clear HB
        have HO160 := n0_
        have HO163 := n1_
        have HO169 := n2_
        have HO172 := n3_
        have BK151 := n4_
        have BK165 := n5_
        have BK176 := n6_
        have HB := n7_
        have BK177 := n8_
        have GW177 := n9_
        have GE177 := n10_
        have NB151_177 := n11_
        have NB177_151 := n12_
        have NB165_177 := n13_
        have NB177_165 := n14_
        have NB176_177 := n15_
        have NB177_176 := n16_
        clear n0_ n1_ n2_ n3_ n4_ n5_ n6_ n7_ n8_ n9_ n10_ n11_ n12_ n13_ n14_ n15_ n16_
        clear hb hbox hg
        refine hK.out _ _ ⟨(uI BK165.out 0).trans rfl, (uI BK165.out 1).trans rfl, ((HB.out.cell (yA w _ hw166_0)).trans hw166_0), ((HB.out.cell (yA w _ hw166_1)).trans hw166_1), ((HB.out.cell (yA w _ hw166_2)).trans hw166_2), ((HB.out.cell (yA w _ hw166_3)).trans hw166_3), ((HB.out.cell (yA w _ hw166_4)).trans hw166_4), ((HB.out.cell (yA w _ hw166_5)).trans hw166_5), ((HB.out.cell (yA w _ hw166_6)).trans hw166_6)⟩ (fun hHeld => ?_)
        clear hK K
        refine vC (a' := ?_) ?_ ?_
        rotate_left
        · show Act.put _ (some 9) _ = _
          simp only [Act.put, vU, vV, vW, uL, uM]
          rfl
        exact vC (by first | (simp only [vK, Act.put, vU, vV, vW]; done) | (simp only [vK, Act.put, vU, vV, vW]; rfl)) (hJ6_11_12 (v168, v171, gb176, gb177) _ ⟨hHeld, (by (with_reducible repeat (first | apply Kd.uN | apply Kd.uO | apply Kd.uP)); exact HO160.out), (by (with_reducible repeat (first | apply Kd.uN | apply Kd.uO | apply Kd.uP)); exact HO163.out), (by (with_reducible repeat (first | apply Kd.uN | apply Kd.uO | apply Kd.uP)); exact HO169.out), (by (with_reducible repeat (first | apply Kd.uN | apply Kd.uO | apply Kd.uP)); exact HO172.out), (by (with_reducible repeat (first | refine uC ?_ _ | refine uE ?_ | refine uD ?_ _)); exact BK151.out), (by (with_reducible repeat (first | refine uC ?_ _ | refine uE ?_ | refine uD ?_ _)); exact BK165.out), (by (with_reducible repeat (first | refine uC ?_ _ | refine uE ?_ | refine uD ?_ _)); exact BK176.out), (by (with_reducible repeat (first | refine uC ?_ _ | refine uE ?_ | refine uD ?_ _)); exact BK177.out), GW176.out, GE176.out, NB151_176.out, NB176_151.out, NB165_176.out, NB176_165.out, NB177_176.out, NB176_177.out, GW177.out, GE177.out, NB151_177.out, NB177_151.out, NB165_177.out, NB177_165.out, (by repeat (first | (with_reducible first | exact HB.out | apply uG | apply uA | apply uF | refine uB ?_ GE151.out | refine uB ?_ GE165.out | refine uB ?_ GE176.out | refine uB ?_ GE177.out) | exact HB.out))⟩)
      rintro ⟨v168, v171, gb176, gb177⟩ w29 ⟨hS_, h0_, h1_, h2_, h3_, h4_, h5_, h6_, h7_, h8_, h9_, h10_, h11_, h12_, h13_, h14_, h15_, h16_, h17_, h18_, h19_, h20_, h21_, h22_⟩
      have n0_ : Aside0 (Kd.R (Kd.int .i64) 3 w29 w.heap.size (fun k_ => some k_ ≠ (v168 : Value).ownBlock) (.slice Ao20 t158.length co20) t158) := ⟨h0_⟩
      have n1_ : Aside0 (Kd.R k49 49 w29 w.heap.size (fun k_ => some k_ ≠ (v171 : Value).ownBlock) (.slice Ao23 t161.length co23) t161) := ⟨h1_⟩
      have n2_ : Aside0 (Kd.R (Kd.int .i64) 3 w29 w.heap.size (fun k_ => some k_ ≠ (.slice Ao20 t158.length co20 : Value).ownBlock) v168 t167) := ⟨h2_⟩
      have n3_ : Aside0 (Kd.R k49 49 w29 w.heap.size (fun k_ => some k_ ≠ (.slice Ao23 t161.length co23 : Value).ownBlock) v171 t170) := ⟨h3_⟩
      have n4_ : Aside0 (w29.heap[gb151]? = some (.cells #[.bool false, .int .i64 0] 33 (0, 0))) := ⟨h4_⟩
      have n5_ : Aside0 (w29.heap[gb165]? = some (.cells #[.slice Ao20 t158.length co20, .slice Ao23 t161.length co23] 31 (0, 0))) := ⟨h5_⟩
      have n6_ : Aside0 (w29.heap[gb176]? = some (.cells #[.slice none 0 0, .slice none 0 0] 31 (0, 0))) := ⟨h6_⟩
      have n7_ : Aside0 (w29.heap[gb177]? = some (.cells #[.bool false, .int .i64 0] 33 (0, 0))) := ⟨h7_⟩
      have n8_ : Aside0 (w.heap.size ≤ gb176) := ⟨h8_⟩
      have n9_ : Aside0 (w.heap.size ≤ gb176) := ⟨h9_⟩
      have n10_ : Aside0 (gb151 ≠ gb176) := ⟨h10_⟩
      have n11_ : Aside0 (gb176 ≠ gb151) := ⟨h11_⟩
      have n12_ : Aside0 (gb165 ≠ gb176) := ⟨h12_⟩
      have n13_ : Aside0 (gb176 ≠ gb165) := ⟨h13_⟩
      have n14_ : Aside0 (gb177 ≠ gb176) := ⟨h14_⟩
      have n15_ : Aside0 (gb176 ≠ gb177) := ⟨h15_⟩
      have n16_ : Aside0 (w.heap.size ≤ gb177) := ⟨h16_⟩
      have n17_ : Aside0 (w.heap.size ≤ gb177) := ⟨h17_⟩
      have n18_ : Aside0 (gb151 ≠ gb177) := ⟨h18_⟩
      have n19_ : Aside0 (gb177 ≠ gb151) := ⟨h19_⟩
      have n20_ : Aside0 (gb165 ≠ gb177) := ⟨h20_⟩
      have n21_ : Aside0 (gb177 ≠ gb165) := ⟨h21_⟩
      have n22_ : Aside0 (Below w.heap.size w w29) := ⟨h22_⟩
      clear HO160
      clear HO163
      clear BK151
      clear BK165
      clear HB
      clear h0_ h1_ h2_ h3_ h4_ h5_ h6_ h7_ h8_ h9_ h10_ h11_ h12_ h13_ h14_ h15_ h16_ h17_ h18_ h19_ h20_ h21_ h22_
      have HO160 := n0_
      have HO163 := n1_
      have HO169 := n2_
      have HO172 := n3_
      have BK151 := n4_
      have BK165 := n5_
      have BK176 := n6_
      have BK177 := n7_
      have GW176 := n8_
      have GE176 := n9_
      have NB151_176 := n10_
      have NB176_151 := n11_
      have NB165_176 := n12_
      have NB176_165 := n13_
      have NB177_176 := n14_
      have NB176_177 := n15_
      have GW177 := n16_
      have GE177 := n17_
      have NB151_177 := n18_
      have NB177_151 := n19_
      have NB165_177 := n20_
      have NB177_165 := n21_
      have HB := n22_
      clear n0_ n1_ n2_ n3_ n4_ n5_ n6_ n7_ n8_ n9_ n10_ n11_ n12_ n13_ n14_ n15_ n16_ n17_ n18_ n19_ n20_ n21_ n22_
      have hHeld : w29.cell? ⟨gb165, 0, none⟩ = some (.slice Ao20 t158.length co20) ∧ w29.cell? ⟨gb165, 1, none⟩ = some (.slice Ao23 t161.length co23) ∧ w29.cell? (ad166.add ((a1).toNat * 7)) = some (.int .i64 ((rd_T72 l0 a1).f0)) ∧ w29.cell? ⟨(ad166.add ((a1).toNat * 7)).block, (ad166.add ((a1).toNat * 7)).off + 1, none⟩ = some (.int .i64 ((rd_T72 l0 a1).f1.f0)) ∧ w29.cell? ⟨(ad166.add ((a1).toNat * 7)).block, (ad166.add ((a1).toNat * 7)).off + 2, none⟩ = some (.int .i64 ((rd_T72 l0 a1).f1.f1)) ∧ w29.cell? ⟨(ad166.add ((a1).toNat * 7)).block, (ad166.add ((a1).toNat * 7)).off + 3, none⟩ = some (.int .i64 ((rd_T72 l0 a1).f1.f2)) ∧ w29.cell? ⟨(ad166.add ((a1).toNat * 7)).block, (ad166.add ((a1).toNat * 7)).off + 4, none⟩ = some (.int .i64 ((rd_T72 l0 a1).f1.f3)) ∧ w29.cell? ⟨(ad166.add ((a1).toNat * 7)).block, (ad166.add ((a1).toNat * 7)).off + 5, none⟩ = some (.int .i64 ((rd_T72 l0 a1).f1.f4)) ∧ w29.cell? ⟨(ad166.add ((a1).toNat * 7)).block, (ad166.add ((a1).toNat * 7)).off + 6, none⟩ = some (.int .i64 ((rd_T72 l0 a1).f1.f5)) := hS_
      obtain ⟨Ao30, co30, eo30⟩ := Kd.vN HO169.out
      (first | subst eo30 | (injection eo30 with f1_ f2_ f3_; have f4_ := f1_.symm; have f5_ := f3_.symm; clear f1_ f2_ f3_; subst f4_; subst f5_))
      obtain ⟨Ao32, co32, eo32⟩ := Kd.vN HO172.out
      (first | subst eo32 | (injection eo32 with f1_ f2_ f3_; have f4_ := f1_.symm; have f5_ := f3_.symm; clear f1_ f2_ f3_; subst f4_; subst f5_))
      refine vC (a' := ?_) ?_ ?_
      rotate_left
      · simp only [vK, Act.put, vU, vV, vW]
        rfl
      refine one_ (i := 13) (N := none) tb35 rfl rfl (one_of HT_.out (by kernel_rfl)) (by decide) (fun K hK => ?_)
      have hs31 : w29.cell? ⟨gb176, 0, none⟩ = some (.slice none 0 0) := (uI BK176.out 0).trans rfl
      have hfs31 := uK BK176.out 0
      have hns31_0 := NB151_176.out
      have hns31_1 := NB165_176.out
      have hns31_3 := NB177_176.out
      have hms31_0 := NB176_151.out
      have hms31_1 := NB176_165.out
      have hms31_3 := NB176_177.out
      have hs33 : w29.cell? ⟨gb176, 1, none⟩ = some (.slice none 0 0) := (uI BK176.out 1).trans rfl
      have hfs33 := uK BK176.out 1
      have hns33_0 := NB151_176.out
      have hns33_1 := NB165_176.out
      have hns33_3 := NB177_176.out
      have hms33_0 := NB176_151.out
      have hms33_1 := NB176_165.out
      have hms33_3 := NB176_177.out
      refine skip_ (w1 := ?_) (by rfl) rfl ?_ ?_
      rotate_left
      · go_simp
        rfl
      refine hK.out _ _ ⟨((vA (p := ⟨gb176, _, none⟩) NB165_176.out _).trans (((vA (p := ⟨gb176, _, none⟩) NB165_176.out _).trans (hHeld.1)))), ((vA (p := ⟨gb176, _, none⟩) NB165_176.out _).trans (((vA (p := ⟨gb176, _, none⟩) NB165_176.out _).trans (hHeld.2.1)))), ((vA (p := ⟨gb176, _, none⟩) (by first | exact Nat.ne_of_lt (Nat.lt_of_lt_of_le (by have := yA _ _ hw166_0; first | rwa [uH] at this | exact this) GW176.out) | (rw [uH]; exact Nat.ne_of_lt (Nat.lt_of_lt_of_le (by have := yA _ _ hw166_0; first | rwa [uH] at this | exact this) GW176.out)) | (show (Addr.add _ _).block ≠ _; rw [uH]; exact Nat.ne_of_lt (Nat.lt_of_lt_of_le (by have := yA _ _ hw166_0; first | rwa [uH] at this | exact this) GW176.out)) | (dsimp only; exact Nat.ne_of_lt (Nat.lt_of_lt_of_le (by have := yA _ _ hw166_0; first | rwa [uH] at this | exact this) GW176.out))) _).trans (((vA (p := ⟨gb176, _, none⟩) (by first | exact Nat.ne_of_lt (Nat.lt_of_lt_of_le (by have := yA _ _ hw166_0; first | rwa [uH] at this | exact this) GW176.out) | (rw [uH]; exact Nat.ne_of_lt (Nat.lt_of_lt_of_le (by have := yA _ _ hw166_0; first | rwa [uH] at this | exact this) GW176.out)) | (show (Addr.add _ _).block ≠ _; rw [uH]; exact Nat.ne_of_lt (Nat.lt_of_lt_of_le (by have := yA _ _ hw166_0; first | rwa [uH] at this | exact this) GW176.out)) | (dsimp only; exact Nat.ne_of_lt (Nat.lt_of_lt_of_le (by have := yA _ _ hw166_0; first | rwa [uH] at this | exact this) GW176.out))) _).trans (hHeld.2.2.1)))), ((vA (p := ⟨gb176, _, none⟩) (by first | exact Nat.ne_of_lt (Nat.lt_of_lt_of_le (by have := yA _ _ hw166_1; first | rwa [uH] at this | exact this) GW176.out) | (rw [uH]; exact Nat.ne_of_lt (Nat.lt_of_lt_of_le (by have := yA _ _ hw166_1; first | rwa [uH] at this | exact this) GW176.out)) | (show (Addr.add _ _).block ≠ _; rw [uH]; exact Nat.ne_of_lt (Nat.lt_of_lt_of_le (by have := yA _ _ hw166_1; first | rwa [uH] at this | exact this) GW176.out)) | (dsimp only; exact Nat.ne_of_lt (Nat.lt_of_lt_of_le (by have := yA _ _ hw166_1; first | rwa [uH] at this | exact this) GW176.out))) _).trans (((vA (p := ⟨gb176, _, none⟩) (by first | exact Nat.ne_of_lt (Nat.lt_of_lt_of_le (by have := yA _ _ hw166_1; first | rwa [uH] at this | exact this) GW176.out) | (rw [uH]; exact Nat.ne_of_lt (Nat.lt_of_lt_of_le (by have := yA _ _ hw166_1; first | rwa [uH] at this | exact this) GW176.out)) | (show (Addr.add _ _).block ≠ _; rw [uH]; exact Nat.ne_of_lt (Nat.lt_of_lt_of_le (by have := yA _ _ hw166_1; first | rwa [uH] at this | exact this) GW176.out)) | (dsimp only; exact Nat.ne_of_lt (Nat.lt_of_lt_of_le (by have := yA _ _ hw166_1; first | rwa [uH] at this | exact this) GW176.out))) _).trans (hHeld.2.2.2.1)))), ((vA (p := ⟨gb176, _, none⟩) (by first | exact Nat.ne_of_lt (Nat.lt_of_lt_of_le (by have := yA _ _ hw166_2; first | rwa [uH] at this | exact this) GW176.out) | (rw [uH]; exact Nat.ne_of_lt (Nat.lt_of_lt_of_le (by have := yA _ _ hw166_2; first | rwa [uH] at this | exact this) GW176.out)) | (show (Addr.add _ _).block ≠ _; rw [uH]; exact Nat.ne_of_lt (Nat.lt_of_lt_of_le (by have := yA _ _ hw166_2; first | rwa [uH] at this | exact this) GW176.out)) | (dsimp only; exact Nat.ne_of_lt (Nat.lt_of_lt_of_le (by have := yA _ _ hw166_2; first | rwa [uH] at this | exact this) GW176.out))) _).trans (((vA (p := ⟨gb176, _, none⟩) (by first | exact Nat.ne_of_lt (Nat.lt_of_lt_of_le (by have := yA _ _ hw166_2; first | rwa [uH] at this | exact this) GW176.out) | (rw [uH]; exact Nat.ne_of_lt (Nat.lt_of_lt_of_le (by have := yA _ _ hw166_2; first | rwa [uH] at this | exact this) GW176.out)) | (show (Addr.add _ _).block ≠ _; rw [uH]; exact Nat.ne_of_lt (Nat.lt_of_lt_of_le (by have := yA _ _ hw166_2; first | rwa [uH] at this | exact this) GW176.out)) | (dsimp only; exact Nat.ne_of_lt (Nat.lt_of_lt_of_le (by have := yA _ _ hw166_2; first | rwa [uH] at this | exact this) GW176.out))) _).trans (hHeld.2.2.2.2.1)))), ((vA (p := ⟨gb176, _, none⟩) (by first | exact Nat.ne_of_lt (Nat.lt_of_lt_of_le (by have := yA _ _ hw166_3; first | rwa [uH] at this | exact this) GW176.out) | (rw [uH]; exact Nat.ne_of_lt (Nat.lt_of_lt_of_le (by have := yA _ _ hw166_3; first | rwa [uH] at this | exact this) GW176.out)) | (show (Addr.add _ _).block ≠ _; rw [uH]; exact Nat.ne_of_lt (Nat.lt_of_lt_of_le (by have := yA _ _ hw166_3; first | rwa [uH] at this | exact this) GW176.out)) | (dsimp only; exact Nat.ne_of_lt (Nat.lt_of_lt_of_le (by have := yA _ _ hw166_3; first | rwa [uH] at this | exact this) GW176.out))) _).trans (((vA (p := ⟨gb176, _, none⟩) (by first | exact Nat.ne_of_lt (Nat.lt_of_lt_of_le (by have := yA _ _ hw166_3; first | rwa [uH] at this | exact this) GW176.out) | (rw [uH]; exact Nat.ne_of_lt (Nat.lt_of_lt_of_le (by have := yA _ _ hw166_3; first | rwa [uH] at this | exact this) GW176.out)) | (show (Addr.add _ _).block ≠ _; rw [uH]; exact Nat.ne_of_lt (Nat.lt_of_lt_of_le (by have := yA _ _ hw166_3; first | rwa [uH] at this | exact this) GW176.out)) | (dsimp only; exact Nat.ne_of_lt (Nat.lt_of_lt_of_le (by have := yA _ _ hw166_3; first | rwa [uH] at this | exact this) GW176.out))) _).trans (hHeld.2.2.2.2.2.1)))), ((vA (p := ⟨gb176, _, none⟩) (by first | exact Nat.ne_of_lt (Nat.lt_of_lt_of_le (by have := yA _ _ hw166_4; first | rwa [uH] at this | exact this) GW176.out) | (rw [uH]; exact Nat.ne_of_lt (Nat.lt_of_lt_of_le (by have := yA _ _ hw166_4; first | rwa [uH] at this | exact this) GW176.out)) | (show (Addr.add _ _).block ≠ _; rw [uH]; exact Nat.ne_of_lt (Nat.lt_of_lt_of_le (by have := yA _ _ hw166_4; first | rwa [uH] at this | exact this) GW176.out)) | (dsimp only; exact Nat.ne_of_lt (Nat.lt_of_lt_of_le (by have := yA _ _ hw166_4; first | rwa [uH] at this | exact this) GW176.out))) _).trans (((vA (p := ⟨gb176, _, none⟩) (by first | exact Nat.ne_of_lt (Nat.lt_of_lt_of_le (by have := yA _ _ hw166_4; first | rwa [uH] at this | exact this) GW176.out) | (rw [uH]; exact Nat.ne_of_lt (Nat.lt_of_lt_of_le (by have := yA _ _ hw166_4; first | rwa [uH] at this | exact this) GW176.out)) | (show (Addr.add _ _).block ≠ _; rw [uH]; exact Nat.ne_of_lt (Nat.lt_of_lt_of_le (by have := yA _ _ hw166_4; first | rwa [uH] at this | exact this) GW176.out)) | (dsimp only; exact Nat.ne_of_lt (Nat.lt_of_lt_of_le (by have := yA _ _ hw166_4; first | rwa [uH] at this | exact this) GW176.out))) _).trans (hHeld.2.2.2.2.2.2.1)))), ((vA (p := ⟨gb176, _, none⟩) (by first | exact Nat.ne_of_lt (Nat.lt_of_lt_of_le (by have := yA _ _ hw166_5; first | rwa [uH] at this | exact this) GW176.out) | (rw [uH]; exact Nat.ne_of_lt (Nat.lt_of_lt_of_le (by have := yA _ _ hw166_5; first | rwa [uH] at this | exact this) GW176.out)) | (show (Addr.add _ _).block ≠ _; rw [uH]; exact Nat.ne_of_lt (Nat.lt_of_lt_of_le (by have := yA _ _ hw166_5; first | rwa [uH] at this | exact this) GW176.out)) | (dsimp only; exact Nat.ne_of_lt (Nat.lt_of_lt_of_le (by have := yA _ _ hw166_5; first | rwa [uH] at this | exact this) GW176.out))) _).trans (((vA (p := ⟨gb176, _, none⟩) (by first | exact Nat.ne_of_lt (Nat.lt_of_lt_of_le (by have := yA _ _ hw166_5; first | rwa [uH] at this | exact this) GW176.out) | (rw [uH]; exact Nat.ne_of_lt (Nat.lt_of_lt_of_le (by have := yA _ _ hw166_5; first | rwa [uH] at this | exact this) GW176.out)) | (show (Addr.add _ _).block ≠ _; rw [uH]; exact Nat.ne_of_lt (Nat.lt_of_lt_of_le (by have := yA _ _ hw166_5; first | rwa [uH] at this | exact this) GW176.out)) | (dsimp only; exact Nat.ne_of_lt (Nat.lt_of_lt_of_le (by have := yA _ _ hw166_5; first | rwa [uH] at this | exact this) GW176.out))) _).trans (hHeld.2.2.2.2.2.2.2.1)))), ((vA (p := ⟨gb176, _, none⟩) (by first | exact Nat.ne_of_lt (Nat.lt_of_lt_of_le (by have := yA _ _ hw166_6; first | rwa [uH] at this | exact this) GW176.out) | (rw [uH]; exact Nat.ne_of_lt (Nat.lt_of_lt_of_le (by have := yA _ _ hw166_6; first | rwa [uH] at this | exact this) GW176.out)) | (show (Addr.add _ _).block ≠ _; rw [uH]; exact Nat.ne_of_lt (Nat.lt_of_lt_of_le (by have := yA _ _ hw166_6; first | rwa [uH] at this | exact this) GW176.out)) | (dsimp only; exact Nat.ne_of_lt (Nat.lt_of_lt_of_le (by have := yA _ _ hw166_6; first | rwa [uH] at this | exact this) GW176.out))) _).trans (((vA (p := ⟨gb176, _, none⟩) (by first | exact Nat.ne_of_lt (Nat.lt_of_lt_of_le (by have := yA _ _ hw166_6; first | rwa [uH] at this | exact this) GW176.out) | (rw [uH]; exact Nat.ne_of_lt (Nat.lt_of_lt_of_le (by have := yA _ _ hw166_6; first | rwa [uH] at this | exact this) GW176.out)) | (show (Addr.add _ _).block ≠ _; rw [uH]; exact Nat.ne_of_lt (Nat.lt_of_lt_of_le (by have := yA _ _ hw166_6; first | rwa [uH] at this | exact this) GW176.out)) | (dsimp only; exact Nat.ne_of_lt (Nat.lt_of_lt_of_le (by have := yA _ _ hw166_6; first | rwa [uH] at this | exact this) GW176.out))) _).trans (hHeld.2.2.2.2.2.2.2.2))))⟩ (fun hHeld => ?_)
      clear hK K
      refine one_ (i := 14) (N := none) tb36 rfl rfl (one_of HT_.out (by kernel_rfl)) (by decide) (fun K hK => ?_)
      have hs34 : w29.cell? ⟨gb177, 0, none⟩ = some (.bool false) := (uI BK177.out 0).trans rfl
      have hfs34 := uK BK177.out 0
      have hns34_0 := NB151_177.out
      have hns34_1 := NB165_177.out
      have hns34_2 := NB176_177.out
      have hms34_0 := NB177_151.out
      have hms34_1 := NB177_165.out
      have hms34_2 := NB177_176.out
      have hs35 : w29.cell? ⟨gb177, 1, none⟩ = some (.int .i64 0) := (uI BK177.out 1).trans rfl
      have hfs35 := uK BK177.out 1
      have hns35_0 := NB151_177.out
      have hns35_1 := NB165_177.out
      have hns35_2 := NB176_177.out
      have hms35_0 := NB177_151.out
      have hms35_1 := NB177_165.out
      have hms35_2 := NB177_176.out
      refine skip_ (w1 := ?_) (by rfl) rfl ?_ ?_
      rotate_left
      · go_simp
        rfl
      refine hK.out _ _ ⟨((vA (p := ⟨gb177, _, none⟩) NB165_177.out _).trans (((vA (p := ⟨gb177, _, none⟩) NB165_177.out _).trans (hHeld.1)))), ((vA (p := ⟨gb177, _, none⟩) NB165_177.out _).trans (((vA (p := ⟨gb177, _, none⟩) NB165_177.out _).trans (hHeld.2.1)))), ((vA (p := ⟨gb177, _, none⟩) (by first | exact Nat.ne_of_lt (Nat.lt_of_lt_of_le (by have := yA _ _ hw166_0; first | rwa [uH] at this | exact this) GW177.out) | (rw [uH]; exact Nat.ne_of_lt (Nat.lt_of_lt_of_le (by have := yA _ _ hw166_0; first | rwa [uH] at this | exact this) GW177.out)) | (show (Addr.add _ _).block ≠ _; rw [uH]; exact Nat.ne_of_lt (Nat.lt_of_lt_of_le (by have := yA _ _ hw166_0; first | rwa [uH] at this | exact this) GW177.out)) | (dsimp only; exact Nat.ne_of_lt (Nat.lt_of_lt_of_le (by have := yA _ _ hw166_0; first | rwa [uH] at this | exact this) GW177.out))) _).trans (((vA (p := ⟨gb177, _, none⟩) (by first | exact Nat.ne_of_lt (Nat.lt_of_lt_of_le (by have := yA _ _ hw166_0; first | rwa [uH] at this | exact this) GW177.out) | (rw [uH]; exact Nat.ne_of_lt (Nat.lt_of_lt_of_le (by have := yA _ _ hw166_0; first | rwa [uH] at this | exact this) GW177.out)) | (show (Addr.add _ _).block ≠ _; rw [uH]; exact Nat.ne_of_lt (Nat.lt_of_lt_of_le (by have := yA _ _ hw166_0; first | rwa [uH] at this | exact this) GW177.out)) | (dsimp only; exact Nat.ne_of_lt (Nat.lt_of_lt_of_le (by have := yA _ _ hw166_0; first | rwa [uH] at this | exact this) GW177.out))) _).trans (hHeld.2.2.1)))), ((vA (p := ⟨gb177, _, none⟩) (by first | exact Nat.ne_of_lt (Nat.lt_of_lt_of_le (by have := yA _ _ hw166_1; first | rwa [uH] at this | exact this) GW177.out) | (rw [uH]; exact Nat.ne_of_lt (Nat.lt_of_lt_of_le (by have := yA _ _ hw166_1; first | rwa [uH] at this | exact this) GW177.out)) | (show (Addr.add _ _).block ≠ _; rw [uH]; exact Nat.ne_of_lt (Nat.lt_of_lt_of_le (by have := yA _ _ hw166_1; first | rwa [uH] at this | exact this) GW177.out)) | (dsimp only; exact Nat.ne_of_lt (Nat.lt_of_lt_of_le (by have := yA _ _ hw166_1; first | rwa [uH] at this | exact this) GW177.out))) _).trans (((vA (p := ⟨gb177, _, none⟩) (by first | exact Nat.ne_of_lt (Nat.lt_of_lt_of_le (by have := yA _ _ hw166_1; first | rwa [uH] at this | exact this) GW177.out) | (rw [uH]; exact Nat.ne_of_lt (Nat.lt_of_lt_of_le (by have := yA _ _ hw166_1; first | rwa [uH] at this | exact this) GW177.out)) | (show (Addr.add _ _).block ≠ _; rw [uH]; exact Nat.ne_of_lt (Nat.lt_of_lt_of_le (by have := yA _ _ hw166_1; first | rwa [uH] at this | exact this) GW177.out)) | (dsimp only; exact Nat.ne_of_lt (Nat.lt_of_lt_of_le (by have := yA _ _ hw166_1; first | rwa [uH] at this | exact this) GW177.out))) _).trans (hHeld.2.2.2.1)))), ((vA (p := ⟨gb177, _, none⟩) (by first | exact Nat.ne_of_lt (Nat.lt_of_lt_of_le (by have := yA _ _ hw166_2; first | rwa [uH] at this | exact this) GW177.out) | (rw [uH]; exact Nat.ne_of_lt (Nat.lt_of_lt_of_le (by have := yA _ _ hw166_2; first | rwa [uH] at this | exact this) GW177.out)) | (show (Addr.add _ _).block ≠ _; rw [uH]; exact Nat.ne_of_lt (Nat.lt_of_lt_of_le (by have := yA _ _ hw166_2; first | rwa [uH] at this | exact this) GW177.out)) | (dsimp only; exact Nat.ne_of_lt (Nat.lt_of_lt_of_le (by have := yA _ _ hw166_2; first | rwa [uH] at this | exact this) GW177.out))) _).trans (((vA (p := ⟨gb177, _, none⟩) (by first | exact Nat.ne_of_lt (Nat.lt_of_lt_of_le (by have := yA _ _ hw166_2; first | rwa [uH] at this | exact this) GW177.out) | (rw [uH]; exact Nat.ne_of_lt (Nat.lt_of_lt_of_le (by have := yA _ _ hw166_2; first | rwa [uH] at this | exact this) GW177.out)) | (show (Addr.add _ _).block ≠ _; rw [uH]; exact Nat.ne_of_lt (Nat.lt_of_lt_of_le (by have := yA _ _ hw166_2; first | rwa [uH] at this | exact this) GW177.out)) | (dsimp only; exact Nat.ne_of_lt (Nat.lt_of_lt_of_le (by have := yA _ _ hw166_2; first | rwa [uH] at this | exact this) GW177.out))) _).trans (hHeld.2.2.2.2.1)))), ((vA (p := ⟨gb177, _, none⟩) (by first | exact Nat.ne_of_lt (Nat.lt_of_lt_of_le (by have := yA _ _ hw166_3; first | rwa [uH] at this | exact this) GW177.out) | (rw [uH]; exact Nat.ne_of_lt (Nat.lt_of_lt_of_le (by have := yA _ _ hw166_3; first | rwa [uH] at this | exact this) GW177.out)) | (show (Addr.add _ _).block ≠ _; rw [uH]; exact Nat.ne_of_lt (Nat.lt_of_lt_of_le (by have := yA _ _ hw166_3; first | rwa [uH] at this | exact this) GW177.out)) | (dsimp only; exact Nat.ne_of_lt (Nat.lt_of_lt_of_le (by have := yA _ _ hw166_3; first | rwa [uH] at this | exact this) GW177.out))) _).trans (((vA (p := ⟨gb177, _, none⟩) (by first | exact Nat.ne_of_lt (Nat.lt_of_lt_of_le (by have := yA _ _ hw166_3; first | rwa [uH] at this | exact this) GW177.out) | (rw [uH]; exact Nat.ne_of_lt (Nat.lt_of_lt_of_le (by have := yA _ _ hw166_3; first | rwa [uH] at this | exact this) GW177.out)) | (show (Addr.add _ _).block ≠ _; rw [uH]; exact Nat.ne_of_lt (Nat.lt_of_lt_of_le (by have := yA _ _ hw166_3; first | rwa [uH] at this | exact this) GW177.out)) | (dsimp only; exact Nat.ne_of_lt (Nat.lt_of_lt_of_le (by have := yA _ _ hw166_3; first | rwa [uH] at this | exact this) GW177.out))) _).trans (hHeld.2.2.2.2.2.1)))), ((vA (p := ⟨gb177, _, none⟩) (by first | exact Nat.ne_of_lt (Nat.lt_of_lt_of_le (by have := yA _ _ hw166_4; first | rwa [uH] at this | exact this) GW177.out) | (rw [uH]; exact Nat.ne_of_lt (Nat.lt_of_lt_of_le (by have := yA _ _ hw166_4; first | rwa [uH] at this | exact this) GW177.out)) | (show (Addr.add _ _).block ≠ _; rw [uH]; exact Nat.ne_of_lt (Nat.lt_of_lt_of_le (by have := yA _ _ hw166_4; first | rwa [uH] at this | exact this) GW177.out)) | (dsimp only; exact Nat.ne_of_lt (Nat.lt_of_lt_of_le (by have := yA _ _ hw166_4; first | rwa [uH] at this | exact this) GW177.out))) _).trans (((vA (p := ⟨gb177, _, none⟩) (by first | exact Nat.ne_of_lt (Nat.lt_of_lt_of_le (by have := yA _ _ hw166_4; first | rwa [uH] at this | exact this) GW177.out) | (rw [uH]; exact Nat.ne_of_lt (Nat.lt_of_lt_of_le (by have := yA _ _ hw166_4; first | rwa [uH] at this | exact this) GW177.out)) | (show (Addr.add _ _).block ≠ _; rw [uH]; exact Nat.ne_of_lt (Nat.lt_of_lt_of_le (by have := yA _ _ hw166_4; first | rwa [uH] at this | exact this) GW177.out)) | (dsimp only; exact Nat.ne_of_lt (Nat.lt_of_lt_of_le (by have := yA _ _ hw166_4; first | rwa [uH] at this | exact this) GW177.out))) _).trans (hHeld.2.2.2.2.2.2.1)))), ((vA (p := ⟨gb177, _, none⟩) (by first | exact Nat.ne_of_lt (Nat.lt_of_lt_of_le (by have := yA _ _ hw166_5; first | rwa [uH] at this | exact this) GW177.out) | (rw [uH]; exact Nat.ne_of_lt (Nat.lt_of_lt_of_le (by have := yA _ _ hw166_5; first | rwa [uH] at this | exact this) GW177.out)) | (show (Addr.add _ _).block ≠ _; rw [uH]; exact Nat.ne_of_lt (Nat.lt_of_lt_of_le (by have := yA _ _ hw166_5; first | rwa [uH] at this | exact this) GW177.out)) | (dsimp only; exact Nat.ne_of_lt (Nat.lt_of_lt_of_le (by have := yA _ _ hw166_5; first | rwa [uH] at this | exact this) GW177.out))) _).trans (((vA (p := ⟨gb177, _, none⟩) (by first | exact Nat.ne_of_lt (Nat.lt_of_lt_of_le (by have := yA _ _ hw166_5; first | rwa [uH] at this | exact this) GW177.out) | (rw [uH]; exact Nat.ne_of_lt (Nat.lt_of_lt_of_le (by have := yA _ _ hw166_5; first | rwa [uH] at this | exact this) GW177.out)) | (show (Addr.add _ _).block ≠ _; rw [uH]; exact Nat.ne_of_lt (Nat.lt_of_lt_of_le (by have := yA _ _ hw166_5; first | rwa [uH] at this | exact this) GW177.out)) | (dsimp only; exact Nat.ne_of_lt (Nat.lt_of_lt_of_le (by have := yA _ _ hw166_5; first | rwa [uH] at this | exact this) GW177.out))) _).trans (hHeld.2.2.2.2.2.2.2.1)))), ((vA (p := ⟨gb177, _, none⟩) (by first | exact Nat.ne_of_lt (Nat.lt_of_lt_of_le (by have := yA _ _ hw166_6; first | rwa [uH] at this | exact this) GW177.out) | (rw [uH]; exact Nat.ne_of_lt (Nat.lt_of_lt_of_le (by have := yA _ _ hw166_6; first | rwa [uH] at this | exact this) GW177.out)) | (show (Addr.add _ _).block ≠ _; rw [uH]; exact Nat.ne_of_lt (Nat.lt_of_lt_of_le (by have := yA _ _ hw166_6; first | rwa [uH] at this | exact this) GW177.out)) | (dsimp only; exact Nat.ne_of_lt (Nat.lt_of_lt_of_le (by have := yA _ _ hw166_6; first | rwa [uH] at this | exact this) GW177.out))) _).trans (((vA (p := ⟨gb177, _, none⟩) (by first | exact Nat.ne_of_lt (Nat.lt_of_lt_of_le (by have := yA _ _ hw166_6; first | rwa [uH] at this | exact this) GW177.out) | (rw [uH]; exact Nat.ne_of_lt (Nat.lt_of_lt_of_le (by have := yA _ _ hw166_6; first | rwa [uH] at this | exact this) GW177.out)) | (show (Addr.add _ _).block ≠ _; rw [uH]; exact Nat.ne_of_lt (Nat.lt_of_lt_of_le (by have := yA _ _ hw166_6; first | rwa [uH] at this | exact this) GW177.out)) | (dsimp only; exact Nat.ne_of_lt (Nat.lt_of_lt_of_le (by have := yA _ _ hw166_6; first | rwa [uH] at this | exact this) GW177.out))) _).trans (hHeld.2.2.2.2.2.2.2.2))))⟩ (fun hHeld => ?_)
      clear hK K
      refine uJ (i := 15) (N := some 10) (v := ?_) (a' := ?_) tb37 rfl rfl (vL HT_.out (by kernel_rfl)) (fun _ _ _ h => h) (Or.inl ⟨by rfl, ?_⟩) ?_ ?_
      rotate_left
      · intro w'
        go_simp
        with_reducible rfl
      rotate_left
      · simp only [Act.put, vU, vV, vW, uL, uM]
        rfl
      refine done_ (done_of HT_.out (by kernel_rfl)) ?_
      have hnb36 := NB177_151.out
      have hnc36 := NB151_177.out
      have hnb37 := NB177_165.out
      have hnc37 := NB165_177.out
      have hnb38 := NB177_176.out
      have hnc38 := NB176_177.out
      have hcz39_0 : w29.cell? ⟨gb177, 0, none⟩ = some (.bool false) := (uI BK177.out 0).trans rfl
      have hcz39_1 : w29.cell? ⟨gb177, 1, none⟩ = some (.int .i64 0) := (uI BK177.out 1).trans rfl
      have hfz39_0 := uK BK177.out 0
      have hfz39_1 := uK BK177.out 1
      have hnb40 := NB151_176.out
      have hnc40 := NB176_151.out
      have hcz41_0 : w29.cell? ⟨gb151, 0, none⟩ = some (.bool false) := (uI BK151.out 0).trans rfl
      have hcz41_1 : w29.cell? ⟨gb151, 1, none⟩ = some (.int .i64 0) := (uI BK151.out 1).trans rfl
      have hfz41_0 := uK BK151.out 0
      have hfz41_1 := uK BK151.out 1
      try go_wp2
      refine bodyPost_ret (results_ct rfl _ _ gb151 33 #[.bool t173, .int .i64 t174] (0, 0) _ rfl (by (with_reducible repeat (first | refine uC ?_ _ | refine uE ?_ | refine uD ?_ _)); refine uW (cs := #[.bool t173, .int .i64 0]) ?_ 1 _ rfl; (with_reducible repeat (first | refine uC ?_ _ | refine uE ?_ | refine uD ?_ _)); refine uW (cs := #[.bool false, .int .i64 0]) ?_ 0 _ rfl; (with_reducible repeat (first | refine uC ?_ _ | refine uE ?_ | refine uD ?_ _)); refine vF ?_ NB151_177.out _; (with_reducible repeat (first | refine uC ?_ _ | refine uE ?_ | refine uD ?_ _)); refine vF ?_ NB151_177.out _; (with_reducible repeat (first | refine uC ?_ _ | refine uE ?_ | refine uD ?_ _)); refine vF ?_ NB151_176.out _; (with_reducible repeat (first | refine uC ?_ _ | refine uE ?_ | refine uD ?_ _)); refine vF ?_ NB151_176.out _; (with_reducible repeat (first | refine uC ?_ _ | refine uE ?_ | refine uD ?_ _)); exact BK151.out) Try.underlying33 rfl (by kernel_rfl)) rfl ?_
      exact ⟨by first | rfl | (simp [errW_none, errW_some] <;> rfl) | (simp [*, errW_none, errW_some] <;> rfl), by repeat (first | (with_reducible first | exact HB.out | apply uG | apply uA | apply uF | refine uB ?_ GE151.out | refine uB ?_ GE165.out | refine uB ?_ GE176.out | refine uB ?_ GE177.out) | exact HB.out)⟩

end Go.Proofs.Ytcikahnmiiichaa.T
