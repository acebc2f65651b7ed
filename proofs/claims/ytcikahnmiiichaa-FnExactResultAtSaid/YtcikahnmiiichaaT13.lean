/- Go functions as Lean functions, and the proof that the code comes to them: written by a program of this session out of the translation. -/
import Derived.Test.YtcikahnmiiichaaT0
import Derived.Test.YtcikahnmiiichaaT8
import Derived.Test.YtcikahnmiiichaaT11
import Derived.Test.YtcikahnmiiichaaT12
namespace Go.Proofs.Ytcikahnmiiichaa.T
open List renaming setIfInBounds_toArray → vU, set_cons_zero → vV, set_cons_succ → vW, map_toArray → vX, length_take → vY, length_drop → vZ
open Go.World renaming block_lt_of_cell? → yA
open Go.RowKit Go.Proofs.YtcikahnmiiichaaW.PrintWords Go.Proofs.YtcikahnmiiichaaW.PrintLast Go.Proofs.YtcikahnmiiichaaW.PrintMore
attribute [local go_sem] max2_int min2_int max_two min_two max_three min_three max_four min_four   -- for this text's walks alone
set_option linter.unusedVariables false
set_option linter.unusedSimpArgs false

/-! ### impl_ResultAt: function 28 -/
def impl_ResultAt.j0 : Nat → List (S72) → Int → Bool → Option (Bool × Int × Bool)
  | 0, _, _, _ => none
  | k + 1, x0, x1, x21 => if x21 = true then (some (false, 0, false)) else (if 0 ≤ x1 then (if x1 ≤ (x0.length : Int) then ((impl_ReplayLog.f k (x0.take (x1 : Int).toNat)).bind fun bt252 => (if x1 < (x0.length : Int) then ((impl_ApplyOp.f k bt252.1 bt252.2.1 ((rd_T72 x0 x1).f1.f0) ((rd_T72 x0 x1).f1.f1) ((rd_T72 x0 x1).f1.f2) ((rd_T72 x0 x1).f1.f3) ((rd_T72 x0 x1).f1.f4) ((rd_T72 x0 x1).f1.f5)).bind fun bt261 => (some (bt261.2.2.1, bt261.2.2.2.1, bt261.2.2.2.2))) else (none))) else (none)) else (none))
def impl_ResultAt.f (k : Nat) (l0 : List (S72)) (a1 : Int) : Option (Bool × Int × Bool) := (impl_IsLog.f k l0).bind fun t246 => (if t246 = true then ((impl_within.f a1 0 (wrap64 ((l0.length : Int) - 1))).bind fun t247 => (impl_ResultAt.j0 k l0 a1 (!t247))) else (impl_ResultAt.j0 k l0 a1 true))
theorem impl_ResultAt.mono_l : ∀ k, (∀ y0 y1 y2, vB (impl_ResultAt.j0 k y0 y1 y2) (impl_ResultAt.j0 (k + 1) y0 y1 y2))
  | 0 => fun _ _ _ r h => by simp [impl_ResultAt.j0] at h
  | k + 1 => by
    have ih0 := impl_ResultAt.mono_l k
    intro y0 y1 y2
    unfold impl_ResultAt.j0
    repeat' first
    | (with_reducible exact ih0 _ _ _)
    | (with_reducible exact impl_ApplyOp.mono _ _ _ _ _ _ _ _ _)
    | (with_reducible exact impl_IsLog.mono _ _)
    | (with_reducible exact impl_ReplayLog.mono _ _)
    | (with_reducible exact vB.refl _)
    | (with_reducible exact vB.none _)
    | (with_reducible refine vB.ite ?_ ?_)
    | (with_reducible refine vB.bind ?_ (fun _ => ?_))
    | exact ih0 _ _ _
    | exact impl_ApplyOp.mono _ _ _ _ _ _ _ _ _
    | exact impl_IsLog.mono _ _
    | exact impl_ReplayLog.mono _ _
    | exact vB.none _
    | refine vB.ite ?_ ?_
    | refine vB.bind ?_ (fun _ => ?_)
theorem impl_ResultAt.mono : ∀ a0 a1 k, vB (impl_ResultAt.f k a0 a1) (impl_ResultAt.f (k + 1) a0 a1) := by
  intro a0 a1 k
  have ih0 := impl_ResultAt.mono_l k
  unfold impl_ResultAt.f
  repeat' first
      | (with_reducible exact ih0 _ _ _)
      | (with_reducible exact impl_ApplyOp.mono _ _ _ _ _ _ _ _ _)
      | (with_reducible exact impl_IsLog.mono _ _)
      | (with_reducible exact impl_ReplayLog.mono _ _)
      | (with_reducible exact vB.refl _)
      | (with_reducible exact vB.none _)
      | (with_reducible refine vB.ite ?_ ?_)
      | (with_reducible refine vB.bind ?_ (fun _ => ?_))
      | exact ih0 _ _ _
      | exact impl_ApplyOp.mono _ _ _ _ _ _ _ _ _
      | exact impl_IsLog.mono _ _
      | exact impl_ReplayLog.mono _ _
      | exact vB.none _
      | refine vB.ite ?_ ?_
      | refine vB.bind ?_ (fun _ => ?_)
def impl_ResultAt.T4 : Bool × List (List Nat × List Nat) := (true, [([], []), ([], []), ([], []), ([1, 2], [1, 2]), ([3], [3]), ([4], [4]), ([0, 5], [0, 5]), ([6], [6]), ([7], [7]), ([7], [7]), ([7], [7]), ([], []), ([], []), ([11, 8, 6, 0, 1, 2, 3, 4, 5, 6, 7, 8, 11, 12], [8, 11]), ([12, 9, 13, 0, 1, 2, 3, 4, 5, 6, 7, 8, 9, 11, 12, 13], [9, 12]), ([10, 14, 0, 1, 2, 3, 4, 5, 6, 7, 8, 9, 10, 11, 12, 13, 14], [10])])
def impl_ResultAt.B4 : List Nat := [0, 0, 0, 6, 14, 30, 63, 127, 255, 255, 255, 0, 0, 6655, 15359, 32767]
theorem impl_ResultAt.tab4 : rtab .any (opsOf Try.f28 4) = impl_ResultAt.T4 := by kernel_rfl
theorem impl_ResultAt.bits4 : waitsOk impl_ResultAt.T4.2 impl_ResultAt.B4 = true := by kernel_rfl
set_option maxHeartbeats 8000000 in
set_option maxRecDepth 100000 in
theorem impl_ResultAt.calls (k : Nat) (A0 : Option Addr) (c0 : Nat) (l0 : List (S72)) (a1 : Int) (r1 : Bool) (r2 : Int) (r3 : Bool) (w : World) (hr0 : Kd.C k72 w A0 l0.length l0) (hc0 : l0.length ≤ c0) (h : impl_ResultAt.f k l0 a1 = some (r1, r2, r3)) :
    Calls Try.prog 28 #[.slice A0 l0.length c0, .int .i64 a1] w fun e w' => e = .returned (.tuple #[.agg #[.bool r1, .int .i64 r2], .bool r3]) ∧ Below w.heap.size w w' := by
  have hu33 := Try.underlying33
  have hu31 := Try.underlying31
  have hu37 := Try.underlying37
  have HR0 := Aside0.mk hr0
  have HC0 := Aside0.mk hc0
  clear hr0 hc0
  have HB := Aside0.mk (Below.refl w.heap.size w)
  have H : ((impl_IsLog.f k l0).bind fun t246 => (if t246 = true then ((impl_within.f a1 0 (wrap64 ((l0.length : Int) - 1))).bind fun t247 => (impl_ResultAt.j0 k l0 a1 (!t247))) else (impl_ResultAt.j0 k l0 a1 true))) = some (r1, r2, r3) := h
  clear h
  have HC3 := Aside0.mk H
  clear H
  go_enter Try.func28, Try.ntmps28
  go_upto_region 1 with (first | ((with_reducible refine uU (N := 4) rfl ?_); refine uT ?hg (N := 4) ?hd (cs := #[.bool false, .int .i64 0]) (t := 33) ?hr ?_; (case hd => rfl); (case hg => rfl); (case hr => first | (go_simp; done) | (go_simp; rfl)); intro gb245 hg w4 hbox hb; have n0_ := Aside0.mk (uS (by repeat (first | (with_reducible first | exact HB.out | apply uG | apply uA | apply uF) | exact HB.out)) hb); have n1_ := Aside0.mk (hbox); have n2_ := Aside0.mk ((by rw [hg]; exact (uQ (by repeat (first | (with_reducible first | exact HB.out | apply uG | apply uA | apply uF) | exact HB.out))) : w.heap.size ≤ gb245)); have n3_ := Aside0.mk ((by rw [hg]; exact (uQ (by repeat (first | (with_reducible first | exact HB.out | apply uG | apply uA | apply uF) | exact HB.out))) : w.heap.size ≤ gb245)); clear HB; have HB := n0_; have BK245 := n1_; have GW245 := n2_; have GE245 := n3_; clear n0_ n1_ n2_ n3_; clear hb hbox hg))
  (try simp only [Act.put, vU, vV, vW])
  go_cut [21] (fun v21 wc => ∃ (kq : Nat) (x21_2 : Bool), v21 = .bool x21_2 ∧ Aside0 (impl_ResultAt.j0 kq l0 a1 x21_2 = some (r1, r2, r3)) ∧ Aside0 (kq ≤ k) ∧ Aside0 (wc.heap[gb245]? = some (.cells #[.bool false, .int .i64 0] 33 (0, 0))) ∧ Aside0 (Below w.heap.size w wc))
  case first =>
    have H := HC3.out
    clear HC3
    replace H := Option.bind_eq_some_iff.mp H
    obtain ⟨t246, A50, H⟩ := H
    replace H : (if t246 = true then ((impl_within.f a1 0 (wrap64 ((l0.length : Int) - 1))).bind fun t247 => (impl_ResultAt.j0 k l0 a1 (!t247))) else (impl_ResultAt.j0 k l0 a1 true)) = some (r1, r2, r3) := H
    have A5 := Aside0.mk A50
    clear A50
    by_cases c6 : t246 = true
    rotate_left
    · replace c6 := Bool.eq_false_iff.mpr c6
      subst c6
      have H1 : (impl_ResultAt.j0 k l0 a1 true) = some (r1, r2, r3) := by first | (rw [if_neg (show ¬ (false = true) by decide)] at H; exact H) | rfl
      clear H
      have H := H1
      clear H1
      have H' := Aside0.mk H
      clear H
      go_wp2_with (first | ((with_reducible refine uX (f := 41) rfl ?_); refine vM (some 12) rfl rfl Try.func41 (by kernel_rfl) rfl #[.slice A0 l0.length c0] rfl (by (try simp only [vX, List.map_cons, List.map_nil]); first | done | rfl | (simp only [vZ, vY]; rfl)) ?_; (with_reducible refine (impl_IsLog.calls k _ _ l0 false _ ?side1 ?side2 A5.out).mono ?_); (case side1 => repeat (first | exact (Kd.vE HR0.out HB.out) | (with_reducible refine Kd.vQ ?_ _) | (with_reducible refine Kd.vP ?_ _) | (with_reducible refine Kd.vS ?_))); (case side2 => exact HC0.out); rintro e w9 ⟨rfl, hb⟩; refine ⟨_, rfl, ?_⟩; have n0_ := Aside0.mk (uR (g := gb245) (o := .cells #[.bool false, .int .i64 0] 33 (0, 0)) (by (with_reducible repeat (first | refine uC ?_ _ | refine uE ?_ | refine uD ?_ _)); exact BK245.out) hb); have n1_ := Aside0.mk (uS (by repeat (first | (with_reducible first | exact HB.out | apply uG | apply uA | apply uF | refine uB ?_ GE245.out) | exact HB.out)) hb); clear BK245; clear HB; have BK245 := n0_; have HB := n1_; clear n0_ n1_; (try clear hb); (try clear hb2); (try clear hk); (try clear hi)))
      go_meet
      case rel => exact ⟨_, (true), (by first | rfl | (simp; done) | (simp [*]; done)), H', ⟨by first | omega | exact Nat.le_refl _⟩, ⟨by (with_reducible repeat (first | refine uC ?_ _ | refine uE ?_ | refine uD ?_ _)); exact BK245.out⟩, ⟨by repeat (first | (with_reducible first | exact HB.out | apply uG | apply uA | apply uF | refine uB ?_ GE245.out) | exact HB.out)⟩⟩
    subst c6
    have H1 : ((impl_within.f a1 0 (wrap64 ((l0.length : Int) - 1))).bind fun t247 => (impl_ResultAt.j0 k l0 a1 (!t247))) = some (r1, r2, r3) := by first | (rw [if_pos rfl] at H; exact H) | rfl
    clear H
    have H := H1
    clear H1
    replace H := Option.bind_eq_some_iff.mp H
    obtain ⟨t247, A70, H⟩ := H
    replace H : (impl_ResultAt.j0 k l0 a1 (!t247)) = some (r1, r2, r3) := H
    have A7 := Aside0.mk A70
    clear A70
    have H' := Aside0.mk H
    clear H
    go_wp2_with (first | ((with_reducible refine uX (f := 41) rfl ?_); refine vM (some 12) rfl rfl Try.func41 (by kernel_rfl) rfl #[.slice A0 l0.length c0] rfl (by (try simp only [vX, List.map_cons, List.map_nil]); first | done | rfl | (simp only [vZ, vY]; rfl)) ?_; (with_reducible refine (impl_IsLog.calls k _ _ l0 true _ ?side1 ?side2 A5.out).mono ?_); (case side1 => repeat (first | exact (Kd.vE HR0.out HB.out) | (with_reducible refine Kd.vQ ?_ _) | (with_reducible refine Kd.vP ?_ _) | (with_reducible refine Kd.vS ?_))); (case side2 => exact HC0.out); rintro e w8 ⟨rfl, hb⟩; refine ⟨_, rfl, ?_⟩; have n0_ := Aside0.mk (uR (g := gb245) (o := .cells #[.bool false, .int .i64 0] 33 (0, 0)) (by (with_reducible repeat (first | refine uC ?_ _ | refine uE ?_ | refine uD ?_ _)); exact BK245.out) hb); have n1_ := Aside0.mk (uS (by repeat (first | (with_reducible first | exact HB.out | apply uG | apply uA | apply uF | refine uB ?_ GE245.out) | exact HB.out)) hb); clear BK245; clear HB; have BK245 := n0_; have HB := n1_; clear n0_ n1_; (try clear hb); (try clear hb2); (try clear hk); (try clear hi)) | (go_at_call 65; (with_reducible refine (impl_within.calls a1 0 (wrap64 ((l0.length : Int) - 1)) t247 _ A7.out).mono ?_); rintro e w' ⟨rfl, ⟨nd, rfl⟩⟩))
    go_meet
    case rel => exact ⟨_, (!t247), (by first | rfl | (simp; done) | (simp [*]; done)), H', ⟨by first | omega | exact Nat.le_refl _⟩, ⟨by (with_reducible repeat (first | refine uC ?_ _ | refine uE ?_ | refine uD ?_ _)); exact BK245.out⟩, ⟨by repeat (first | (with_reducible first | exact HB.out | apply uG | apply uA | apply uF | refine uB ?_ GE245.out) | exact HB.out)⟩⟩
  case rest =>
    clear HC3
    try clear c2
    try clear p2
    try clear c4
    try clear c6
    try clear p6
    obtain ⟨kq, x21_2, rfl, HA, HJ2, BK245, HB⟩ := hcut
    cases kq with
    | zero => exact absurd HA.out (by simp [impl_ResultAt.j0])
    | succ kj2 =>
      have H := HA.out
      clear HA
      simp only [impl_ResultAt.j0] at H
      by_cases c10 : x21_2 = true
      · subst c10
        have H1 : (some (false, 0, false)) = some (r1, r2, r3) := by first | (rw [if_pos rfl] at H; exact H) | rfl
        clear H
        have H := H1
        clear H1
        simp only [Option.some.injEq, Prod.mk.injEq] at H
        obtain ⟨rfl, rfl, rfl⟩ := H
        have hcz11_0 : wc.cell? ⟨gb245, 0, none⟩ = some (.bool false) := (uI BK245.out 0).trans rfl
        have hcz11_1 : wc.cell? ⟨gb245, 1, none⟩ = some (.int .i64 0) := (uI BK245.out 1).trans rfl
        have hfz11_0 := uK BK245.out 0
        have hfz11_1 := uK BK245.out 1
        go_wp2
        refine bodyPost_ret (results_ct rfl _ _ gb245 33 #[.bool false, .int .i64 0] (0, 0) _ rfl (by (with_reducible repeat (first | refine uC ?_ _ | refine uE ?_ | refine uD ?_ _)); refine uW (cs := #[.bool false, .int .i64 0]) ?_ 1 _ rfl; (with_reducible repeat (first | refine uC ?_ _ | refine uE ?_ | refine uD ?_ _)); refine uW (cs := #[.bool false, .int .i64 0]) ?_ 0 _ rfl; (with_reducible repeat (first | refine uC ?_ _ | refine uE ?_ | refine uD ?_ _)); exact BK245.out) Try.underlying33 rfl (by kernel_rfl)) rfl ?_
        exact ⟨by first | rfl | (simp [errW_none, errW_some] <;> rfl) | (simp [*, errW_none, errW_some] <;> rfl), by repeat (first | (with_reducible first | exact HB.out | apply uG | apply uA | apply uF | refine uB ?_ GE245.out) | exact HB.out)⟩
      replace c10 := Bool.eq_false_iff.mpr c10
      subst c10
      have H1 : (if 0 ≤ a1 then (if a1 ≤ (l0.length : Int) then ((impl_ReplayLog.f kj2 (l0.take (a1 : Int).toNat)).bind fun bt252 => (if a1 < (l0.length : Int) then ((impl_ApplyOp.f kj2 bt252.1 bt252.2.1 ((rd_T72 l0 a1).f1.f0) ((rd_T72 l0 a1).f1.f1) ((rd_T72 l0 a1).f1.f2) ((rd_T72 l0 a1).f1.f3) ((rd_T72 l0 a1).f1.f4) ((rd_T72 l0 a1).f1.f5)).bind fun bt261 => (some (bt261.2.2.1, bt261.2.2.2.1, bt261.2.2.2.2))) else (none))) else (none)) else (none)) = some (r1, r2, r3) := by first | (rw [if_neg (show ¬ (false = true) by decide)] at H; exact H) | rfl
      clear H
      have H := H1
      clear H1
      by_cases c12 : 0 ≤ a1
      rotate_left
      · rw [if_neg c12] at H
        exact absurd H (by simp)
      rw [if_pos c12] at H
      have c12b0 := eq_true c12
      have c12b1 : decide (0 ≤ a1) = true := decide_eq_true c12
      clear c12
      by_cases c13 : a1 ≤ (l0.length : Int)
      rotate_left
      · rw [if_neg c13] at H
        exact absurd H (by simp)
      rw [if_pos c13] at H
      have c13b0 := eq_true c13
      have c13b1 : decide (a1 ≤ (l0.length : Int)) = true := decide_eq_true c13
      clear c13
      obtain ⟨y248, hy248⟩ : ∃ y_ : List (S72), y_ = (l0.take (a1 : Int).toNat) := ⟨_, rfl⟩
      replace H : ((impl_ReplayLog.f kj2 y248).bind fun bt252 => (if a1 < (l0.length : Int) then ((impl_ApplyOp.f kj2 bt252.1 bt252.2.1 ((rd_T72 l0 a1).f1.f0) ((rd_T72 l0 a1).f1.f1) ((rd_T72 l0 a1).f1.f2) ((rd_T72 l0 a1).f1.f3) ((rd_T72 l0 a1).f1.f4) ((rd_T72 l0 a1).f1.f5)).bind fun bt261 => (some (bt261.2.2.1, bt261.2.2.2.1, bt261.2.2.2.2))) else (none))) = some (r1, r2, r3) := by first | (rw [hy248]; with_reducible exact H) | (have H2_ := (Option.bind_some _ _).symm.trans H; rw [hy248]; with_reducible exact H2_) | (have H2_ := (Option.bind_some _ _).symm.trans H; with_reducible exact H2_) | with_reducible exact H | (rw [hy248]; exact H) | exact H | rfl
      have Ny248 := Aside0.mk hy248
      clear hy248
      replace H := Option.bind_eq_some_iff.mp H
      obtain ⟨⟨t252, t255, t258⟩, A140, H⟩ := H
      replace H : (if a1 < (l0.length : Int) then ((impl_ApplyOp.f kj2 t252 t255 ((rd_T72 l0 a1).f1.f0) ((rd_T72 l0 a1).f1.f1) ((rd_T72 l0 a1).f1.f2) ((rd_T72 l0 a1).f1.f3) ((rd_T72 l0 a1).f1.f4) ((rd_T72 l0 a1).f1.f5)).bind fun bt261 => (some (bt261.2.2.1, bt261.2.2.2.1, bt261.2.2.2.2))) else (none)) = some (r1, r2, r3) := H
      have A14 := Aside0.mk A140
      clear A140
      by_cases c15 : a1 < (l0.length : Int)
      rotate_left
      · rw [if_neg c15] at H
        exact absurd H (by simp)
      rw [if_pos c15] at H
      have c15b0 : decide (a1 < (l0.length : Int)) = true := decide_eq_true c15
      clear c15
      replace H := Option.bind_eq_some_iff.mp H
      obtain ⟨⟨t261, t264, t267, t268, t269⟩, A160, H⟩ := H
      replace H : (some (t267, t268, t269)) = some (r1, r2, r3) := H
      have A16 := Aside0.mk A160
      clear A160
      simp only [Option.some.injEq, Prod.mk.injEq] at H
      obtain ⟨rfl, rfl, rfl⟩ := H
      have q17 : (a1 : Int) ≤ ((l0.length : Int) : Int) := of_decide_eq_true (by first | (with_reducible assumption) | assumption)
      obtain ⟨i017, hi017, _, hsz17, _⟩ := info_parts info72
      have hroom17 : l0.length ≤ c0 := HC0.out
      have hC17 : Kd.C k72 _ A0 l0.length l0 := HR0.out
      have hcut17 := cut_to (P := Try.prog) 58 72 .i64 Try.underlying58 hi017 A0 l0.length c0 a1 (of_decide_eq_true (by first | (with_reducible assumption) | assumption)) q17 hroom17
      have hr17 := Kd.C_take (m := (a1 : Int).toNat) hC17 (by omega)
      have hy17 : y248.length = (a1 : Int).toNat := (by rw [Ny248.out, vY]; omega)
      rw [← Ny248.out] at hr17
      rw [← hy17] at hcut17
      have HR251 := Aside0.mk hr17
      have HC251 := Aside0.mk (show y248.length ≤ c0 from by omega)
      clear hr17 hC17 hroom17 hi017 hsz17
      have KY17 := Aside0.mk hy17
      clear hy17
      replace q17 := eq_true q17
      try go_wp2_with (first | ((with_reducible refine uX (f := 31) rfl ?_); refine vM (some 27) rfl rfl Try.func31 (by kernel_rfl) rfl #[.slice A0 y248.length c0] rfl (by (try simp only [vX, List.map_cons, List.map_nil]); first | done | rfl | (simp only [vZ, vY]; rfl)) ?_; (with_reducible refine (impl_ReplayLog.calls kj2 _ _ y248 t252 t255 t258 _ ?side1 ?side2 A14.out).mono ?_); (case side1 => repeat (first | exact (Kd.vE HR251.out HB.out) | (with_reducible refine Kd.vQ ?_ _) | (with_reducible refine Kd.vP ?_ _) | (with_reducible refine Kd.vS ?_))); (case side2 => exact HC251.out); rintro e w18 ⟨v253, v256, rfl, ho0, ho1, hb⟩; refine ⟨_, rfl, ?_⟩; have n0_ := Aside0.mk (Kd.vO ho0 (uQ (by repeat (first | (with_reducible first | exact HB.out | apply uG | apply uA | apply uF | refine uB ?_ GE245.out) | exact HB.out)))); have n1_ := Aside0.mk (Kd.vO ho1 (uQ (by repeat (first | (with_reducible first | exact HB.out | apply uG | apply uA | apply uF | refine uB ?_ GE245.out) | exact HB.out)))); have n2_ := Aside0.mk (uR (g := gb245) (o := .cells #[.bool false, .int .i64 0] 33 (0, 0)) (by (with_reducible repeat (first | refine uC ?_ _ | refine uE ?_ | refine uD ?_ _)); exact BK245.out) hb); have n3_ := Aside0.mk (uS (by repeat (first | (with_reducible first | exact HB.out | apply uG | apply uA | apply uF | refine uB ?_ GE245.out) | exact HB.out)) hb); clear BK245; clear HB; have HO254 := n0_; have HO257 := n1_; have BK245 := n2_; have HB := n3_; clear n0_ n1_ n2_ n3_; (try clear hb); (try clear hb2); (try clear hk); (try clear hi); (try clear ho0); (try clear ho1)) | ((with_reducible refine uU (N := 6) rfl ?_); refine uT ?hg (N := 6) ?hd (cs := #[.slice none 0 0, .slice none 0 0]) (t := 31) ?hr ?_; (case hd => rfl); (case hg => rfl); (case hr => first | (go_simp; done) | (go_simp; rfl)); intro gb259 hg w19 hbox hb; have n0_ := Aside0.mk (Kd.vD (by (with_reducible repeat (first | apply Kd.uN | apply Kd.uO | apply Kd.uP)); exact HO254.out) hb); have n1_ := Aside0.mk (Kd.vD (by (with_reducible repeat (first | apply Kd.uN | apply Kd.uO | apply Kd.uP)); exact HO257.out) hb); have n2_ := Aside0.mk (uR (g := gb245) (o := .cells #[.bool false, .int .i64 0] 33 (0, 0)) (by (with_reducible repeat (first | refine uC ?_ _ | refine uE ?_ | refine uD ?_ _)); exact BK245.out) hb); have n3_ := Aside0.mk (uS (by repeat (first | (with_reducible first | exact HB.out | apply uG | apply uA | apply uF | refine uB ?_ GE245.out) | exact HB.out)) hb); have n4_ := Aside0.mk (hbox); have n5_ := Aside0.mk ((by rw [hg]; exact (uQ (by repeat (first | (with_reducible first | exact HB.out | apply uG | apply uA | apply uF | refine uB ?_ GE245.out) | exact HB.out))) : w.heap.size ≤ gb259)); have n6_ := Aside0.mk ((by rw [hg]; exact (uQ (by repeat (first | (with_reducible first | exact HB.out | apply uG | apply uA | apply uF | refine uB ?_ GE245.out) | exact HB.out))) : w.heap.size ≤ gb259)); have n7_ := Aside0.mk ((by rw [hg]; exact Nat.ne_of_lt (uV (g := gb245) (o := .cells #[.bool false, .int .i64 0] 33 (0, 0)) (by (with_reducible repeat (first | refine uC ?_ _ | refine uE ?_ | refine uD ?_ _)); exact BK245.out)) : gb245 ≠ gb259)); have n8_ := Aside0.mk ((by rw [hg]; exact Nat.ne_of_gt (uV (g := gb245) (o := .cells #[.bool false, .int .i64 0] 33 (0, 0)) (by (with_reducible repeat (first | refine uC ?_ _ | refine uE ?_ | refine uD ?_ _)); exact BK245.out)) : gb259 ≠ gb245)); clear HO254; clear HO257; clear BK245; clear HB; have HO254 := n0_; have HO257 := n1_; have BK245 := n2_; have HB := n3_; have BK259 := n4_; have GW259 := n5_; have GE259 := n6_; have NB245_259 := n7_; have NB259_245 := n8_; clear n0_ n1_ n2_ n3_ n4_ n5_ n6_ n7_ n8_; clear hb hbox hg; obtain ⟨Ao20, co20, eo20⟩ := Kd.vN HO254.out; subst eo20; have hnb21 := NB259_245.out; have hnc21 := NB245_259.out; have hcz22_0 : w19.cell? ⟨gb259, 0, none⟩ = some (.slice none 0 0) := (uI BK259.out 0).trans rfl; have hcz22_1 : w19.cell? ⟨gb259, 1, none⟩ = some (.slice none 0 0) := (uI BK259.out 1).trans rfl; have hfz22_0 := uK BK259.out 0; have hfz22_1 := uK BK259.out 1; obtain ⟨Ao23, co23, eo23⟩ := Kd.vN HO257.out; subst eo23))
      have n0_ : Aside0 (Kd.R (Kd.int .i64) 3 ((w19.setCell ⟨gb259, 0, none⟩ (.slice Ao20 t252.length co20)).setCell ⟨gb259, 1, none⟩ (.slice Ao23 t255.length co23)) w.heap.size (fun _ => True) (.slice Ao20 t252.length co20) t252) := ⟨by (with_reducible repeat (first | apply Kd.uN | apply Kd.uO | apply Kd.uP)); exact Kd.uZ (Kd.vG (p := ⟨gb259, 1, none⟩) (Kd.vG (p := ⟨gb259, 0, none⟩) (Kd.vR HO254.out BK259.out (by decide)) (fun _ hk => hk.2) (.slice Ao20 t252.length co20)) (fun _ hk => hk.2) (.slice Ao23 t255.length co23)) (fun _ hk => trivial)⟩
      have n1_ : Aside0 (Kd.R k49 49 ((w19.setCell ⟨gb259, 0, none⟩ (.slice Ao20 t252.length co20)).setCell ⟨gb259, 1, none⟩ (.slice Ao23 t255.length co23)) w.heap.size (fun _ => True) (.slice Ao23 t255.length co23) t255) := ⟨by (with_reducible repeat (first | apply Kd.uN | apply Kd.uO | apply Kd.uP)); exact Kd.uZ (Kd.vG (p := ⟨gb259, 1, none⟩) (Kd.vG (p := ⟨gb259, 0, none⟩) (Kd.vR HO257.out BK259.out (by decide)) (fun _ hk => hk.2) (.slice Ao20 t252.length co20)) (fun _ hk => hk.2) (.slice Ao23 t255.length co23)) (fun _ hk => trivial)⟩
      have n2_ : Aside0 (((w19.setCell ⟨gb259, 0, none⟩ (.slice Ao20 t252.length co20)).setCell ⟨gb259, 1, none⟩ (.slice Ao23 t255.length co23)).heap[gb245]? = some (.cells #[.bool false, .int .i64 0] 33 (0, 0))) := ⟨by (with_reducible repeat (first | refine uC ?_ _ | refine uE ?_ | refine uD ?_ _)); refine vF ?_ NB245_259.out _; (with_reducible repeat (first | refine uC ?_ _ | refine uE ?_ | refine uD ?_ _)); refine vF ?_ NB245_259.out _; (with_reducible repeat (first | refine uC ?_ _ | refine uE ?_ | refine uD ?_ _)); exact BK245.out⟩
      have n3_ : Aside0 (((w19.setCell ⟨gb259, 0, none⟩ (.slice Ao20 t252.length co20)).setCell ⟨gb259, 1, none⟩ (.slice Ao23 t255.length co23)).heap[gb259]? = some (.cells #[.slice Ao20 t252.length co20, .slice Ao23 t255.length co23] 31 (0, 0))) := ⟨by (with_reducible repeat (first | refine uC ?_ _ | refine uE ?_ | refine uD ?_ _)); refine uW (cs := #[.slice Ao20 t252.length co20, .slice none 0 0]) ?_ 1 _ rfl; (with_reducible repeat (first | refine uC ?_ _ | refine uE ?_ | refine uD ?_ _)); refine uW (cs := #[.slice none 0 0, .slice none 0 0]) ?_ 0 _ rfl; (with_reducible repeat (first | refine uC ?_ _ | refine uE ?_ | refine uD ?_ _)); exact BK259.out⟩
      have n4_ : Aside0 (Below w.heap.size w ((w19.setCell ⟨gb259, 0, none⟩ (.slice Ao20 t252.length co20)).setCell ⟨gb259, 1, none⟩ (.slice Ao23 t255.length co23))) := ⟨by repeat (first | (with_reducible first | exact HB.out | apply uG | apply uA | apply uF | refine uB ?_ GE245.out | refine uB ?_ GE259.out) | exact HB.out)⟩
      (try clear HO254)
      (try clear HO257)
      (try clear BK245)
      (try clear BK259)
      (try clear HB)
      generalize ((w19.setCell ⟨gb259, 0, none⟩ (.slice Ao20 t252.length co20)).setCell ⟨gb259, 1, none⟩ (.slice Ao23 t255.length co23)) = w24 at n0_ n1_ n2_ n3_ n4_ ⊢
      have HO254 := n0_
      have HO257 := n1_
      have BK245 := n2_
      have BK259 := n3_
      have HB := n4_
      clear n0_ n1_ n2_ n3_ n4_
      have n0_ := Aside0.mk (Kd.uP HO254.out)
      have n1_ := Aside0.mk (Kd.uP HO257.out)
      have n2_ := Aside0.mk (uE BK245.out)
      have n3_ := Aside0.mk (uE BK259.out)
      have n4_ := Aside0.mk (uF HB.out)
      clear HO254
      clear HO257
      clear BK245
      clear BK259
      clear HB
      have HO254 := n0_
      have HO257 := n1_
      have BK245 := n2_
      have BK259 := n3_
      have HB := n4_
      clear n0_ n1_ n2_ n3_ n4_
      have p260 : 0 ≤ (a1 : Int) := of_decide_eq_true (by first | (with_reducible assumption) | assumption)
      have q260 : a1 < (l0.length : Int) := of_decide_eq_true (by first | (with_reducible assumption) | assumption)
      obtain ⟨ad260, e260, hx260_0, hx260_1, hx260_2, hx260_3, hx260_4, hx260_5, hx260_6⟩ := at_T72 HR0.out a1 p260 q260
      have hw260_6 := hx260_6
      have hw260_5 := hx260_5
      have hw260_4 := hx260_4
      have hw260_3 := hx260_3
      have hw260_2 := hx260_2
      have hw260_1 := hx260_1
      have hw260_0 := hx260_0
      cases e260
      replace hx260_0 := (HB.out.cell (yA w _ hx260_0)).trans hx260_0
      replace hx260_1 := (HB.out.cell (yA w _ hx260_1)).trans hx260_1
      replace hx260_2 := (HB.out.cell (yA w _ hx260_2)).trans hx260_2
      replace hx260_3 := (HB.out.cell (yA w _ hx260_3)).trans hx260_3
      replace hx260_4 := (HB.out.cell (yA w _ hx260_4)).trans hx260_4
      replace hx260_5 := (HB.out.cell (yA w _ hx260_5)).trans hx260_5
      replace hx260_6 := (HB.out.cell (yA w _ hx260_6)).trans hx260_6
      replace p260 := eq_true p260
      replace q260 := eq_true q260
      refine start_ (n := 16) (S := fun w' => w'.cell? ⟨gb259, 0, none⟩ = some (.slice Ao20 t252.length co20) ∧ w'.cell? ⟨gb259, 1, none⟩ = some (.slice Ao23 t255.length co23) ∧ w'.cell? (ad260.add ((a1).toNat * 7)) = some (.int .i64 ((rd_T72 l0 a1).f0)) ∧ w'.cell? ⟨(ad260.add ((a1).toNat * 7)).block, (ad260.add ((a1).toNat * 7)).off + 1, none⟩ = some (.int .i64 ((rd_T72 l0 a1).f1.f0)) ∧ w'.cell? ⟨(ad260.add ((a1).toNat * 7)).block, (ad260.add ((a1).toNat * 7)).off + 2, none⟩ = some (.int .i64 ((rd_T72 l0 a1).f1.f1)) ∧ w'.cell? ⟨(ad260.add ((a1).toNat * 7)).block, (ad260.add ((a1).toNat * 7)).off + 3, none⟩ = some (.int .i64 ((rd_T72 l0 a1).f1.f2)) ∧ w'.cell? ⟨(ad260.add ((a1).toNat * 7)).block, (ad260.add ((a1).toNat * 7)).off + 4, none⟩ = some (.int .i64 ((rd_T72 l0 a1).f1.f3)) ∧ w'.cell? ⟨(ad260.add ((a1).toNat * 7)).block, (ad260.add ((a1).toNat * 7)).off + 5, none⟩ = some (.int .i64 ((rd_T72 l0 a1).f1.f4)) ∧ w'.cell? ⟨(ad260.add ((a1).toNat * 7)).block, (ad260.add ((a1).toNat * 7)).off + 6, none⟩ = some (.int .i64 ((rd_T72 l0 a1).f1.f5))) (ds := []) tb11 (by kernel_rfl) rfl rfl ⟨(uI BK259.out 0).trans rfl, (uI BK259.out 1).trans rfl, ((HB.out.cell (yA w _ hw260_0)).trans hw260_0), ((HB.out.cell (yA w _ hw260_1)).trans hw260_1), ((HB.out.cell (yA w _ hw260_2)).trans hw260_2), ((HB.out.cell (yA w _ hw260_3)).trans hw260_3), ((HB.out.cell (yA w _ hw260_4)).trans hw260_4), ((HB.out.cell (yA w _ hw260_5)).trans hw260_5), ((HB.out.cell (yA w _ hw260_6)).trans hw260_6)⟩ (fun hHeld => ?_); refine with_tabW impl_ResultAt.tab4 impl_ResultAt.bits4 (fun HT_ HW_ => ?_)
      generalize w24.drew = w25 at HO254 HO257 BK245 BK259 HB hx260_0 hx260_1 hx260_2 hx260_3 hx260_4 hx260_5 hx260_6 hHeld ⊢
      refine uJ (i := 1) (N := some 32) (v := ?_) (a' := ?_) tb12 rfl rfl (vL HT_.out (by kernel_rfl)) (fun _ _ _ h => h) (Or.inl ⟨by rfl, ?_⟩) ?_ ?_
      rotate_left
      · intro w'
        go_simp
        with_reducible rfl
      rotate_left
      · simp only [Act.put, vU, vV, vW, uL, uM]
        rfl
      refine uJ (i := 2) (N := some 33) (v := ?_) (a' := ?_) tb13 rfl rfl (vL HT_.out (by kernel_rfl)) (fun _ _ _ h => h) (Or.inl ⟨by rfl, ?_⟩) ?_ ?_
      rotate_left
      · intro w'
        go_simp
        with_reducible rfl
      rotate_left
      · simp only [Act.put, vU, vV, vW, uL, uM]
        rfl
      refine uJ (i := 3) (N := some 34) (v := ?_) (a' := ?_) tb14 rfl rfl (vL HT_.out (by kernel_rfl)) (fun _ _ _ h => h) (Or.inl ⟨by rfl, ?_⟩) ?_ ?_
      rotate_left
      · intro w'
        go_simp
        with_reducible rfl
      rotate_left
      · simp only [Act.put, vU, vV, vW, uL, uM]
        rfl
      refine uJ (i := 4) (N := some 35) (v := ?_) (a' := ?_) tb15 rfl rfl (vL HT_.out (by kernel_rfl)) (fun _ _ _ h => h) (Or.inl ⟨by rfl, ?_⟩) ?_ ?_
      rotate_left
      · intro w'
        go_simp
        with_reducible rfl
      rotate_left
      · simp only [Act.put, vU, vV, vW, uL, uM]
        rfl
      refine take_ (i := 0) (N := some 31) (v := ?_) (a' := ?_) tb16 rfl rfl (take_ofW HT_.out HW_.out (by kernel_rfl)) (fun _ _ _ h => h) (Or.inl ⟨by rfl, ?_⟩) hHeld ?_ ?_
      rotate_left
      · rintro w' ⟨s0, s1, s2, s3, s4, s5, s6, s7, s8⟩
        go_simp
        with_reducible rfl
      rotate_left
      · simp only [Act.put, vU, vV, vW, uL, uM]
        rfl
      refine take_ (i := 5) (N := some 36) (v := ?_) (a' := ?_) tb17 rfl rfl (take_ofW HT_.out HW_.out (by kernel_rfl)) (fun _ _ _ h => h) (Or.inl ⟨by rfl, ?_⟩) hHeld ?_ ?_
      rotate_left
      · rintro w' ⟨s0, s1, s2, s3, s4, s5, s6, s7, s8⟩
        go_simp
        with_reducible rfl
      rotate_left
      · simp only [Act.put, vU, vV, vW, uL, uM]
        rfl
      refine join_ (σ := Value × Value × Nat × Nat) 3 tb0 (fun s_ => [(37, .tuple #[.agg #[s_.1, s_.2.1], .agg #[.bool t267, .int .i64 t268], .bool t269]), (8, .pointer (some ⟨s_.2.2.1, 0, none⟩)), (9, .pointer (some ⟨s_.2.2.2, 0, none⟩)), (30, .tuple #[.agg #[s_.1, s_.2.1], .agg #[.bool t267, .int .i64 t268], .bool t269]), (38, .agg #[s_.1, s_.2.1]), (39, .agg #[.bool t267, .int .i64 t268]), (40, .bool t269)]) (fun s_ w' => (w'.cell? ⟨gb259, 0, none⟩ = some (.slice Ao20 t252.length co20) ∧ w'.cell? ⟨gb259, 1, none⟩ = some (.slice Ao23 t255.length co23) ∧ w'.cell? (ad260.add ((a1).toNat * 7)) = some (.int .i64 ((rd_T72 l0 a1).f0)) ∧ w'.cell? ⟨(ad260.add ((a1).toNat * 7)).block, (ad260.add ((a1).toNat * 7)).off + 1, none⟩ = some (.int .i64 ((rd_T72 l0 a1).f1.f0)) ∧ w'.cell? ⟨(ad260.add ((a1).toNat * 7)).block, (ad260.add ((a1).toNat * 7)).off + 2, none⟩ = some (.int .i64 ((rd_T72 l0 a1).f1.f1)) ∧ w'.cell? ⟨(ad260.add ((a1).toNat * 7)).block, (ad260.add ((a1).toNat * 7)).off + 3, none⟩ = some (.int .i64 ((rd_T72 l0 a1).f1.f2)) ∧ w'.cell? ⟨(ad260.add ((a1).toNat * 7)).block, (ad260.add ((a1).toNat * 7)).off + 4, none⟩ = some (.int .i64 ((rd_T72 l0 a1).f1.f3)) ∧ w'.cell? ⟨(ad260.add ((a1).toNat * 7)).block, (ad260.add ((a1).toNat * 7)).off + 5, none⟩ = some (.int .i64 ((rd_T72 l0 a1).f1.f4)) ∧ w'.cell? ⟨(ad260.add ((a1).toNat * 7)).block, (ad260.add ((a1).toNat * 7)).off + 6, none⟩ = some (.int .i64 ((rd_T72 l0 a1).f1.f5))) ∧ (Kd.R (Kd.int .i64) 3 w' w.heap.size (fun k_ => some k_ ≠ (s_.1 : Value).ownBlock) (.slice Ao20 t252.length co20) t252) ∧ (Kd.R k49 49 w' w.heap.size (fun k_ => some k_ ≠ (s_.2.1 : Value).ownBlock) (.slice Ao23 t255.length co23) t255) ∧ (Kd.R (Kd.int .i64) 3 w' w.heap.size (fun k_ => some k_ ≠ (.slice Ao20 t252.length co20 : Value).ownBlock) s_.1 t261) ∧ (Kd.R k49 49 w' w.heap.size (fun k_ => some k_ ≠ (.slice Ao23 t255.length co23 : Value).ownBlock) s_.2.1 t264) ∧ (w'.heap[gb245]? = some (.cells #[.bool false, .int .i64 0] 33 (0, 0))) ∧ (w'.heap[gb259]? = some (.cells #[.slice Ao20 t252.length co20, .slice Ao23 t255.length co23] 31 (0, 0))) ∧ (w'.heap[s_.2.2.1]? = some (.cells #[.slice none 0 0, .slice none 0 0] 31 (0, 0))) ∧ (w'.heap[s_.2.2.2]? = some (.cells #[.bool false, .int .i64 0] 33 (0, 0))) ∧ (w.heap.size ≤ s_.2.2.1) ∧ (w.heap.size ≤ s_.2.2.1) ∧ (gb245 ≠ s_.2.2.1) ∧ (s_.2.2.1 ≠ gb245) ∧ (gb259 ≠ s_.2.2.1) ∧ (s_.2.2.1 ≠ gb259) ∧ (s_.2.2.2 ≠ s_.2.2.1) ∧ (s_.2.2.1 ≠ s_.2.2.2) ∧ (w.heap.size ≤ s_.2.2.2) ∧ (w.heap.size ≤ s_.2.2.2) ∧ (gb245 ≠ s_.2.2.2) ∧ (s_.2.2.2 ≠ gb245) ∧ (gb259 ≠ s_.2.2.2) ∧ (s_.2.2.2 ≠ gb259) ∧ (Below w.heap.size w w')) ?_ ?_
      rotate_left
      · intro hJ6_11_12
        refine join_ (σ := Value × Value × Nat) 4 tb2 (fun s_ => [(37, .tuple #[.agg #[s_.1, s_.2.1], .agg #[.bool t267, .int .i64 t268], .bool t269]), (8, .pointer (some ⟨s_.2.2, 0, none⟩)), (30, .tuple #[.agg #[s_.1, s_.2.1], .agg #[.bool t267, .int .i64 t268], .bool t269]), (38, .agg #[s_.1, s_.2.1]), (39, .agg #[.bool t267, .int .i64 t268]), (40, .bool t269)]) (fun s_ w' => (w'.cell? ⟨gb259, 0, none⟩ = some (.slice Ao20 t252.length co20) ∧ w'.cell? ⟨gb259, 1, none⟩ = some (.slice Ao23 t255.length co23) ∧ w'.cell? (ad260.add ((a1).toNat * 7)) = some (.int .i64 ((rd_T72 l0 a1).f0)) ∧ w'.cell? ⟨(ad260.add ((a1).toNat * 7)).block, (ad260.add ((a1).toNat * 7)).off + 1, none⟩ = some (.int .i64 ((rd_T72 l0 a1).f1.f0)) ∧ w'.cell? ⟨(ad260.add ((a1).toNat * 7)).block, (ad260.add ((a1).toNat * 7)).off + 2, none⟩ = some (.int .i64 ((rd_T72 l0 a1).f1.f1)) ∧ w'.cell? ⟨(ad260.add ((a1).toNat * 7)).block, (ad260.add ((a1).toNat * 7)).off + 3, none⟩ = some (.int .i64 ((rd_T72 l0 a1).f1.f2)) ∧ w'.cell? ⟨(ad260.add ((a1).toNat * 7)).block, (ad260.add ((a1).toNat * 7)).off + 4, none⟩ = some (.int .i64 ((rd_T72 l0 a1).f1.f3)) ∧ w'.cell? ⟨(ad260.add ((a1).toNat * 7)).block, (ad260.add ((a1).toNat * 7)).off + 5, none⟩ = some (.int .i64 ((rd_T72 l0 a1).f1.f4)) ∧ w'.cell? ⟨(ad260.add ((a1).toNat * 7)).block, (ad260.add ((a1).toNat * 7)).off + 6, none⟩ = some (.int .i64 ((rd_T72 l0 a1).f1.f5))) ∧ (Kd.R (Kd.int .i64) 3 w' w.heap.size (fun k_ => some k_ ≠ (s_.1 : Value).ownBlock) (.slice Ao20 t252.length co20) t252) ∧ (Kd.R k49 49 w' w.heap.size (fun k_ => some k_ ≠ (s_.2.1 : Value).ownBlock) (.slice Ao23 t255.length co23) t255) ∧ (Kd.R (Kd.int .i64) 3 w' w.heap.size (fun k_ => some k_ ≠ (.slice Ao20 t252.length co20 : Value).ownBlock) s_.1 t261) ∧ (Kd.R k49 49 w' w.heap.size (fun k_ => some k_ ≠ (.slice Ao23 t255.length co23 : Value).ownBlock) s_.2.1 t264) ∧ (w'.heap[gb245]? = some (.cells #[.bool false, .int .i64 0] 33 (0, 0))) ∧ (w'.heap[gb259]? = some (.cells #[.slice Ao20 t252.length co20, .slice Ao23 t255.length co23] 31 (0, 0))) ∧ (w'.heap[s_.2.2]? = some (.cells #[.slice none 0 0, .slice none 0 0] 31 (0, 0))) ∧ (w.heap.size ≤ s_.2.2) ∧ (w.heap.size ≤ s_.2.2) ∧ (gb245 ≠ s_.2.2) ∧ (s_.2.2 ≠ gb245) ∧ (gb259 ≠ s_.2.2) ∧ (s_.2.2 ≠ gb259) ∧ (Below w.heap.size w w')) ?_ ?_
        rotate_left
        · intro hJ6_11
          refine join_ (σ := Value × Value × Nat) 4 tb3 (fun s_ => [(37, .tuple #[.agg #[s_.1, s_.2.1], .agg #[.bool t267, .int .i64 t268], .bool t269]), (9, .pointer (some ⟨s_.2.2, 0, none⟩)), (30, .tuple #[.agg #[s_.1, s_.2.1], .agg #[.bool t267, .int .i64 t268], .bool t269]), (38, .agg #[s_.1, s_.2.1]), (39, .agg #[.bool t267, .int .i64 t268]), (40, .bool t269)]) (fun s_ w' => (w'.cell? ⟨gb259, 0, none⟩ = some (.slice Ao20 t252.length co20) ∧ w'.cell? ⟨gb259, 1, none⟩ = some (.slice Ao23 t255.length co23) ∧ w'.cell? (ad260.add ((a1).toNat * 7)) = some (.int .i64 ((rd_T72 l0 a1).f0)) ∧ w'.cell? ⟨(ad260.add ((a1).toNat * 7)).block, (ad260.add ((a1).toNat * 7)).off + 1, none⟩ = some (.int .i64 ((rd_T72 l0 a1).f1.f0)) ∧ w'.cell? ⟨(ad260.add ((a1).toNat * 7)).block, (ad260.add ((a1).toNat * 7)).off + 2, none⟩ = some (.int .i64 ((rd_T72 l0 a1).f1.f1)) ∧ w'.cell? ⟨(ad260.add ((a1).toNat * 7)).block, (ad260.add ((a1).toNat * 7)).off + 3, none⟩ = some (.int .i64 ((rd_T72 l0 a1).f1.f2)) ∧ w'.cell? ⟨(ad260.add ((a1).toNat * 7)).block, (ad260.add ((a1).toNat * 7)).off + 4, none⟩ = some (.int .i64 ((rd_T72 l0 a1).f1.f3)) ∧ w'.cell? ⟨(ad260.add ((a1).toNat * 7)).block, (ad260.add ((a1).toNat * 7)).off + 5, none⟩ = some (.int .i64 ((rd_T72 l0 a1).f1.f4)) ∧ w'.cell? ⟨(ad260.add ((a1).toNat * 7)).block, (ad260.add ((a1).toNat * 7)).off + 6, none⟩ = some (.int .i64 ((rd_T72 l0 a1).f1.f5))) ∧ (Kd.R (Kd.int .i64) 3 w' w.heap.size (fun k_ => some k_ ≠ (s_.1 : Value).ownBlock) (.slice Ao20 t252.length co20) t252) ∧ (Kd.R k49 49 w' w.heap.size (fun k_ => some k_ ≠ (s_.2.1 : Value).ownBlock) (.slice Ao23 t255.length co23) t255) ∧ (Kd.R (Kd.int .i64) 3 w' w.heap.size (fun k_ => some k_ ≠ (.slice Ao20 t252.length co20 : Value).ownBlock) s_.1 t261) ∧ (Kd.R k49 49 w' w.heap.size (fun k_ => some k_ ≠ (.slice Ao23 t255.length co23 : Value).ownBlock) s_.2.1 t264) ∧ (w'.heap[gb245]? = some (.cells #[.bool false, .int .i64 0] 33 (0, 0))) ∧ (w'.heap[gb259]? = some (.cells #[.slice Ao20 t252.length co20, .slice Ao23 t255.length co23] 31 (0, 0))) ∧ (w'.heap[s_.2.2]? = some (.cells #[.bool false, .int .i64 0] 33 (0, 0))) ∧ (w.heap.size ≤ s_.2.2) ∧ (w.heap.size ≤ s_.2.2) ∧ (gb245 ≠ s_.2.2) ∧ (s_.2.2 ≠ gb245) ∧ (gb259 ≠ s_.2.2) ∧ (s_.2.2 ≠ gb259) ∧ (Below w.heap.size w w')) ?_ ?_
          rotate_left
          · intro hJ6_12
            refine join_ (σ := Nat × Nat) 8 tb1 (fun s_ => [(8, .pointer (some ⟨s_.1, 0, none⟩)), (9, .pointer (some ⟨s_.2, 0, none⟩))]) (fun s_ w' => (w'.cell? ⟨gb259, 0, none⟩ = some (.slice Ao20 t252.length co20) ∧ w'.cell? ⟨gb259, 1, none⟩ = some (.slice Ao23 t255.length co23) ∧ w'.cell? (ad260.add ((a1).toNat * 7)) = some (.int .i64 ((rd_T72 l0 a1).f0)) ∧ w'.cell? ⟨(ad260.add ((a1).toNat * 7)).block, (ad260.add ((a1).toNat * 7)).off + 1, none⟩ = some (.int .i64 ((rd_T72 l0 a1).f1.f0)) ∧ w'.cell? ⟨(ad260.add ((a1).toNat * 7)).block, (ad260.add ((a1).toNat * 7)).off + 2, none⟩ = some (.int .i64 ((rd_T72 l0 a1).f1.f1)) ∧ w'.cell? ⟨(ad260.add ((a1).toNat * 7)).block, (ad260.add ((a1).toNat * 7)).off + 3, none⟩ = some (.int .i64 ((rd_T72 l0 a1).f1.f2)) ∧ w'.cell? ⟨(ad260.add ((a1).toNat * 7)).block, (ad260.add ((a1).toNat * 7)).off + 4, none⟩ = some (.int .i64 ((rd_T72 l0 a1).f1.f3)) ∧ w'.cell? ⟨(ad260.add ((a1).toNat * 7)).block, (ad260.add ((a1).toNat * 7)).off + 5, none⟩ = some (.int .i64 ((rd_T72 l0 a1).f1.f4)) ∧ w'.cell? ⟨(ad260.add ((a1).toNat * 7)).block, (ad260.add ((a1).toNat * 7)).off + 6, none⟩ = some (.int .i64 ((rd_T72 l0 a1).f1.f5))) ∧ (Kd.R (Kd.int .i64) 3 w' w.heap.size (fun _ => True) (.slice Ao20 t252.length co20) t252) ∧ (Kd.R k49 49 w' w.heap.size (fun _ => True) (.slice Ao23 t255.length co23) t255) ∧ (w'.heap[gb245]? = some (.cells #[.bool false, .int .i64 0] 33 (0, 0))) ∧ (w'.heap[gb259]? = some (.cells #[.slice Ao20 t252.length co20, .slice Ao23 t255.length co23] 31 (0, 0))) ∧ (w'.heap[s_.1]? = some (.cells #[.slice none 0 0, .slice none 0 0] 31 (0, 0))) ∧ (w'.heap[s_.2]? = some (.cells #[.bool false, .int .i64 0] 33 (0, 0))) ∧ (w.heap.size ≤ s_.1) ∧ (w.heap.size ≤ s_.1) ∧ (gb245 ≠ s_.1) ∧ (s_.1 ≠ gb245) ∧ (gb259 ≠ s_.1) ∧ (s_.1 ≠ gb259) ∧ (s_.2 ≠ s_.1) ∧ (s_.1 ≠ s_.2) ∧ (w.heap.size ≤ s_.2) ∧ (w.heap.size ≤ s_.2) ∧ (gb245 ≠ s_.2) ∧ (s_.2 ≠ gb245) ∧ (gb259 ≠ s_.2) ∧ (s_.2 ≠ gb259) ∧ (Below w.heap.size w w')) ?_ ?_
            rotate_left
            · intro hJ11_12
              refine join_ (σ := Value × Value) 5 tb7 (fun s_ => [(37, .tuple #[.agg #[s_.1, s_.2], .agg #[.bool t267, .int .i64 t268], .bool t269]), (30, .tuple #[.agg #[s_.1, s_.2], .agg #[.bool t267, .int .i64 t268], .bool t269]), (38, .agg #[s_.1, s_.2]), (39, .agg #[.bool t267, .int .i64 t268]), (40, .bool t269)]) (fun s_ w' => (w'.cell? ⟨gb259, 0, none⟩ = some (.slice Ao20 t252.length co20) ∧ w'.cell? ⟨gb259, 1, none⟩ = some (.slice Ao23 t255.length co23) ∧ w'.cell? (ad260.add ((a1).toNat * 7)) = some (.int .i64 ((rd_T72 l0 a1).f0)) ∧ w'.cell? ⟨(ad260.add ((a1).toNat * 7)).block, (ad260.add ((a1).toNat * 7)).off + 1, none⟩ = some (.int .i64 ((rd_T72 l0 a1).f1.f0)) ∧ w'.cell? ⟨(ad260.add ((a1).toNat * 7)).block, (ad260.add ((a1).toNat * 7)).off + 2, none⟩ = some (.int .i64 ((rd_T72 l0 a1).f1.f1)) ∧ w'.cell? ⟨(ad260.add ((a1).toNat * 7)).block, (ad260.add ((a1).toNat * 7)).off + 3, none⟩ = some (.int .i64 ((rd_T72 l0 a1).f1.f2)) ∧ w'.cell? ⟨(ad260.add ((a1).toNat * 7)).block, (ad260.add ((a1).toNat * 7)).off + 4, none⟩ = some (.int .i64 ((rd_T72 l0 a1).f1.f3)) ∧ w'.cell? ⟨(ad260.add ((a1).toNat * 7)).block, (ad260.add ((a1).toNat * 7)).off + 5, none⟩ = some (.int .i64 ((rd_T72 l0 a1).f1.f4)) ∧ w'.cell? ⟨(ad260.add ((a1).toNat * 7)).block, (ad260.add ((a1).toNat * 7)).off + 6, none⟩ = some (.int .i64 ((rd_T72 l0 a1).f1.f5))) ∧ (Kd.R (Kd.int .i64) 3 w' w.heap.size (fun k_ => some k_ ≠ (s_.1 : Value).ownBlock) (.slice Ao20 t252.length co20) t252) ∧ (Kd.R k49 49 w' w.heap.size (fun k_ => some k_ ≠ (s_.2 : Value).ownBlock) (.slice Ao23 t255.length co23) t255) ∧ (Kd.R (Kd.int .i64) 3 w' w.heap.size (fun k_ => some k_ ≠ (.slice Ao20 t252.length co20 : Value).ownBlock) s_.1 t261) ∧ (Kd.R k49 49 w' w.heap.size (fun k_ => some k_ ≠ (.slice Ao23 t255.length co23 : Value).ownBlock) s_.2 t264) ∧ (w'.heap[gb245]? = some (.cells #[.bool false, .int .i64 0] 33 (0, 0))) ∧ (w'.heap[gb259]? = some (.cells #[.slice Ao20 t252.length co20, .slice Ao23 t255.length co23] 31 (0, 0))) ∧ (Below w.heap.size w w')) ?_ ?_
              rotate_left
              · intro hJ6
                refine join_ (σ := Nat) 9 tb5 (fun s_ => [(8, .pointer (some ⟨s_, 0, none⟩))]) (fun s_ w' => (w'.cell? ⟨gb259, 0, none⟩ = some (.slice Ao20 t252.length co20) ∧ w'.cell? ⟨gb259, 1, none⟩ = some (.slice Ao23 t255.length co23) ∧ w'.cell? (ad260.add ((a1).toNat * 7)) = some (.int .i64 ((rd_T72 l0 a1).f0)) ∧ w'.cell? ⟨(ad260.add ((a1).toNat * 7)).block, (ad260.add ((a1).toNat * 7)).off + 1, none⟩ = some (.int .i64 ((rd_T72 l0 a1).f1.f0)) ∧ w'.cell? ⟨(ad260.add ((a1).toNat * 7)).block, (ad260.add ((a1).toNat * 7)).off + 2, none⟩ = some (.int .i64 ((rd_T72 l0 a1).f1.f1)) ∧ w'.cell? ⟨(ad260.add ((a1).toNat * 7)).block, (ad260.add ((a1).toNat * 7)).off + 3, none⟩ = some (.int .i64 ((rd_T72 l0 a1).f1.f2)) ∧ w'.cell? ⟨(ad260.add ((a1).toNat * 7)).block, (ad260.add ((a1).toNat * 7)).off + 4, none⟩ = some (.int .i64 ((rd_T72 l0 a1).f1.f3)) ∧ w'.cell? ⟨(ad260.add ((a1).toNat * 7)).block, (ad260.add ((a1).toNat * 7)).off + 5, none⟩ = some (.int .i64 ((rd_T72 l0 a1).f1.f4)) ∧ w'.cell? ⟨(ad260.add ((a1).toNat * 7)).block, (ad260.add ((a1).toNat * 7)).off + 6, none⟩ = some (.int .i64 ((rd_T72 l0 a1).f1.f5))) ∧ (Kd.R (Kd.int .i64) 3 w' w.heap.size (fun _ => True) (.slice Ao20 t252.length co20) t252) ∧ (Kd.R k49 49 w' w.heap.size (fun _ => True) (.slice Ao23 t255.length co23) t255) ∧ (w'.heap[gb245]? = some (.cells #[.bool false, .int .i64 0] 33 (0, 0))) ∧ (w'.heap[gb259]? = some (.cells #[.slice Ao20 t252.length co20, .slice Ao23 t255.length co23] 31 (0, 0))) ∧ (w'.heap[s_]? = some (.cells #[.slice none 0 0, .slice none 0 0] 31 (0, 0))) ∧ (w.heap.size ≤ s_) ∧ (w.heap.size ≤ s_) ∧ (gb245 ≠ s_) ∧ (s_ ≠ gb245) ∧ (gb259 ≠ s_) ∧ (s_ ≠ gb259) ∧ (Below w.heap.size w w')) ?_ ?_
                rotate_left
                · intro hJ11
                  refine join_ (σ := Nat) 9 tb6 (fun s_ => [(9, .pointer (some ⟨s_, 0, none⟩))]) (fun s_ w' => (w'.cell? ⟨gb259, 0, none⟩ = some (.slice Ao20 t252.length co20) ∧ w'.cell? ⟨gb259, 1, none⟩ = some (.slice Ao23 t255.length co23) ∧ w'.cell? (ad260.add ((a1).toNat * 7)) = some (.int .i64 ((rd_T72 l0 a1).f0)) ∧ w'.cell? ⟨(ad260.add ((a1).toNat * 7)).block, (ad260.add ((a1).toNat * 7)).off + 1, none⟩ = some (.int .i64 ((rd_T72 l0 a1).f1.f0)) ∧ w'.cell? ⟨(ad260.add ((a1).toNat * 7)).block, (ad260.add ((a1).toNat * 7)).off + 2, none⟩ = some (.int .i64 ((rd_T72 l0 a1).f1.f1)) ∧ w'.cell? ⟨(ad260.add ((a1).toNat * 7)).block, (ad260.add ((a1).toNat * 7)).off + 3, none⟩ = some (.int .i64 ((rd_T72 l0 a1).f1.f2)) ∧ w'.cell? ⟨(ad260.add ((a1).toNat * 7)).block, (ad260.add ((a1).toNat * 7)).off + 4, none⟩ = some (.int .i64 ((rd_T72 l0 a1).f1.f3)) ∧ w'.cell? ⟨(ad260.add ((a1).toNat * 7)).block, (ad260.add ((a1).toNat * 7)).off + 5, none⟩ = some (.int .i64 ((rd_T72 l0 a1).f1.f4)) ∧ w'.cell? ⟨(ad260.add ((a1).toNat * 7)).block, (ad260.add ((a1).toNat * 7)).off + 6, none⟩ = some (.int .i64 ((rd_T72 l0 a1).f1.f5))) ∧ (Kd.R (Kd.int .i64) 3 w' w.heap.size (fun _ => True) (.slice Ao20 t252.length co20) t252) ∧ (Kd.R k49 49 w' w.heap.size (fun _ => True) (.slice Ao23 t255.length co23) t255) ∧ (w'.heap[gb245]? = some (.cells #[.bool false, .int .i64 0] 33 (0, 0))) ∧ (w'.heap[gb259]? = some (.cells #[.slice Ao20 t252.length co20, .slice Ao23 t255.length co23] 31 (0, 0))) ∧ (w'.heap[s_]? = some (.cells #[.bool false, .int .i64 0] 33 (0, 0))) ∧ (w.heap.size ≤ s_) ∧ (w.heap.size ≤ s_) ∧ (gb245 ≠ s_) ∧ (s_ ≠ gb245) ∧ (gb259 ≠ s_) ∧ (s_ ≠ gb259) ∧ (Below w.heap.size w w')) ?_ ?_
                  rotate_left
                  · intro hJ12
                    refine three_ (i := 6) (j := 11) (k := 12) (Ni := some 37) (Nj := some 8) (Nk := some 9) tb19 tb5 tb6 rfl rfl rfl rfl rfl rfl (three_of HT_.out (by kernel_rfl)) (by decide) (by decide) (by decide) (fun K hK => ?_) (fun K hK => ?_) (fun K hK => ?_)
                    · skip
                      refine goes_ Try.func12 (by kernel_rfl) rfl #[.agg #[.slice Ao20 t252.length co20, .slice Ao23 t255.length co23], .agg #[.int .i64 ((rd_T72 l0 a1).f1.f0), .int .i64 ((rd_T72 l0 a1).f1.f1), .int .i64 ((rd_T72 l0 a1).f1.f2), .int .i64 ((rd_T72 l0 a1).f1.f3), .int .i64 ((rd_T72 l0 a1).f1.f4), .int .i64 ((rd_T72 l0 a1).f1.f5)]] (by rfl) rfl rfl (by (try simp only [vX, List.map_cons, List.map_nil]); first | done | rfl | (simp only [vZ, vY]; rfl)) ?_
                      with_reducible refine (impl_ApplyOp.calls kj2 _ _ t252 _ _ t255 ((rd_T72 l0 a1).f1.f0) ((rd_T72 l0 a1).f1.f1) ((rd_T72 l0 a1).f1.f2) ((rd_T72 l0 a1).f1.f3) ((rd_T72 l0 a1).f1.f4) ((rd_T72 l0 a1).f1.f5) t261 t264 t267 t268 t269 _ ?side1 ?side2 ?side3 ?side4 A16.out).mono ?_
                      (case side1 => repeat (first | exact (Kd.vH HO254.out).2.2 | (with_reducible refine Kd.vQ ?_ _) | (with_reducible refine Kd.vP ?_ _) | (with_reducible refine Kd.vS ?_)))
                      (case side2 => exact (Kd.vH HO254.out).2.1)
                      (case side3 => repeat (first | exact (Kd.vH HO257.out).2.2 | (with_reducible refine Kd.vQ ?_ _) | (with_reducible refine Kd.vP ?_ _) | (with_reducible refine Kd.vS ?_)))
                      (case side4 => exact (Kd.vH HO257.out).2.1)
                      rintro e w26 ⟨v262, v265, rfl, ho0, ho1, hb⟩
                      refine ⟨_, rfl, ?_⟩
                      have n0_ := Aside0.mk (Kd.R_elder' (by (with_reducible repeat (first | apply Kd.uN | apply Kd.uO | apply Kd.uP)); exact HO254.out) (Kd.R_base ho0) hb)
                      have n1_ := Aside0.mk (Kd.R_elder' (by (with_reducible repeat (first | apply Kd.uN | apply Kd.uO | apply Kd.uP)); exact HO257.out) (Kd.R_base ho1) hb)
                      have n2_ := Aside0.mk (Kd.vO (Kd.R_new' ho0 (Kd.R_lt (by (with_reducible repeat (first | apply Kd.uN | apply Kd.uO | apply Kd.uP)); exact HO254.out))) (uQ (by repeat (first | (with_reducible first | exact HB.out | apply uG | apply uA | apply uF | refine uB ?_ GE245.out | refine uB ?_ GE259.out) | exact HB.out))))
                      have n3_ := Aside0.mk (Kd.vO (Kd.R_new' ho1 (Kd.R_lt (by (with_reducible repeat (first | apply Kd.uN | apply Kd.uO | apply Kd.uP)); exact HO257.out))) (uQ (by repeat (first | (with_reducible first | exact HB.out | apply uG | apply uA | apply uF | refine uB ?_ GE245.out | refine uB ?_ GE259.out) | exact HB.out))))
                      have n4_ := Aside0.mk (uR (g := gb245) (o := .cells #[.bool false, .int .i64 0] 33 (0, 0)) (by (with_reducible repeat (first | refine uC ?_ _ | refine uE ?_ | refine uD ?_ _)); exact BK245.out) hb)
                      have n5_ := Aside0.mk (uR (g := gb259) (o := .cells #[.slice Ao20 t252.length co20, .slice Ao23 t255.length co23] 31 (0, 0)) (by (with_reducible repeat (first | refine uC ?_ _ | refine uE ?_ | refine uD ?_ _)); exact BK259.out) hb)
                      have n6_ := Aside0.mk (uS (by repeat (first | (with_reducible first | exact HB.out | apply uG | apply uA | apply uF | refine uB ?_ GE245.out | refine uB ?_ GE259.out) | exact HB.out)) hb)
                      clear HO254
                      clear HO257
                      clear BK245
                      clear BK259
                      clear HB
                      have HO254 := n0_
                      have HO257 := n1_
                      have HO263 := n2_
                      have HO266 := n3_
                      have BK245 := n4_
                      have BK259 := n5_
                      have HB := n6_
                      clear n0_ n1_ n2_ n3_ n4_ n5_ n6_
                      (try clear hb)
                      (try clear hb2)
                      (try clear hk)
                      (try clear hi)
                      (try clear ho0)
                      (try clear ho1)
                      refine hK.out _ _ ⟨(uI BK259.out 0).trans rfl, (uI BK259.out 1).trans rfl, ((HB.out.cell (yA w _ hw260_0)).trans hw260_0), ((HB.out.cell (yA w _ hw260_1)).trans hw260_1), ((HB.out.cell (yA w _ hw260_2)).trans hw260_2), ((HB.out.cell (yA w _ hw260_3)).trans hw260_3), ((HB.out.cell (yA w _ hw260_4)).trans hw260_4), ((HB.out.cell (yA w _ hw260_5)).trans hw260_5), ((HB.out.cell (yA w _ hw260_6)).trans hw260_6)⟩ (fun hHeld => ?_)
                      clear hK K
                      refine vC (a' := ?_) ?_ ?_
                      rotate_left
                      · show Act.put _ (some 37) _ = _
                        simp only [Act.put, vU, vV, vW, uL, uM]
                        rfl
                      refine uJ (i := 7) (N := some 30) (v := ?_) (a' := ?_) tb20 rfl rfl (vL HT_.out (by kernel_rfl)) (fun _ _ _ h => h) (Or.inl ⟨by rfl, ?_⟩) ?_ ?_
                      rotate_left
                      · intro w'
                        go_simp
                        with_reducible rfl
                      rotate_left
                      · simp only [Act.put, vU, vV, vW, uL, uM]
                        rfl
                      refine uJ (i := 8) (N := some 38) (v := ?_) (a' := ?_) tb23 rfl rfl (vL HT_.out (by kernel_rfl)) (fun _ _ _ h => h) (Or.inl ⟨by rfl, ?_⟩) ?_ ?_
                      rotate_left
                      · intro w'
                        go_simp
                        with_reducible rfl
                      rotate_left
                      · simp only [Act.put, vU, vV, vW, uL, uM]
                        rfl
                      refine uJ (i := 9) (N := some 39) (v := ?_) (a' := ?_) tb27 rfl rfl (vL HT_.out (by kernel_rfl)) (fun _ _ _ h => h) (Or.inl ⟨by rfl, ?_⟩) ?_ ?_
                      rotate_left
                      · intro w'
                        go_simp
                        with_reducible rfl
                      rotate_left
                      · simp only [Act.put, vU, vV, vW, uL, uM]
                        rfl
                      refine uJ (i := 10) (N := some 40) (v := ?_) (a' := ?_) tb7 rfl rfl (vL HT_.out (by kernel_rfl)) (fun _ _ _ h => h) (Or.inl ⟨by rfl, ?_⟩) ?_ ?_
                      rotate_left
                      · intro w'
                        go_simp
                        with_reducible rfl
                      rotate_left
                      · simp only [Act.put, vU, vV, vW, uL, uM]
                        rfl
                      exact vC (by first | (simp only [vK, Act.put, vU, vV, vW]; done) | (simp only [vK, Act.put, vU, vV, vW]; rfl)) (hJ6 (v262, v265) _ ⟨hHeld, (by (with_reducible repeat (first | apply Kd.uN | apply Kd.uO | apply Kd.uP)); exact Kd.uZ HO254.out (fun _ hk => hk.2)), (by (with_reducible repeat (first | apply Kd.uN | apply Kd.uO | apply Kd.uP)); exact Kd.uZ HO257.out (fun _ hk => hk.2)), (by (with_reducible repeat (first | apply Kd.uN | apply Kd.uO | apply Kd.uP)); exact Kd.uZ HO263.out (fun _ hk => hk.2)), (by (with_reducible repeat (first | apply Kd.uN | apply Kd.uO | apply Kd.uP)); exact Kd.uZ HO266.out (fun _ hk => hk.2)), (by (with_reducible repeat (first | refine uC ?_ _ | refine uE ?_ | refine uD ?_ _)); exact BK245.out), (by (with_reducible repeat (first | refine uC ?_ _ | refine uE ?_ | refine uD ?_ _)); exact BK259.out), (by repeat (first | (with_reducible first | exact HB.out | apply uG | apply uA | apply uF | refine uB ?_ GE245.out | refine uB ?_ GE259.out) | exact HB.out))⟩)
                    · skip
                      refine box_step ?hg (N := 8) ?hd (cs := #[.slice none 0 0, .slice none 0 0]) (t := 31) ?hr ?_; (case hd => rfl); (case hg => rfl); (case hr => first | (go_simp; done) | (go_simp; rfl))
                      intro gb270 hg w26 hbox hb
                      have n0_ := Aside0.mk (Kd.vD (by (with_reducible repeat (first | apply Kd.uN | apply Kd.uO | apply Kd.uP)); exact HO254.out) hb)
                      have n1_ := Aside0.mk (Kd.vD (by (with_reducible repeat (first | apply Kd.uN | apply Kd.uO | apply Kd.uP)); exact HO257.out) hb)
                      have n2_ := Aside0.mk (uR (g := gb245) (o := .cells #[.bool false, .int .i64 0] 33 (0, 0)) (by (with_reducible repeat (first | refine uC ?_ _ | refine uE ?_ | refine uD ?_ _)); exact BK245.out) hb)
                      have n3_ := Aside0.mk (uR (g := gb259) (o := .cells #[.slice Ao20 t252.length co20, .slice Ao23 t255.length co23] 31 (0, 0)) (by (with_reducible repeat (first | refine uC ?_ _ | refine uE ?_ | refine uD ?_ _)); exact BK259.out) hb)
                      have n4_ := Aside0.mk (uS (by repeat (first | (with_reducible first | exact HB.out | apply uG | apply uA | apply uF | refine uB ?_ GE245.out | refine uB ?_ GE259.out) | exact HB.out)) hb)
                      have n5_ := Aside0.mk (hbox)
                      have n6_ := Aside0.mk ((by rw [hg]; exact (uQ (by repeat (first | (with_reducible first | exact HB.out | apply uG | apply uA | apply uF | refine uB ?_ GE245.out | refine uB ?_ GE259.out) | exact HB.out))) : w.heap.size ≤ gb270))
                      have n7_ := Aside0.mk ((by rw [hg]; exact (uQ (by repeat (first | (with_reducible first | exact HB.out | apply uG | apply uA | apply uF | refine uB ?_ GE245.out | refine uB ?_ GE259.out) | exact HB.out))) : w.heap.size ≤ gb270))
                      have n8_ := Aside0.mk ((by rw [hg]; exact Nat.ne_of_lt (uV (g := gb245) (o := .cells #[.bool false, .int .i64 0] 33 (0, 0)) (by (with_reducible repeat (first | refine uC ?_ _ | refine uE ?_ | refine uD ?_ _)); exact BK245.out)) : gb245 ≠ gb270))
                      have n9_ := Aside0.mk ((by rw [hg]; exact Nat.ne_of_gt (uV (g := gb245) (o := .cells #[.bool false, .int .i64 0] 33 (0, 0)) (by (with_reducible repeat (first | refine uC ?_ _ | refine uE ?_ | refine uD ?_ _)); exact BK245.out)) : gb270 ≠ gb245))
                      have n10_ := Aside0.mk ((by rw [hg]; exact Nat.ne_of_lt (uV (g := gb259) (o := .cells #[.slice Ao20 t252.length co20, .slice Ao23 t255.length co23] 31 (0, 0)) (by (with_reducible repeat (first | refine uC ?_ _ | refine uE ?_ | refine uD ?_ _)); exact BK259.out)) : gb259 ≠ gb270))
                      have n11_ := Aside0.mk ((by rw [hg]; exact Nat.ne_of_gt (uV (g := gb259) (o := .cells #[.slice Ao20 t252.length co20, .slice Ao23 t255.length co23] 31 (0, 0)) (by (with_reducible repeat (first | refine uC ?_ _ | refine uE ?_ | refine uD ?_ _)); exact BK259.out)) : gb270 ≠ gb259))
                      clear HO254
                      clear HO257
                      clear BK245
                      clear BK259
                      clear HB
                      have HO254 := n0_
                      have HO257 := n1_
                      have BK245 := n2_
                      have BK259 := n3_
                      have HB := n4_
                      have BK270 := n5_
                      have GW270 := n6_
                      have GE270 := n7_
                      have NB245_270 := n8_
                      have NB270_245 := n9_
                      have NB259_270 := n10_
                      have NB270_259 := n11_
                      clear n0_ n1_ n2_ n3_ n4_ n5_ n6_ n7_ n8_ n9_ n10_ n11_
                      clear hb hbox hg
                      refine hK.out _ _ ⟨(uI BK259.out 0).trans rfl, (uI BK259.out 1).trans rfl, ((HB.out.cell (yA w _ hw260_0)).trans hw260_0), ((HB.out.cell (yA w _ hw260_1)).trans hw260_1), ((HB.out.cell (yA w _ hw260_2)).trans hw260_2), ((HB.out.cell (yA w _ hw260_3)).trans hw260_3), ((HB.out.cell (yA w _ hw260_4)).trans hw260_4), ((HB.out.cell (yA w _ hw260_5)).trans hw260_5), ((HB.out.cell (yA w _ hw260_6)).trans hw260_6)⟩ (fun hHeld => ?_)
                      clear hK K
                      refine vC (a' := ?_) ?_ ?_
                      rotate_left
                      · show Act.put _ (some 8) _ = _
                        simp only [Act.put, vU, vV, vW, uL, uM]
                        rfl
                      exact vC (by first | (simp only [vK, Act.put, vU, vV, vW]; done) | (simp only [vK, Act.put, vU, vV, vW]; rfl)) (hJ11 (gb270) _ ⟨hHeld, (by (with_reducible repeat (first | apply Kd.uN | apply Kd.uO | apply Kd.uP)); exact HO254.out), (by (with_reducible repeat (first | apply Kd.uN | apply Kd.uO | apply Kd.uP)); exact HO257.out), (by (with_reducible repeat (first | refine uC ?_ _ | refine uE ?_ | refine uD ?_ _)); exact BK245.out), (by (with_reducible repeat (first | refine uC ?_ _ | refine uE ?_ | refine uD ?_ _)); exact BK259.out), (by (with_reducible repeat (first | refine uC ?_ _ | refine uE ?_ | refine uD ?_ _)); exact BK270.out), GW270.out, GE270.out, NB245_270.out, NB270_245.out, NB259_270.out, NB270_259.out, (by repeat (first | (with_reducible first | exact HB.out | apply uG | apply uA | apply uF | refine uB ?_ GE245.out | refine uB ?_ GE259.out | refine uB ?_ GE270.out) | exact HB.out))⟩)
                    skip
                    refine box_step ?hg (N := 9) ?hd (cs := #[.bool false, .int .i64 0]) (t := 33) ?hr ?_; (case hd => rfl); (case hg => rfl); (case hr => first | (go_simp; done) | (go_simp; rfl))
                    intro gb271 hg w26 hbox hb
                    have n0_ := Aside0.mk (Kd.vD (by (with_reducible repeat (first | apply Kd.uN | apply Kd.uO | apply Kd.uP)); exact HO254.out) hb)
                    have n1_ := Aside0.mk (Kd.vD (by (with_reducible repeat (first | apply Kd.uN | apply Kd.uO | apply Kd.uP)); exact HO257.out) hb)
                    have n2_ := Aside0.mk (uR (g := gb245) (o := .cells #[.bool false, .int .i64 0] 33 (0, 0)) (by (with_reducible repeat (first | refine uC ?_ _ | refine uE ?_ | refine uD ?_ _)); exact BK245.out) hb)
                    have n3_ := Aside0.mk (uR (g := gb259) (o := .cells #[.slice Ao20 t252.length co20, .slice Ao23 t255.length co23] 31 (0, 0)) (by (with_reducible repeat (first | refine uC ?_ _ | refine uE ?_ | refine uD ?_ _)); exact BK259.out) hb)
                    have n4_ := Aside0.mk (uS (by repeat (first | (with_reducible first | exact HB.out | apply uG | apply uA | apply uF | refine uB ?_ GE245.out | refine uB ?_ GE259.out) | exact HB.out)) hb)
                    have n5_ := Aside0.mk (hbox)
                    have n6_ := Aside0.mk ((by rw [hg]; exact (uQ (by repeat (first | (with_reducible first | exact HB.out | apply uG | apply uA | apply uF | refine uB ?_ GE245.out | refine uB ?_ GE259.out) | exact HB.out))) : w.heap.size ≤ gb271))
                    have n7_ := Aside0.mk ((by rw [hg]; exact (uQ (by repeat (first | (with_reducible first | exact HB.out | apply uG | apply uA | apply uF | refine uB ?_ GE245.out | refine uB ?_ GE259.out) | exact HB.out))) : w.heap.size ≤ gb271))
                    have n8_ := Aside0.mk ((by rw [hg]; exact Nat.ne_of_lt (uV (g := gb245) (o := .cells #[.bool false, .int .i64 0] 33 (0, 0)) (by (with_reducible repeat (first | refine uC ?_ _ | refine uE ?_ | refine uD ?_ _)); exact BK245.out)) : gb245 ≠ gb271))
                    have n9_ := Aside0.mk ((by rw [hg]; exact Nat.ne_of_gt (uV (g := gb245) (o := .cells #[.bool false, .int .i64 0] 33 (0, 0)) (by (with_reducible repeat (first | refine uC ?_ _ | refine uE ?_ | refine uD ?_ _)); exact BK245.out)) : gb271 ≠ gb245))
                    have n10_ := Aside0.mk ((by rw [hg]; exact Nat.ne_of_lt (uV (g := gb259) (o := .cells #[.slice Ao20 t252.length co20, .slice Ao23 t255.length co23] 31 (0, 0)) (by (with_reducible repeat (first | refine uC ?_ _ | refine uE ?_ | refine uD ?_ _)); exact BK259.out)) : gb259 ≠ gb271))
                    have n11_ := Aside0.mk ((by rw [hg]; exact Nat.ne_of_gt (uV (g := gb259) (o := .cells #[.slice Ao20 t252.length co20, .slice Ao23 t255.length co23] 31 (0, 0)) (by (with_reducible repeat (first | refine uC ?_ _ | refine uE ?_ | refine uD ?_ _)); exact BK259.out)) : gb271 ≠ gb259))
                    clear HO254
                    clear HO257
                    clear BK245
                    clear BK259
                    clear HB
                    have HO254 := n0_
                    have HO257 := n1_
                    have BK245 := n2_
                    have BK259 := n3_
                    have HB := n4_
                    have BK271 := n5_
                    have GW271 := n6_
                    have GE271 := n7_
                    have NB245_271 := n8_
                    have NB271_245 := n9_
                    have NB259_271 := n10_
                    have NB271_259 := n11_
                    clear n0_ n1_ n2_ n3_ n4_ n5_ n6_ n7_ n8_ n9_ n10_ n11_
                    clear hb hbox hg
                    refine hK.out _ _ ⟨(uI BK259.out 0).trans rfl, (uI BK259.out 1).trans rfl, ((HB.out.cell (yA w _ hw260_0)).trans hw260_0), ((HB.out.cell (yA w _ hw260_1)).trans hw260_1), ((HB.out.cell (yA w _ hw260_2)).trans hw260_2), ((HB.out.cell (yA w _ hw260_3)).trans hw260_3), ((HB.out.cell (yA w _ hw260_4)).trans hw260_4), ((HB.out.cell (yA w _ hw260_5)).trans hw260_5), ((HB.out.cell (yA w _ hw260_6)).trans hw260_6)⟩ (fun hHeld => ?_)
                    clear hK K
                    refine vC (a' := ?_) ?_ ?_
                    rotate_left
                    · show Act.put _ (some 9) _ = _
                      simp only [Act.put, vU, vV, vW, uL, uM]
                      rfl
                    exact vC (by first | (simp only [vK, Act.put, vU, vV, vW]; done) | (simp only [vK, Act.put, vU, vV, vW]; rfl)) (hJ12 (gb271) _ ⟨hHeld, (by (with_reducible repeat (first | apply Kd.uN | apply Kd.uO | apply Kd.uP)); exact HO254.out), (by (with_reducible repeat (first | apply Kd.uN | apply Kd.uO | apply Kd.uP)); exact HO257.out), (by (with_reducible repeat (first | refine uC ?_ _ | refine uE ?_ | refine uD ?_ _)); exact BK245.out), (by (with_reducible repeat (first | refine uC ?_ _ | refine uE ?_ | refine uD ?_ _)); exact BK259.out), (by (with_reducible repeat (first | refine uC ?_ _ | refine uE ?_ | refine uD ?_ _)); exact BK271.out), GW271.out, GE271.out, NB245_271.out, NB271_245.out, NB259_271.out, NB271_259.out, (by repeat (first | (with_reducible first | exact HB.out | apply uG | apply uA | apply uF | refine uB ?_ GE245.out | refine uB ?_ GE259.out | refine uB ?_ GE271.out) | exact HB.out))⟩)
                  skip
                  rintro gb271 w27 ⟨hS_, h0_, h1_, h2_, h3_, h4_, h5_, h6_, h7_, h8_, h9_, h10_, h11_⟩
                  have n0_ : Aside0 (Kd.R (Kd.int .i64) 3 w27 w.heap.size (fun _ => True) (.slice Ao20 t252.length co20) t252) := ⟨h0_⟩
                  have n1_ : Aside0 (Kd.R k49 49 w27 w.heap.size (fun _ => True) (.slice Ao23 t255.length co23) t255) := ⟨h1_⟩
                  have n2_ : Aside0 (w27.heap[gb245]? = some (.cells #[.bool false, .int .i64 0] 33 (0, 0))) := ⟨h2_⟩
                  have n3_ : Aside0 (w27.heap[gb259]? = some (.cells #[.slice Ao20 t252.length co20, .slice Ao23 t255.length co23] 31 (0, 0))) := ⟨h3_⟩
                  have n4_ : Aside0 (w27.heap[gb271]? = some (.cells #[.bool false, .int .i64 0] 33 (0, 0))) := ⟨h4_⟩
                  have n5_ : Aside0 (w.heap.size ≤ gb271) := ⟨h5_⟩
                  have n6_ : Aside0 (w.heap.size ≤ gb271) := ⟨h6_⟩
                  have n7_ : Aside0 (gb245 ≠ gb271) := ⟨h7_⟩
                  have n8_ : Aside0 (gb271 ≠ gb245) := ⟨h8_⟩
                  have n9_ : Aside0 (gb259 ≠ gb271) := ⟨h9_⟩
                  have n10_ : Aside0 (gb271 ≠ gb259) := ⟨h10_⟩
                  have n11_ : Aside0 (Below w.heap.size w w27) := ⟨h11_⟩
                  clear HO254
                  clear HO257
                  clear BK245
                  clear BK259
                  clear HB
                  clear h0_ h1_ h2_ h3_ h4_ h5_ h6_ h7_ h8_ h9_ h10_ h11_
                  have HO254 := n0_
                  have HO257 := n1_
                  have BK245 := n2_
                  have BK259 := n3_
                  have BK271 := n4_
                  have GW271 := n5_
                  have GE271 := n6_
                  have NB245_271 := n7_
                  have NB271_245 := n8_
                  have NB259_271 := n9_
                  have NB271_259 := n10_
                  have HB := n11_
                  clear n0_ n1_ n2_ n3_ n4_ n5_ n6_ n7_ n8_ n9_ n10_ n11_
                  have hHeld : w27.cell? ⟨gb259, 0, none⟩ = some (.slice Ao20 t252.length co20) ∧ w27.cell? ⟨gb259, 1, none⟩ = some (.slice Ao23 t255.length co23) ∧ w27.cell? (ad260.add ((a1).toNat * 7)) = some (.int .i64 ((rd_T72 l0 a1).f0)) ∧ w27.cell? ⟨(ad260.add ((a1).toNat * 7)).block, (ad260.add ((a1).toNat * 7)).off + 1, none⟩ = some (.int .i64 ((rd_T72 l0 a1).f1.f0)) ∧ w27.cell? ⟨(ad260.add ((a1).toNat * 7)).block, (ad260.add ((a1).toNat * 7)).off + 2, none⟩ = some (.int .i64 ((rd_T72 l0 a1).f1.f1)) ∧ w27.cell? ⟨(ad260.add ((a1).toNat * 7)).block, (ad260.add ((a1).toNat * 7)).off + 3, none⟩ = some (.int .i64 ((rd_T72 l0 a1).f1.f2)) ∧ w27.cell? ⟨(ad260.add ((a1).toNat * 7)).block, (ad260.add ((a1).toNat * 7)).off + 4, none⟩ = some (.int .i64 ((rd_T72 l0 a1).f1.f3)) ∧ w27.cell? ⟨(ad260.add ((a1).toNat * 7)).block, (ad260.add ((a1).toNat * 7)).off + 5, none⟩ = some (.int .i64 ((rd_T72 l0 a1).f1.f4)) ∧ w27.cell? ⟨(ad260.add ((a1).toNat * 7)).block, (ad260.add ((a1).toNat * 7)).off + 6, none⟩ = some (.int .i64 ((rd_T72 l0 a1).f1.f5)) := hS_
                  refine vC (a' := ?_) ?_ ?_
                  rotate_left
                  · simp only [vK, Act.put, vU, vV, vW]
                    rfl
                  refine two_ (i := 6) (j := 11) (Ni := some 37) (Nj := some 8) tb21 tb1 rfl rfl rfl rfl (two_of HT_.out (by kernel_rfl)) (by decide) (by decide) (fun K hK => ?_) (fun K hK => ?_)
                  · skip
                    refine goes_ Try.func12 (by kernel_rfl) rfl #[.agg #[.slice Ao20 t252.length co20, .slice Ao23 t255.length co23], .agg #[.int .i64 ((rd_T72 l0 a1).f1.f0), .int .i64 ((rd_T72 l0 a1).f1.f1), .int .i64 ((rd_T72 l0 a1).f1.f2), .int .i64 ((rd_T72 l0 a1).f1.f3), .int .i64 ((rd_T72 l0 a1).f1.f4), .int .i64 ((rd_T72 l0 a1).f1.f5)]] (by rfl) rfl rfl (by (try simp only [vX, List.map_cons, List.map_nil]); first | done | rfl | (simp only [vZ, vY]; rfl)) ?_
                    with_reducible refine (impl_ApplyOp.calls kj2 _ _ t252 _ _ t255 ((rd_T72 l0 a1).f1.f0) ((rd_T72 l0 a1).f1.f1) ((rd_T72 l0 a1).f1.f2) ((rd_T72 l0 a1).f1.f3) ((rd_T72 l0 a1).f1.f4) ((rd_T72 l0 a1).f1.f5) t261 t264 t267 t268 t269 _ ?side1 ?side2 ?side3 ?side4 A16.out).mono ?_
                    (case side1 => repeat (first | exact (Kd.vH HO254.out).2.2 | (with_reducible refine Kd.vQ ?_ _) | (with_reducible refine Kd.vP ?_ _) | (with_reducible refine Kd.vS ?_)))
                    (case side2 => exact (Kd.vH HO254.out).2.1)
                    (case side3 => repeat (first | exact (Kd.vH HO257.out).2.2 | (with_reducible refine Kd.vQ ?_ _) | (with_reducible refine Kd.vP ?_ _) | (with_reducible refine Kd.vS ?_)))
                    (case side4 => exact (Kd.vH HO257.out).2.1)
                    rintro e w28 ⟨v262, v265, rfl, ho0, ho1, hb⟩
                    refine ⟨_, rfl, ?_⟩
                    have n0_ := Aside0.mk (Kd.R_elder' (by (with_reducible repeat (first | apply Kd.uN | apply Kd.uO | apply Kd.uP)); exact HO254.out) (Kd.R_base ho0) hb)
                    have n1_ := Aside0.mk (Kd.R_elder' (by (with_reducible repeat (first | apply Kd.uN | apply Kd.uO | apply Kd.uP)); exact HO257.out) (Kd.R_base ho1) hb)
                    have n2_ := Aside0.mk (Kd.vO (Kd.R_new' ho0 (Kd.R_lt (by (with_reducible repeat (first | apply Kd.uN | apply Kd.uO | apply Kd.uP)); exact HO254.out))) (uQ (by repeat (first | (with_reducible first | exact HB.out | apply uG | apply uA | apply uF | refine uB ?_ GE245.out | refine uB ?_ GE259.out | refine uB ?_ GE271.out) | exact HB.out))))
                    have n3_ := Aside0.mk (Kd.vO (Kd.R_new' ho1 (Kd.R_lt (by (with_reducible repeat (first | apply Kd.uN | apply Kd.uO | apply Kd.uP)); exact HO257.out))) (uQ (by repeat (first | (with_reducible first | exact HB.out | apply uG | apply uA | apply uF | refine uB ?_ GE245.out | refine uB ?_ GE259.out | refine uB ?_ GE271.out) | exact HB.out))))
                    have n4_ := Aside0.mk (uR (g := gb245) (o := .cells #[.bool false, .int .i64 0] 33 (0, 0)) (by (with_reducible repeat (first | refine uC ?_ _ | refine uE ?_ | refine uD ?_ _)); exact BK245.out) hb)
                    have n5_ := Aside0.mk (uR (g := gb259) (o := .cells #[.slice Ao20 t252.length co20, .slice Ao23 t255.length co23] 31 (0, 0)) (by (with_reducible repeat (first | refine uC ?_ _ | refine uE ?_ | refine uD ?_ _)); exact BK259.out) hb)
                    have n6_ := Aside0.mk (uR (g := gb271) (o := .cells #[.bool false, .int .i64 0] 33 (0, 0)) (by (with_reducible repeat (first | refine uC ?_ _ | refine uE ?_ | refine uD ?_ _)); exact BK271.out) hb)
                    have n7_ := Aside0.mk (uS (by repeat (first | (with_reducible first | exact HB.out | apply uG | apply uA | apply uF | refine uB ?_ GE245.out | refine uB ?_ GE259.out | refine uB ?_ GE271.out) | exact HB.out)) hb)
                    clear HO254
                    clear HO257
                    clear BK245
                    clear BK259
                    clear BK271
                    clear HB
                    have HO254 := n0_
                    have HO257 := n1_
                    have HO263 := n2_
                    have HO266 := n3_
                    have BK245 := n4_
                    have BK259 := n5_
                    have BK271 := n6_
                    have HB := n7_
                    clear n0_ n1_ n2_ n3_ n4_ n5_ n6_ n7_
                    (try clear hb)
                    (try clear hb2)
                    (try clear hk)
                    (try clear hi)
                    (try clear ho0)
                    (try clear ho1)
                    refine hK.out _ _ ⟨(uI BK259.out 0).trans rfl, (uI BK259.out 1).trans rfl, ((HB.out.cell (yA w _ hw260_0)).trans hw260_0), ((HB.out.cell (yA w _ hw260_1)).trans hw260_1), ((HB.out.cell (yA w _ hw260_2)).trans hw260_2), ((HB.out.cell (yA w _ hw260_3)).trans hw260_3), ((HB.out.cell (yA w _ hw260_4)).trans hw260_4), ((HB.out.cell (yA w _ hw260_5)).trans hw260_5), ((HB.out.cell (yA w _ hw260_6)).trans hw260_6)⟩ (fun hHeld => ?_)
                    clear hK K
                    refine vC (a' := ?_) ?_ ?_
                    rotate_left
                    · show Act.put _ (some 37) _ = _
                      simp only [Act.put, vU, vV, vW, uL, uM]
                      rfl
                    refine uJ (i := 7) (N := some 30) (v := ?_) (a' := ?_) tb24 rfl rfl (vL HT_.out (by kernel_rfl)) (fun _ _ _ h => h) (Or.inl ⟨by rfl, ?_⟩) ?_ ?_
                    rotate_left
                    · intro w'
                      go_simp
                      with_reducible rfl
                    rotate_left
                    · simp only [Act.put, vU, vV, vW, uL, uM]
                      rfl
                    refine uJ (i := 8) (N := some 38) (v := ?_) (a' := ?_) tb28 rfl rfl (vL HT_.out (by kernel_rfl)) (fun _ _ _ h => h) (Or.inl ⟨by rfl, ?_⟩) ?_ ?_
                    rotate_left
                    · intro w'
                      go_simp
                      with_reducible rfl
                    rotate_left
                    · simp only [Act.put, vU, vV, vW, uL, uM]
                      rfl
                    refine uJ (i := 9) (N := some 39) (v := ?_) (a' := ?_) tb31 rfl rfl (vL HT_.out (by kernel_rfl)) (fun _ _ _ h => h) (Or.inl ⟨by rfl, ?_⟩) ?_ ?_
                    rotate_left
                    · intro w'
                      go_simp
                      with_reducible rfl
                    rotate_left
                    · simp only [Act.put, vU, vV, vW, uL, uM]
                      rfl
                    refine uJ (i := 10) (N := some 40) (v := ?_) (a' := ?_) tb3 rfl rfl (vL HT_.out (by kernel_rfl)) (fun _ _ _ h => h) (Or.inl ⟨by rfl, ?_⟩) ?_ ?_
                    rotate_left
                    · intro w'
                      go_simp
                      with_reducible rfl
                    rotate_left
                    · simp only [Act.put, vU, vV, vW, uL, uM]
                      rfl
                    exact vC (by first | (simp only [vK, Act.put, vU, vV, vW]; done) | (simp only [vK, Act.put, vU, vV, vW]; rfl)) (hJ6_12 (v262, v265, gb271) _ ⟨hHeld, (by (with_reducible repeat (first | apply Kd.uN | apply Kd.uO | apply Kd.uP)); exact Kd.uZ HO254.out (fun _ hk => hk.2)), (by (with_reducible repeat (first | apply Kd.uN | apply Kd.uO | apply Kd.uP)); exact Kd.uZ HO257.out (fun _ hk => hk.2)), (by (with_reducible repeat (first | apply Kd.uN | apply Kd.uO | apply Kd.uP)); exact Kd.uZ HO263.out (fun _ hk => hk.2)), (by (with_reducible repeat (first | apply Kd.uN | apply Kd.uO | apply Kd.uP)); exact Kd.uZ HO266.out (fun _ hk => hk.2)), (by (with_reducible repeat (first | refine uC ?_ _ | refine uE ?_ | refine uD ?_ _)); exact BK245.out), (by (with_reducible repeat (first | refine uC ?_ _ | refine uE ?_ | refine uD ?_ _)); exact BK259.out), (by (with_reducible repeat (first | refine uC ?_ _ | refine uE ?_ | refine uD ?_ _)); exact BK271.out), GW271.out, GE271.out, NB245_271.out, NB271_245.out, NB259_271.out, NB271_259.out, (by repeat (first | (with_reducible first | exact HB.out | apply uG | apply uA | apply uF | refine uB ?_ GE245.out | refine uB ?_ GE259.out | refine uB ?_ GE271.out) | exact HB.out))⟩)
                  skip
                  refine box_step ?hg (N := 8) ?hd (cs := #[.slice none 0 0, .slice none 0 0]) (t := 31) ?hr ?_; (case hd => rfl); (case hg => rfl); (case hr => first | (go_simp; done) | (go_simp; rfl))
                  intro gb270 hg w28 hbox hb
                  have n0_ := Aside0.mk (Kd.vD (by (with_reducible repeat (first | apply Kd.uN | apply Kd.uO | apply Kd.uP)); exact HO254.out) hb)
                  have n1_ := Aside0.mk (Kd.vD (by (with_reducible repeat (first | apply Kd.uN | apply Kd.uO | apply Kd.uP)); exact HO257.out) hb)
                  have n2_ := Aside0.mk (uR (g := gb245) (o := .cells #[.bool false, .int .i64 0] 33 (0, 0)) (by (with_reducible repeat (first | refine uC ?_ _ | refine uE ?_ | refine uD ?_ _)); exact BK245.out) hb)
                  have n3_ := Aside0.mk (uR (g := gb259) (o := .cells #[.slice Ao20 t252.length co20, .slice Ao23 t255.length co23] 31 (0, 0)) (by (with_reducible repeat (first | refine uC ?_ _ | refine uE ?_ | refine uD ?_ _)); exact BK259.out) hb)
                  have n4_ := Aside0.mk (uR (g := gb271) (o := .cells #[.bool false, .int .i64 0] 33 (0, 0)) (by (with_reducible repeat (first | refine uC ?_ _ | refine uE ?_ | refine uD ?_ _)); exact BK271.out) hb)
                  have n5_ := Aside0.mk (uS (by repeat (first | (with_reducible first | exact HB.out | apply uG | apply uA | apply uF | refine uB ?_ GE245.out | refine uB ?_ GE259.out | refine uB ?_ GE271.out) | exact HB.out)) hb)
                  have n6_ := Aside0.mk (hbox)
                  have n7_ := Aside0.mk ((by rw [hg]; exact (uQ (by repeat (first | (with_reducible first | exact HB.out | apply uG | apply uA | apply uF | refine uB ?_ GE245.out | refine uB ?_ GE259.out | refine uB ?_ GE271.out) | exact HB.out))) : w.heap.size ≤ gb270))
                  have n8_ := Aside0.mk ((by rw [hg]; exact (uQ (by repeat (first | (with_reducible first | exact HB.out | apply uG | apply uA | apply uF | refine uB ?_ GE245.out | refine uB ?_ GE259.out | refine uB ?_ GE271.out) | exact HB.out))) : w.heap.size ≤ gb270))
                  have n9_ := Aside0.mk ((by rw [hg]; exact Nat.ne_of_lt (uV (g := gb245) (o := .cells #[.bool false, .int .i64 0] 33 (0, 0)) (by (with_reducible repeat (first | refine uC ?_ _ | refine uE ?_ | refine uD ?_ _)); exact BK245.out)) : gb245 ≠ gb270))
                  have n10_ := Aside0.mk ((by rw [hg]; exact Nat.ne_of_gt (uV (g := gb245) (o := .cells #[.bool false, .int .i64 0] 33 (0, 0)) (by (with_reducible repeat (first | refine uC ?_ _ | refine uE ?_ | refine uD ?_ _)); exact BK245.out)) : gb270 ≠ gb245))
                  have n11_ := Aside0.mk ((by rw [hg]; exact Nat.ne_of_lt (uV (g := gb259) (o := .cells #[.slice Ao20 t252.length co20, .slice Ao23 t255.length co23] 31 (0, 0)) (by (with_reducible repeat (first | refine uC ?_ _ | refine uE ?_ | refine uD ?_ _)); exact BK259.out)) : gb259 ≠ gb270))
                  have n12_ := Aside0.mk ((by rw [hg]; exact Nat.ne_of_gt (uV (g := gb259) (o := .cells #[.slice Ao20 t252.length co20, .slice Ao23 t255.length co23] 31 (0, 0)) (by (with_reducible repeat (first | refine uC ?_ _ | refine uE ?_ | refine uD ?_ _)); exact BK259.out)) : gb270 ≠ gb259))
                  have n13_ := Aside0.mk ((by rw [hg]; exact Nat.ne_of_lt (uV (g := gb271) (o := .cells #[.bool false, .int .i64 0] 33 (0, 0)) (by (with_reducible repeat (first | refine uC ?_ _ | refine uE ?_ | refine uD ?_ _)); exact BK271.out)) : gb271 ≠ gb270))
                  have n14_ := Aside0.mk ((by rw [hg]; exact Nat.ne_of_gt (uV (g := gb271) (o := .cells #[.bool false, .int .i64 0] 33 (0, 0)) (by (with_reducible repeat (first | refine uC ?_ _ | refine uE ?_ | refine uD ?_ _)); exact BK271.out)) : gb270 ≠ gb271))
                  clear HO254
                  clear HO257
                  clear BK245
                  clear BK259
                  clear BK271
                  clear HB
                  have HO254 := n0_
                  have HO257 := n1_
                  have BK245 := n2_
                  have BK259 := n3_
                  have BK271 := n4_
                  have HB := n5_
                  have BK270 := n6_
                  have GW270 := n7_
                  have GE270 := n8_
                  have NB245_270 := n9_
                  have NB270_245 := n10_
                  have NB259_270 := n11_
                  have NB270_259 := n12_
                  have NB271_270 := n13_
                  have NB270_271 := n14_
                  clear n0_ n1_ n2_ n3_ n4_ n5_ n6_ n7_ n8_ n9_ n10_ n11_ n12_ n13_ n14_
                  clear hb hbox hg
                  refine hK.out _ _ ⟨(uI BK259.out 0).trans rfl, (uI BK259.out 1).trans rfl, ((HB.out.cell (yA w _ hw260_0)).trans hw260_0), ((HB.out.cell (yA w _ hw260_1)).trans hw260_1), ((HB.out.cell (yA w _ hw260_2)).trans hw260_2), ((HB.out.cell (yA w _ hw260_3)).trans hw260_3), ((HB.out.cell (yA w _ hw260_4)).trans hw260_4), ((HB.out.cell (yA w _ hw260_5)).trans hw260_5), ((HB.out.cell (yA w _ hw260_6)).trans hw260_6)⟩ (fun hHeld => ?_)
                  clear hK K
                  refine vC (a' := ?_) ?_ ?_
                  rotate_left
                  · show Act.put _ (some 8) _ = _
                    simp only [Act.put, vU, vV, vW, uL, uM]
                    rfl
                  exact vC (by first | (simp only [vK, Act.put, vU, vV, vW]; done) | (simp only [vK, Act.put, vU, vV, vW]; rfl)) (hJ11_12 (gb270, gb271) _ ⟨hHeld, (by (with_reducible repeat (first | apply Kd.uN | apply Kd.uO | apply Kd.uP)); exact HO254.out), (by (with_reducible repeat (first | apply Kd.uN | apply Kd.uO | apply Kd.uP)); exact HO257.out), (by (with_reducible repeat (first | refine uC ?_ _ | refine uE ?_ | refine uD ?_ _)); exact BK245.out), (by (with_reducible repeat (first | refine uC ?_ _ | refine uE ?_ | refine uD ?_ _)); exact BK259.out), (by (with_reducible repeat (first | refine uC ?_ _ | refine uE ?_ | refine uD ?_ _)); exact BK270.out), (by (with_reducible repeat (first | refine uC ?_ _ | refine uE ?_ | refine uD ?_ _)); exact BK271.out), GW270.out, GE270.out, NB245_270.out, NB270_245.out, NB259_270.out, NB270_259.out, NB271_270.out, NB270_271.out, GW271.out, GE271.out, NB245_271.out, NB271_245.out, NB259_271.out, NB271_259.out, (by repeat (first | (with_reducible first | exact HB.out | apply uG | apply uA | apply uF | refine uB ?_ GE245.out | refine uB ?_ GE259.out | refine uB ?_ GE271.out | refine uB ?_ GE270.out) | exact HB.out))⟩)
                skip
                rintro gb270 w27 ⟨hS_, h0_, h1_, h2_, h3_, h4_, h5_, h6_, h7_, h8_, h9_, h10_, h11_⟩
                have n0_ : Aside0 (Kd.R (Kd.int .i64) 3 w27 w.heap.size (fun _ => True) (.slice Ao20 t252.length co20) t252) := ⟨h0_⟩
                have n1_ : Aside0 (Kd.R k49 49 w27 w.heap.size (fun _ => True) (.slice Ao23 t255.length co23) t255) := ⟨h1_⟩
                have n2_ : Aside0 (w27.heap[gb245]? = some (.cells #[.bool false, .int .i64 0] 33 (0, 0))) := ⟨h2_⟩
                have n3_ : Aside0 (w27.heap[gb259]? = some (.cells #[.slice Ao20 t252.length co20, .slice Ao23 t255.length co23] 31 (0, 0))) := ⟨h3_⟩
                have n4_ : Aside0 (w27.heap[gb270]? = some (.cells #[.slice none 0 0, .slice none 0 0] 31 (0, 0))) := ⟨h4_⟩
                have n5_ : Aside0 (w.heap.size ≤ gb270) := ⟨h5_⟩
                have n6_ : Aside0 (w.heap.size ≤ gb270) := ⟨h6_⟩
                have n7_ : Aside0 (gb245 ≠ gb270) := ⟨h7_⟩
                have n8_ : Aside0 (gb270 ≠ gb245) := ⟨h8_⟩
                have n9_ : Aside0 (gb259 ≠ gb270) := ⟨h9_⟩
                have n10_ : Aside0 (gb270 ≠ gb259) := ⟨h10_⟩
                have n11_ : Aside0 (Below w.heap.size w w27) := ⟨h11_⟩
                clear HO254
                clear HO257
                clear BK245
                clear BK259
                clear HB
                clear h0_ h1_ h2_ h3_ h4_ h5_ h6_ h7_ h8_ h9_ h10_ h11_
                have HO254 := n0_
                have HO257 := n1_
                have BK245 := n2_
                have BK259 := n3_
                have BK270 := n4_
                have GW270 := n5_
                have GE270 := n6_
                have NB245_270 := n7_
                have NB270_245 := n8_
                have NB259_270 := n9_
                have NB270_259 := n10_
                have HB := n11_
                clear n0_ n1_ n2_ n3_ n4_ n5_ n6_ n7_ n8_ n9_ n10_ n11_
                have hHeld : w27.cell? ⟨gb259, 0, none⟩ = some (.slice Ao20 t252.length co20) ∧ w27.cell? ⟨gb259, 1, none⟩ = some (.slice Ao23 t255.length co23) ∧ w27.cell? (ad260.add ((a1).toNat * 7)) = some (.int .i64 ((rd_T72 l0 a1).f0)) ∧ w27.cell? ⟨(ad260.add ((a1).toNat * 7)).block, (ad260.add ((a1).toNat * 7)).off + 1, none⟩ = some (.int .i64 ((rd_T72 l0 a1).f1.f0)) ∧ w27.cell? ⟨(ad260.add ((a1).toNat * 7)).block, (ad260.add ((a1).toNat * 7)).off + 2, none⟩ = some (.int .i64 ((rd_T72 l0 a1).f1.f1)) ∧ w27.cell? ⟨(ad260.add ((a1).toNat * 7)).block, (ad260.add ((a1).toNat * 7)).off + 3, none⟩ = some (.int .i64 ((rd_T72 l0 a1).f1.f2)) ∧ w27.cell? ⟨(ad260.add ((a1).toNat * 7)).block, (ad260.add ((a1).toNat * 7)).off + 4, none⟩ = some (.int .i64 ((rd_T72 l0 a1).f1.f3)) ∧ w27.cell? ⟨(ad260.add ((a1).toNat * 7)).block, (ad260.add ((a1).toNat * 7)).off + 5, none⟩ = some (.int .i64 ((rd_T72 l0 a1).f1.f4)) ∧ w27.cell? ⟨(ad260.add ((a1).toNat * 7)).block, (ad260.add ((a1).toNat * 7)).off + 6, none⟩ = some (.int .i64 ((rd_T72 l0 a1).f1.f5)) := hS_
                refine vC (a' := ?_) ?_ ?_
                rotate_left
                · simp only [vK, Act.put, vU, vV, vW]
                  rfl
                refine two_ (i := 6) (j := 12) (Ni := some 37) (Nj := some 9) tb22 tb1 rfl rfl rfl rfl (two_of HT_.out (by kernel_rfl)) (by decide) (by decide) (fun K hK => ?_) (fun K hK => ?_)
                · skip
                  refine goes_ Try.func12 (by kernel_rfl) rfl #[.agg #[.slice Ao20 t252.length co20, .slice Ao23 t255.length co23], .agg #[.int .i64 ((rd_T72 l0 a1).f1.f0), .int .i64 ((rd_T72 l0 a1).f1.f1), .int .i64 ((rd_T72 l0 a1).f1.f2), .int .i64 ((rd_T72 l0 a1).f1.f3), .int .i64 ((rd_T72 l0 a1).f1.f4), .int .i64 ((rd_T72 l0 a1).f1.f5)]] (by rfl) rfl rfl (by (try simp only [vX, List.map_cons, List.map_nil]); first | done | rfl | (simp only [vZ, vY]; rfl)) ?_
                  with_reducible refine (impl_ApplyOp.calls kj2 _ _ t252 _ _ t255 ((rd_T72 l0 a1).f1.f0) ((rd_T72 l0 a1).f1.f1) ((rd_T72 l0 a1).f1.f2) ((rd_T72 l0 a1).f1.f3) ((rd_T72 l0 a1).f1.f4) ((rd_T72 l0 a1).f1.f5) t261 t264 t267 t268 t269 _ ?side1 ?side2 ?side3 ?side4 A16.out).mono ?_
                  (case side1 => repeat (first | exact (Kd.vH HO254.out).2.2 | (with_reducible refine Kd.vQ ?_ _) | (with_reducible refine Kd.vP ?_ _) | (with_reducible refine Kd.vS ?_)))
                  (case side2 => exact (Kd.vH HO254.out).2.1)
                  (case side3 => repeat (first | exact (Kd.vH HO257.out).2.2 | (with_reducible refine Kd.vQ ?_ _) | (with_reducible refine Kd.vP ?_ _) | (with_reducible refine Kd.vS ?_)))
                  (case side4 => exact (Kd.vH HO257.out).2.1)
                  rintro e w28 ⟨v262, v265, rfl, ho0, ho1, hb⟩
                  refine ⟨_, rfl, ?_⟩
                  have n0_ := Aside0.mk (Kd.R_elder' (by (with_reducible repeat (first | apply Kd.uN | apply Kd.uO | apply Kd.uP)); exact HO254.out) (Kd.R_base ho0) hb)
                  have n1_ := Aside0.mk (Kd.R_elder' (by (with_reducible repeat (first | apply Kd.uN | apply Kd.uO | apply Kd.uP)); exact HO257.out) (Kd.R_base ho1) hb)
                  have n2_ := Aside0.mk (Kd.vO (Kd.R_new' ho0 (Kd.R_lt (by (with_reducible repeat (first | apply Kd.uN | apply Kd.uO | apply Kd.uP)); exact HO254.out))) (uQ (by repeat (first | (with_reducible first | exact HB.out | apply uG | apply uA | apply uF | refine uB ?_ GE245.out | refine uB ?_ GE259.out | refine uB ?_ GE270.out) | exact HB.out))))
                  have n3_ := Aside0.mk (Kd.vO (Kd.R_new' ho1 (Kd.R_lt (by (with_reducible repeat (first | apply Kd.uN | apply Kd.uO | apply Kd.uP)); exact HO257.out))) (uQ (by repeat (first | (with_reducible first | exact HB.out | apply uG | apply uA | apply uF | refine uB ?_ GE245.out | refine uB ?_ GE259.out | refine uB ?_ GE270.out) | exact HB.out))))
                  have n4_ := Aside0.mk (uR (g := gb245) (o := .cells #[.bool false, .int .i64 0] 33 (0, 0)) (by (with_reducible repeat (first | refine uC ?_ _ | refine uE ?_ | refine uD ?_ _)); exact BK245.out) hb)
                  have n5_ := Aside0.mk (uR (g := gb259) (o := .cells #[.slice Ao20 t252.length co20, .slice Ao23 t255.length co23] 31 (0, 0)) (by (with_reducible repeat (first | refine uC ?_ _ | refine uE ?_ | refine uD ?_ _)); exact BK259.out) hb)
                  have n6_ := Aside0.mk (uR (g := gb270) (o := .cells #[.slice none 0 0, .slice none 0 0] 31 (0, 0)) (by (with_reducible repeat (first | refine uC ?_ _ | refine uE ?_ | refine uD ?_ _)); exact BK270.out) hb)
                  have n7_ := Aside0.mk (uS (by repeat (first | (with_reducible first | exact HB.out | apply uG | apply uA | apply uF | refine uB ?_ GE245.out | refine uB ?_ GE259.out | refine uB ?_ GE270.out) | exact HB.out)) hb)
                  clear HO254
                  clear HO257
                  clear BK245
                  clear BK259
                  clear BK270
                  clear HB
                  have HO254 := n0_
                  have HO257 := n1_
                  have HO263 := n2_
                  have HO266 := n3_
                  have BK245 := n4_
                  have BK259 := n5_
                  have BK270 := n6_
                  have HB := n7_
                  clear n0_ n1_ n2_ n3_ n4_ n5_ n6_ n7_
                  (try clear hb)
                  (try clear hb2)
                  (try clear hk)
                  (try clear hi)
                  (try clear ho0)
                  (try clear ho1)
                  refine hK.out _ _ ⟨(uI BK259.out 0).trans rfl, (uI BK259.out 1).trans rfl, ((HB.out.cell (yA w _ hw260_0)).trans hw260_0), ((HB.out.cell (yA w _ hw260_1)).trans hw260_1), ((HB.out.cell (yA w _ hw260_2)).trans hw260_2), ((HB.out.cell (yA w _ hw260_3)).trans hw260_3), ((HB.out.cell (yA w _ hw260_4)).trans hw260_4), ((HB.out.cell (yA w _ hw260_5)).trans hw260_5), ((HB.out.cell (yA w _ hw260_6)).trans hw260_6)⟩ (fun hHeld => ?_)
                  clear hK K
                  refine vC (a' := ?_) ?_ ?_
                  rotate_left
                  · show Act.put _ (some 37) _ = _
                    simp only [Act.put, vU, vV, vW, uL, uM]
                    rfl
                  refine uJ (i := 7) (N := some 30) (v := ?_) (a' := ?_) tb25 rfl rfl (vL HT_.out (by kernel_rfl)) (fun _ _ _ h => h) (Or.inl ⟨by rfl, ?_⟩) ?_ ?_
                  rotate_left
                  · intro w'
                    go_simp
                    with_reducible rfl
                  rotate_left
                  · simp only [Act.put, vU, vV, vW, uL, uM]
                    rfl
                  refine uJ (i := 8) (N := some 38) (v := ?_) (a' := ?_) tb29 rfl rfl (vL HT_.out (by kernel_rfl)) (fun _ _ _ h => h) (Or.inl ⟨by rfl, ?_⟩) ?_ ?_
                  rotate_left
                  · intro w'
                    go_simp
                    with_reducible rfl
                  rotate_left
                  · simp only [Act.put, vU, vV, vW, uL, uM]
                    rfl
                  refine uJ (i := 9) (N := some 39) (v := ?_) (a' := ?_) tb32 rfl rfl (vL HT_.out (by kernel_rfl)) (fun _ _ _ h => h) (Or.inl ⟨by rfl, ?_⟩) ?_ ?_
                  rotate_left
                  · intro w'
                    go_simp
                    with_reducible rfl
                  rotate_left
                  · simp only [Act.put, vU, vV, vW, uL, uM]
                    rfl
                  refine uJ (i := 10) (N := some 40) (v := ?_) (a' := ?_) tb2 rfl rfl (vL HT_.out (by kernel_rfl)) (fun _ _ _ h => h) (Or.inl ⟨by rfl, ?_⟩) ?_ ?_
                  rotate_left
                  · intro w'
                    go_simp
                    with_reducible rfl
                  rotate_left
                  · simp only [Act.put, vU, vV, vW, uL, uM]
                    rfl
                  exact vC (by first | (simp only [vK, Act.put, vU, vV, vW]; done) | (simp only [vK, Act.put, vU, vV, vW]; rfl)) (hJ6_11 (v262, v265, gb270) _ ⟨hHeld, (by (with_reducible repeat (first | apply Kd.uN | apply Kd.uO | apply Kd.uP)); exact Kd.uZ HO254.out (fun _ hk => hk.2)), (by (with_reducible repeat (first | apply Kd.uN | apply Kd.uO | apply Kd.uP)); exact Kd.uZ HO257.out (fun _ hk => hk.2)), (by (with_reducible repeat (first | apply Kd.uN | apply Kd.uO | apply Kd.uP)); exact Kd.uZ HO263.out (fun _ hk => hk.2)), (by (with_reducible repeat (first | apply Kd.uN | apply Kd.uO | apply Kd.uP)); exact Kd.uZ HO266.out (fun _ hk => hk.2)), (by (with_reducible repeat (first | refine uC ?_ _ | refine uE ?_ | refine uD ?_ _)); exact BK245.out), (by (with_reducible repeat (first | refine uC ?_ _ | refine uE ?_ | refine uD ?_ _)); exact BK259.out), (by (with_reducible repeat (first | refine uC ?_ _ | refine uE ?_ | refine uD ?_ _)); exact BK270.out), GW270.out, GE270.out, NB245_270.out, NB270_245.out, NB259_270.out, NB270_259.out, (by repeat (first | (with_reducible first | exact HB.out | apply uG | apply uA | apply uF | refine uB ?_ GE245.out | refine uB ?_ GE259.out | refine uB ?_ GE270.out) | exact HB.out))⟩)
                skip
                refine box_step ?hg (N := 9) ?hd (cs := #[.bool false, .int .i64 0]) (t := 33) ?hr ?_; (case hd => rfl); (case hg => rfl); (case hr => first | (go_simp; done) | (go_simp; rfl))
                intro gb271 hg w28 hbox hb
                have n0_ := Aside0.mk (Kd.vD (by (with_reducible repeat (first | apply Kd.uN | apply Kd.uO | apply Kd.uP)); exact HO254.out) hb)
                have n1_ := Aside0.mk (Kd.vD (by (with_reducible repeat (first | apply Kd.uN | apply Kd.uO | apply Kd.uP)); exact HO257.out) hb)
                have n2_ := Aside0.mk (uR (g := gb245) (o := .cells #[.bool false, .int .i64 0] 33 (0, 0)) (by (with_reducible repeat (first | refine uC ?_ _ | refine uE ?_ | refine uD ?_ _)); exact BK245.out) hb)
                have n3_ := Aside0.mk (uR (g := gb259) (o := .cells #[.slice Ao20 t252.length co20, .slice Ao23 t255.length co23] 31 (0, 0)) (by (with_reducible repeat (first | refine uC ?_ _ | refine uE ?_ | refine uD ?_ _)); exact BK259.out) hb)
                have n4_ := Aside0.mk (uR (g := gb270) (o := .cells #[.slice none 0 0, .slice none 0 0] 31 (0, 0)) (by (with_reducible repeat (first | refine uC ?_ _ | refine uE ?_ | refine uD ?_ _)); exact BK270.out) hb)
                have n5_ := Aside0.mk (uS (by repeat (first | (with_reducible first | exact HB.out | apply uG | apply uA | apply uF | refine uB ?_ GE245.out | refine uB ?_ GE259.out | refine uB ?_ GE270.out) | exact HB.out)) hb)
                have n6_ := Aside0.mk (hbox)
                have n7_ := Aside0.mk ((by rw [hg]; exact (uQ (by repeat (first | (with_reducible first | exact HB.out | apply uG | apply uA | apply uF | refine uB ?_ GE245.out | refine uB ?_ GE259.out | refine uB ?_ GE270.out) | exact HB.out))) : w.heap.size ≤ gb271))
                have n8_ := Aside0.mk ((by rw [hg]; exact (uQ (by repeat (first | (with_reducible first | exact HB.out | apply uG | apply uA | apply uF | refine uB ?_ GE245.out | refine uB ?_ GE259.out | refine uB ?_ GE270.out) | exact HB.out))) : w.heap.size ≤ gb271))
                have n9_ := Aside0.mk ((by rw [hg]; exact Nat.ne_of_lt (uV (g := gb245) (o := .cells #[.bool false, .int .i64 0] 33 (0, 0)) (by (with_reducible repeat (first | refine uC ?_ _ | refine uE ?_ | refine uD ?_ _)); exact BK245.out)) : gb245 ≠ gb271))
                have n10_ := Aside0.mk ((by rw [hg]; exact Nat.ne_of_gt (uV (g := gb245) (o := .cells #[.bool false, .int .i64 0] 33 (0, 0)) (by (with_reducible repeat (first | refine uC ?_ _ | refine uE ?_ | refine uD ?_ _)); exact BK245.out)) : gb271 ≠ gb245))
                have n11_ := Aside0.mk ((by rw [hg]; exact Nat.ne_of_lt (uV (g := gb259) (o := .cells #[.slice Ao20 t252.length co20, .slice Ao23 t255.length co23] 31 (0, 0)) (by (with_reducible repeat (first | refine uC ?_ _ | refine uE ?_ | refine uD ?_ _)); exact BK259.out)) : gb259 ≠ gb271))
                have n12_ := Aside0.mk ((by rw [hg]; exact Nat.ne_of_gt (uV (g := gb259) (o := .cells #[.slice Ao20 t252.length co20, .slice Ao23 t255.length co23] 31 (0, 0)) (by (with_reducible repeat (first | refine uC ?_ _ | refine uE ?_ | refine uD ?_ _)); exact BK259.out)) : gb271 ≠ gb259))
                have n13_ := Aside0.mk ((by rw [hg]; exact Nat.ne_of_lt (uV (g := gb270) (o := .cells #[.slice none 0 0, .slice none 0 0] 31 (0, 0)) (by (with_reducible repeat (first | refine uC ?_ _ | refine uE ?_ | refine uD ?_ _)); exact BK270.out)) : gb270 ≠ gb271))
                have n14_ := Aside0.mk ((by rw [hg]; exact Nat.ne_of_gt (uV (g := gb270) (o := .cells #[.slice none 0 0, .slice none 0 0] 31 (0, 0)) (by (with_reducible repeat (first | refine uC ?_ _ | refine uE ?_ | refine uD ?_ _)); exact BK270.out)) : gb271 ≠ gb270))
                clear HO254
                clear HO257
                clear BK245
                clear BK259
                clear BK270
                clear HB
                have HO254 := n0_
                have HO257 := n1_
                have BK245 := n2_
                have BK259 := n3_
                have BK270 := n4_
                have HB := n5_
                have BK271 := n6_
                have GW271 := n7_
                have GE271 := n8_
                have NB245_271 := n9_
                have NB271_245 := n10_
                have NB259_271 := n11_
                have NB271_259 := n12_
                have NB270_271 := n13_
                have NB271_270 := n14_
                clear n0_ n1_ n2_ n3_ n4_ n5_ n6_ n7_ n8_ n9_ n10_ n11_ n12_ n13_ n14_
                clear hb hbox hg
                refine hK.out _ _ ⟨(uI BK259.out 0).trans rfl, (uI BK259.out 1).trans rfl, ((HB.out.cell (yA w _ hw260_0)).trans hw260_0), ((HB.out.cell (yA w _ hw260_1)).trans hw260_1), ((HB.out.cell (yA w _ hw260_2)).trans hw260_2), ((HB.out.cell (yA w _ hw260_3)).trans hw260_3), ((HB.out.cell (yA w _ hw260_4)).trans hw260_4), ((HB.out.cell (yA w _ hw260_5)).trans hw260_5), ((HB.out.cell (yA w _ hw260_6)).trans hw260_6)⟩ (fun hHeld => ?_)
                clear hK K
                refine vC (a' := ?_) ?_ ?_
                rotate_left
                · show Act.put _ (some 9) _ = _
                  simp only [Act.put, vU, vV, vW, uL, uM]
                  rfl
                exact vC (by first | (simp only [vK, Act.put, vU, vV, vW]; done) | (simp only [vK, Act.put, vU, vV, vW]; rfl)) (hJ11_12 (gb270, gb271) _ ⟨hHeld, (by (with_reducible repeat (first | apply Kd.uN | apply Kd.uO | apply Kd.uP)); exact HO254.out), (by (with_reducible repeat (first | apply Kd.uN | apply Kd.uO | apply Kd.uP)); exact HO257.out), (by (with_reducible repeat (first | refine uC ?_ _ | refine uE ?_ | refine uD ?_ _)); exact BK245.out), (by (with_reducible repeat (first | refine uC ?_ _ | refine uE ?_ | refine uD ?_ _)); exact BK259.out), (by (with_reducible repeat (first | refine uC ?_ _ | refine uE ?_ | refine uD ?_ _)); exact BK270.out), (by (with_reducible repeat (first | refine uC ?_ _ | refine uE ?_ | refine uD ?_ _)); exact BK271.out), GW270.out, GE270.out, NB245_270.out, NB270_245.out, NB259_270.out, NB270_259.out, NB271_270.out, NB270_271.out, GW271.out, GE271.out, NB245_271.out, NB271_245.out, NB259_271.out, NB271_259.out, (by repeat (first | (with_reducible first | exact HB.out | apply uG | apply uA | apply uF | refine uB ?_ GE245.out | refine uB ?_ GE259.out | refine uB ?_ GE270.out | refine uB ?_ GE271.out) | exact HB.out))⟩)
              skip
              rintro ⟨v262, v265⟩ w27 ⟨hS_, h0_, h1_, h2_, h3_, h4_, h5_, h6_⟩
              have n0_ : Aside0 (Kd.R (Kd.int .i64) 3 w27 w.heap.size (fun k_ => some k_ ≠ (v262 : Value).ownBlock) (.slice Ao20 t252.length co20) t252) := ⟨h0_⟩
              have n1_ : Aside0 (Kd.R k49 49 w27 w.heap.size (fun k_ => some k_ ≠ (v265 : Value).ownBlock) (.slice Ao23 t255.length co23) t255) := ⟨h1_⟩
              have n2_ : Aside0 (Kd.R (Kd.int .i64) 3 w27 w.heap.size (fun k_ => some k_ ≠ (.slice Ao20 t252.length co20 : Value).ownBlock) v262 t261) := ⟨h2_⟩
              have n3_ : Aside0 (Kd.R k49 49 w27 w.heap.size (fun k_ => some k_ ≠ (.slice Ao23 t255.length co23 : Value).ownBlock) v265 t264) := ⟨h3_⟩
              have n4_ : Aside0 (w27.heap[gb245]? = some (.cells #[.bool false, .int .i64 0] 33 (0, 0))) := ⟨h4_⟩
              have n5_ : Aside0 (w27.heap[gb259]? = some (.cells #[.slice Ao20 t252.length co20, .slice Ao23 t255.length co23] 31 (0, 0))) := ⟨h5_⟩
              have n6_ : Aside0 (Below w.heap.size w w27) := ⟨h6_⟩
              clear HO254
              clear HO257
              clear BK245
              clear BK259
              clear HB
              clear h0_ h1_ h2_ h3_ h4_ h5_ h6_
              have HO254 := n0_
              have HO257 := n1_
              have HO263 := n2_
              have HO266 := n3_
              have BK245 := n4_
              have BK259 := n5_
              have HB := n6_
              clear n0_ n1_ n2_ n3_ n4_ n5_ n6_
              have hHeld : w27.cell? ⟨gb259, 0, none⟩ = some (.slice Ao20 t252.length co20) ∧ w27.cell? ⟨gb259, 1, none⟩ = some (.slice Ao23 t255.length co23) ∧ w27.cell? (ad260.add ((a1).toNat * 7)) = some (.int .i64 ((rd_T72 l0 a1).f0)) ∧ w27.cell? ⟨(ad260.add ((a1).toNat * 7)).block, (ad260.add ((a1).toNat * 7)).off + 1, none⟩ = some (.int .i64 ((rd_T72 l0 a1).f1.f0)) ∧ w27.cell? ⟨(ad260.add ((a1).toNat * 7)).block, (ad260.add ((a1).toNat * 7)).off + 2, none⟩ = some (.int .i64 ((rd_T72 l0 a1).f1.f1)) ∧ w27.cell? ⟨(ad260.add ((a1).toNat * 7)).block, (ad260.add ((a1).toNat * 7)).off + 3, none⟩ = some (.int .i64 ((rd_T72 l0 a1).f1.f2)) ∧ w27.cell? ⟨(ad260.add ((a1).toNat * 7)).block, (ad260.add ((a1).toNat * 7)).off + 4, none⟩ = some (.int .i64 ((rd_T72 l0 a1).f1.f3)) ∧ w27.cell? ⟨(ad260.add ((a1).toNat * 7)).block, (ad260.add ((a1).toNat * 7)).off + 5, none⟩ = some (.int .i64 ((rd_T72 l0 a1).f1.f4)) ∧ w27.cell? ⟨(ad260.add ((a1).toNat * 7)).block, (ad260.add ((a1).toNat * 7)).off + 6, none⟩ = some (.int .i64 ((rd_T72 l0 a1).f1.f5)) := hS_
              refine vC (a' := ?_) ?_ ?_
              rotate_left
              · simp only [vK, Act.put, vU, vV, vW]
                rfl
              refine two_ (i := 11) (j := 12) (Ni := some 8) (Nj := some 9) tb2 tb3 rfl rfl rfl rfl (two_of HT_.out (by kernel_rfl)) (by decide) (by decide) (fun K hK => ?_) (fun K hK => ?_)
              · skip
                refine box_step ?hg (N := 8) ?hd (cs := #[.slice none 0 0, .slice none 0 0]) (t := 31) ?hr ?_; (case hd => rfl); (case hg => rfl); (case hr => first | (go_simp; done) | (go_simp; rfl))
                intro gb270 hg w28 hbox hb
                have n0_ := Aside0.mk (Kd.vD (by (with_reducible repeat (first | apply Kd.uN | apply Kd.uO | apply Kd.uP)); exact HO254.out) hb)
                have n1_ := Aside0.mk (Kd.vD (by (with_reducible repeat (first | apply Kd.uN | apply Kd.uO | apply Kd.uP)); exact HO257.out) hb)
                have n2_ := Aside0.mk (Kd.vD (by (with_reducible repeat (first | apply Kd.uN | apply Kd.uO | apply Kd.uP)); exact HO263.out) hb)
                have n3_ := Aside0.mk (Kd.vD (by (with_reducible repeat (first | apply Kd.uN | apply Kd.uO | apply Kd.uP)); exact HO266.out) hb)
                have n4_ := Aside0.mk (uR (g := gb245) (o := .cells #[.bool false, .int .i64 0] 33 (0, 0)) (by (with_reducible repeat (first | refine uC ?_ _ | refine uE ?_ | refine uD ?_ _)); exact BK245.out) hb)
                have n5_ := Aside0.mk (uR (g := gb259) (o := .cells #[.slice Ao20 t252.length co20, .slice Ao23 t255.length co23] 31 (0, 0)) (by (with_reducible repeat (first | refine uC ?_ _ | refine uE ?_ | refine uD ?_ _)); exact BK259.out) hb)
                have n6_ := Aside0.mk (uS (by repeat (first | (with_reducible first | exact HB.out | apply uG | apply uA | apply uF | refine uB ?_ GE245.out | refine uB ?_ GE259.out) | exact HB.out)) hb)
                have n7_ := Aside0.mk (hbox)
                have n8_ := Aside0.mk ((by rw [hg]; exact (uQ (by repeat (first | (with_reducible first | exact HB.out | apply uG | apply uA | apply uF | refine uB ?_ GE245.out | refine uB ?_ GE259.out) | exact HB.out))) : w.heap.size ≤ gb270))
                have n9_ := Aside0.mk ((by rw [hg]; exact (uQ (by repeat (first | (with_reducible first | exact HB.out | apply uG | apply uA | apply uF | refine uB ?_ GE245.out | refine uB ?_ GE259.out) | exact HB.out))) : w.heap.size ≤ gb270))
                have n10_ := Aside0.mk ((by rw [hg]; exact Nat.ne_of_lt (uV (g := gb245) (o := .cells #[.bool false, .int .i64 0] 33 (0, 0)) (by (with_reducible repeat (first | refine uC ?_ _ | refine uE ?_ | refine uD ?_ _)); exact BK245.out)) : gb245 ≠ gb270))
                have n11_ := Aside0.mk ((by rw [hg]; exact Nat.ne_of_gt (uV (g := gb245) (o := .cells #[.bool false, .int .i64 0] 33 (0, 0)) (by (with_reducible repeat (first | refine uC ?_ _ | refine uE ?_ | refine uD ?_ _)); exact BK245.out)) : gb270 ≠ gb245))
                have n12_ := Aside0.mk ((by rw [hg]; exact Nat.ne_of_lt (uV (g := gb259) (o := .cells #[.slice Ao20 t252.length co20, .slice Ao23 t255.length co23] 31 (0, 0)) (by (with_reducible repeat (first | refine uC ?_ _ | refine uE ?_ | refine uD ?_ _)); exact BK259.out)) : gb259 ≠ gb270))
                have n13_ := Aside0.mk ((by rw [hg]; exact Nat.ne_of_gt (uV (g := gb259) (o := .cells #[.slice Ao20 t252.length co20, .slice Ao23 t255.length co23] 31 (0, 0)) (by (with_reducible repeat (first | refine uC ?_ _ | refine uE ?_ | refine uD ?_ _)); exact BK259.out)) : gb270 ≠ gb259))
                clear HO254
                clear HO257
                clear HO263
                clear HO266
                clear BK245
                clear BK259
                clear HB
                have HO254 := n0_
                have HO257 := n1_
                have HO263 := n2_
                have HO266 := n3_
                have BK245 := n4_
                have BK259 := n5_
                have HB := n6_
                have BK270 := n7_
                have GW270 := n8_
                have GE270 := n9_
                have NB245_270 := n10_
                have NB270_245 := n11_
                have NB259_270 := n12_
                have NB270_259 := n13_
                clear n0_ n1_ n2_ n3_ n4_ n5_ n6_ n7_ n8_ n9_ n10_ n11_ n12_ n13_
                clear hb hbox hg
                refine hK.out _ _ ⟨(uI BK259.out 0).trans rfl, (uI BK259.out 1).trans rfl, ((HB.out.cell (yA w _ hw260_0)).trans hw260_0), ((HB.out.cell (yA w _ hw260_1)).trans hw260_1), ((HB.out.cell (yA w _ hw260_2)).trans hw260_2), ((HB.out.cell (yA w _ hw260_3)).trans hw260_3), ((HB.out.cell (yA w _ hw260_4)).trans hw260_4), ((HB.out.cell (yA w _ hw260_5)).trans hw260_5), ((HB.out.cell (yA w _ hw260_6)).trans hw260_6)⟩ (fun hHeld => ?_)
                clear hK K
                refine vC (a' := ?_) ?_ ?_
                rotate_left
                · show Act.put _ (some 8) _ = _
                  simp only [Act.put, vU, vV, vW, uL, uM]
                  rfl
                exact vC (by first | (simp only [vK, Act.put, vU, vV, vW]; done) | (simp only [vK, Act.put, vU, vV, vW]; rfl)) (hJ6_11 (v262, v265, gb270) _ ⟨hHeld, (by (with_reducible repeat (first | apply Kd.uN | apply Kd.uO | apply Kd.uP)); exact HO254.out), (by (with_reducible repeat (first | apply Kd.uN | apply Kd.uO | apply Kd.uP)); exact HO257.out), (by (with_reducible repeat (first | apply Kd.uN | apply Kd.uO | apply Kd.uP)); exact HO263.out), (by (with_reducible repeat (first | apply Kd.uN | apply Kd.uO | apply Kd.uP)); exact HO266.out), (by (with_reducible repeat (first | refine uC ?_ _ | refine uE ?_ | refine uD ?_ _)); exact BK245.out), (by (with_reducible repeat (first | refine uC ?_ _ | refine uE ?_ | refine uD ?_ _)); exact BK259.out), (by (with_reducible repeat (first | refine uC ?_ _ | refine uE ?_ | refine uD ?_ _)); exact BK270.out), GW270.out, GE270.out, NB245_270.out, NB270_245.out, NB259_270.out, NB270_259.out, (by repeat (first | (with_reducible first | exact HB.out | apply uG | apply uA | apply uF | refine uB ?_ GE245.out | refine uB ?_ GE259.out | refine uB ?_ GE270.out) | exact HB.out))⟩)
              skip
              refine box_step ?hg (N := 9) ?hd (cs := #[.bool false, .int .i64 0]) (t := 33) ?hr ?_; (case hd => rfl); (case hg => rfl); (case hr => first | (go_simp; done) | (go_simp; rfl))
              intro gb271 hg w28 hbox hb
              have n0_ := Aside0.mk (Kd.vD (by (with_reducible repeat (first | apply Kd.uN | apply Kd.uO | apply Kd.uP)); exact HO254.out) hb)
              have n1_ := Aside0.mk (Kd.vD (by (with_reducible repeat (first | apply Kd.uN | apply Kd.uO | apply Kd.uP)); exact HO257.out) hb)
              have n2_ := Aside0.mk (Kd.vD (by (with_reducible repeat (first | apply Kd.uN | apply Kd.uO | apply Kd.uP)); exact HO263.out) hb)
              have n3_ := Aside0.mk (Kd.vD (by (with_reducible repeat (first | apply Kd.uN | apply Kd.uO | apply Kd.uP)); exact HO266.out) hb)
              have n4_ := Aside0.mk (uR (g := gb245) (o := .cells #[.bool false, .int .i64 0] 33 (0, 0)) (by (with_reducible repeat (first | refine uC ?_ _ | refine uE ?_ | refine uD ?_ _)); exact BK245.out) hb)
              have n5_ := Aside0.mk (uR (g := gb259) (o := .cells #[.slice Ao20 t252.length co20, .slice Ao23 t255.length co23] 31 (0, 0)) (by (with_reducible repeat (first | refine uC ?_ _ | refine uE ?_ | refine uD ?_ _)); exact BK259.out) hb)
              have n6_ := Aside0.mk (uS (by repeat (first | (with_reducible first | exact HB.out | apply uG | apply uA | apply uF | refine uB ?_ GE245.out | refine uB ?_ GE259.out) | exact HB.out)) hb)
              have n7_ := Aside0.mk (hbox)
              have n8_ := Aside0.mk ((by rw [hg]; exact (uQ (by repeat (first | (with_reducible first | exact HB.out | apply uG | apply uA | apply uF | refine uB ?_ GE245.out | refine uB ?_ GE259.out) | exact HB.out))) : w.heap.size ≤ gb271))
              have n9_ := Aside0.mk ((by rw [hg]; exact (uQ (by repeat (first | (with_reducible first | exact HB.out | apply uG | apply uA | apply uF | refine uB ?_ GE245.out | refine uB ?_ GE259.out) | exact HB.out))) : w.heap.size ≤ gb271))
              have n10_ := Aside0.mk ((by rw [hg]; exact Nat.ne_of_lt (uV (g := gb245) (o := .cells #[.bool false, .int .i64 0] 33 (0, 0)) (by (with_reducible repeat (first | refine uC ?_ _ | refine uE ?_ | refine uD ?_ _)); exact BK245.out)) : gb245 ≠ gb271))
              have n11_ := Aside0.mk ((by rw [hg]; exact Nat.ne_of_gt (uV (g := gb245) (o := .cells #[.bool false, .int .i64 0] 33 (0, 0)) (by (with_reducible repeat (first | refine uC ?_ _ | refine uE ?_ | refine uD ?_ _)); exact BK245.out)) : gb271 ≠ gb245))
              have n12_ := Aside0.mk ((by rw [hg]; exact Nat.ne_of_lt (uV (g := gb259) (o := .cells #[.slice Ao20 t252.length co20, .slice Ao23 t255.length co23] 31 (0, 0)) (by (with_reducible repeat (first | refine uC ?_ _ | refine uE ?_ | refine uD ?_ _)); exact BK259.out)) : gb259 ≠ gb271))
              have n13_ := Aside0.mk ((by rw [hg]; exact Nat.ne_of_gt (uV (g := gb259) (o := .cells #[.slice Ao20 t252.length co20, .slice Ao23 t255.length co23] 31 (0, 0)) (by (with_reducible repeat (first | refine uC ?_ _ | refine uE ?_ | refine uD ?_ _)); exact BK259.out)) : gb271 ≠ gb259))
              clear HO254
              clear HO257
              clear HO263
              clear HO266
              clear BK245
              clear BK259
              clear HB
              have HO254 := n0_
              have HO257 := n1_
              have HO263 := n2_
              have HO266 := n3_
              have BK245 := n4_
              have BK259 := n5_
              have HB := n6_
              have BK271 := n7_
              have GW271 := n8_
              have GE271 := n9_
              have NB245_271 := n10_
              have NB271_245 := n11_
              have NB259_271 := n12_
              have NB271_259 := n13_
              clear n0_ n1_ n2_ n3_ n4_ n5_ n6_ n7_ n8_ n9_ n10_ n11_ n12_ n13_
              clear hb hbox hg
              refine hK.out _ _ ⟨(uI BK259.out 0).trans rfl, (uI BK259.out 1).trans rfl, ((HB.out.cell (yA w _ hw260_0)).trans hw260_0), ((HB.out.cell (yA w _ hw260_1)).trans hw260_1), ((HB.out.cell (yA w _ hw260_2)).trans hw260_2), ((HB.out.cell (yA w _ hw260_3)).trans hw260_3), ((HB.out.cell (yA w _ hw260_4)).trans hw260_4), ((HB.out.cell (yA w _ hw260_5)).trans hw260_5), ((HB.out.cell (yA w _ hw260_6)).trans hw260_6)⟩ (fun hHeld => ?_)
              clear hK K
              refine vC (a' := ?_) ?_ ?_
              rotate_left
              · show Act.put _ (some 9) _ = _
                simp only [Act.put, vU, vV, vW, uL, uM]
                rfl
              exact vC (by first | (simp only [vK, Act.put, vU, vV, vW]; done) | (simp only [vK, Act.put, vU, vV, vW]; rfl)) (hJ6_12 (v262, v265, gb271) _ ⟨hHeld, (by (with_reducible repeat (first | apply Kd.uN | apply Kd.uO | apply Kd.uP)); exact HO254.out), (by (with_reducible repeat (first | apply Kd.uN | apply Kd.uO | apply Kd.uP)); exact HO257.out), (by (with_reducible repeat (first | apply Kd.uN | apply Kd.uO | apply Kd.uP)); exact HO263.out), (by (with_reducible repeat (first | apply Kd.uN | apply Kd.uO | apply Kd.uP)); exact HO266.out), (by (with_reducible repeat (first | refine uC ?_ _ | refine uE ?_ | refine uD ?_ _)); exact BK245.out), (by (with_reducible repeat (first | refine uC ?_ _ | refine uE ?_ | refine uD ?_ _)); exact BK259.out), (by (with_reducible repeat (first | refine uC ?_ _ | refine uE ?_ | refine uD ?_ _)); exact BK271.out), GW271.out, GE271.out, NB245_271.out, NB271_245.out, NB259_271.out, NB271_259.out, (by repeat (first | (with_reducible first | exact HB.out | apply uG | apply uA | apply uF | refine uB ?_ GE245.out | refine uB ?_ GE259.out | refine uB ?_ GE271.out) | exact HB.out))⟩)
            skip
            rintro ⟨gb270, gb271⟩ w28 ⟨hS_, h0_, h1_, h2_, h3_, h4_, h5_, h6_, h7_, h8_, h9_, h10_, h11_, h12_, h13_, h14_, h15_, h16_, h17_, h18_, h19_, h20_⟩
            have n0_ : Aside0 (Kd.R (Kd.int .i64) 3 w28 w.heap.size (fun _ => True) (.slice Ao20 t252.length co20) t252) := ⟨h0_⟩
            have n1_ : Aside0 (Kd.R k49 49 w28 w.heap.size (fun _ => True) (.slice Ao23 t255.length co23) t255) := ⟨h1_⟩
            have n2_ : Aside0 (w28.heap[gb245]? = some (.cells #[.bool false, .int .i64 0] 33 (0, 0))) := ⟨h2_⟩
            have n3_ : Aside0 (w28.heap[gb259]? = some (.cells #[.slice Ao20 t252.length co20, .slice Ao23 t255.length co23] 31 (0, 0))) := ⟨h3_⟩
            have n4_ : Aside0 (w28.heap[gb270]? = some (.cells #[.slice none 0 0, .slice none 0 0] 31 (0, 0))) := ⟨h4_⟩
            have n5_ : Aside0 (w28.heap[gb271]? = some (.cells #[.bool false, .int .i64 0] 33 (0, 0))) := ⟨h5_⟩
            have n6_ : Aside0 (w.heap.size ≤ gb270) := ⟨h6_⟩
            have n7_ : Aside0 (w.heap.size ≤ gb270) := ⟨h7_⟩
            have n8_ : Aside0 (gb245 ≠ gb270) := ⟨h8_⟩
            have n9_ : Aside0 (gb270 ≠ gb245) := ⟨h9_⟩
            have n10_ : Aside0 (gb259 ≠ gb270) := ⟨h10_⟩
            have n11_ : Aside0 (gb270 ≠ gb259) := ⟨h11_⟩
            have n12_ : Aside0 (gb271 ≠ gb270) := ⟨h12_⟩
            have n13_ : Aside0 (gb270 ≠ gb271) := ⟨h13_⟩
            have n14_ : Aside0 (w.heap.size ≤ gb271) := ⟨h14_⟩
            have n15_ : Aside0 (w.heap.size ≤ gb271) := ⟨h15_⟩
            have n16_ : Aside0 (gb245 ≠ gb271) := ⟨h16_⟩
            have n17_ : Aside0 (gb271 ≠ gb245) := ⟨h17_⟩
            have n18_ : Aside0 (gb259 ≠ gb271) := ⟨h18_⟩
            have n19_ : Aside0 (gb271 ≠ gb259) := ⟨h19_⟩
            have n20_ : Aside0 (Below w.heap.size w w28) := ⟨h20_⟩
            clear HO254
            clear HO257
            clear BK245
            clear BK259
            clear HB
            clear h0_ h1_ h2_ h3_ h4_ h5_ h6_ h7_ h8_ h9_ h10_ h11_ h12_ h13_ h14_ h15_ h16_ h17_ h18_ h19_ h20_
            have HO254 := n0_
            have HO257 := n1_
            have BK245 := n2_
            have BK259 := n3_
            have BK270 := n4_
            have BK271 := n5_
            have GW270 := n6_
            have GE270 := n7_
            have NB245_270 := n8_
            have NB270_245 := n9_
            have NB259_270 := n10_
            have NB270_259 := n11_
            have NB271_270 := n12_
            have NB270_271 := n13_
            have GW271 := n14_
            have GE271 := n15_
            have NB245_271 := n16_
            have NB271_245 := n17_
            have NB259_271 := n18_
            have NB271_259 := n19_
            have HB := n20_
            clear n0_ n1_ n2_ n3_ n4_ n5_ n6_ n7_ n8_ n9_ n10_ n11_ n12_ n13_ n14_ n15_ n16_ n17_ n18_ n19_ n20_
            have hHeld : w28.cell? ⟨gb259, 0, none⟩ = some (.slice Ao20 t252.length co20) ∧ w28.cell? ⟨gb259, 1, none⟩ = some (.slice Ao23 t255.length co23) ∧ w28.cell? (ad260.add ((a1).toNat * 7)) = some (.int .i64 ((rd_T72 l0 a1).f0)) ∧ w28.cell? ⟨(ad260.add ((a1).toNat * 7)).block, (ad260.add ((a1).toNat * 7)).off + 1, none⟩ = some (.int .i64 ((rd_T72 l0 a1).f1.f0)) ∧ w28.cell? ⟨(ad260.add ((a1).toNat * 7)).block, (ad260.add ((a1).toNat * 7)).off + 2, none⟩ = some (.int .i64 ((rd_T72 l0 a1).f1.f1)) ∧ w28.cell? ⟨(ad260.add ((a1).toNat * 7)).block, (ad260.add ((a1).toNat * 7)).off + 3, none⟩ = some (.int .i64 ((rd_T72 l0 a1).f1.f2)) ∧ w28.cell? ⟨(ad260.add ((a1).toNat * 7)).block, (ad260.add ((a1).toNat * 7)).off + 4, none⟩ = some (.int .i64 ((rd_T72 l0 a1).f1.f3)) ∧ w28.cell? ⟨(ad260.add ((a1).toNat * 7)).block, (ad260.add ((a1).toNat * 7)).off + 5, none⟩ = some (.int .i64 ((rd_T72 l0 a1).f1.f4)) ∧ w28.cell? ⟨(ad260.add ((a1).toNat * 7)).block, (ad260.add ((a1).toNat * 7)).off + 6, none⟩ = some (.int .i64 ((rd_T72 l0 a1).f1.f5)) := hS_
            refine vC (a' := ?_) ?_ ?_
            rotate_left
            · simp only [vK, Act.put, vU, vV, vW]
              rfl
            refine one_ (i := 6) (N := some 37) tb26 rfl rfl (one_of HT_.out (by kernel_rfl)) (by decide) (fun K hK => ?_)
            refine goes_ Try.func12 (by kernel_rfl) rfl #[.agg #[.slice Ao20 t252.length co20, .slice Ao23 t255.length co23], .agg #[.int .i64 ((rd_T72 l0 a1).f1.f0), .int .i64 ((rd_T72 l0 a1).f1.f1), .int .i64 ((rd_T72 l0 a1).f1.f2), .int .i64 ((rd_T72 l0 a1).f1.f3), .int .i64 ((rd_T72 l0 a1).f1.f4), .int .i64 ((rd_T72 l0 a1).f1.f5)]] (by rfl) rfl rfl (by (try simp only [vX, List.map_cons, List.map_nil]); first | done | rfl | (simp only [vZ, vY]; rfl)) ?_
            with_reducible refine (impl_ApplyOp.calls kj2 _ _ t252 _ _ t255 ((rd_T72 l0 a1).f1.f0) ((rd_T72 l0 a1).f1.f1) ((rd_T72 l0 a1).f1.f2) ((rd_T72 l0 a1).f1.f3) ((rd_T72 l0 a1).f1.f4) ((rd_T72 l0 a1).f1.f5) t261 t264 t267 t268 t269 _ ?side1 ?side2 ?side3 ?side4 A16.out).mono ?_
            (case side1 => repeat (first | exact (Kd.vH HO254.out).2.2 | (with_reducible refine Kd.vQ ?_ _) | (with_reducible refine Kd.vP ?_ _) | (with_reducible refine Kd.vS ?_)))
            (case side2 => exact (Kd.vH HO254.out).2.1)
            (case side3 => repeat (first | exact (Kd.vH HO257.out).2.2 | (with_reducible refine Kd.vQ ?_ _) | (with_reducible refine Kd.vP ?_ _) | (with_reducible refine Kd.vS ?_)))
            (case side4 => exact (Kd.vH HO257.out).2.1)
            rintro e w29 ⟨v262, v265, rfl, ho0, ho1, hb⟩
            refine ⟨_, rfl, ?_⟩
            have n0_ := Aside0.mk (Kd.R_elder' (by (with_reducible repeat (first | apply Kd.uN | apply Kd.uO | apply Kd.uP)); exact HO254.out) (Kd.R_base ho0) hb)
            have n1_ := Aside0.mk (Kd.R_elder' (by (with_reducible repeat (first | apply Kd.uN | apply Kd.uO | apply Kd.uP)); exact HO257.out) (Kd.R_base ho1) hb)
            have n2_ := Aside0.mk (Kd.vO (Kd.R_new' ho0 (Kd.R_lt (by (with_reducible repeat (first | apply Kd.uN | apply Kd.uO | apply Kd.uP)); exact HO254.out))) (uQ (by repeat (first | (with_reducible first | exact HB.out | apply uG | apply uA | apply uF | refine uB ?_ GE245.out | refine uB ?_ GE259.out | refine uB ?_ GE270.out | refine uB ?_ GE271.out) | exact HB.out))))
            have n3_ := Aside0.mk (Kd.vO (Kd.R_new' ho1 (Kd.R_lt (by (with_reducible repeat (first | apply Kd.uN | apply Kd.uO | apply Kd.uP)); exact HO257.out))) (uQ (by repeat (first | (with_reducible first | exact HB.out | apply uG | apply uA | apply uF | refine uB ?_ GE245.out | refine uB ?_ GE259.out | refine uB ?_ GE270.out | refine uB ?_ GE271.out) | exact HB.out))))
            have n4_ := Aside0.mk (uR (g := gb245) (o := .cells #[.bool false, .int .i64 0] 33 (0, 0)) (by (with_reducible repeat (first | refine uC ?_ _ | refine uE ?_ | refine uD ?_ _)); exact BK245.out) hb)
            have n5_ := Aside0.mk (uR (g := gb259) (o := .cells #[.slice Ao20 t252.length co20, .slice Ao23 t255.length co23] 31 (0, 0)) (by (with_reducible repeat (first | refine uC ?_ _ | refine uE ?_ | refine uD ?_ _)); exact BK259.out) hb)
            have n6_ := Aside0.mk (uR (g := gb270) (o := .cells #[.slice none 0 0, .slice none 0 0] 31 (0, 0)) (by (with_reducible repeat (first | refine uC ?_ _ | refine uE ?_ | refine uD ?_ _)); exact BK270.out) hb)
            have n7_ := Aside0.mk (uR (g := gb271) (o := .cells #[.bool false, .int .i64 0] 33 (0, 0)) (by (with_reducible repeat (first | refine uC ?_ _ | refine uE ?_ | refine uD ?_ _)); exact BK271.out) hb)
            have n8_ := Aside0.mk (uS (by repeat (first | (with_reducible first | exact HB.out | apply uG | apply uA | apply uF | refine uB ?_ GE245.out | refine uB ?_ GE259.out | refine uB ?_ GE270.out | refine uB ?_ GE271.out) | exact HB.out)) hb)
            clear HO254
            clear HO257
            clear BK245
            clear BK259
            clear BK270
            clear BK271
            clear HB
            have HO254 := n0_
            have HO257 := n1_
            have HO263 := n2_
            have HO266 := n3_
            have BK245 := n4_
            have BK259 := n5_
            have BK270 := n6_
            have BK271 := n7_
            have HB := n8_
            clear n0_ n1_ n2_ n3_ n4_ n5_ n6_ n7_ n8_
            (try clear hb)
            (try clear hb2)
            (try clear hk)
            (try clear hi)
            (try clear ho0)
            (try clear ho1)
            refine hK.out _ _ ⟨(uI BK259.out 0).trans rfl, (uI BK259.out 1).trans rfl, ((HB.out.cell (yA w _ hw260_0)).trans hw260_0), ((HB.out.cell (yA w _ hw260_1)).trans hw260_1), ((HB.out.cell (yA w _ hw260_2)).trans hw260_2), ((HB.out.cell (yA w _ hw260_3)).trans hw260_3), ((HB.out.cell (yA w _ hw260_4)).trans hw260_4), ((HB.out.cell (yA w _ hw260_5)).trans hw260_5), ((HB.out.cell (yA w _ hw260_6)).trans hw260_6)⟩ (fun hHeld => ?_)
            clear hK K
            refine vC (a' := ?_) ?_ ?_
            rotate_left
            · show Act.put _ (some 37) _ = _
              simp only [Act.put, vU, vV, vW, uL, uM]
              rfl
            refine uJ (i := 7) (N := some 30) (v := ?_) (a' := ?_) tb30 rfl rfl (vL HT_.out (by kernel_rfl)) (fun _ _ _ h => h) (Or.inl ⟨by rfl, ?_⟩) ?_ ?_
            rotate_left
            · intro w'
              go_simp
              with_reducible rfl
            rotate_left
            · simp only [Act.put, vU, vV, vW, uL, uM]
              rfl
            refine uJ (i := 8) (N := some 38) (v := ?_) (a' := ?_) tb33 rfl rfl (vL HT_.out (by kernel_rfl)) (fun _ _ _ h => h) (Or.inl ⟨by rfl, ?_⟩) ?_ ?_
            rotate_left
            · intro w'
              go_simp
              with_reducible rfl
            rotate_left
            · simp only [Act.put, vU, vV, vW, uL, uM]
              rfl
            refine uJ (i := 9) (N := some 39) (v := ?_) (a' := ?_) tb34 rfl rfl (vL HT_.out (by kernel_rfl)) (fun _ _ _ h => h) (Or.inl ⟨by rfl, ?_⟩) ?_ ?_
            rotate_left
            · intro w'
              go_simp
              with_reducible rfl
            rotate_left
            · simp only [Act.put, vU, vV, vW, uL, uM]
              rfl
            refine uJ (i := 10) (N := some 40) (v := ?_) (a' := ?_) tb0 rfl rfl (vL HT_.out (by kernel_rfl)) (fun _ _ _ h => h) (Or.inl ⟨by rfl, ?_⟩) ?_ ?_
            rotate_left
            · intro w'
              go_simp
              with_reducible rfl
            rotate_left
            · simp only [Act.put, vU, vV, vW, uL, uM]
              rfl
            exact vC (by first | (simp only [vK, Act.put, vU, vV, vW]; done) | (simp only [vK, Act.put, vU, vV, vW]; rfl)) (hJ6_11_12 (v262, v265, gb270, gb271) _ ⟨hHeld, (by (with_reducible repeat (first | apply Kd.uN | apply Kd.uO | apply Kd.uP)); exact Kd.uZ HO254.out (fun _ hk => hk.2)), (by (with_reducible repeat (first | apply Kd.uN | apply Kd.uO | apply Kd.uP)); exact Kd.uZ HO257.out (fun _ hk => hk.2)), (by (with_reducible repeat (first | apply Kd.uN | apply Kd.uO | apply Kd.uP)); exact Kd.uZ HO263.out (fun _ hk => hk.2)), (by (with_reducible repeat (first | apply Kd.uN | apply Kd.uO | apply Kd.uP)); exact Kd.uZ HO266.out (fun _ hk => hk.2)), (by (with_reducible repeat (first | refine uC ?_ _ | refine uE ?_ | refine uD ?_ _)); exact BK245.out), (by (with_reducible repeat (first | refine uC ?_ _ | refine uE ?_ | refine uD ?_ _)); exact BK259.out), (by (with_reducible repeat (first | refine uC ?_ _ | refine uE ?_ | refine uD ?_ _)); exact BK270.out), (by (with_reducible repeat (first | refine uC ?_ _ | refine uE ?_ | refine uD ?_ _)); exact BK271.out), GW270.out, GE270.out, NB245_270.out, NB270_245.out, NB259_270.out, NB270_259.out, NB271_270.out, NB270_271.out, GW271.out, GE271.out, NB245_271.out, NB271_245.out, NB259_271.out, NB271_259.out, (by repeat (first | (with_reducible first | exact HB.out | apply uG | apply uA | apply uF | refine uB ?_ GE245.out | refine uB ?_ GE259.out | refine uB ?_ GE270.out | refine uB ?_ GE271.out) | exact HB.out))⟩)
          skip
          rintro ⟨v262, v265, gb271⟩ w28 ⟨hS_, h0_, h1_, h2_, h3_, h4_, h5_, h6_, h7_, h8_, h9_, h10_, h11_, h12_, h13_⟩
          have n0_ : Aside0 (Kd.R (Kd.int .i64) 3 w28 w.heap.size (fun k_ => some k_ ≠ (v262 : Value).ownBlock) (.slice Ao20 t252.length co20) t252) := ⟨h0_⟩
          have n1_ : Aside0 (Kd.R k49 49 w28 w.heap.size (fun k_ => some k_ ≠ (v265 : Value).ownBlock) (.slice Ao23 t255.length co23) t255) := ⟨h1_⟩
          have n2_ : Aside0 (Kd.R (Kd.int .i64) 3 w28 w.heap.size (fun k_ => some k_ ≠ (.slice Ao20 t252.length co20 : Value).ownBlock) v262 t261) := ⟨h2_⟩
          have n3_ : Aside0 (Kd.R k49 49 w28 w.heap.size (fun k_ => some k_ ≠ (.slice Ao23 t255.length co23 : Value).ownBlock) v265 t264) := ⟨h3_⟩
          have n4_ : Aside0 (w28.heap[gb245]? = some (.cells #[.bool false, .int .i64 0] 33 (0, 0))) := ⟨h4_⟩
          have n5_ : Aside0 (w28.heap[gb259]? = some (.cells #[.slice Ao20 t252.length co20, .slice Ao23 t255.length co23] 31 (0, 0))) := ⟨h5_⟩
          have n6_ : Aside0 (w28.heap[gb271]? = some (.cells #[.bool false, .int .i64 0] 33 (0, 0))) := ⟨h6_⟩
          have n7_ : Aside0 (w.heap.size ≤ gb271) := ⟨h7_⟩
          have n8_ : Aside0 (w.heap.size ≤ gb271) := ⟨h8_⟩
          have n9_ : Aside0 (gb245 ≠ gb271) := ⟨h9_⟩
          have n10_ : Aside0 (gb271 ≠ gb245) := ⟨h10_⟩
          have n11_ : Aside0 (gb259 ≠ gb271) := ⟨h11_⟩
          have n12_ : Aside0 (gb271 ≠ gb259) := ⟨h12_⟩
          have n13_ : Aside0 (Below w.heap.size w w28) := ⟨h13_⟩
          clear HO254
          clear HO257
          clear BK245
          clear BK259
          clear HB
          clear h0_ h1_ h2_ h3_ h4_ h5_ h6_ h7_ h8_ h9_ h10_ h11_ h12_ h13_
          have HO254 := n0_
          have HO257 := n1_
          have HO263 := n2_
          have HO266 := n3_
          have BK245 := n4_
          have BK259 := n5_
          have BK271 := n6_
          have GW271 := n7_
          have GE271 := n8_
          have NB245_271 := n9_
          have NB271_245 := n10_
          have NB259_271 := n11_
          have NB271_259 := n12_
          have HB := n13_
          clear n0_ n1_ n2_ n3_ n4_ n5_ n6_ n7_ n8_ n9_ n10_ n11_ n12_ n13_
          have hHeld : w28.cell? ⟨gb259, 0, none⟩ = some (.slice Ao20 t252.length co20) ∧ w28.cell? ⟨gb259, 1, none⟩ = some (.slice Ao23 t255.length co23) ∧ w28.cell? (ad260.add ((a1).toNat * 7)) = some (.int .i64 ((rd_T72 l0 a1).f0)) ∧ w28.cell? ⟨(ad260.add ((a1).toNat * 7)).block, (ad260.add ((a1).toNat * 7)).off + 1, none⟩ = some (.int .i64 ((rd_T72 l0 a1).f1.f0)) ∧ w28.cell? ⟨(ad260.add ((a1).toNat * 7)).block, (ad260.add ((a1).toNat * 7)).off + 2, none⟩ = some (.int .i64 ((rd_T72 l0 a1).f1.f1)) ∧ w28.cell? ⟨(ad260.add ((a1).toNat * 7)).block, (ad260.add ((a1).toNat * 7)).off + 3, none⟩ = some (.int .i64 ((rd_T72 l0 a1).f1.f2)) ∧ w28.cell? ⟨(ad260.add ((a1).toNat * 7)).block, (ad260.add ((a1).toNat * 7)).off + 4, none⟩ = some (.int .i64 ((rd_T72 l0 a1).f1.f3)) ∧ w28.cell? ⟨(ad260.add ((a1).toNat * 7)).block, (ad260.add ((a1).toNat * 7)).off + 5, none⟩ = some (.int .i64 ((rd_T72 l0 a1).f1.f4)) ∧ w28.cell? ⟨(ad260.add ((a1).toNat * 7)).block, (ad260.add ((a1).toNat * 7)).off + 6, none⟩ = some (.int .i64 ((rd_T72 l0 a1).f1.f5)) := hS_
          refine vC (a' := ?_) ?_ ?_
          rotate_left
          · simp only [vK, Act.put, vU, vV, vW]
            rfl
          refine one_ (i := 11) (N := some 8) tb0 rfl rfl (one_of HT_.out (by kernel_rfl)) (by decide) (fun K hK => ?_)
          refine box_step ?hg (N := 8) ?hd (cs := #[.slice none 0 0, .slice none 0 0]) (t := 31) ?hr ?_; (case hd => rfl); (case hg => rfl); (case hr => first | (go_simp; done) | (go_simp; rfl))
          intro gb270 hg w29 hbox hb
          have n0_ := Aside0.mk (Kd.vD (by (with_reducible repeat (first | apply Kd.uN | apply Kd.uO | apply Kd.uP)); exact HO254.out) hb)
          have n1_ := Aside0.mk (Kd.vD (by (with_reducible repeat (first | apply Kd.uN | apply Kd.uO | apply Kd.uP)); exact HO257.out) hb)
          have n2_ := Aside0.mk (Kd.vD (by (with_reducible repeat (first | apply Kd.uN | apply Kd.uO | apply Kd.uP)); exact HO263.out) hb)
          have n3_ := Aside0.mk (Kd.vD (by (with_reducible repeat (first | apply Kd.uN | apply Kd.uO | apply Kd.uP)); exact HO266.out) hb)
          have n4_ := Aside0.mk (uR (g := gb245) (o := .cells #[.bool false, .int .i64 0] 33 (0, 0)) (by (with_reducible repeat (first | refine uC ?_ _ | refine uE ?_ | refine uD ?_ _)); exact BK245.out) hb)
          have n5_ := Aside0.mk (uR (g := gb259) (o := .cells #[.slice Ao20 t252.length co20, .slice Ao23 t255.length co23] 31 (0, 0)) (by (with_reducible repeat (first | refine uC ?_ _ | refine uE ?_ | refine uD ?_ _)); exact BK259.out) hb)
          have n6_ := Aside0.mk (uR (g := gb271) (o := .cells #[.bool false, .int .i64 0] 33 (0, 0)) (by (with_reducible repeat (first | refine uC ?_ _ | refine uE ?_ | refine uD ?_ _)); exact BK271.out) hb)
          have n7_ := Aside0.mk (uS (by repeat (first | (with_reducible first | exact HB.out | apply uG | apply uA | apply uF | refine uB ?_ GE245.out | refine uB ?_ GE259.out | refine uB ?_ GE271.out) | exact HB.out)) hb)
          have n8_ := Aside0.mk (hbox)
          have n9_ := Aside0.mk ((by rw [hg]; exact (uQ (by repeat (first | (with_reducible first | exact HB.out | apply uG | apply uA | apply uF | refine uB ?_ GE245.out | refine uB ?_ GE259.out | refine uB ?_ GE271.out) | exact HB.out))) : w.heap.size ≤ gb270))
          have n10_ := Aside0.mk ((by rw [hg]; exact (uQ (by repeat (first | (with_reducible first | exact HB.out | apply uG | apply uA | apply uF | refine uB ?_ GE245.out | refine uB ?_ GE259.out | refine uB ?_ GE271.out) | exact HB.out))) : w.heap.size ≤ gb270))
          have n11_ := Aside0.mk ((by rw [hg]; exact Nat.ne_of_lt (uV (g := gb245) (o := .cells #[.bool false, .int .i64 0] 33 (0, 0)) (by (with_reducible repeat (first | refine uC ?_ _ | refine uE ?_ | refine uD ?_ _)); exact BK245.out)) : gb245 ≠ gb270))
          have n12_ := Aside0.mk ((by rw [hg]; exact Nat.ne_of_gt (uV (g := gb245) (o := .cells #[.bool false, .int .i64 0] 33 (0, 0)) (by (with_reducible repeat (first | refine uC ?_ _ | refine uE ?_ | refine uD ?_ _)); exact BK245.out)) : gb270 ≠ gb245))
          have n13_ := Aside0.mk ((by rw [hg]; exact Nat.ne_of_lt (uV (g := gb259) (o := .cells #[.slice Ao20 t252.length co20, .slice Ao23 t255.length co23] 31 (0, 0)) (by (with_reducible repeat (first | refine uC ?_ _ | refine uE ?_ | refine uD ?_ _)); exact BK259.out)) : gb259 ≠ gb270))
          have n14_ := Aside0.mk ((by rw [hg]; exact Nat.ne_of_gt (uV (g := gb259) (o := .cells #[.slice Ao20 t252.length co20, .slice Ao23 t255.length co23] 31 (0, 0)) (by (with_reducible repeat (first | refine uC ?_ _ | refine uE ?_ | refine uD ?_ _)); exact BK259.out)) : gb270 ≠ gb259))
          have n15_ := Aside0.mk ((by rw [hg]; exact Nat.ne_of_lt (uV (g := gb271) (o := .cells #[.bool false, .int .i64 0] 33 (0, 0)) (by (with_reducible repeat (first | refine uC ?_ _ | refine uE ?_ | refine uD ?_ _)); exact BK271.out)) : gb271 ≠ gb270))
          have n16_ := Aside0.mk ((by rw [hg]; exact Nat.ne_of_gt (uV (g := gb271) (o := .cells #[.bool false, .int .i64 0] 33 (0, 0)) (by (with_reducible repeat (first | refine uC ?_ _ | refine uE ?_ | refine uD ?_ _)); exact BK271.out)) : gb270 ≠ gb271))
          clear HO254
          clear HO257
          clear HO263
          clear HO266
          clear BK245
          clear BK259
          clear BK271
          clear HB
          have HO254 := n0_
          have HO257 := n1_
          have HO263 := n2_
          have HO266 := n3_
          have BK245 := n4_
          have BK259 := n5_
          have BK271 := n6_
          have HB := n7_
          have BK270 := n8_
          have GW270 := n9_
          have GE270 := n10_
          have NB245_270 := n11_
          have NB270_245 := n12_
          have NB259_270 := n13_
          have NB270_259 := n14_
          have NB271_270 := n15_
          have NB270_271 := n16_
          clear n0_ n1_ n2_ n3_ n4_ n5_ n6_ n7_ n8_ n9_ n10_ n11_ n12_ n13_ n14_ n15_ n16_
          clear hb hbox hg
          refine hK.out _ _ ⟨(uI BK259.out 0).trans rfl, (uI BK259.out 1).trans rfl, ((HB.out.cell (yA w _ hw260_0)).trans hw260_0), ((HB.out.cell (yA w _ hw260_1)).trans hw260_1), ((HB.out.cell (yA w _ hw260_2)).trans hw260_2), ((HB.out.cell (yA w _ hw260_3)).trans hw260_3), ((HB.out.cell (yA w _ hw260_4)).trans hw260_4), ((HB.out.cell (yA w _ hw260_5)).trans hw260_5), ((HB.out.cell (yA w _ hw260_6)).trans hw260_6)⟩ (fun hHeld => ?_)
          clear hK K
          refine vC (a' := ?_) ?_ ?_
          rotate_left
          · show Act.put _ (some 8) _ = _
            simp only [Act.put, vU, vV, vW, uL, uM]
            rfl
          exact vC (by first | (simp only [vK, Act.put, vU, vV, vW]; done) | (simp only [vK, Act.put, vU, vV, vW]; rfl)) (hJ6_11_12 (v262, v265, gb270, gb271) _ ⟨hHeld, (by (with_reducible repeat (first | apply Kd.uN | apply Kd.uO | apply Kd.uP)); exact HO254.out), (by (with_reducible repeat (first | apply Kd.uN | apply Kd.uO | apply Kd.uP)); exact HO257.out), (by (with_reducible repeat (first | apply Kd.uN | apply Kd.uO | apply Kd.uP)); exact HO263.out), (by (with_reducible repeat (first | apply Kd.uN | apply Kd.uO | apply Kd.uP)); exact HO266.out), (by (with_reducible repeat (first | refine uC ?_ _ | refine uE ?_ | refine uD ?_ _)); exact BK245.out), (by (with_reducible repeat (first | refine uC ?_ _ | refine uE ?_ | refine uD ?_ _)); exact BK259.out), (by (with_reducible repeat (first | refine uC ?_ _ | refine uE ?_ | refine uD ?_ _)); exact BK270.out), (by (with_reducible repeat (first | refine uC ?_ _ | refine uE ?_ | refine uD ?_ _)); exact BK271.out), GW270.out, GE270.out, NB245_270.out, NB270_245.out, NB259_270.out, NB270_259.out, NB271_270.out, NB270_271.out, GW271.out, GE271.out, NB245_271.out, NB271_245.out, NB259_271.out, NB271_259.out, (by repeat (first | (with_reducible first | exact HB.out | apply uG | apply uA | apply uF | refine uB ?_ GE245.out | refine uB ?_ GE259.out | refine uB ?_ GE271.out | refine uB ?_ GE270.out) | exact HB.out))⟩)
        skip
        rintro ⟨v262, v265, gb270⟩ w28 ⟨hS_, h0_, h1_, h2_, h3_, h4_, h5_, h6_, h7_, h8_, h9_, h10_, h11_, h12_, h13_⟩
        have n0_ : Aside0 (Kd.R (Kd.int .i64) 3 w28 w.heap.size (fun k_ => some k_ ≠ (v262 : Value).ownBlock) (.slice Ao20 t252.length co20) t252) := ⟨h0_⟩
        have n1_ : Aside0 (Kd.R k49 49 w28 w.heap.size (fun k_ => some k_ ≠ (v265 : Value).ownBlock) (.slice Ao23 t255.length co23) t255) := ⟨h1_⟩
        have n2_ : Aside0 (Kd.R (Kd.int .i64) 3 w28 w.heap.size (fun k_ => some k_ ≠ (.slice Ao20 t252.length co20 : Value).ownBlock) v262 t261) := ⟨h2_⟩
        have n3_ : Aside0 (Kd.R k49 49 w28 w.heap.size (fun k_ => some k_ ≠ (.slice Ao23 t255.length co23 : Value).ownBlock) v265 t264) := ⟨h3_⟩
        have n4_ : Aside0 (w28.heap[gb245]? = some (.cells #[.bool false, .int .i64 0] 33 (0, 0))) := ⟨h4_⟩
        have n5_ : Aside0 (w28.heap[gb259]? = some (.cells #[.slice Ao20 t252.length co20, .slice Ao23 t255.length co23] 31 (0, 0))) := ⟨h5_⟩
        have n6_ : Aside0 (w28.heap[gb270]? = some (.cells #[.slice none 0 0, .slice none 0 0] 31 (0, 0))) := ⟨h6_⟩
        have n7_ : Aside0 (w.heap.size ≤ gb270) := ⟨h7_⟩
        have n8_ : Aside0 (w.heap.size ≤ gb270) := ⟨h8_⟩
        have n9_ : Aside0 (gb245 ≠ gb270) := ⟨h9_⟩
        have n10_ : Aside0 (gb270 ≠ gb245) := ⟨h10_⟩
        have n11_ : Aside0 (gb259 ≠ gb270) := ⟨h11_⟩
        have n12_ : Aside0 (gb270 ≠ gb259) := ⟨h12_⟩
        have n13_ : Aside0 (Below w.heap.size w w28) := ⟨h13_⟩
        clear HO254
        clear HO257
        clear BK245
        clear BK259
        clear HB
        clear h0_ h1_ h2_ h3_ h4_ h5_ h6_ h7_ h8_ h9_ h10_ h11_ h12_ h13_
        have HO254 := n0_
        have HO257 := n1_
        have HO263 := n2_
        have HO266 := n3_
        have BK245 := n4_
        have BK259 := n5_
        have BK270 := n6_
        have GW270 := n7_
        have GE270 := n8_
        have NB245_270 := n9_
        have NB270_245 := n10_
        have NB259_270 := n11_
        have NB270_259 := n12_
        have HB := n13_
        clear n0_ n1_ n2_ n3_ n4_ n5_ n6_ n7_ n8_ n9_ n10_ n11_ n12_ n13_
        have hHeld : w28.cell? ⟨gb259, 0, none⟩ = some (.slice Ao20 t252.length co20) ∧ w28.cell? ⟨gb259, 1, none⟩ = some (.slice Ao23 t255.length co23) ∧ w28.cell? (ad260.add ((a1).toNat * 7)) = some (.int .i64 ((rd_T72 l0 a1).f0)) ∧ w28.cell? ⟨(ad260.add ((a1).toNat * 7)).block, (ad260.add ((a1).toNat * 7)).off + 1, none⟩ = some (.int .i64 ((rd_T72 l0 a1).f1.f0)) ∧ w28.cell? ⟨(ad260.add ((a1).toNat * 7)).block, (ad260.add ((a1).toNat * 7)).off + 2, none⟩ = some (.int .i64 ((rd_T72 l0 a1).f1.f1)) ∧ w28.cell? ⟨(ad260.add ((a1).toNat * 7)).block, (ad260.add ((a1).toNat * 7)).off + 3, none⟩ = some (.int .i64 ((rd_T72 l0 a1).f1.f2)) ∧ w28.cell? ⟨(ad260.add ((a1).toNat * 7)).block, (ad260.add ((a1).toNat * 7)).off + 4, none⟩ = some (.int .i64 ((rd_T72 l0 a1).f1.f3)) ∧ w28.cell? ⟨(ad260.add ((a1).toNat * 7)).block, (ad260.add ((a1).toNat * 7)).off + 5, none⟩ = some (.int .i64 ((rd_T72 l0 a1).f1.f4)) ∧ w28.cell? ⟨(ad260.add ((a1).toNat * 7)).block, (ad260.add ((a1).toNat * 7)).off + 6, none⟩ = some (.int .i64 ((rd_T72 l0 a1).f1.f5)) := hS_
        refine vC (a' := ?_) ?_ ?_
        rotate_left
        · simp only [vK, Act.put, vU, vV, vW]
          rfl
        refine one_ (i := 12) (N := some 9) tb0 rfl rfl (one_of HT_.out (by kernel_rfl)) (by decide) (fun K hK => ?_)
        refine box_step ?hg (N := 9) ?hd (cs := #[.bool false, .int .i64 0]) (t := 33) ?hr ?_; (case hd => rfl); (case hg => rfl); (case hr => first | (go_simp; done) | (go_simp; rfl))
        intro gb271 hg w29 hbox hb
        have n0_ := Aside0.mk (Kd.vD (by (with_reducible repeat (first | apply Kd.uN | apply Kd.uO | apply Kd.uP)); exact HO254.out) hb)
        have n1_ := Aside0.mk (Kd.vD (by (with_reducible repeat (first | apply Kd.uN | apply Kd.uO | apply Kd.uP)); exact HO257.out) hb)
        have n2_ := Aside0.mk (Kd.vD (by (with_reducible repeat (first | apply Kd.uN | apply Kd.uO | apply Kd.uP)); exact HO263.out) hb)
        have n3_ := Aside0.mk (Kd.vD (by (with_reducible repeat (first | apply Kd.uN | apply Kd.uO | apply Kd.uP)); exact HO266.out) hb)
        have n4_ := Aside0.mk (uR (g := gb245) (o := .cells #[.bool false, .int .i64 0] 33 (0, 0)) (by (with_reducible repeat (first | refine uC ?_ _ | refine uE ?_ | refine uD ?_ _)); exact BK245.out) hb)
        have n5_ := Aside0.mk (uR (g := gb259) (o := .cells #[.slice Ao20 t252.length co20, .slice Ao23 t255.length co23] 31 (0, 0)) (by (with_reducible repeat (first | refine uC ?_ _ | refine uE ?_ | refine uD ?_ _)); exact BK259.out) hb)
        have n6_ := Aside0.mk (uR (g := gb270) (o := .cells #[.slice none 0 0, .slice none 0 0] 31 (0, 0)) (by (with_reducible repeat (first | refine uC ?_ _ | refine uE ?_ | refine uD ?_ _)); exact BK270.out) hb)
        have n7_ := Aside0.mk (uS (by repeat (first | (with_reducible first | exact HB.out | apply uG | apply uA | apply uF | refine uB ?_ GE245.out | refine uB ?_ GE259.out | refine uB ?_ GE270.out) | exact HB.out)) hb)
        have n8_ := Aside0.mk (hbox)
        have n9_ := Aside0.mk ((by rw [hg]; exact (uQ (by repeat (first | (with_reducible first | exact HB.out | apply uG | apply uA | apply uF | refine uB ?_ GE245.out | refine uB ?_ GE259.out | refine uB ?_ GE270.out) | exact HB.out))) : w.heap.size ≤ gb271))
        have n10_ := Aside0.mk ((by rw [hg]; exact (uQ (by repeat (first | (with_reducible first | exact HB.out | apply uG | apply uA | apply uF | refine uB ?_ GE245.out | refine uB ?_ GE259.out | refine uB ?_ GE270.out) | exact HB.out))) : w.heap.size ≤ gb271))
        have n11_ := Aside0.mk ((by rw [hg]; exact Nat.ne_of_lt (uV (g := gb245) (o := .cells #[.bool false, .int .i64 0] 33 (0, 0)) (by (with_reducible repeat (first | refine uC ?_ _ | refine uE ?_ | refine uD ?_ _)); exact BK245.out)) : gb245 ≠ gb271))
        have n12_ := Aside0.mk ((by rw [hg]; exact Nat.ne_of_gt (uV (g := gb245) (o := .cells #[.bool false, .int .i64 0] 33 (0, 0)) (by (with_reducible repeat (first | refine uC ?_ _ | refine uE ?_ | refine uD ?_ _)); exact BK245.out)) : gb271 ≠ gb245))
        have n13_ := Aside0.mk ((by rw [hg]; exact Nat.ne_of_lt (uV (g := gb259) (o := .cells #[.slice Ao20 t252.length co20, .slice Ao23 t255.length co23] 31 (0, 0)) (by (with_reducible repeat (first | refine uC ?_ _ | refine uE ?_ | refine uD ?_ _)); exact BK259.out)) : gb259 ≠ gb271))
        have n14_ := Aside0.mk ((by rw [hg]; exact Nat.ne_of_gt (uV (g := gb259) (o := .cells #[.slice Ao20 t252.length co20, .slice Ao23 t255.length co23] 31 (0, 0)) (by (with_reducible repeat (first | refine uC ?_ _ | refine uE ?_ | refine uD ?_ _)); exact BK259.out)) : gb271 ≠ gb259))
        have n15_ := Aside0.mk ((by rw [hg]; exact Nat.ne_of_lt (uV (g := gb270) (o := .cells #[.slice none 0 0, .slice none 0 0] 31 (0, 0)) (by (with_reducible repeat (first | refine uC ?_ _ | refine uE ?_ | refine uD ?_ _)); exact BK270.out)) : gb270 ≠ gb271))
        have n16_ := Aside0.mk ((by rw [hg]; exact Nat.ne_of_gt (uV (g := gb270) (o := .cells #[.slice none 0 0, .slice none 0 0] 31 (0, 0)) (by (with_reducible repeat (first | refine uC ?_ _ | refine uE ?_ | refine uD ?_ _)); exact BK270.out)) : gb271 ≠ gb270))
        clear HO254
        clear HO257
        clear HO263
        clear HO266
        clear BK245
        clear BK259
        clear BK270
        clear HB
        have HO254 := n0_
        have HO257 := n1_
        have HO263 := n2_
        have HO266 := n3_
        have BK245 := n4_
        have BK259 := n5_
        have BK270 := n6_
        have HB := n7_
        have BK271 := n8_
        have GW271 := n9_
        have GE271 := n10_
        have NB245_271 := n11_
        have NB271_245 := n12_
        have NB259_271 := n13_
        have NB271_259 := n14_
        have NB270_271 := n15_
        have NB271_270 := n16_
        clear n0_ n1_ n2_ n3_ n4_ n5_ n6_ n7_ n8_ n9_ n10_ n11_ n12_ n13_ n14_ n15_ n16_
        clear hb hbox hg
        refine hK.out _ _ ⟨(uI BK259.out 0).trans rfl, (uI BK259.out 1).trans rfl, ((HB.out.cell (yA w _ hw260_0)).trans hw260_0), ((HB.out.cell (yA w _ hw260_1)).trans hw260_1), ((HB.out.cell (yA w _ hw260_2)).trans hw260_2), ((HB.out.cell (yA w _ hw260_3)).trans hw260_3), ((HB.out.cell (yA w _ hw260_4)).trans hw260_4), ((HB.out.cell (yA w _ hw260_5)).trans hw260_5), ((HB.out.cell (yA w _ hw260_6)).trans hw260_6)⟩ (fun hHeld => ?_)
        clear hK K
        refine vC (a' := ?_) ?_ ?_
        rotate_left
        · show Act.put _ (some 9) _ = _
          simp only [Act.put, vU, vV, vW, uL, uM]
          rfl
        exact vC (by first | (simp only [vK, Act.put, vU, vV, vW]; done) | (simp only [vK, Act.put, vU, vV, vW]; rfl)) (hJ6_11_12 (v262, v265, gb270, gb271) _ ⟨hHeld, (by (with_reducible repeat (first | apply Kd.uN | apply Kd.uO | apply Kd.uP)); exact HO254.out), (by (with_reducible repeat (first | apply Kd.uN | apply Kd.uO | apply Kd.uP)); exact HO257.out), (by (with_reducible repeat (first | apply Kd.uN | apply Kd.uO | apply Kd.uP)); exact HO263.out), (by (with_reducible repeat (first | apply Kd.uN | apply Kd.uO | apply Kd.uP)); exact HO266.out), (by (with_reducible repeat (first | refine uC ?_ _ | refine uE ?_ | refine uD ?_ _)); exact BK245.out), (by (with_reducible repeat (first | refine uC ?_ _ | refine uE ?_ | refine uD ?_ _)); exact BK259.out), (by (with_reducible repeat (first | refine uC ?_ _ | refine uE ?_ | refine uD ?_ _)); exact BK270.out), (by (with_reducible repeat (first | refine uC ?_ _ | refine uE ?_ | refine uD ?_ _)); exact BK271.out), GW270.out, GE270.out, NB245_270.out, NB270_245.out, NB259_270.out, NB270_259.out, NB271_270.out, NB270_271.out, GW271.out, GE271.out, NB245_271.out, NB271_245.out, NB259_271.out, NB271_259.out, (by repeat (first | (with_reducible first | exact HB.out | apply uG | apply uA | apply uF | refine uB ?_ GE245.out | refine uB ?_ GE259.out | refine uB ?_ GE270.out | refine uB ?_ GE271.out) | exact HB.out))⟩)
      rintro ⟨v262, v265, gb270, gb271⟩ w29 ⟨hS_, h0_, h1_, h2_, h3_, h4_, h5_, h6_, h7_, h8_, h9_, h10_, h11_, h12_, h13_, h14_, h15_, h16_, h17_, h18_, h19_, h20_, h21_, h22_⟩
      have n0_ : Aside0 (Kd.R (Kd.int .i64) 3 w29 w.heap.size (fun k_ => some k_ ≠ (v262 : Value).ownBlock) (.slice Ao20 t252.length co20) t252) := ⟨h0_⟩
      have n1_ : Aside0 (Kd.R k49 49 w29 w.heap.size (fun k_ => some k_ ≠ (v265 : Value).ownBlock) (.slice Ao23 t255.length co23) t255) := ⟨h1_⟩
      have n2_ : Aside0 (Kd.R (Kd.int .i64) 3 w29 w.heap.size (fun k_ => some k_ ≠ (.slice Ao20 t252.length co20 : Value).ownBlock) v262 t261) := ⟨h2_⟩
      have n3_ : Aside0 (Kd.R k49 49 w29 w.heap.size (fun k_ => some k_ ≠ (.slice Ao23 t255.length co23 : Value).ownBlock) v265 t264) := ⟨h3_⟩
      have n4_ : Aside0 (w29.heap[gb245]? = some (.cells #[.bool false, .int .i64 0] 33 (0, 0))) := ⟨h4_⟩
      have n5_ : Aside0 (w29.heap[gb259]? = some (.cells #[.slice Ao20 t252.length co20, .slice Ao23 t255.length co23] 31 (0, 0))) := ⟨h5_⟩
      have n6_ : Aside0 (w29.heap[gb270]? = some (.cells #[.slice none 0 0, .slice none 0 0] 31 (0, 0))) := ⟨h6_⟩
      have n7_ : Aside0 (w29.heap[gb271]? = some (.cells #[.bool false, .int .i64 0] 33 (0, 0))) := ⟨h7_⟩
      have n8_ : Aside0 (w.heap.size ≤ gb270) := ⟨h8_⟩
      have n9_ : Aside0 (w.heap.size ≤ gb270) := ⟨h9_⟩
      have n10_ : Aside0 (gb245 ≠ gb270) := ⟨h10_⟩
      have n11_ : Aside0 (gb270 ≠ gb245) := ⟨h11_⟩
      have n12_ : Aside0 (gb259 ≠ gb270) := ⟨h12_⟩
      have n13_ : Aside0 (gb270 ≠ gb259) := ⟨h13_⟩
      have n14_ : Aside0 (gb271 ≠ gb270) := ⟨h14_⟩
      have n15_ : Aside0 (gb270 ≠ gb271) := ⟨h15_⟩
      have n16_ : Aside0 (w.heap.size ≤ gb271) := ⟨h16_⟩
      have n17_ : Aside0 (w.heap.size ≤ gb271) := ⟨h17_⟩
      have n18_ : Aside0 (gb245 ≠ gb271) := ⟨h18_⟩
      have n19_ : Aside0 (gb271 ≠ gb245) := ⟨h19_⟩
      have n20_ : Aside0 (gb259 ≠ gb271) := ⟨h20_⟩
      have n21_ : Aside0 (gb271 ≠ gb259) := ⟨h21_⟩
      have n22_ : Aside0 (Below w.heap.size w w29) := ⟨h22_⟩
      clear HO254
      clear HO257
      clear BK245
      clear BK259
      clear HB
      clear h0_ h1_ h2_ h3_ h4_ h5_ h6_ h7_ h8_ h9_ h10_ h11_ h12_ h13_ h14_ h15_ h16_ h17_ h18_ h19_ h20_ h21_ h22_
      have HO254 := n0_
      have HO257 := n1_
      have HO263 := n2_
      have HO266 := n3_
      have BK245 := n4_
      have BK259 := n5_
      have BK270 := n6_
      have BK271 := n7_
      have GW270 := n8_
      have GE270 := n9_
      have NB245_270 := n10_
      have NB270_245 := n11_
      have NB259_270 := n12_
      have NB270_259 := n13_
      have NB271_270 := n14_
      have NB270_271 := n15_
      have GW271 := n16_
      have GE271 := n17_
      have NB245_271 := n18_
      have NB271_245 := n19_
      have NB259_271 := n20_
      have NB271_259 := n21_
      have HB := n22_
      clear n0_ n1_ n2_ n3_ n4_ n5_ n6_ n7_ n8_ n9_ n10_ n11_ n12_ n13_ n14_ n15_ n16_ n17_ n18_ n19_ n20_ n21_ n22_
      have hHeld : w29.cell? ⟨gb259, 0, none⟩ = some (.slice Ao20 t252.length co20) ∧ w29.cell? ⟨gb259, 1, none⟩ = some (.slice Ao23 t255.length co23) ∧ w29.cell? (ad260.add ((a1).toNat * 7)) = some (.int .i64 ((rd_T72 l0 a1).f0)) ∧ w29.cell? ⟨(ad260.add ((a1).toNat * 7)).block, (ad260.add ((a1).toNat * 7)).off + 1, none⟩ = some (.int .i64 ((rd_T72 l0 a1).f1.f0)) ∧ w29.cell? ⟨(ad260.add ((a1).toNat * 7)).block, (ad260.add ((a1).toNat * 7)).off + 2, none⟩ = some (.int .i64 ((rd_T72 l0 a1).f1.f1)) ∧ w29.cell? ⟨(ad260.add ((a1).toNat * 7)).block, (ad260.add ((a1).toNat * 7)).off + 3, none⟩ = some (.int .i64 ((rd_T72 l0 a1).f1.f2)) ∧ w29.cell? ⟨(ad260.add ((a1).toNat * 7)).block, (ad260.add ((a1).toNat * 7)).off + 4, none⟩ = some (.int .i64 ((rd_T72 l0 a1).f1.f3)) ∧ w29.cell? ⟨(ad260.add ((a1).toNat * 7)).block, (ad260.add ((a1).toNat * 7)).off + 5, none⟩ = some (.int .i64 ((rd_T72 l0 a1).f1.f4)) ∧ w29.cell? ⟨(ad260.add ((a1).toNat * 7)).block, (ad260.add ((a1).toNat * 7)).off + 6, none⟩ = some (.int .i64 ((rd_T72 l0 a1).f1.f5)) := hS_
      obtain ⟨Ao30, co30, eo30⟩ := Kd.vN HO263.out
      (first | subst eo30 | (injection eo30 with f1_ f2_ f3_; have f4_ := f1_.symm; have f5_ := f3_.symm; clear f1_ f2_ f3_; subst f4_; subst f5_))
      obtain ⟨Ao32, co32, eo32⟩ := Kd.vN HO266.out
      (first | subst eo32 | (injection eo32 with f1_ f2_ f3_; have f4_ := f1_.symm; have f5_ := f3_.symm; clear f1_ f2_ f3_; subst f4_; subst f5_))
      refine vC (a' := ?_) ?_ ?_
      rotate_left
      · simp only [vK, Act.put, vU, vV, vW]
        rfl
      refine one_ (i := 13) (N := none) tb35 rfl rfl (one_of HT_.out (by kernel_rfl)) (by decide) (fun K hK => ?_)
      have hs31 : w29.cell? ⟨gb270, 0, none⟩ = some (.slice none 0 0) := (uI BK270.out 0).trans rfl
      have hfs31 := uK BK270.out 0
      have hns31_0 := NB245_270.out
      have hns31_1 := NB259_270.out
      have hns31_3 := NB271_270.out
      have hms31_0 := NB270_245.out
      have hms31_1 := NB270_259.out
      have hms31_3 := NB270_271.out
      have hs33 : w29.cell? ⟨gb270, 1, none⟩ = some (.slice none 0 0) := (uI BK270.out 1).trans rfl
      have hfs33 := uK BK270.out 1
      have hns33_0 := NB245_270.out
      have hns33_1 := NB259_270.out
      have hns33_3 := NB271_270.out
      have hms33_0 := NB270_245.out
      have hms33_1 := NB270_259.out
      have hms33_3 := NB270_271.out
      refine skip_ (w1 := ?_) (by rfl) rfl ?_ ?_
      rotate_left
      · go_simp
        rfl
      refine hK.out _ _ ⟨((vA (p := ⟨gb270, _, none⟩) NB259_270.out _).trans (((vA (p := ⟨gb270, _, none⟩) NB259_270.out _).trans (hHeld.1)))), ((vA (p := ⟨gb270, _, none⟩) NB259_270.out _).trans (((vA (p := ⟨gb270, _, none⟩) NB259_270.out _).trans (hHeld.2.1)))), ((vA (p := ⟨gb270, _, none⟩) (by first | exact Nat.ne_of_lt (Nat.lt_of_lt_of_le (by have := yA _ _ hw260_0; first | rwa [uH] at this | exact this) GW270.out) | (rw [uH]; exact Nat.ne_of_lt (Nat.lt_of_lt_of_le (by have := yA _ _ hw260_0; first | rwa [uH] at this | exact this) GW270.out)) | (show (Addr.add _ _).block ≠ _; rw [uH]; exact Nat.ne_of_lt (Nat.lt_of_lt_of_le (by have := yA _ _ hw260_0; first | rwa [uH] at this | exact this) GW270.out)) | (dsimp only; exact Nat.ne_of_lt (Nat.lt_of_lt_of_le (by have := yA _ _ hw260_0; first | rwa [uH] at this | exact this) GW270.out))) _).trans (((vA (p := ⟨gb270, _, none⟩) (by first | exact Nat.ne_of_lt (Nat.lt_of_lt_of_le (by have := yA _ _ hw260_0; first | rwa [uH] at this | exact this) GW270.out) | (rw [uH]; exact Nat.ne_of_lt (Nat.lt_of_lt_of_le (by have := yA _ _ hw260_0; first | rwa [uH] at this | exact this) GW270.out)) | (show (Addr.add _ _).block ≠ _; rw [uH]; exact Nat.ne_of_lt (Nat.lt_of_lt_of_le (by have := yA _ _ hw260_0; first | rwa [uH] at this | exact this) GW270.out)) | (dsimp only; exact Nat.ne_of_lt (Nat.lt_of_lt_of_le (by have := yA _ _ hw260_0; first | rwa [uH] at this | exact this) GW270.out))) _).trans (hHeld.2.2.1)))), ((vA (p := ⟨gb270, _, none⟩) (by first | exact Nat.ne_of_lt (Nat.lt_of_lt_of_le (by have := yA _ _ hw260_1; first | rwa [uH] at this | exact this) GW270.out) | (rw [uH]; exact Nat.ne_of_lt (Nat.lt_of_lt_of_le (by have := yA _ _ hw260_1; first | rwa [uH] at this | exact this) GW270.out)) | (show (Addr.add _ _).block ≠ _; rw [uH]; exact Nat.ne_of_lt (Nat.lt_of_lt_of_le (by have := yA _ _ hw260_1; first | rwa [uH] at this | exact this) GW270.out)) | (dsimp only; exact Nat.ne_of_lt (Nat.lt_of_lt_of_le (by have := yA _ _ hw260_1; first | rwa [uH] at this | exact this) GW270.out))) _).trans (((vA (p := ⟨gb270, _, none⟩) (by first | exact Nat.ne_of_lt (Nat.lt_of_lt_of_le (by have := yA _ _ hw260_1; first | rwa [uH] at this | exact this) GW270.out) | (rw [uH]; exact Nat.ne_of_lt (Nat.lt_of_lt_of_le (by have := yA _ _ hw260_1; first | rwa [uH] at this | exact this) GW270.out)) | (show (Addr.add _ _).block ≠ _; rw [uH]; exact Nat.ne_of_lt (Nat.lt_of_lt_of_le (by have := yA _ _ hw260_1; first | rwa [uH] at this | exact this) GW270.out)) | (dsimp only; exact Nat.ne_of_lt (Nat.lt_of_lt_of_le (by have := yA _ _ hw260_1; first | rwa [uH] at this | exact this) GW270.out))) _).trans (hHeld.2.2.2.1)))), ((vA (p := ⟨gb270, _, none⟩) (by first | exact Nat.ne_of_lt (Nat.lt_of_lt_of_le (by have := yA _ _ hw260_2; first | rwa [uH] at this | exact this) GW270.out) | (rw [uH]; exact Nat.ne_of_lt (Nat.lt_of_lt_of_le (by have := yA _ _ hw260_2; first | rwa [uH] at this | exact this) GW270.out)) | (show (Addr.add _ _).block ≠ _; rw [uH]; exact Nat.ne_of_lt (Nat.lt_of_lt_of_le (by have := yA _ _ hw260_2; first | rwa [uH] at this | exact this) GW270.out)) | (dsimp only; exact Nat.ne_of_lt (Nat.lt_of_lt_of_le (by have := yA _ _ hw260_2; first | rwa [uH] at this | exact this) GW270.out))) _).trans (((vA (p := ⟨gb270, _, none⟩) (by first | exact Nat.ne_of_lt (Nat.lt_of_lt_of_le (by have := yA _ _ hw260_2; first | rwa [uH] at this | exact this) GW270.out) | (rw [uH]; exact Nat.ne_of_lt (Nat.lt_of_lt_of_le (by have := yA _ _ hw260_2; first | rwa [uH] at this | exact this) GW270.out)) | (show (Addr.add _ _).block ≠ _; rw [uH]; exact Nat.ne_of_lt (Nat.lt_of_lt_of_le (by have := yA _ _ hw260_2; first | rwa [uH] at this | exact this) GW270.out)) | (dsimp only; exact Nat.ne_of_lt (Nat.lt_of_lt_of_le (by have := yA _ _ hw260_2; first | rwa [uH] at this | exact this) GW270.out))) _).trans (hHeld.2.2.2.2.1)))), ((vA (p := ⟨gb270, _, none⟩) (by first | exact Nat.ne_of_lt (Nat.lt_of_lt_of_le (by have := yA _ _ hw260_3; first | rwa [uH] at this | exact this) GW270.out) | (rw [uH]; exact Nat.ne_of_lt (Nat.lt_of_lt_of_le (by have := yA _ _ hw260_3; first | rwa [uH] at this | exact this) GW270.out)) | (show (Addr.add _ _).block ≠ _; rw [uH]; exact Nat.ne_of_lt (Nat.lt_of_lt_of_le (by have := yA _ _ hw260_3; first | rwa [uH] at this | exact this) GW270.out)) | (dsimp only; exact Nat.ne_of_lt (Nat.lt_of_lt_of_le (by have := yA _ _ hw260_3; first | rwa [uH] at this | exact this) GW270.out))) _).trans (((vA (p := ⟨gb270, _, none⟩) (by first | exact Nat.ne_of_lt (Nat.lt_of_lt_of_le (by have := yA _ _ hw260_3; first | rwa [uH] at this | exact this) GW270.out) | (rw [uH]; exact Nat.ne_of_lt (Nat.lt_of_lt_of_le (by have := yA _ _ hw260_3; first | rwa [uH] at this | exact this) GW270.out)) | (show (Addr.add _ _).block ≠ _; rw [uH]; exact Nat.ne_of_lt (Nat.lt_of_lt_of_le (by have := yA _ _ hw260_3; first | rwa [uH] at this | exact this) GW270.out)) | (dsimp only; exact Nat.ne_of_lt (Nat.lt_of_lt_of_le (by have := yA _ _ hw260_3; first | rwa [uH] at this | exact this) GW270.out))) _).trans (hHeld.2.2.2.2.2.1)))), ((vA (p := ⟨gb270, _, none⟩) (by first | exact Nat.ne_of_lt (Nat.lt_of_lt_of_le (by have := yA _ _ hw260_4; first | rwa [uH] at this | exact this) GW270.out) | (rw [uH]; exact Nat.ne_of_lt (Nat.lt_of_lt_of_le (by have := yA _ _ hw260_4; first | rwa [uH] at this | exact this) GW270.out)) | (show (Addr.add _ _).block ≠ _; rw [uH]; exact Nat.ne_of_lt (Nat.lt_of_lt_of_le (by have := yA _ _ hw260_4; first | rwa [uH] at this | exact this) GW270.out)) | (dsimp only; exact Nat.ne_of_lt (Nat.lt_of_lt_of_le (by have := yA _ _ hw260_4; first | rwa [uH] at this | exact this) GW270.out))) _).trans (((vA (p := ⟨gb270, _, none⟩) (by first | exact Nat.ne_of_lt (Nat.lt_of_lt_of_le (by have := yA _ _ hw260_4; first | rwa [uH] at this | exact this) GW270.out) | (rw [uH]; exact Nat.ne_of_lt (Nat.lt_of_lt_of_le (by have := yA _ _ hw260_4; first | rwa [uH] at this | exact this) GW270.out)) | (show (Addr.add _ _).block ≠ _; rw [uH]; exact Nat.ne_of_lt (Nat.lt_of_lt_of_le (by have := yA _ _ hw260_4; first | rwa [uH] at this | exact this) GW270.out)) | (dsimp only; exact Nat.ne_of_lt (Nat.lt_of_lt_of_le (by have := yA _ _ hw260_4; first | rwa [uH] at this | exact this) GW270.out))) _).trans (hHeld.2.2.2.2.2.2.1)))), ((vA (p := ⟨gb270, _, none⟩) (by first | exact Nat.ne_of_lt (Nat.lt_of_lt_of_le (by have := yA _ _ hw260_5; first | rwa [uH] at this | exact this) GW270.out) | (rw [uH]; exact Nat.ne_of_lt (Nat.lt_of_lt_of_le (by have := yA _ _ hw260_5; first | rwa [uH] at this | exact this) GW270.out)) | (show (Addr.add _ _).block ≠ _; rw [uH]; exact Nat.ne_of_lt (Nat.lt_of_lt_of_le (by have := yA _ _ hw260_5; first | rwa [uH] at this | exact this) GW270.out)) | (dsimp only; exact Nat.ne_of_lt (Nat.lt_of_lt_of_le (by have := yA _ _ hw260_5; first | rwa [uH] at this | exact this) GW270.out))) _).trans (((vA (p := ⟨gb270, _, none⟩) (by first | exact Nat.ne_of_lt (Nat.lt_of_lt_of_le (by have := yA _ _ hw260_5; first | rwa [uH] at this | exact this) GW270.out) | (rw [uH]; exact Nat.ne_of_lt (Nat.lt_of_lt_of_le (by have := yA _ _ hw260_5; first | rwa [uH] at this | exact this) GW270.out)) | (show (Addr.add _ _).block ≠ _; rw [uH]; exact Nat.ne_of_lt (Nat.lt_of_lt_of_le (by have := yA _ _ hw260_5; first | rwa [uH] at this | exact this) GW270.out)) | (dsimp only; exact Nat.ne_of_lt (Nat.lt_of_lt_of_le (by have := yA _ _ hw260_5; first | rwa [uH] at this | exact this) GW270.out))) _).trans (hHeld.2.2.2.2.2.2.2.1)))), ((vA (p := ⟨gb270, _, none⟩) (by first | exact Nat.ne_of_lt (Nat.lt_of_lt_of_le (by have := yA _ _ hw260_6; first | rwa [uH] at this | exact this) GW270.out) | (rw [uH]; exact Nat.ne_of_lt (Nat.lt_of_lt_of_le (by have := yA _ _ hw260_6; first | rwa [uH] at this | exact this) GW270.out)) | (show (Addr.add _ _).block ≠ _; rw [uH]; exact Nat.ne_of_lt (Nat.lt_of_lt_of_le (by have := yA _ _ hw260_6; first | rwa [uH] at this | exact this) GW270.out)) | (dsimp only; exact Nat.ne_of_lt (Nat.lt_of_lt_of_le (by have := yA _ _ hw260_6; first | rwa [uH] at this | exact this) GW270.out))) _).trans (((vA (p := ⟨gb270, _, none⟩) (by first | exact Nat.ne_of_lt (Nat.lt_of_lt_of_le (by have := yA _ _ hw260_6; first | rwa [uH] at this | exact this) GW270.out) | (rw [uH]; exact Nat.ne_of_lt (Nat.lt_of_lt_of_le (by have := yA _ _ hw260_6; first | rwa [uH] at this | exact this) GW270.out)) | (show (Addr.add _ _).block ≠ _; rw [uH]; exact Nat.ne_of_lt (Nat.lt_of_lt_of_le (by have := yA _ _ hw260_6; first | rwa [uH] at this | exact this) GW270.out)) | (dsimp only; exact Nat.ne_of_lt (Nat.lt_of_lt_of_le (by have := yA _ _ hw260_6; first | rwa [uH] at this | exact this) GW270.out))) _).trans (hHeld.2.2.2.2.2.2.2.2))))⟩ (fun hHeld => ?_)
      clear hK K
      refine one_ (i := 14) (N := none) tb36 rfl rfl (one_of HT_.out (by kernel_rfl)) (by decide) (fun K hK => ?_)
      have hs34 : w29.cell? ⟨gb271, 0, none⟩ = some (.bool false) := (uI BK271.out 0).trans rfl
      have hfs34 := uK BK271.out 0
      have hns34_0 := NB245_271.out
      have hns34_1 := NB259_271.out
      have hns34_2 := NB270_271.out
      have hms34_0 := NB271_245.out
      have hms34_1 := NB271_259.out
      have hms34_2 := NB271_270.out
      have hs35 : w29.cell? ⟨gb271, 1, none⟩ = some (.int .i64 0) := (uI BK271.out 1).trans rfl
      have hfs35 := uK BK271.out 1
      have hns35_0 := NB245_271.out
      have hns35_1 := NB259_271.out
      have hns35_2 := NB270_271.out
      have hms35_0 := NB271_245.out
      have hms35_1 := NB271_259.out
      have hms35_2 := NB271_270.out
      refine skip_ (w1 := ?_) (by rfl) rfl ?_ ?_
      rotate_left
      · go_simp
        rfl
      refine hK.out _ _ ⟨((vA (p := ⟨gb271, _, none⟩) NB259_271.out _).trans (((vA (p := ⟨gb271, _, none⟩) NB259_271.out _).trans (hHeld.1)))), ((vA (p := ⟨gb271, _, none⟩) NB259_271.out _).trans (((vA (p := ⟨gb271, _, none⟩) NB259_271.out _).trans (hHeld.2.1)))), ((vA (p := ⟨gb271, _, none⟩) (by first | exact Nat.ne_of_lt (Nat.lt_of_lt_of_le (by have := yA _ _ hw260_0; first | rwa [uH] at this | exact this) GW271.out) | (rw [uH]; exact Nat.ne_of_lt (Nat.lt_of_lt_of_le (by have := yA _ _ hw260_0; first | rwa [uH] at this | exact this) GW271.out)) | (show (Addr.add _ _).block ≠ _; rw [uH]; exact Nat.ne_of_lt (Nat.lt_of_lt_of_le (by have := yA _ _ hw260_0; first | rwa [uH] at this | exact this) GW271.out)) | (dsimp only; exact Nat.ne_of_lt (Nat.lt_of_lt_of_le (by have := yA _ _ hw260_0; first | rwa [uH] at this | exact this) GW271.out))) _).trans (((vA (p := ⟨gb271, _, none⟩) (by first | exact Nat.ne_of_lt (Nat.lt_of_lt_of_le (by have := yA _ _ hw260_0; first | rwa [uH] at this | exact this) GW271.out) | (rw [uH]; exact Nat.ne_of_lt (Nat.lt_of_lt_of_le (by have := yA _ _ hw260_0; first | rwa [uH] at this | exact this) GW271.out)) | (show (Addr.add _ _).block ≠ _; rw [uH]; exact Nat.ne_of_lt (Nat.lt_of_lt_of_le (by have := yA _ _ hw260_0; first | rwa [uH] at this | exact this) GW271.out)) | (dsimp only; exact Nat.ne_of_lt (Nat.lt_of_lt_of_le (by have := yA _ _ hw260_0; first | rwa [uH] at this | exact this) GW271.out))) _).trans (hHeld.2.2.1)))), ((vA (p := ⟨gb271, _, none⟩) (by first | exact Nat.ne_of_lt (Nat.lt_of_lt_of_le (by have := yA _ _ hw260_1; first | rwa [uH] at this | exact this) GW271.out) | (rw [uH]; exact Nat.ne_of_lt (Nat.lt_of_lt_of_le (by have := yA _ _ hw260_1; first | rwa [uH] at this | exact this) GW271.out)) | (show (Addr.add _ _).block ≠ _; rw [uH]; exact Nat.ne_of_lt (Nat.lt_of_lt_of_le (by have := yA _ _ hw260_1; first | rwa [uH] at this | exact this) GW271.out)) | (dsimp only; exact Nat.ne_of_lt (Nat.lt_of_lt_of_le (by have := yA _ _ hw260_1; first | rwa [uH] at this | exact this) GW271.out))) _).trans (((vA (p := ⟨gb271, _, none⟩) (by first | exact Nat.ne_of_lt (Nat.lt_of_lt_of_le (by have := yA _ _ hw260_1; first | rwa [uH] at this | exact this) GW271.out) | (rw [uH]; exact Nat.ne_of_lt (Nat.lt_of_lt_of_le (by have := yA _ _ hw260_1; first | rwa [uH] at this | exact this) GW271.out)) | (show (Addr.add _ _).block ≠ _; rw [uH]; exact Nat.ne_of_lt (Nat.lt_of_lt_of_le (by have := yA _ _ hw260_1; first | rwa [uH] at this | exact this) GW271.out)) | (dsimp only; exact Nat.ne_of_lt (Nat.lt_of_lt_of_le (by have := yA _ _ hw260_1; first | rwa [uH] at this | exact this) GW271.out))) _).trans (hHeld.2.2.2.1)))), ((vA (p := ⟨gb271, _, none⟩) (by first | exact Nat.ne_of_lt (Nat.lt_of_lt_of_le (by have := yA _ _ hw260_2; first | rwa [uH] at this | exact this) GW271.out) | (rw [uH]; exact Nat.ne_of_lt (Nat.lt_of_lt_of_le (by have := yA _ _ hw260_2; first | rwa [uH] at this | exact this) GW271.out)) | (show (Addr.add _ _).block ≠ _; rw [uH]; exact Nat.ne_of_lt (Nat.lt_of_lt_of_le (by have := yA _ _ hw260_2; first | rwa [uH] at this | exact this) GW271.out)) | (dsimp only; exact Nat.ne_of_lt (Nat.lt_of_lt_of_le (by have := yA _ _ hw260_2; first | rwa [uH] at this | exact this) GW271.out))) _).trans (((vA (p := ⟨gb271, _, none⟩) (by first | exact Nat.ne_of_lt (Nat.lt_of_lt_of_le (by have := yA _ _ hw260_2; first | rwa [uH] at this | exact this) GW271.out) | (rw [uH]; exact Nat.ne_of_lt (Nat.lt_of_lt_of_le (by have := yA _ _ hw260_2; first | rwa [uH] at this | exact this) GW271.out)) | (show (Addr.add _ _).block ≠ _; rw [uH]; exact Nat.ne_of_lt (Nat.lt_of_lt_of_le (by have := yA _ _ hw260_2; first | rwa [uH] at this | exact this) GW271.out)) | (dsimp only; exact Nat.ne_of_lt (Nat.lt_of_lt_of_le (by have := yA _ _ hw260_2; first | rwa [uH] at this | exact this) GW271.out))) _).trans (hHeld.2.2.2.2.1)))), ((vA (p := ⟨gb271, _, none⟩) (by first | exact Nat.ne_of_lt (Nat.lt_of_lt_of_le (by have := yA _ _ hw260_3; first | rwa [uH] at this | exact this) GW271.out) | (rw [uH]; exact Nat.ne_of_lt (Nat.lt_of_lt_of_le (by have := yA _ _ hw260_3; first | rwa [uH] at this | exact this) GW271.out)) | (show (Addr.add _ _).block ≠ _; rw [uH]; exact Nat.ne_of_lt (Nat.lt_of_lt_of_le (by have := yA _ _ hw260_3; first | rwa [uH] at this | exact this) GW271.out)) | (dsimp only; exact Nat.ne_of_lt (Nat.lt_of_lt_of_le (by have := yA _ _ hw260_3; first | rwa [uH] at this | exact this) GW271.out))) _).trans (((vA (p := ⟨gb271, _, none⟩) (by first | exact Nat.ne_of_lt (Nat.lt_of_lt_of_le (by have := yA _ _ hw260_3; first | rwa [uH] at this | exact this) GW271.out) | (rw [uH]; exact Nat.ne_of_lt (Nat.lt_of_lt_of_le (by have := yA _ _ hw260_3; first | rwa [uH] at this | exact this) GW271.out)) | (show (Addr.add _ _).block ≠ _; rw [uH]; exact Nat.ne_of_lt (Nat.lt_of_lt_of_le (by have := yA _ _ hw260_3; first | rwa [uH] at this | exact this) GW271.out)) | (dsimp only; exact Nat.ne_of_lt (Nat.lt_of_lt_of_le (by have := yA _ _ hw260_3; first | rwa [uH] at this | exact this) GW271.out))) _).trans (hHeld.2.2.2.2.2.1)))), ((vA (p := ⟨gb271, _, none⟩) (by first | exact Nat.ne_of_lt (Nat.lt_of_lt_of_le (by have := yA _ _ hw260_4; first | rwa [uH] at this | exact this) GW271.out) | (rw [uH]; exact Nat.ne_of_lt (Nat.lt_of_lt_of_le (by have := yA _ _ hw260_4; first | rwa [uH] at this | exact this) GW271.out)) | (show (Addr.add _ _).block ≠ _; rw [uH]; exact Nat.ne_of_lt (Nat.lt_of_lt_of_le (by have := yA _ _ hw260_4; first | rwa [uH] at this | exact this) GW271.out)) | (dsimp only; exact Nat.ne_of_lt (Nat.lt_of_lt_of_le (by have := yA _ _ hw260_4; first | rwa [uH] at this | exact this) GW271.out))) _).trans (((vA (p := ⟨gb271, _, none⟩) (by first | exact Nat.ne_of_lt (Nat.lt_of_lt_of_le (by have := yA _ _ hw260_4; first | rwa [uH] at this | exact this) GW271.out) | (rw [uH]; exact Nat.ne_of_lt (Nat.lt_of_lt_of_le (by have := yA _ _ hw260_4; first | rwa [uH] at this | exact this) GW271.out)) | (show (Addr.add _ _).block ≠ _; rw [uH]; exact Nat.ne_of_lt (Nat.lt_of_lt_of_le (by have := yA _ _ hw260_4; first | rwa [uH] at this | exact this) GW271.out)) | (dsimp only; exact Nat.ne_of_lt (Nat.lt_of_lt_of_le (by have := yA _ _ hw260_4; first | rwa [uH] at this | exact this) GW271.out))) _).trans (hHeld.2.2.2.2.2.2.1)))), ((vA (p := ⟨gb271, _, none⟩) (by first | exact Nat.ne_of_lt (Nat.lt_of_lt_of_le (by have := yA _ _ hw260_5; first | rwa [uH] at this | exact this) GW271.out) | (rw [uH]; exact Nat.ne_of_lt (Nat.lt_of_lt_of_le (by have := yA _ _ hw260_5; first | rwa [uH] at this | exact this) GW271.out)) | (show (Addr.add _ _).block ≠ _; rw [uH]; exact Nat.ne_of_lt (Nat.lt_of_lt_of_le (by have := yA _ _ hw260_5; first | rwa [uH] at this | exact this) GW271.out)) | (dsimp only; exact Nat.ne_of_lt (Nat.lt_of_lt_of_le (by have := yA _ _ hw260_5; first | rwa [uH] at this | exact this) GW271.out))) _).trans (((vA (p := ⟨gb271, _, none⟩) (by first | exact Nat.ne_of_lt (Nat.lt_of_lt_of_le (by have := yA _ _ hw260_5; first | rwa [uH] at this | exact this) GW271.out) | (rw [uH]; exact Nat.ne_of_lt (Nat.lt_of_lt_of_le (by have := yA _ _ hw260_5; first | rwa [uH] at this | exact this) GW271.out)) | (show (Addr.add _ _).block ≠ _; rw [uH]; exact Nat.ne_of_lt (Nat.lt_of_lt_of_le (by have := yA _ _ hw260_5; first | rwa [uH] at this | exact this) GW271.out)) | (dsimp only; exact Nat.ne_of_lt (Nat.lt_of_lt_of_le (by have := yA _ _ hw260_5; first | rwa [uH] at this | exact this) GW271.out))) _).trans (hHeld.2.2.2.2.2.2.2.1)))), ((vA (p := ⟨gb271, _, none⟩) (by first | exact Nat.ne_of_lt (Nat.lt_of_lt_of_le (by have := yA _ _ hw260_6; first | rwa [uH] at this | exact this) GW271.out) | (rw [uH]; exact Nat.ne_of_lt (Nat.lt_of_lt_of_le (by have := yA _ _ hw260_6; first | rwa [uH] at this | exact this) GW271.out)) | (show (Addr.add _ _).block ≠ _; rw [uH]; exact Nat.ne_of_lt (Nat.lt_of_lt_of_le (by have := yA _ _ hw260_6; first | rwa [uH] at this | exact this) GW271.out)) | (dsimp only; exact Nat.ne_of_lt (Nat.lt_of_lt_of_le (by have := yA _ _ hw260_6; first | rwa [uH] at this | exact this) GW271.out))) _).trans (((vA (p := ⟨gb271, _, none⟩) (by first | exact Nat.ne_of_lt (Nat.lt_of_lt_of_le (by have := yA _ _ hw260_6; first | rwa [uH] at this | exact this) GW271.out) | (rw [uH]; exact Nat.ne_of_lt (Nat.lt_of_lt_of_le (by have := yA _ _ hw260_6; first | rwa [uH] at this | exact this) GW271.out)) | (show (Addr.add _ _).block ≠ _; rw [uH]; exact Nat.ne_of_lt (Nat.lt_of_lt_of_le (by have := yA _ _ hw260_6; first | rwa [uH] at this | exact this) GW271.out)) | (dsimp only; exact Nat.ne_of_lt (Nat.lt_of_lt_of_le (by have := yA _ _ hw260_6; first | rwa [uH] at this | exact this) GW271.out))) _).trans (hHeld.2.2.2.2.2.2.2.2))))⟩ (fun hHeld => ?_)
      clear hK K
      refine uJ (i := 15) (N := some 10) (v := ?_) (a' := ?_) tb37 rfl rfl (vL HT_.out (by kernel_rfl)) (fun _ _ _ h => h) (Or.inl ⟨by rfl, ?_⟩) ?_ ?_
      rotate_left
      · intro w'
        go_simp
        with_reducible rfl
      rotate_left
      · simp only [Act.put, vU, vV, vW, uL, uM]
        rfl
      refine done_ (done_of HT_.out (by kernel_rfl)) ?_
      have hnb36 := NB271_245.out
      have hnc36 := NB245_271.out
      have hnb37 := NB271_259.out
      have hnc37 := NB259_271.out
      have hnb38 := NB271_270.out
      have hnc38 := NB270_271.out
      have hcz39_0 : w29.cell? ⟨gb271, 0, none⟩ = some (.bool false) := (uI BK271.out 0).trans rfl
      have hcz39_1 : w29.cell? ⟨gb271, 1, none⟩ = some (.int .i64 0) := (uI BK271.out 1).trans rfl
      have hfz39_0 := uK BK271.out 0
      have hfz39_1 := uK BK271.out 1
      have hnb40 := NB245_270.out
      have hnc40 := NB270_245.out
      have hcz41_0 : w29.cell? ⟨gb245, 0, none⟩ = some (.bool false) := (uI BK245.out 0).trans rfl
      have hcz41_1 : w29.cell? ⟨gb245, 1, none⟩ = some (.int .i64 0) := (uI BK245.out 1).trans rfl
      have hfz41_0 := uK BK245.out 0
      have hfz41_1 := uK BK245.out 1
      try go_wp2
      refine bodyPost_ret (results_ct rfl _ _ gb245 33 #[.bool t267, .int .i64 t268] (0, 0) _ rfl (by (with_reducible repeat (first | refine uC ?_ _ | refine uE ?_ | refine uD ?_ _)); refine uW (cs := #[.bool t267, .int .i64 0]) ?_ 1 _ rfl; (with_reducible repeat (first | refine uC ?_ _ | refine uE ?_ | refine uD ?_ _)); refine uW (cs := #[.bool false, .int .i64 0]) ?_ 0 _ rfl; (with_reducible repeat (first | refine uC ?_ _ | refine uE ?_ | refine uD ?_ _)); refine vF ?_ NB245_271.out _; (with_reducible repeat (first | refine uC ?_ _ | refine uE ?_ | refine uD ?_ _)); refine vF ?_ NB245_271.out _; (with_reducible repeat (first | refine uC ?_ _ | refine uE ?_ | refine uD ?_ _)); refine vF ?_ NB245_270.out _; (with_reducible repeat (first | refine uC ?_ _ | refine uE ?_ | refine uD ?_ _)); refine vF ?_ NB245_270.out _; (with_reducible repeat (first | refine uC ?_ _ | refine uE ?_ | refine uD ?_ _)); exact BK245.out) Try.underlying33 rfl (by kernel_rfl)) rfl ?_
      exact ⟨by first | rfl | (simp [errW_none, errW_some] <;> rfl) | (simp [*, errW_none, errW_some] <;> rfl), by repeat (first | (with_reducible first | exact HB.out | apply uG | apply uA | apply uF | refine uB ?_ GE245.out | refine uB ?_ GE259.out | refine uB ?_ GE270.out | refine uB ?_ GE271.out) | exact HB.out)⟩

end Go.Proofs.Ytcikahnmiiichaa.T
