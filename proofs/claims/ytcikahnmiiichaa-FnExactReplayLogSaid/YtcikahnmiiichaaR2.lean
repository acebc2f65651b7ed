/- Go functions as Lean functions, and the proof that the code comes to them: written by a program of this session out of the translation. -/
import Derived.Test.YtcikahnmiiichaaR0
import Derived.Test.YtcikahnmiiichaaR1
namespace Go.Proofs.Ytcikahnmiiichaa.R
open List renaming setIfInBounds_toArray → vS, set_cons_zero → vT, set_cons_succ → vU, map_toArray → vV, length_take → vW, length_drop → vX
open Go.World renaming block_lt_of_cell? → vY
open Go.RowKit Go.Proofs.YtcikahnmiiichaaW.PrintWords Go.Proofs.YtcikahnmiiichaaW.PrintLast Go.Proofs.YtcikahnmiiichaaW.PrintMore
attribute [local go_sem] max2_int min2_int max_two min_two max_three min_three max_four min_four   -- for this text's walks alone
set_option linter.unusedVariables false
set_option linter.unusedSimpArgs false

/-! ### laws_markSessionS: function 55 -/
def laws_markSessionS.l0 : Nat → List (S49) → Int → Int → Option (Int × (List (S49)))
  | 0, _, _, _ => none
  | k + 1, x0, x1, x5 => if x5 < (x0.length : Int) then (if 0 ≤ x5 then ((some (x0.set (x5 : Int).toNat (⟨x1, (rd_T49 x0 x5).f1, (⟨(rd_T49 x0 x5).f2.f0, (rd_T49 x0 x5).f2.f1⟩ : S33)⟩ : S49) : List (S49))).bind fun y116 => ((some (y116.set (x5 : Int).toNat (⟨(rd_T49 y116 x5).f0, wrap64 (x1 + 1), (⟨(rd_T49 y116 x5).f2.f0, (rd_T49 y116 x5).f2.f1⟩ : S33)⟩ : S49) : List (S49))).bind fun y117 => ((some (y117.set (x5 : Int).toNat (⟨(rd_T49 y117 x5).f0, (rd_T49 y117 x5).f1, (⟨((Int.tmod (wrap64 ((wrap64 (x1 + 1)) + 1)) 3) == 0), (rd_T49 y117 x5).f2.f1⟩ : S33)⟩ : S49) : List (S49))).bind fun y118 => (laws_markSessionS.l0 k (y118.set (x5 : Int).toNat (⟨(rd_T49 y118 x5).f0, (rd_T49 y118 x5).f1, (⟨(rd_T49 y118 x5).f2.f0, wrap64 ((wrap64 ((wrap64 (x1 + 1)) + 1)) + 1)⟩ : S33)⟩ : S49)) (wrap64 ((wrap64 ((wrap64 ((wrap64 (x1 + 1)) + 1)) + 1)) + 1)) (wrap64 (x5 + 1)))))) else (none)) else (some (x1, x0))
def laws_markSessionS.f (k : Nat) (l0 : List (S49)) (a1 : Int) : Option (Int × (List (S49))) := laws_markSessionS.l0 k l0 a1 0
theorem laws_markSessionS.mono_l : ∀ k, (∀ y0 y1 y2, uV (laws_markSessionS.l0 k y0 y1 y2) (laws_markSessionS.l0 (k + 1) y0 y1 y2))
  | 0 => fun _ _ _ r h => by simp [laws_markSessionS.l0] at h
  | k + 1 => by
    have ih0 := laws_markSessionS.mono_l k
    intro y0 y1 y2
    unfold laws_markSessionS.l0
    repeat' first
    | (with_reducible exact ih0 _ _ _)
    | (with_reducible exact uV.refl _)
    | (with_reducible exact uV.none _)
    | (with_reducible refine uV.ite ?_ ?_)
    | (with_reducible refine uV.bind ?_ (fun _ => ?_))
    | exact ih0 _ _ _
    | exact uV.none _
    | refine uV.ite ?_ ?_
    | refine uV.bind ?_ (fun _ => ?_)
theorem laws_markSessionS.mono : ∀ a0 a1 k, uV (laws_markSessionS.f k a0 a1) (laws_markSessionS.f (k + 1) a0 a1) := by
  intro a0 a1 k
  have ih0 := laws_markSessionS.mono_l k
  unfold laws_markSessionS.f
  repeat' first
      | (with_reducible exact ih0 _ _ _)
      | (with_reducible exact uV.refl _)
      | (with_reducible exact uV.none _)
      | (with_reducible refine uV.ite ?_ ?_)
      | (with_reducible refine uV.bind ?_ (fun _ => ?_))
      | exact ih0 _ _ _
      | exact uV.none _
      | refine uV.ite ?_ ?_
      | refine uV.bind ?_ (fun _ => ?_)
set_option maxHeartbeats 8000000 in
set_option maxRecDepth 100000 in
theorem laws_markSessionS.calls (k : Nat) (P0_ : Nat → Prop) (u9000_ : Value) (l0 : List (S49)) (a1 : Int) (r1 : Int) (r2 : List (S49)) (w0 w : World) (hB : Below w0.heap.size w0 w) (ho0 : Kd.R k49 49 w w0.heap.size P0_ u9000_ l0) (h : laws_markSessionS.f k l0 a1 = some (r1, r2)) :
    Calls Try.prog 55 #[u9000_, .int .i64 a1] w fun e w' => e = .returned (.int .i64 r1) ∧ Kd.R k49 49 w' w0.heap.size (fun k_ => (P0_ k_ ∨ w.heap.size ≤ k_)) u9000_ r2 ∧ Below w0.heap.size w0 w' ∧ vJ w w' (fun k_ => P0_ k_) := by
  have HO0 := Aside0.mk (show Kd.R k49 49 w w0.heap.size (fun k_ => (P0_ k_ ∨ w.heap.size ≤ k_)) u9000_ l0 from Kd.uY ho0 (fun k_ hk => (.inl hk)))
  have HK := Aside0.mk (vJ.refl w (fun k_ => P0_ k_))
  have HW0 := Aside0.mk hB.size
  have HB := Aside0.mk hB
  clear hB
  have H : (laws_markSessionS.l0 k l0 a1 0) = some (r1, r2) := h
  clear h
  have H' := Aside0.mk H
  clear H
  go_enter Try.func55, Try.ntmps55
  go_wp2
  go_loopg [1, 5] k (fun kq v1 v5 w' => ∃ (x0_1 : List (S49)) (x1_1 : Int) (x5_1 : Int), v1 = .int .i64 x1_1 ∧ v5 = .int .i64 x5_1 ∧ Aside0 (laws_markSessionS.l0 kq x0_1 x1_1 x5_1 = some (r1, r2)) ∧ Aside0 (kq ≤ k) ∧ Aside0 (Kd.R k49 49 w' w0.heap.size (fun k_ => (P0_ k_ ∨ w.heap.size ≤ k_)) u9000_ x0_1) ∧ Aside0 (vJ w w' (fun k_ => P0_ k_)) ∧ Aside0 (Below w0.heap.size w0 w'))
  case atStart => exact ⟨(l0), (a1), (0), (by first | rfl | (simp; done) | (simp [*]; done)), (by first | rfl | (simp; done) | (simp [*]; done)), H', ⟨Nat.le_refl _⟩, ⟨by (with_reducible repeat (first | apply Kd.uO | apply Kd.uN | apply Kd.uQ)); exact HO0.out⟩, ⟨by repeat (first | (with_reducible first | exact HK.out | apply vJ.alloc | apply vJ.drewN | apply vJ.drew) | exact HK.out)⟩, ⟨by repeat (first | (with_reducible first | exact HB.out | apply uC | apply uA | apply uB) | exact HB.out)⟩⟩
  case round =>
    clear H'
    try clear p2
    obtain ⟨x0_1, x1_1, x5_1, rfl, rfl, HA, HK1, HO_0, HK, HB⟩ := hrel
    cases gk with
    | zero => exact absurd HA.out (by simp [laws_markSessionS.l0])
    | succ k1 =>
      have H := HA.out
      clear HA
      simp only [laws_markSessionS.l0] at H
      by_cases c3 : x5_1 < (x0_1.length : Int)
      rotate_left
      · rw [if_neg c3] at H
        have c3b0 : decide (x5_1 < (x0_1.length : Int)) = false := decide_eq_false c3
        clear c3
        simp only [Option.some.injEq, Prod.mk.injEq] at H
        obtain ⟨rfl, rfl⟩ := H
        obtain ⟨Ao18, co18, eo18⟩ := Kd.vK HO_0.out
        subst eo18
        go_wp2
        go_ret
        exact ⟨by first | rfl | (simp [errW_none, errW_some] <;> rfl) | (simp [*, errW_none, errW_some] <;> rfl), by (with_reducible repeat (first | apply Kd.uO | apply Kd.uN | apply Kd.uQ)); exact HO_0.out, by repeat (first | (with_reducible first | exact HB.out | apply uC | apply uA | apply uB) | exact HB.out), by repeat (first | (with_reducible first | exact HK.out | apply vJ.alloc | apply vJ.drewN | apply vJ.drew) | exact HK.out)⟩
      rw [if_pos c3] at H
      have c3b0 : decide (x5_1 < (x0_1.length : Int)) = true := decide_eq_true c3
      clear c3
      by_cases c4 : 0 ≤ x5_1
      rotate_left
      · rw [if_neg c4] at H
        exact absurd H (by simp)
      rw [if_pos c4] at H
      have c4b0 : decide (0 ≤ x5_1) = true := decide_eq_true c4
      clear c4
      obtain ⟨y116, hy116⟩ : ∃ y_ : List (S49), y_ = (x0_1.set (x5_1 : Int).toNat (⟨x1_1, (rd_T49 x0_1 x5_1).f1, (⟨(rd_T49 x0_1 x5_1).f2.f0, (rd_T49 x0_1 x5_1).f2.f1⟩ : S33)⟩ : S49)) := ⟨_, rfl⟩
      replace H : ((some (y116.set (x5_1 : Int).toNat (⟨(rd_T49 y116 x5_1).f0, wrap64 (x1_1 + 1), (⟨(rd_T49 y116 x5_1).f2.f0, (rd_T49 y116 x5_1).f2.f1⟩ : S33)⟩ : S49) : List (S49))).bind fun y117 => ((some (y117.set (x5_1 : Int).toNat (⟨(rd_T49 y117 x5_1).f0, (rd_T49 y117 x5_1).f1, (⟨((Int.tmod (wrap64 ((wrap64 (x1_1 + 1)) + 1)) 3) == 0), (rd_T49 y117 x5_1).f2.f1⟩ : S33)⟩ : S49) : List (S49))).bind fun y118 => (laws_markSessionS.l0 k1 (y118.set (x5_1 : Int).toNat (⟨(rd_T49 y118 x5_1).f0, (rd_T49 y118 x5_1).f1, (⟨(rd_T49 y118 x5_1).f2.f0, wrap64 ((wrap64 ((wrap64 (x1_1 + 1)) + 1)) + 1)⟩ : S33)⟩ : S49)) (wrap64 ((wrap64 ((wrap64 ((wrap64 (x1_1 + 1)) + 1)) + 1)) + 1)) (wrap64 (x5_1 + 1))))) = some (r1, r2) := by first | (rw [hy116]; with_reducible exact H) | (have H2_ := (Option.bind_some _ _).symm.trans H; rw [hy116]; with_reducible exact H2_) | (have H2_ := (Option.bind_some _ _).symm.trans H; with_reducible exact H2_) | with_reducible exact H | (rw [hy116]; exact H) | exact H | rfl
      have Ny116 := Aside0.mk hy116
      clear hy116
      obtain ⟨y117, hy117⟩ : ∃ y_ : List (S49), y_ = (y116.set (x5_1 : Int).toNat (⟨(rd_T49 y116 x5_1).f0, wrap64 (x1_1 + 1), (⟨(rd_T49 y116 x5_1).f2.f0, (rd_T49 y116 x5_1).f2.f1⟩ : S33)⟩ : S49)) := ⟨_, rfl⟩
      replace H : ((some (y117.set (x5_1 : Int).toNat (⟨(rd_T49 y117 x5_1).f0, (rd_T49 y117 x5_1).f1, (⟨((Int.tmod (wrap64 ((wrap64 (x1_1 + 1)) + 1)) 3) == 0), (rd_T49 y117 x5_1).f2.f1⟩ : S33)⟩ : S49) : List (S49))).bind fun y118 => (laws_markSessionS.l0 k1 (y118.set (x5_1 : Int).toNat (⟨(rd_T49 y118 x5_1).f0, (rd_T49 y118 x5_1).f1, (⟨(rd_T49 y118 x5_1).f2.f0, wrap64 ((wrap64 ((wrap64 (x1_1 + 1)) + 1)) + 1)⟩ : S33)⟩ : S49)) (wrap64 ((wrap64 ((wrap64 ((wrap64 (x1_1 + 1)) + 1)) + 1)) + 1)) (wrap64 (x5_1 + 1)))) = some (r1, r2) := by first | (rw [hy117]; with_reducible exact H) | (have H2_ := (Option.bind_some _ _).symm.trans H; rw [hy117]; with_reducible exact H2_) | (have H2_ := (Option.bind_some _ _).symm.trans H; with_reducible exact H2_) | with_reducible exact H | (rw [hy117]; exact H) | exact H | rfl
      have Ny117 := Aside0.mk hy117
      clear hy117
      obtain ⟨y118, hy118⟩ : ∃ y_ : List (S49), y_ = (y117.set (x5_1 : Int).toNat (⟨(rd_T49 y117 x5_1).f0, (rd_T49 y117 x5_1).f1, (⟨((Int.tmod (wrap64 ((wrap64 (x1_1 + 1)) + 1)) 3) == 0), (rd_T49 y117 x5_1).f2.f1⟩ : S33)⟩ : S49)) := ⟨_, rfl⟩
      replace H : (laws_markSessionS.l0 k1 (y118.set (x5_1 : Int).toNat (⟨(rd_T49 y118 x5_1).f0, (rd_T49 y118 x5_1).f1, (⟨(rd_T49 y118 x5_1).f2.f0, wrap64 ((wrap64 ((wrap64 (x1_1 + 1)) + 1)) + 1)⟩ : S33)⟩ : S49)) (wrap64 ((wrap64 ((wrap64 ((wrap64 (x1_1 + 1)) + 1)) + 1)) + 1)) (wrap64 (x5_1 + 1))) = some (r1, r2) := by first | (rw [hy118]; with_reducible exact H) | (have H2_ := (Option.bind_some _ _).symm.trans H; rw [hy118]; with_reducible exact H2_) | (have H2_ := (Option.bind_some _ _).symm.trans H; with_reducible exact H2_) | with_reducible exact H | (rw [hy118]; exact H) | exact H | rfl
      have Ny118 := Aside0.mk hy118
      clear hy118
      obtain ⟨y119, hy119⟩ : ∃ y_ : List (S49), y_ = (y118.set (x5_1 : Int).toNat (⟨(rd_T49 y118 x5_1).f0, (rd_T49 y118 x5_1).f1, (⟨(rd_T49 y118 x5_1).f2.f0, wrap64 ((wrap64 ((wrap64 (x1_1 + 1)) + 1)) + 1)⟩ : S33)⟩ : S49)) := ⟨_, rfl⟩
      replace H : (laws_markSessionS.l0 k1 y119 (wrap64 ((wrap64 ((wrap64 ((wrap64 (x1_1 + 1)) + 1)) + 1)) + 1)) (wrap64 (x5_1 + 1))) = some (r1, r2) := by first | (rw [hy119]; with_reducible exact H) | (have H2_ := (Option.bind_some _ _).symm.trans H; rw [hy119]; with_reducible exact H2_) | (have H2_ := (Option.bind_some _ _).symm.trans H; with_reducible exact H2_) | with_reducible exact H | (rw [hy119]; exact H) | exact H | rfl
      have Ny119 := Aside0.mk hy119
      clear hy119
      have H' := Aside0.mk H
      clear H
      obtain ⟨Ao9, co9, eo9⟩ := Kd.vK HO_0.out
      subst eo9
      have p5 : 0 ≤ (x5_1 : Int) := of_decide_eq_true (by first | (with_reducible assumption) | assumption)
      have q5 : (x5_1 : Int) < ((x0_1.length : Int) : Int) := of_decide_eq_true (by first | (with_reducible assumption) | assumption)
      obtain ⟨go5, co5, eo5, gb5, gl5, cl5, HG5⟩ := Kd.R_form HO_0.out (by omega)
      (first | cases eo5 | (injection eo5 with ea_ en_ ec_; (first | subst ea_ | (injection ea_ with ea_; subst ea_)); subst ec_; clear en_))
      have GB5 := Aside0.mk gb5
      have GG5 := Aside0.mk HG5
      clear gb5 gl5 HG5
      have HMgo5 := Aside0.mk (show (P0_ go5 ∨ w.heap.size ≤ go5) from (HO_0.out.1 _ rfl))
      obtain ⟨ce5, hcl5, hM5, hcc5, hfr5⟩ := Kd.R_elem HO_0.out z49 (x5_1 : Int) p5 q5
      obtain rfl := k49_openM hM5
      have hx5_0 : wr.cell? ⟨go5, (x5_1 : Int).toNat * 4, none⟩ = some (.int .i64 ((rd_T49 x0_1 x5_1).f0)) := hcc5 0 _ rfl
      have hx5_1 : wr.cell? ⟨go5, (x5_1 : Int).toNat * 4 + 1, none⟩ = some (.int .i64 ((rd_T49 x0_1 x5_1).f1)) := hcc5 1 _ rfl
      have hx5_2 : wr.cell? ⟨go5, (x5_1 : Int).toNat * 4 + 2, none⟩ = some (.bool ((rd_T49 x0_1 x5_1).f2.f0)) := hcc5 2 _ rfl
      have hx5_3 : wr.cell? ⟨go5, (x5_1 : Int).toNat * 4 + 3, none⟩ = some (.int .i64 ((rd_T49 x0_1 x5_1).f2.f1)) := hcc5 3 _ rfl
      have hf5_0 : wr.frozen? ⟨go5, (x5_1 : Int).toNat * 4, none⟩ = false := hfr5 0
      have hf5_1 : wr.frozen? ⟨go5, (x5_1 : Int).toNat * 4 + 1, none⟩ = false := hfr5 1
      have hf5_2 : wr.frozen? ⟨go5, (x5_1 : Int).toNat * 4 + 2, none⟩ = false := hfr5 2
      have hf5_3 : wr.frozen? ⟨go5, (x5_1 : Int).toNat * 4 + 3, none⟩ = false := hfr5 3
      clear hcl5 hcc5 hfr5 hM5
      replace p5 := eq_true p5
      replace q5 := eq_true q5
      have HX10 := Aside0.mk (show Kd.R k49 49 wr w0.heap.size (fun k_ => (P0_ k_ ∨ w.heap.size ≤ k_)) (.slice (some ⟨go5, 0, none⟩) x0_1.length co9) x0_1 from (by (with_reducible repeat (first | apply Kd.uO | apply Kd.uN | apply Kd.uQ)); exact HO_0.out))
      obtain ⟨ce10, hcl10, hM10, hcc10, hfr10⟩ := Kd.R_elem HX10.out z49 (x5_1 : Int) (of_decide_eq_true (by first | (with_reducible assumption) | assumption)) (by have h_ : (x5_1 : Int) < ((x0_1.length : Int) : Int) := of_decide_eq_true (by first | (with_reducible assumption) | assumption); first | exact h_ | (have e_ := (Kd.uW HO_0.out).1; omega) | simpa using h_)
      obtain rfl := k49_openM hM10
      have HP10 := Kd.R_seg HX10.out (x5_1 : Int) (of_decide_eq_true (by first | (with_reducible assumption) | assumption)) (by have h_ : (x5_1 : Int) < ((x0_1.length : Int) : Int) := of_decide_eq_true (by first | (with_reducible assumption) | assumption); first | exact h_ | (have e_ := (Kd.uW HO_0.out).1; omega) | simpa using h_) (seg := [.int .i64 x1_1]) (j := 0) hcl10 hcc10 (show 1 ≤ 4 from by decide) (x' := (⟨x1_1, (rd_T49 x0_1 x5_1).f1, (⟨(rd_T49 x0_1 x5_1).f2.f0, (rd_T49 x0_1 x5_1).f2.f1⟩ : S33)⟩ : S49)) (k49_mkM _ _ _ (⟨x1_1, (rd_T49 x0_1 x5_1).f1, (⟨(rd_T49 x0_1 x5_1).f2.f0, (rd_T49 x0_1 x5_1).f2.f1⟩ : S33)⟩ : S49) ) (fun _ hk => hk)
      have hx10_0 := hcc10 0 _ rfl
      (try simp only [show (k49).sz = 4 from rfl, Nat.mul_one, Nat.add_zero] at hx10_0)
      have hf10_0 := hfr10 0
      (try simp only [show (k49).sz = 4 from rfl, Nat.mul_one, Nat.add_zero] at hf10_0)
      clear hcl10 hcc10 hfr10 hM10
      go_wp2_with (first | ((with_reducible refine vF (t := 3) (p := 16) rfl ?_); refine vD (t := 3) (p := 16) (v := ?vo_w11) (w1 := (wr.setCell ⟨go5, (x5_1 : Int).toNat * 4, none⟩ (.int .i64 x1_1))) ?hg ?ho ?hn ?hr ?_; (case ho => rfl); (case hg => rfl); (case hn => rfl); (case hr => first | (go_simp; done) | (go_simp; rfl)); intro w11 hw; have hg : wr.grownBy w11 (some go5) := (by rw [hw]; exact HP10.2); have hp_ : Kd.R k49 49 w11 w0.heap.size (fun k_ => (P0_ k_ ∨ w.heap.size ≤ k_)) (.slice (some ⟨go5, 0, none⟩) x0_1.length co9) y116 := (by rw [hw, Ny116.out]; exact HP10.1); clear HP10; have n0_ := Aside0.mk (hp_); have n1_ := Aside0.mk ((by rw [hw]; exact uF (HB.out) GB5.out : Below w0.heap.size w0 w11)); have n2_ := Aside0.mk (vJ.of_grown (S := (fun k_ => P0_ k_)) hg (by repeat (first | (with_reducible first | exact HK.out | apply vJ.alloc | apply vJ.drewN | apply vJ.drew) | exact HK.out)) (fun k_ e_ => (HO_0.out.1 k_ e_))); clear HO_0; clear HB; clear HK; have HO_0 := n0_; have HB := n1_; have HK := n2_; clear n0_ n1_ n2_; clear hg hw hp_; have p6 : 0 ≤ (x5_1 : Int) := of_decide_eq_true (by first | (with_reducible assumption) | assumption); have q6 : (x5_1 : Int) < ((x0_1.length : Int) : Int) := of_decide_eq_true (by first | (with_reducible assumption) | assumption); obtain ⟨ce6, hcl6, hM6, hcc6, hfr6⟩ := Kd.R_elem HO_0.out z49 (x5_1 : Int) p6 q6; obtain rfl := k49_openM hM6; have hx6_0 : w11.cell? ⟨go5, (x5_1 : Int).toNat * 4, none⟩ = some (.int .i64 ((rd_T49 y116 x5_1).f0)) := hcc6 0 _ rfl; have hx6_1 : w11.cell? ⟨go5, (x5_1 : Int).toNat * 4 + 1, none⟩ = some (.int .i64 ((rd_T49 y116 x5_1).f1)) := hcc6 1 _ rfl; have hx6_2 : w11.cell? ⟨go5, (x5_1 : Int).toNat * 4 + 2, none⟩ = some (.bool ((rd_T49 y116 x5_1).f2.f0)) := hcc6 2 _ rfl; have hx6_3 : w11.cell? ⟨go5, (x5_1 : Int).toNat * 4 + 3, none⟩ = some (.int .i64 ((rd_T49 y116 x5_1).f2.f1)) := hcc6 3 _ rfl; have hf6_0 : w11.frozen? ⟨go5, (x5_1 : Int).toNat * 4, none⟩ = false := hfr6 0; have hf6_1 : w11.frozen? ⟨go5, (x5_1 : Int).toNat * 4 + 1, none⟩ = false := hfr6 1; have hf6_2 : w11.frozen? ⟨go5, (x5_1 : Int).toNat * 4 + 2, none⟩ = false := hfr6 2; have hf6_3 : w11.frozen? ⟨go5, (x5_1 : Int).toNat * 4 + 3, none⟩ = false := hfr6 3; clear hcl6 hcc6 hfr6 hM6; replace p6 := eq_true p6; replace q6 := eq_true q6; have HX12 := Aside0.mk (show Kd.R k49 49 w11 w0.heap.size (fun k_ => (P0_ k_ ∨ w.heap.size ≤ k_)) (.slice (some ⟨go5, 0, none⟩) x0_1.length co9) y116 from (by (with_reducible repeat (first | apply Kd.uO | apply Kd.uN | apply Kd.uQ)); exact HO_0.out)); obtain ⟨ce12, hcl12, hM12, hcc12, hfr12⟩ := Kd.R_elem HX12.out z49 (x5_1 : Int) (of_decide_eq_true (by first | (with_reducible assumption) | assumption)) (by have h_ : (x5_1 : Int) < ((x0_1.length : Int) : Int) := of_decide_eq_true (by first | (with_reducible assumption) | assumption); first | exact h_ | (have e_ := (Kd.uW HO_0.out).1; omega) | simpa using h_); obtain rfl := k49_openM hM12; have HP12 := Kd.R_seg HX12.out (x5_1 : Int) (of_decide_eq_true (by first | (with_reducible assumption) | assumption)) (by have h_ : (x5_1 : Int) < ((x0_1.length : Int) : Int) := of_decide_eq_true (by first | (with_reducible assumption) | assumption); first | exact h_ | (have e_ := (Kd.uW HO_0.out).1; omega) | simpa using h_) (seg := [.int .i64 (wrap64 (x1_1 + 1))]) (j := 1) hcl12 hcc12 (show 2 ≤ 4 from by decide) (x' := (⟨(rd_T49 y116 x5_1).f0, wrap64 (x1_1 + 1), (⟨(rd_T49 y116 x5_1).f2.f0, (rd_T49 y116 x5_1).f2.f1⟩ : S33)⟩ : S49)) (k49_mkM _ _ _ (⟨(rd_T49 y116 x5_1).f0, wrap64 (x1_1 + 1), (⟨(rd_T49 y116 x5_1).f2.f0, (rd_T49 y116 x5_1).f2.f1⟩ : S33)⟩ : S49) ) (fun _ hk => hk); have hx12_1 := hcc12 1 _ rfl; (try simp only [show (k49).sz = 4 from rfl, Nat.mul_one, Nat.add_zero] at hx12_1); have hf12_1 := hfr12 1; (try simp only [show (k49).sz = 4 from rfl, Nat.mul_one, Nat.add_zero] at hf12_1); clear hcl12 hcc12 hfr12 hM12) | ((with_reducible refine vF (t := 3) (p := 23) rfl ?_); refine vD (t := 3) (p := 23) (v := ?vo_w13) (w1 := (w11.setCell ⟨go5, (x5_1 : Int).toNat * 4 + 1, none⟩ (.int .i64 (wrap64 (x1_1 + 1))))) ?hg ?ho ?hn ?hr ?_; (case ho => rfl); (case hg => rfl); (case hn => rfl); (case hr => first | (go_simp; done) | (go_simp; rfl)); intro w13 hw; have hg : w11.grownBy w13 (some go5) := (by rw [hw]; exact HP12.2); have hp_ : Kd.R k49 49 w13 w0.heap.size (fun k_ => (P0_ k_ ∨ w.heap.size ≤ k_)) (.slice (some ⟨go5, 0, none⟩) x0_1.length co9) y117 := (by rw [hw, Ny117.out]; exact HP12.1); clear HP12; have n0_ := Aside0.mk (hp_); have n1_ := Aside0.mk ((by rw [hw]; exact uF (HB.out) GB5.out : Below w0.heap.size w0 w13)); have n2_ := Aside0.mk (vJ.of_grown (S := (fun k_ => P0_ k_)) hg (by repeat (first | (with_reducible first | exact HK.out | apply vJ.alloc | apply vJ.drewN | apply vJ.drew) | exact HK.out)) (fun k_ e_ => (HO_0.out.1 k_ e_))); clear HO_0; clear HB; clear HK; have HO_0 := n0_; have HB := n1_; have HK := n2_; clear n0_ n1_ n2_; clear hg hw hp_; have p7 : 0 ≤ (x5_1 : Int) := of_decide_eq_true (by first | (with_reducible assumption) | assumption); have q7 : (x5_1 : Int) < ((x0_1.length : Int) : Int) := of_decide_eq_true (by first | (with_reducible assumption) | assumption); obtain ⟨ce7, hcl7, hM7, hcc7, hfr7⟩ := Kd.R_elem HO_0.out z49 (x5_1 : Int) p7 q7; obtain rfl := k49_openM hM7; have hx7_0 : w13.cell? ⟨go5, (x5_1 : Int).toNat * 4, none⟩ = some (.int .i64 ((rd_T49 y117 x5_1).f0)) := hcc7 0 _ rfl; have hx7_1 : w13.cell? ⟨go5, (x5_1 : Int).toNat * 4 + 1, none⟩ = some (.int .i64 ((rd_T49 y117 x5_1).f1)) := hcc7 1 _ rfl; have hx7_2 : w13.cell? ⟨go5, (x5_1 : Int).toNat * 4 + 2, none⟩ = some (.bool ((rd_T49 y117 x5_1).f2.f0)) := hcc7 2 _ rfl; have hx7_3 : w13.cell? ⟨go5, (x5_1 : Int).toNat * 4 + 3, none⟩ = some (.int .i64 ((rd_T49 y117 x5_1).f2.f1)) := hcc7 3 _ rfl; have hf7_0 : w13.frozen? ⟨go5, (x5_1 : Int).toNat * 4, none⟩ = false := hfr7 0; have hf7_1 : w13.frozen? ⟨go5, (x5_1 : Int).toNat * 4 + 1, none⟩ = false := hfr7 1; have hf7_2 : w13.frozen? ⟨go5, (x5_1 : Int).toNat * 4 + 2, none⟩ = false := hfr7 2; have hf7_3 : w13.frozen? ⟨go5, (x5_1 : Int).toNat * 4 + 3, none⟩ = false := hfr7 3; clear hcl7 hcc7 hfr7 hM7; replace p7 := eq_true p7; replace q7 := eq_true q7; have HX14 := Aside0.mk (show Kd.R k49 49 w13 w0.heap.size (fun k_ => (P0_ k_ ∨ w.heap.size ≤ k_)) (.slice (some ⟨go5, 0, none⟩) x0_1.length co9) y117 from (by (with_reducible repeat (first | apply Kd.uO | apply Kd.uN | apply Kd.uQ)); exact HO_0.out)); obtain ⟨ce14, hcl14, hM14, hcc14, hfr14⟩ := Kd.R_elem HX14.out z49 (x5_1 : Int) (of_decide_eq_true (by first | (with_reducible assumption) | assumption)) (by have h_ : (x5_1 : Int) < ((x0_1.length : Int) : Int) := of_decide_eq_true (by first | (with_reducible assumption) | assumption); first | exact h_ | (have e_ := (Kd.uW HO_0.out).1; omega) | simpa using h_); obtain rfl := k49_openM hM14; have HP14 := Kd.R_seg HX14.out (x5_1 : Int) (of_decide_eq_true (by first | (with_reducible assumption) | assumption)) (by have h_ : (x5_1 : Int) < ((x0_1.length : Int) : Int) := of_decide_eq_true (by first | (with_reducible assumption) | assumption); first | exact h_ | (have e_ := (Kd.uW HO_0.out).1; omega) | simpa using h_) (seg := [.bool ((Int.tmod (wrap64 ((wrap64 (x1_1 + 1)) + 1)) 3) == 0)]) (j := 2) hcl14 hcc14 (show 3 ≤ 4 from by decide) (x' := (⟨(rd_T49 y117 x5_1).f0, (rd_T49 y117 x5_1).f1, (⟨((Int.tmod (wrap64 ((wrap64 (x1_1 + 1)) + 1)) 3) == 0), (rd_T49 y117 x5_1).f2.f1⟩ : S33)⟩ : S49)) (k49_mkM _ _ _ (⟨(rd_T49 y117 x5_1).f0, (rd_T49 y117 x5_1).f1, (⟨((Int.tmod (wrap64 ((wrap64 (x1_1 + 1)) + 1)) 3) == 0), (rd_T49 y117 x5_1).f2.f1⟩ : S33)⟩ : S49) ) (fun _ hk => hk); have hx14_2 := hcc14 2 _ rfl; (try simp only [show (k49).sz = 4 from rfl, Nat.mul_one, Nat.add_zero] at hx14_2); have hf14_2 := hfr14 2; (try simp only [show (k49).sz = 4 from rfl, Nat.mul_one, Nat.add_zero] at hf14_2); clear hcl14 hcc14 hfr14 hM14) | ((with_reducible refine vF (t := 4) (p := 33) rfl ?_); refine vD (t := 4) (p := 33) (v := ?vo_w15) (w1 := (w13.setCell ⟨go5, (x5_1 : Int).toNat * 4 + 2, none⟩ (.bool ((Int.tmod (wrap64 ((wrap64 (x1_1 + 1)) + 1)) 3) == 0)))) ?hg ?ho ?hn ?hr ?_; (case ho => rfl); (case hg => rfl); (case hn => rfl); (case hr => first | (go_simp; done) | (go_simp; rfl)); intro w15 hw; have hg : w13.grownBy w15 (some go5) := (by rw [hw]; exact HP14.2); have hp_ : Kd.R k49 49 w15 w0.heap.size (fun k_ => (P0_ k_ ∨ w.heap.size ≤ k_)) (.slice (some ⟨go5, 0, none⟩) x0_1.length co9) y118 := (by rw [hw, Ny118.out]; exact HP14.1); clear HP14; have n0_ := Aside0.mk (hp_); have n1_ := Aside0.mk ((by rw [hw]; exact uF (HB.out) GB5.out : Below w0.heap.size w0 w15)); have n2_ := Aside0.mk (vJ.of_grown (S := (fun k_ => P0_ k_)) hg (by repeat (first | (with_reducible first | exact HK.out | apply vJ.alloc | apply vJ.drewN | apply vJ.drew) | exact HK.out)) (fun k_ e_ => (HO_0.out.1 k_ e_))); clear HO_0; clear HB; clear HK; have HO_0 := n0_; have HB := n1_; have HK := n2_; clear n0_ n1_ n2_; clear hg hw hp_; have p8 : 0 ≤ (x5_1 : Int) := of_decide_eq_true (by first | (with_reducible assumption) | assumption); have q8 : (x5_1 : Int) < ((x0_1.length : Int) : Int) := of_decide_eq_true (by first | (with_reducible assumption) | assumption); obtain ⟨ce8, hcl8, hM8, hcc8, hfr8⟩ := Kd.R_elem HO_0.out z49 (x5_1 : Int) p8 q8; obtain rfl := k49_openM hM8; have hx8_0 : w15.cell? ⟨go5, (x5_1 : Int).toNat * 4, none⟩ = some (.int .i64 ((rd_T49 y118 x5_1).f0)) := hcc8 0 _ rfl; have hx8_1 : w15.cell? ⟨go5, (x5_1 : Int).toNat * 4 + 1, none⟩ = some (.int .i64 ((rd_T49 y118 x5_1).f1)) := hcc8 1 _ rfl; have hx8_2 : w15.cell? ⟨go5, (x5_1 : Int).toNat * 4 + 2, none⟩ = some (.bool ((rd_T49 y118 x5_1).f2.f0)) := hcc8 2 _ rfl; have hx8_3 : w15.cell? ⟨go5, (x5_1 : Int).toNat * 4 + 3, none⟩ = some (.int .i64 ((rd_T49 y118 x5_1).f2.f1)) := hcc8 3 _ rfl; have hf8_0 : w15.frozen? ⟨go5, (x5_1 : Int).toNat * 4, none⟩ = false := hfr8 0; have hf8_1 : w15.frozen? ⟨go5, (x5_1 : Int).toNat * 4 + 1, none⟩ = false := hfr8 1; have hf8_2 : w15.frozen? ⟨go5, (x5_1 : Int).toNat * 4 + 2, none⟩ = false := hfr8 2; have hf8_3 : w15.frozen? ⟨go5, (x5_1 : Int).toNat * 4 + 3, none⟩ = false := hfr8 3; clear hcl8 hcc8 hfr8 hM8; replace p8 := eq_true p8; replace q8 := eq_true q8; have HX16 := Aside0.mk (show Kd.R k49 49 w15 w0.heap.size (fun k_ => (P0_ k_ ∨ w.heap.size ≤ k_)) (.slice (some ⟨go5, 0, none⟩) x0_1.length co9) y118 from (by (with_reducible repeat (first | apply Kd.uO | apply Kd.uN | apply Kd.uQ)); exact HO_0.out)); obtain ⟨ce16, hcl16, hM16, hcc16, hfr16⟩ := Kd.R_elem HX16.out z49 (x5_1 : Int) (of_decide_eq_true (by first | (with_reducible assumption) | assumption)) (by have h_ : (x5_1 : Int) < ((x0_1.length : Int) : Int) := of_decide_eq_true (by first | (with_reducible assumption) | assumption); first | exact h_ | (have e_ := (Kd.uW HO_0.out).1; omega) | simpa using h_); obtain rfl := k49_openM hM16; have HP16 := Kd.R_seg HX16.out (x5_1 : Int) (of_decide_eq_true (by first | (with_reducible assumption) | assumption)) (by have h_ : (x5_1 : Int) < ((x0_1.length : Int) : Int) := of_decide_eq_true (by first | (with_reducible assumption) | assumption); first | exact h_ | (have e_ := (Kd.uW HO_0.out).1; omega) | simpa using h_) (seg := [.int .i64 (wrap64 ((wrap64 ((wrap64 (x1_1 + 1)) + 1)) + 1))]) (j := 3) hcl16 hcc16 (show 4 ≤ 4 from by decide) (x' := (⟨(rd_T49 y118 x5_1).f0, (rd_T49 y118 x5_1).f1, (⟨(rd_T49 y118 x5_1).f2.f0, wrap64 ((wrap64 ((wrap64 (x1_1 + 1)) + 1)) + 1)⟩ : S33)⟩ : S49)) (k49_mkM _ _ _ (⟨(rd_T49 y118 x5_1).f0, (rd_T49 y118 x5_1).f1, (⟨(rd_T49 y118 x5_1).f2.f0, wrap64 ((wrap64 ((wrap64 (x1_1 + 1)) + 1)) + 1)⟩ : S33)⟩ : S49) ) (fun _ hk => hk); have hx16_3 := hcc16 3 _ rfl; (try simp only [show (k49).sz = 4 from rfl, Nat.mul_one, Nat.add_zero] at hx16_3); have hf16_3 := hfr16 3; (try simp only [show (k49).sz = 4 from rfl, Nat.mul_one, Nat.add_zero] at hf16_3); clear hcl16 hcc16 hfr16 hM16) | ((with_reducible refine vF (t := 3) (p := 41) rfl ?_); refine vD (t := 3) (p := 41) (v := ?vo_w17) (w1 := (w15.setCell ⟨go5, (x5_1 : Int).toNat * 4 + 3, none⟩ (.int .i64 (wrap64 ((wrap64 ((wrap64 (x1_1 + 1)) + 1)) + 1))))) ?hg ?ho ?hn ?hr ?_; (case ho => rfl); (case hg => rfl); (case hn => rfl); (case hr => first | (go_simp; done) | (go_simp; rfl)); intro w17 hw; have hg : w15.grownBy w17 (some go5) := (by rw [hw]; exact HP16.2); have hp_ : Kd.R k49 49 w17 w0.heap.size (fun k_ => (P0_ k_ ∨ w.heap.size ≤ k_)) (.slice (some ⟨go5, 0, none⟩) x0_1.length co9) y119 := (by rw [hw, Ny119.out]; exact HP16.1); clear HP16; have n0_ := Aside0.mk (hp_); have n1_ := Aside0.mk ((by rw [hw]; exact uF (HB.out) GB5.out : Below w0.heap.size w0 w17)); have n2_ := Aside0.mk (vJ.of_grown (S := (fun k_ => P0_ k_)) hg (by repeat (first | (with_reducible first | exact HK.out | apply vJ.alloc | apply vJ.drewN | apply vJ.drew) | exact HK.out)) (fun k_ e_ => (HO_0.out.1 k_ e_))); clear HO_0; clear HB; clear HK; have HO_0 := n0_; have HB := n1_; have HK := n2_; clear n0_ n1_ n2_; clear hg hw hp_))
      go_roundg k1
      case measure => have := HK1.out; omega
      case rel => exact ⟨(y119), (wrap64 ((wrap64 ((wrap64 ((wrap64 (x1_1 + 1)) + 1)) + 1)) + 1)), (wrap64 (x5_1 + 1)), (by first | rfl | (simp; done) | (simp [*]; done)), (by first | rfl | (simp; done) | (simp [*]; done)), H', ⟨by have := HK1.out; omega⟩, ⟨by (with_reducible repeat (first | apply Kd.uO | apply Kd.uN | apply Kd.uQ)); exact HO_0.out⟩, ⟨by repeat (first | (with_reducible first | exact HK.out | apply vJ.alloc | apply vJ.drewN | apply vJ.drew) | exact HK.out)⟩, ⟨by repeat (first | (with_reducible first | exact HB.out | apply uC | apply uA | apply uB) | exact HB.out)⟩⟩

/-! ### laws_markMachine: function 15 -/
def laws_markMachine.f (k : Nat) (l0_0 : List Int) (l0_1 : List (S49)) (a1 : Int) : Option (Int × List Int × (List (S49))) := (laws_markIntS.f k l0_0 a1).bind fun bt121 => ((laws_markSessionS.f k l0_1 bt121.1).bind fun bt123 => (some (bt123.1, bt121.2, bt123.2)))
theorem laws_markMachine.mono : ∀ a0 a1 a2 k, uV (laws_markMachine.f k a0 a1 a2) (laws_markMachine.f (k + 1) a0 a1 a2) := by
  intro a0 a1 a2 k
  unfold laws_markMachine.f
  repeat' first
      | (with_reducible exact laws_markIntS.mono _ _ _)
      | (with_reducible exact laws_markSessionS.mono _ _ _)
      | (with_reducible exact uV.refl _)
      | (with_reducible exact uV.none _)
      | (with_reducible refine uV.ite ?_ ?_)
      | (with_reducible refine uV.bind ?_ (fun _ => ?_))
      | exact laws_markIntS.mono _ _ _
      | exact laws_markSessionS.mono _ _ _
      | exact uV.none _
      | refine uV.ite ?_ ?_
      | refine uV.bind ?_ (fun _ => ?_)
set_option maxHeartbeats 8000000 in
set_option maxRecDepth 100000 in
theorem laws_markMachine.calls (k : Nat) (P0_0_ : Nat → Prop) (u9000_ : Value) (l0_0 : List Int) (P0_1_ : Nat → Prop) (u9001_ : Value) (l0_1 : List (S49)) (a1 : Int) (r1 : Int) (r2 : List Int) (r3 : List (S49)) (w0 w : World) (hB : Below w0.heap.size w0 w) (ho0_0 : Kd.R (Kd.int .i64) 3 w w0.heap.size P0_0_ u9000_ l0_0) (ho0_1 : Kd.R k49 49 w w0.heap.size P0_1_ u9001_ l0_1) (h : laws_markMachine.f k l0_0 l0_1 a1 = some (r1, r2, r3)) :
    Calls Try.prog 15 #[.agg #[u9000_, u9001_], .int .i64 a1] w fun e w' => e = .returned (.int .i64 r1) ∧ Kd.R (Kd.int .i64) 3 w' w0.heap.size (fun k_ => ((P0_0_ k_ ∨ P0_1_ k_) ∨ w.heap.size ≤ k_)) u9000_ r2 ∧ Kd.R k49 49 w' w0.heap.size (fun k_ => ((P0_0_ k_ ∨ P0_1_ k_) ∨ w.heap.size ≤ k_)) u9001_ r3 ∧ Below w0.heap.size w0 w' ∧ vJ w w' (fun k_ => P0_0_ k_ ∨ P0_1_ k_) := by
  have hu31 := Try.underlying31
  have HO0_0 := Aside0.mk (show Kd.R (Kd.int .i64) 3 w w0.heap.size (fun k_ => ((P0_0_ k_ ∨ P0_1_ k_) ∨ w.heap.size ≤ k_)) u9000_ l0_0 from Kd.uY ho0_0 (fun k_ hk => (.inl (.inl hk))))
  have HO0_1 := Aside0.mk (show Kd.R k49 49 w w0.heap.size (fun k_ => ((P0_0_ k_ ∨ P0_1_ k_) ∨ w.heap.size ≤ k_)) u9001_ l0_1 from Kd.uY ho0_1 (fun k_ hk => (.inl (.inr hk))))
  have HK := Aside0.mk (vJ.refl w (fun k_ => P0_0_ k_ ∨ P0_1_ k_))
  have HW0 := Aside0.mk hB.size
  have HB := Aside0.mk hB
  clear hB
  have H : ((laws_markIntS.f k l0_0 a1).bind fun bt121 => ((laws_markSessionS.f k l0_1 bt121.1).bind fun bt123 => (some (bt123.1, bt121.2, bt123.2)))) = some (r1, r2, r3) := h
  clear h
  replace H := Option.bind_eq_some_iff.mp H
  obtain ⟨⟨t121, t122⟩, A30, H⟩ := H
  replace H : ((laws_markSessionS.f k l0_1 t121).bind fun bt123 => (some (bt123.1, t122, bt123.2))) = some (r1, r2, r3) := H
  have A3 := Aside0.mk A30
  clear A30
  replace H := Option.bind_eq_some_iff.mp H
  obtain ⟨⟨t123, t124⟩, A40, H⟩ := H
  replace H : (some (t123, t122, t124)) = some (r1, r2, r3) := H
  have A4 := Aside0.mk A40
  clear A40
  simp only [Option.some.injEq, Prod.mk.injEq] at H
  obtain ⟨rfl, rfl, rfl⟩ := H
  obtain ⟨Ao5, co5, eo5⟩ := Kd.vK HO0_0.out
  subst eo5
  obtain ⟨Ao6, co6, eo6⟩ := Kd.vK HO0_1.out
  subst eo6
  go_enter Try.func15, Try.ntmps15
  go_wp2_with (first | ((with_reducible refine uS (N := 2) rfl ?_); refine uR ?hg (N := 2) ?hd (cs := #[.slice Ao5 l0_0.length co5, .slice Ao6 l0_1.length co6]) (t := 31) ?hr ?_; (case hd => rfl); (case hg => rfl); (case hr => first | (go_simp; done) | (go_simp; rfl)); intro gb120 hg w7 hbox hb; have n0_ := Aside0.mk (Kd.uZ (by (with_reducible repeat (first | apply Kd.uO | apply Kd.uN | apply Kd.uQ)); exact HO0_0.out) hb); have n1_ := Aside0.mk (Kd.uZ (by (with_reducible repeat (first | apply Kd.uO | apply Kd.uN | apply Kd.uQ)); exact HO0_1.out) hb); have n2_ := Aside0.mk (vJ.below (S := (fun k_ => P0_0_ k_ ∨ P0_1_ k_)) (by repeat (first | (with_reducible first | exact HK.out | apply vJ.alloc | apply vJ.drewN | apply vJ.drew) | exact HK.out)) hb); have n3_ := Aside0.mk (uP (by repeat (first | (with_reducible first | exact HB.out | apply uC | apply uA | apply uB) | exact HB.out)) hb); have n4_ := Aside0.mk (hbox); have n5_ := Aside0.mk ((by rw [hg]; exact (by first | exact HK.out.1 | exact (show vJ w _ (fun k_ => P0_0_ k_ ∨ P0_1_ k_) from by repeat (first | (with_reducible first | exact HK.out | apply vJ.alloc | apply vJ.drewN | apply vJ.drew) | exact HK.out)).1) : w.heap.size ≤ gb120)); have n6_ := Aside0.mk ((by rw [hg]; exact (uK (by repeat (first | (with_reducible first | exact HB.out | apply uC | apply uA | apply uB) | exact HB.out))) : w0.heap.size ≤ gb120)); clear HO0_0; clear HO0_1; clear HK; clear HB; have HO0_0 := n0_; have HO0_1 := n1_; have HK := n2_; have HB := n3_; have BK120 := n4_; have GW120 := n5_; have GE120 := n6_; clear n0_ n1_ n2_ n3_ n4_ n5_ n6_; clear hb hbox hg; have hcz8_0 : w7.cell? ⟨gb120, 0, none⟩ = some (.slice Ao5 l0_0.length co5) := (uE BK120.out 0).trans rfl; have hcz8_1 : w7.cell? ⟨gb120, 1, none⟩ = some (.slice Ao6 l0_1.length co6) := (uE BK120.out 1).trans rfl; have hfz8_0 := uD BK120.out 0; have hfz8_1 := uD BK120.out 1) | ((with_reducible refine uU (f := 54) rfl ?_); refine vE (some 8) rfl rfl Try.func54 (by kernel_rfl) rfl #[.slice Ao5 l0_0.length co5, .int .i64 a1] rfl (by (try simp only [vV, List.map_cons, List.map_nil]); first | done | rfl | (simp only [vX, vW]; rfl)) ?_; (with_reducible refine (laws_markIntS.calls k (fun k_ => some k_ = (.slice Ao5 l0_0.length co5 : Value).ownBlock) (.slice Ao5 l0_0.length co5) l0_0 a1 t121 t122 w0 _ ?side1 ?side2 A3.out).mono ?_); (case side1 => repeat (first | (with_reducible first | exact HB.out | apply uC | apply uA | apply uB | refine uF ?_ GE120.out) | exact HB.out)); (case side2 => exact Kd.R_tight rfl HO0_0.out); rintro e w9 ⟨rfl, hy0, hb, hkp⟩; refine ⟨_, rfl, ?_⟩; have n0_ := Aside0.mk (Kd.R_reok rfl hy0 (fun k_ e_ => HO0_0.out.1 k_ e_)); have n1_ := Aside0.mk (Kd.uY (ok' := fun k_ => ((P0_0_ k_ ∨ P0_1_ k_) ∨ w.heap.size ≤ k_)) (Kd.R_keptB ((Kd.R_apart' HO0_1.out (Kd.R_typed HO0_0.out) (by decide))) hkp (fun k_ hk_ hs_ => (hk_.2) hs_)) (fun k_ hk_ => hk_.1.1)); have n2_ := Aside0.mk (blk_kept (by (with_reducible repeat (first | refine uG ?_ _ | refine uI ?_ | refine uH ?_ _)); exact BK120.out) hkp (fun hs_ => (fun e_ => (Kd.R_ne HO0_0.out BK120.out (by decide)) e_) hs_)); have n3_ := Aside0.mk (vJ.then_ (S := (fun k_ => P0_0_ k_ ∨ P0_1_ k_)) (by repeat (first | (with_reducible first | exact HK.out | apply vJ.alloc | apply vJ.drewN | apply vJ.drew | refine vJ.setCell ?_ (.inr GW120.out) _) | exact HK.out)) hkp (fun k_ hs_ => (fun e_ => (HO0_0.out.1 k_ e_.symm)) hs_)); have n4_ := Aside0.mk (hb); clear HO0_0; clear HO0_1; clear BK120; clear HK; clear HB; have HO0_0 := n0_; have HO0_1 := n1_; have BK120 := n2_; have HK := n3_; have HB := n4_; clear n0_ n1_ n2_ n3_ n4_; (try clear hb); (try clear hkp); (try clear hy0); have hcz10_0 : w9.cell? ⟨gb120, 0, none⟩ = some (.slice Ao5 l0_0.length co5) := (uE BK120.out 0).trans rfl; have hcz10_1 : w9.cell? ⟨gb120, 1, none⟩ = some (.slice Ao6 l0_1.length co6) := (uE BK120.out 1).trans rfl; have hfz10_0 := uD BK120.out 0; have hfz10_1 := uD BK120.out 1) | ((with_reducible refine uU (f := 55) rfl ?_); refine vE (some 12) rfl rfl Try.func55 (by kernel_rfl) rfl #[.slice Ao6 l0_1.length co6, .int .i64 t121] rfl (by (try simp only [vV, List.map_cons, List.map_nil]); first | done | rfl | (simp only [vX, vW]; rfl)) ?_; (with_reducible refine (laws_markSessionS.calls k (fun k_ => some k_ = (.slice Ao6 l0_1.length co6 : Value).ownBlock) (.slice Ao6 l0_1.length co6) l0_1 t121 t123 t124 w0 _ ?side1 ?side2 A4.out).mono ?_); (case side1 => repeat (first | (with_reducible first | exact HB.out | apply uC | apply uA | apply uB | refine uF ?_ GE120.out) | exact HB.out)); (case side2 => exact Kd.R_tight rfl HO0_1.out); rintro e w11 ⟨rfl, hy0, hb, hkp⟩; refine ⟨_, rfl, ?_⟩; have n0_ := Aside0.mk (Kd.uY (ok' := fun k_ => ((P0_0_ k_ ∨ P0_1_ k_) ∨ w.heap.size ≤ k_)) (Kd.R_keptB ((Kd.R_apart' HO0_0.out (Kd.R_typed HO0_1.out) (by decide))) hkp (fun k_ hk_ hs_ => (hk_.2) hs_)) (fun k_ hk_ => hk_.1.1)); have n1_ := Aside0.mk (Kd.R_reok rfl hy0 (fun k_ e_ => HO0_1.out.1 k_ e_)); have n2_ := Aside0.mk (blk_kept (by (with_reducible repeat (first | refine uG ?_ _ | refine uI ?_ | refine uH ?_ _)); exact BK120.out) hkp (fun hs_ => (fun e_ => (Kd.R_ne HO0_1.out BK120.out (by decide)) e_) hs_)); have n3_ := Aside0.mk (vJ.then_ (S := (fun k_ => P0_0_ k_ ∨ P0_1_ k_)) (by repeat (first | (with_reducible first | exact HK.out | apply vJ.alloc | apply vJ.drewN | apply vJ.drew | refine vJ.setCell ?_ (.inr GW120.out) _) | exact HK.out)) hkp (fun k_ hs_ => (fun e_ => (HO0_1.out.1 k_ e_.symm)) hs_)); have n4_ := Aside0.mk (hb); clear HO0_0; clear HO0_1; clear BK120; clear HK; clear HB; have HO0_0 := n0_; have HO0_1 := n1_; have BK120 := n2_; have HK := n3_; have HB := n4_; clear n0_ n1_ n2_ n3_ n4_; (try clear hb); (try clear hkp); (try clear hy0)))
  go_ret
  exact ⟨by first | rfl | (simp [errW_none, errW_some] <;> rfl) | (simp [*, errW_none, errW_some] <;> rfl), by (with_reducible repeat (first | apply Kd.uO | apply Kd.uN | apply Kd.uQ)); exact HO0_0.out, by (with_reducible repeat (first | apply Kd.uO | apply Kd.uN | apply Kd.uQ)); exact HO0_1.out, by repeat (first | (with_reducible first | exact HB.out | apply uC | apply uA | apply uB | refine uF ?_ GE120.out) | exact HB.out), by repeat (first | (with_reducible first | exact HK.out | apply vJ.alloc | apply vJ.drewN | apply vJ.drew | refine vJ.setCell ?_ (.inr GW120.out) _) | exact HK.out)⟩

/-! ### laws_heldIntS: function 56 -/
def laws_heldIntS.l0 : Nat → List Int → Int → Int → Option (Int)
  | 0, _, _, _ => none
  | k + 1, x0, x1, x5 => if x5 < (x0.length : Int) then (if 0 ≤ x5 then (if (rd x0 x5) = x1 then (laws_heldIntS.l0 k x0 (wrap64 (x1 + 1)) (wrap64 (x5 + 1))) else (some (-1))) else (none)) else (some x1)
def laws_heldIntS.f (k : Nat) (l0 : List Int) (a1 : Int) : Option (Int) := laws_heldIntS.l0 k l0 a1 0
theorem laws_heldIntS.mono_l : ∀ k, (∀ y0 y1 y2, uV (laws_heldIntS.l0 k y0 y1 y2) (laws_heldIntS.l0 (k + 1) y0 y1 y2))
  | 0 => fun _ _ _ r h => by simp [laws_heldIntS.l0] at h
  | k + 1 => by
    have ih0 := laws_heldIntS.mono_l k
    intro y0 y1 y2
    unfold laws_heldIntS.l0
    repeat' first
    | (with_reducible exact ih0 _ _ _)
    | (with_reducible exact uV.refl _)
    | (with_reducible exact uV.none _)
    | (with_reducible refine uV.ite ?_ ?_)
    | (with_reducible refine uV.bind ?_ (fun _ => ?_))
    | exact ih0 _ _ _
    | exact uV.none _
    | refine uV.ite ?_ ?_
    | refine uV.bind ?_ (fun _ => ?_)
theorem laws_heldIntS.mono : ∀ a0 a1 k, uV (laws_heldIntS.f k a0 a1) (laws_heldIntS.f (k + 1) a0 a1) := by
  intro a0 a1 k
  have ih0 := laws_heldIntS.mono_l k
  unfold laws_heldIntS.f
  repeat' first
      | (with_reducible exact ih0 _ _ _)
      | (with_reducible exact uV.refl _)
      | (with_reducible exact uV.none _)
      | (with_reducible refine uV.ite ?_ ?_)
      | (with_reducible refine uV.bind ?_ (fun _ => ?_))
      | exact ih0 _ _ _
      | exact uV.none _
      | refine uV.ite ?_ ?_
      | refine uV.bind ?_ (fun _ => ?_)
set_option maxHeartbeats 8000000 in
set_option maxRecDepth 100000 in
theorem laws_heldIntS.calls (k : Nat) (A0 : Option Addr) (c0 : Nat) (l0 : List Int) (a1 : Int) (r : Int) (w : World) (hr0 : Kd.C (Kd.int .i64) w A0 l0.length l0) (hc0 : l0.length ≤ c0) (h : laws_heldIntS.f k l0 a1 = some r) :
    Calls Try.prog 56 #[.slice A0 l0.length c0, .int .i64 a1] w fun e w' => e = .returned (.int .i64 r) ∧ Drawn0 w w' := by
  have HR0 := Aside0.mk hr0
  have HC0 := Aside0.mk hc0
  clear hr0 hc0
  have H : (laws_heldIntS.l0 k l0 a1 0) = some r := h
  clear h
  have H' := Aside0.mk H
  clear H
  go_enter Try.func56, Try.ntmps56
  go_wp2
  go_loopg [1, 5] k (fun kq v1 v5 w' => ∃ (x1_1 : Int) (x5_1 : Int), v1 = .int .i64 x1_1 ∧ v5 = .int .i64 x5_1 ∧ Aside0 (laws_heldIntS.l0 kq l0 x1_1 x5_1 = some r) ∧ Aside0 (kq ≤ k) ∧ Drawn0 w w')
  case atStart => exact ⟨(a1), (0), (by first | rfl | (simp; done) | (simp [*]; done)), (by first | rfl | (simp; done) | (simp [*]; done)), H', ⟨Nat.le_refl _⟩, by repeat (first | exact Drawn0.refl _ | apply Drawn0.step)⟩
  case round =>
    clear H'
    try clear p2
    obtain ⟨x1_1, x5_1, rfl, rfl, HA, HK1, ⟨m1, rfl⟩⟩ := hrel
    cases gk with
    | zero => exact absurd HA.out (by simp [laws_heldIntS.l0])
    | succ k1 =>
      have H := HA.out
      clear HA
      simp only [laws_heldIntS.l0] at H
      by_cases c3 : x5_1 < (l0.length : Int)
      rotate_left
      · rw [if_neg c3] at H
        have c3b0 : decide (x5_1 < (l0.length : Int)) = false := decide_eq_false c3
        clear c3
        obtain rfl := Option.some.inj H
        go_wp2
        go_ret
        exact ⟨by first | rfl | (simp; done) | (simp [*]; done), by repeat (first | exact Drawn0.refl _ | apply Drawn0.step)⟩
      rw [if_pos c3] at H
      have c3b0 : decide (x5_1 < (l0.length : Int)) = true := decide_eq_true c3
      clear c3
      by_cases c4 : 0 ≤ x5_1
      rotate_left
      · rw [if_neg c4] at H
        exact absurd H (by simp)
      rw [if_pos c4] at H
      have c4b0 : decide (0 ≤ x5_1) = true := decide_eq_true c4
      clear c4
      by_cases c5 : (rd l0 x5_1) = x1_1
      rotate_left
      · rw [if_neg c5] at H
        have c5b0 : ((rd l0 x5_1) == x1_1) = false := beq_eq_false_iff_ne.mpr c5
        have c5b1 : ((rd l0 x5_1) != x1_1) = true := bne_iff_ne.mpr c5
        obtain rfl := Option.some.inj H
        have p125 : 0 ≤ (x5_1 : Int) := of_decide_eq_true (by first | (with_reducible assumption) | assumption)
        have q125 : x5_1 < (l0.length : Int) := of_decide_eq_true (by first | (with_reducible assumption) | assumption)
        obtain ⟨ad125, e125, hx125_0⟩ := Kd.at_int HR0.out x5_1 p125 q125
        cases e125
        replace p125 := eq_true p125
        replace q125 := eq_true q125
        go_wp2
        go_ret
        exact ⟨by first | rfl | (simp; done) | (simp [*]; done), by repeat (first | exact Drawn0.refl _ | apply Drawn0.step)⟩
      rw [if_pos c5] at H
      have c5b0 : ((rd l0 x5_1) == x1_1) = true := beq_iff_eq.mpr c5
      have c5b1 : ((rd l0 x5_1) != x1_1) = false := bne_eq_false_iff_eq.mpr c5
      clear c5
      have H' := Aside0.mk H
      clear H
      have p125 : 0 ≤ (x5_1 : Int) := of_decide_eq_true (by first | (with_reducible assumption) | assumption)
      have q125 : x5_1 < (l0.length : Int) := of_decide_eq_true (by first | (with_reducible assumption) | assumption)
      obtain ⟨ad125, e125, hx125_0⟩ := Kd.at_int HR0.out x5_1 p125 q125
      cases e125
      replace p125 := eq_true p125
      replace q125 := eq_true q125
      go_wp2
      go_roundg k1
      case measure => have := HK1.out; omega
      case rel => exact ⟨(wrap64 (x1_1 + 1)), (wrap64 (x5_1 + 1)), (by first | rfl | (simp; done) | (simp [*]; done)), (by first | rfl | (simp; done) | (simp [*]; done)), H', ⟨by have := HK1.out; omega⟩, by repeat (first | exact Drawn0.refl _ | apply Drawn0.step)⟩

/-! ### laws_heldSessionS: function 57 -/
def laws_heldSessionS.l0 : Nat → List (S49) → Int → Int → Option (Int)
  | 0, _, _, _ => none
  | k + 1, x0, x1, x5 => if x5 < (x0.length : Int) then (if 0 ≤ x5 then (if ((rd_T49 x0 x5).f0) = x1 then (if ((rd_T49 x0 x5).f1) = (wrap64 (x1 + 1)) then (if (((rd_T49 x0 x5).f2.f0) != ((Int.tmod (wrap64 ((wrap64 (x1 + 1)) + 1)) 3) == 0)) = true then (some (-1)) else (if ((rd_T49 x0 x5).f2.f1) = (wrap64 ((wrap64 ((wrap64 (x1 + 1)) + 1)) + 1)) then (laws_heldSessionS.l0 k x0 (wrap64 ((wrap64 ((wrap64 ((wrap64 (x1 + 1)) + 1)) + 1)) + 1)) (wrap64 (x5 + 1))) else (some (-1)))) else (some (-1))) else (some (-1))) else (none)) else (some x1)
def laws_heldSessionS.f (k : Nat) (l0 : List (S49)) (a1 : Int) : Option (Int) := laws_heldSessionS.l0 k l0 a1 0
theorem laws_heldSessionS.mono_l : ∀ k, (∀ y0 y1 y2, uV (laws_heldSessionS.l0 k y0 y1 y2) (laws_heldSessionS.l0 (k + 1) y0 y1 y2))
  | 0 => fun _ _ _ r h => by simp [laws_heldSessionS.l0] at h
  | k + 1 => by
    have ih0 := laws_heldSessionS.mono_l k
    intro y0 y1 y2
    unfold laws_heldSessionS.l0
    repeat' first
    | (with_reducible exact ih0 _ _ _)
    | (with_reducible exact uV.refl _)
    | (with_reducible exact uV.none _)
    | (with_reducible refine uV.ite ?_ ?_)
    | (with_reducible refine uV.bind ?_ (fun _ => ?_))
    | exact ih0 _ _ _
    | exact uV.none _
    | refine uV.ite ?_ ?_
    | refine uV.bind ?_ (fun _ => ?_)
theorem laws_heldSessionS.mono : ∀ a0 a1 k, uV (laws_heldSessionS.f k a0 a1) (laws_heldSessionS.f (k + 1) a0 a1) := by
  intro a0 a1 k
  have ih0 := laws_heldSessionS.mono_l k
  unfold laws_heldSessionS.f
  repeat' first
      | (with_reducible exact ih0 _ _ _)
      | (with_reducible exact uV.refl _)
      | (with_reducible exact uV.none _)
      | (with_reducible refine uV.ite ?_ ?_)
      | (with_reducible refine uV.bind ?_ (fun _ => ?_))
      | exact ih0 _ _ _
      | exact uV.none _
      | refine uV.ite ?_ ?_
      | refine uV.bind ?_ (fun _ => ?_)
set_option maxHeartbeats 8000000 in
set_option maxRecDepth 100000 in
theorem laws_heldSessionS.calls (k : Nat) (A0 : Option Addr) (c0 : Nat) (l0 : List (S49)) (a1 : Int) (r : Int) (w : World) (hr0 : Kd.C k49 w A0 l0.length l0) (hc0 : l0.length ≤ c0) (h : laws_heldSessionS.f k l0 a1 = some r) :
    Calls Try.prog 57 #[.slice A0 l0.length c0, .int .i64 a1] w fun e w' => e = .returned (.int .i64 r) ∧ Drawn0 w w' := by
  have HR0 := Aside0.mk hr0
  have HC0 := Aside0.mk hc0
  clear hr0 hc0
  have H : (laws_heldSessionS.l0 k l0 a1 0) = some r := h
  clear h
  have H' := Aside0.mk H
  clear H
  go_enter Try.func57, Try.ntmps57
  go_wp2
  go_loopg [1, 5] k (fun kq v1 v5 w' => ∃ (x1_1 : Int) (x5_1 : Int), v1 = .int .i64 x1_1 ∧ v5 = .int .i64 x5_1 ∧ Aside0 (laws_heldSessionS.l0 kq l0 x1_1 x5_1 = some r) ∧ Aside0 (kq ≤ k) ∧ Drawn0 w w')
  case atStart => exact ⟨(a1), (0), (by first | rfl | (simp; done) | (simp [*]; done)), (by first | rfl | (simp; done) | (simp [*]; done)), H', ⟨Nat.le_refl _⟩, by repeat (first | exact Drawn0.refl _ | apply Drawn0.step)⟩
  case round =>
    clear H'
    try clear p2
    obtain ⟨x1_1, x5_1, rfl, rfl, HA, HK1, ⟨m1, rfl⟩⟩ := hrel
    cases gk with
    | zero => exact absurd HA.out (by simp [laws_heldSessionS.l0])
    | succ k1 =>
      have H := HA.out
      clear HA
      simp only [laws_heldSessionS.l0] at H
      by_cases c3 : x5_1 < (l0.length : Int)
      rotate_left
      · rw [if_neg c3] at H
        have c3b0 : decide (x5_1 < (l0.length : Int)) = false := decide_eq_false c3
        clear c3
        obtain rfl := Option.some.inj H
        go_wp2
        go_ret
        exact ⟨by first | rfl | (simp; done) | (simp [*]; done), by repeat (first | exact Drawn0.refl _ | apply Drawn0.step)⟩
      rw [if_pos c3] at H
      have c3b0 : decide (x5_1 < (l0.length : Int)) = true := decide_eq_true c3
      clear c3
      by_cases c4 : 0 ≤ x5_1
      rotate_left
      · rw [if_neg c4] at H
        exact absurd H (by simp)
      rw [if_pos c4] at H
      have c4b0 : decide (0 ≤ x5_1) = true := decide_eq_true c4
      clear c4
      by_cases c5 : ((rd_T49 l0 x5_1).f0) = x1_1
      rotate_left
      · rw [if_neg c5] at H
        have c5b0 : (((rd_T49 l0 x5_1).f0) == x1_1) = false := beq_eq_false_iff_ne.mpr c5
        have c5b1 : (((rd_T49 l0 x5_1).f0) != x1_1) = true := bne_iff_ne.mpr c5
        obtain rfl := Option.some.inj H
        have p126 : 0 ≤ (x5_1 : Int) := of_decide_eq_true (by first | (with_reducible assumption) | assumption)
        have q126 : x5_1 < (l0.length : Int) := of_decide_eq_true (by first | (with_reducible assumption) | assumption)
        obtain ⟨ad126, e126, hx126_0, hx126_1, hx126_2, hx126_3⟩ := at_T49 HR0.out x5_1 p126 q126
        cases e126
        replace p126 := eq_true p126
        replace q126 := eq_true q126
        go_wp2
        go_ret
        exact ⟨by first | rfl | (simp; done) | (simp [*]; done), by repeat (first | exact Drawn0.refl _ | apply Drawn0.step)⟩
      rw [if_pos c5] at H
      have c5b0 : (((rd_T49 l0 x5_1).f0) == x1_1) = true := beq_iff_eq.mpr c5
      have c5b1 : (((rd_T49 l0 x5_1).f0) != x1_1) = false := bne_eq_false_iff_eq.mpr c5
      clear c5
      by_cases c6 : ((rd_T49 l0 x5_1).f1) = (wrap64 (x1_1 + 1))
      rotate_left
      · rw [if_neg c6] at H
        have c6b0 : (((rd_T49 l0 x5_1).f1) == (wrap64 (x1_1 + 1))) = false := beq_eq_false_iff_ne.mpr c6
        have c6b1 : (((rd_T49 l0 x5_1).f1) != (wrap64 (x1_1 + 1))) = true := bne_iff_ne.mpr c6
        obtain rfl := Option.some.inj H
        have p126 : 0 ≤ (x5_1 : Int) := of_decide_eq_true (by first | (with_reducible assumption) | assumption)
        have q126 : x5_1 < (l0.length : Int) := of_decide_eq_true (by first | (with_reducible assumption) | assumption)
        obtain ⟨ad126, e126, hx126_0, hx126_1, hx126_2, hx126_3⟩ := at_T49 HR0.out x5_1 p126 q126
        cases e126
        replace p126 := eq_true p126
        replace q126 := eq_true q126
        have p127 : 0 ≤ (x5_1 : Int) := of_decide_eq_true (by first | (with_reducible assumption) | assumption)
        have q127 : x5_1 < (l0.length : Int) := of_decide_eq_true (by first | (with_reducible assumption) | assumption)
        obtain ⟨ad127, e127, hx127_0, hx127_1, hx127_2, hx127_3⟩ := at_T49 HR0.out x5_1 p127 q127
        obtain rfl : ad126 = ad127 := (by injection e127)
        replace p127 := eq_true p127
        replace q127 := eq_true q127
        go_wp2
        go_ret
        exact ⟨by first | rfl | (simp; done) | (simp [*]; done), by repeat (first | exact Drawn0.refl _ | apply Drawn0.step)⟩
      rw [if_pos c6] at H
      have c6b0 : (((rd_T49 l0 x5_1).f1) == (wrap64 (x1_1 + 1))) = true := beq_iff_eq.mpr c6
      have c6b1 : (((rd_T49 l0 x5_1).f1) != (wrap64 (x1_1 + 1))) = false := bne_eq_false_iff_eq.mpr c6
      clear c6
      by_cases c7 : (((rd_T49 l0 x5_1).f2.f0) != ((Int.tmod (wrap64 ((wrap64 (x1_1 + 1)) + 1)) 3) == 0)) = true
      · rw [if_pos c7] at H
        have c7b0 : (((rd_T49 l0 x5_1).f2.f0) != ((Int.tmod (wrap64 ((wrap64 (x1_1 + 1)) + 1)) 3) == 0)) = true := c7
        (try (have c7b1 : decide (((rd_T49 l0 x5_1).f2.f0) = ((Int.tmod (wrap64 ((wrap64 (x1_1 + 1)) + 1)) 3) == 0)) = false := by simpa using c7))
        (try (have c7b2 : (((rd_T49 l0 x5_1).f2.f0) == ((Int.tmod (wrap64 ((wrap64 (x1_1 + 1)) + 1)) 3) == 0)) = false := by simpa using c7))
        (try (have c7b3 : ¬ (((rd_T49 l0 x5_1).f2.f0) = ((Int.tmod (wrap64 ((wrap64 (x1_1 + 1)) + 1)) 3) == 0)) := by simpa using c7))
        clear c7
        obtain rfl := Option.some.inj H
        have p126 : 0 ≤ (x5_1 : Int) := of_decide_eq_true (by first | (with_reducible assumption) | assumption)
        have q126 : x5_1 < (l0.length : Int) := of_decide_eq_true (by first | (with_reducible assumption) | assumption)
        obtain ⟨ad126, e126, hx126_0, hx126_1, hx126_2, hx126_3⟩ := at_T49 HR0.out x5_1 p126 q126
        cases e126
        replace p126 := eq_true p126
        replace q126 := eq_true q126
        have p127 : 0 ≤ (x5_1 : Int) := of_decide_eq_true (by first | (with_reducible assumption) | assumption)
        have q127 : x5_1 < (l0.length : Int) := of_decide_eq_true (by first | (with_reducible assumption) | assumption)
        obtain ⟨ad127, e127, hx127_0, hx127_1, hx127_2, hx127_3⟩ := at_T49 HR0.out x5_1 p127 q127
        obtain rfl : ad126 = ad127 := (by injection e127)
        replace p127 := eq_true p127
        replace q127 := eq_true q127
        have p128 : 0 ≤ (x5_1 : Int) := of_decide_eq_true (by first | (with_reducible assumption) | assumption)
        have q128 : x5_1 < (l0.length : Int) := of_decide_eq_true (by first | (with_reducible assumption) | assumption)
        obtain ⟨ad128, e128, hx128_0, hx128_1, hx128_2, hx128_3⟩ := at_T49 HR0.out x5_1 p128 q128
        obtain rfl : ad126 = ad128 := (by injection e128)
        replace p128 := eq_true p128
        replace q128 := eq_true q128
        go_wp2
        go_ret
        exact ⟨by first | rfl | (simp; done) | (simp [*]; done), by repeat (first | exact Drawn0.refl _ | apply Drawn0.step)⟩
      rw [if_neg c7] at H
      have c7b0 : (((rd_T49 l0 x5_1).f2.f0) != ((Int.tmod (wrap64 ((wrap64 (x1_1 + 1)) + 1)) 3) == 0)) = false := by simpa using c7
      (try (have c7b1 : decide (((rd_T49 l0 x5_1).f2.f0) = ((Int.tmod (wrap64 ((wrap64 (x1_1 + 1)) + 1)) 3) == 0)) = true := by simpa using c7))
      (try (have c7b2 : (((rd_T49 l0 x5_1).f2.f0) == ((Int.tmod (wrap64 ((wrap64 (x1_1 + 1)) + 1)) 3) == 0)) = true := by simpa using c7))
      clear c7
      by_cases c8 : ((rd_T49 l0 x5_1).f2.f1) = (wrap64 ((wrap64 ((wrap64 (x1_1 + 1)) + 1)) + 1))
      rotate_left
      · rw [if_neg c8] at H
        have c8b0 : (((rd_T49 l0 x5_1).f2.f1) == (wrap64 ((wrap64 ((wrap64 (x1_1 + 1)) + 1)) + 1))) = false := beq_eq_false_iff_ne.mpr c8
        have c8b1 : (((rd_T49 l0 x5_1).f2.f1) != (wrap64 ((wrap64 ((wrap64 (x1_1 + 1)) + 1)) + 1))) = true := bne_iff_ne.mpr c8
        obtain rfl := Option.some.inj H
        have p126 : 0 ≤ (x5_1 : Int) := of_decide_eq_true (by first | (with_reducible assumption) | assumption)
        have q126 : x5_1 < (l0.length : Int) := of_decide_eq_true (by first | (with_reducible assumption) | assumption)
        obtain ⟨ad126, e126, hx126_0, hx126_1, hx126_2, hx126_3⟩ := at_T49 HR0.out x5_1 p126 q126
        cases e126
        replace p126 := eq_true p126
        replace q126 := eq_true q126
        have p127 : 0 ≤ (x5_1 : Int) := of_decide_eq_true (by first | (with_reducible assumption) | assumption)
        have q127 : x5_1 < (l0.length : Int) := of_decide_eq_true (by first | (with_reducible assumption) | assumption)
        obtain ⟨ad127, e127, hx127_0, hx127_1, hx127_2, hx127_3⟩ := at_T49 HR0.out x5_1 p127 q127
        obtain rfl : ad126 = ad127 := (by injection e127)
        replace p127 := eq_true p127
        replace q127 := eq_true q127
        have p128 : 0 ≤ (x5_1 : Int) := of_decide_eq_true (by first | (with_reducible assumption) | assumption)
        have q128 : x5_1 < (l0.length : Int) := of_decide_eq_true (by first | (with_reducible assumption) | assumption)
        obtain ⟨ad128, e128, hx128_0, hx128_1, hx128_2, hx128_3⟩ := at_T49 HR0.out x5_1 p128 q128
        obtain rfl : ad126 = ad128 := (by injection e128)
        replace p128 := eq_true p128
        replace q128 := eq_true q128
        have p129 : 0 ≤ (x5_1 : Int) := of_decide_eq_true (by first | (with_reducible assumption) | assumption)
        have q129 : x5_1 < (l0.length : Int) := of_decide_eq_true (by first | (with_reducible assumption) | assumption)
        obtain ⟨ad129, e129, hx129_0, hx129_1, hx129_2, hx129_3⟩ := at_T49 HR0.out x5_1 p129 q129
        obtain rfl : ad126 = ad129 := (by injection e129)
        replace p129 := eq_true p129
        replace q129 := eq_true q129
        go_wp2
        go_ret
        exact ⟨by first | rfl | (simp; done) | (simp [*]; done), by repeat (first | exact Drawn0.refl _ | apply Drawn0.step)⟩
      rw [if_pos c8] at H
      have c8b0 : (((rd_T49 l0 x5_1).f2.f1) == (wrap64 ((wrap64 ((wrap64 (x1_1 + 1)) + 1)) + 1))) = true := beq_iff_eq.mpr c8
      have c8b1 : (((rd_T49 l0 x5_1).f2.f1) != (wrap64 ((wrap64 ((wrap64 (x1_1 + 1)) + 1)) + 1))) = false := bne_eq_false_iff_eq.mpr c8
      clear c8
      have H' := Aside0.mk H
      clear H
      have p126 : 0 ≤ (x5_1 : Int) := of_decide_eq_true (by first | (with_reducible assumption) | assumption)
      have q126 : x5_1 < (l0.length : Int) := of_decide_eq_true (by first | (with_reducible assumption) | assumption)
      obtain ⟨ad126, e126, hx126_0, hx126_1, hx126_2, hx126_3⟩ := at_T49 HR0.out x5_1 p126 q126
      cases e126
      replace p126 := eq_true p126
      replace q126 := eq_true q126
      have p127 : 0 ≤ (x5_1 : Int) := of_decide_eq_true (by first | (with_reducible assumption) | assumption)
      have q127 : x5_1 < (l0.length : Int) := of_decide_eq_true (by first | (with_reducible assumption) | assumption)
      obtain ⟨ad127, e127, hx127_0, hx127_1, hx127_2, hx127_3⟩ := at_T49 HR0.out x5_1 p127 q127
      obtain rfl : ad126 = ad127 := (by injection e127)
      replace p127 := eq_true p127
      replace q127 := eq_true q127
      have p128 : 0 ≤ (x5_1 : Int) := of_decide_eq_true (by first | (with_reducible assumption) | assumption)
      have q128 : x5_1 < (l0.length : Int) := of_decide_eq_true (by first | (with_reducible assumption) | assumption)
      obtain ⟨ad128, e128, hx128_0, hx128_1, hx128_2, hx128_3⟩ := at_T49 HR0.out x5_1 p128 q128
      obtain rfl : ad126 = ad128 := (by injection e128)
      replace p128 := eq_true p128
      replace q128 := eq_true q128
      have p129 : 0 ≤ (x5_1 : Int) := of_decide_eq_true (by first | (with_reducible assumption) | assumption)
      have q129 : x5_1 < (l0.length : Int) := of_decide_eq_true (by first | (with_reducible assumption) | assumption)
      obtain ⟨ad129, e129, hx129_0, hx129_1, hx129_2, hx129_3⟩ := at_T49 HR0.out x5_1 p129 q129
      obtain rfl : ad126 = ad129 := (by injection e129)
      replace p129 := eq_true p129
      replace q129 := eq_true q129
      go_wp2
      go_roundg k1
      case measure => have := HK1.out; omega
      case rel => exact ⟨(wrap64 ((wrap64 ((wrap64 ((wrap64 (x1_1 + 1)) + 1)) + 1)) + 1)), (wrap64 (x5_1 + 1)), (by first | rfl | (simp; done) | (simp [*]; done)), (by first | rfl | (simp; done) | (simp [*]; done)), H', ⟨by have := HK1.out; omega⟩, by repeat (first | exact Drawn0.refl _ | apply Drawn0.step)⟩

/-! ### laws_heldMachine: function 16 -/
def laws_heldMachine.f (k : Nat) (l0_0 : List Int) (l0_1 : List (S49)) (a1 : Int) : Option (Int) := (laws_heldIntS.f k l0_0 a1).bind fun t131 => (if t131 < 0 then (some (-1)) else ((laws_heldSessionS.f k l0_1 t131).bind fun t132 => (if t132 < 0 then (some (-1)) else (some t132))))
theorem laws_heldMachine.mono : ∀ a0 a1 a2 k, uV (laws_heldMachine.f k a0 a1 a2) (laws_heldMachine.f (k + 1) a0 a1 a2) := by
  intro a0 a1 a2 k
  unfold laws_heldMachine.f
  repeat' first
      | (with_reducible exact laws_heldIntS.mono _ _ _)
      | (with_reducible exact laws_heldSessionS.mono _ _ _)
      | (with_reducible exact uV.refl _)
      | (with_reducible exact uV.none _)
      | (with_reducible refine uV.ite ?_ ?_)
      | (with_reducible refine uV.bind ?_ (fun _ => ?_))
      | exact laws_heldIntS.mono _ _ _
      | exact laws_heldSessionS.mono _ _ _
      | exact uV.none _
      | refine uV.ite ?_ ?_
      | refine uV.bind ?_ (fun _ => ?_)
set_option maxHeartbeats 8000000 in
set_option maxRecDepth 100000 in
theorem laws_heldMachine.calls (k : Nat) (A0_0 : Option Addr) (c0_0 : Nat) (l0_0 : List Int) (A0_1 : Option Addr) (c0_1 : Nat) (l0_1 : List (S49)) (a1 : Int) (r : Int) (w : World) (hr0_0 : Kd.C (Kd.int .i64) w A0_0 l0_0.length l0_0) (hc0_0 : l0_0.length ≤ c0_0) (hr0_1 : Kd.C k49 w A0_1 l0_1.length l0_1) (hc0_1 : l0_1.length ≤ c0_1) (h : laws_heldMachine.f k l0_0 l0_1 a1 = some r) :
    Calls Try.prog 16 #[.agg #[.slice A0_0 l0_0.length c0_0, .slice A0_1 l0_1.length c0_1], .int .i64 a1] w fun e w' => e = .returned (.int .i64 r) ∧ Below w.heap.size w w' := by
  have hu31 := Try.underlying31
  have HR0_0 := Aside0.mk hr0_0
  have HC0_0 := Aside0.mk hc0_0
  clear hr0_0 hc0_0
  have HR0_1 := Aside0.mk hr0_1
  have HC0_1 := Aside0.mk hc0_1
  clear hr0_1 hc0_1
  have HB := Aside0.mk (Below.refl w.heap.size w)
  have H : ((laws_heldIntS.f k l0_0 a1).bind fun t131 => (if t131 < 0 then (some (-1)) else ((laws_heldSessionS.f k l0_1 t131).bind fun t132 => (if t132 < 0 then (some (-1)) else (some t132))))) = some r := h
  clear h
  replace H := Option.bind_eq_some_iff.mp H
  obtain ⟨t131, A30, H⟩ := H
  replace H : (if t131 < 0 then (some (-1)) else ((laws_heldSessionS.f k l0_1 t131).bind fun t132 => (if t132 < 0 then (some (-1)) else (some t132)))) = some r := H
  have A3 := Aside0.mk A30
  clear A30
  by_cases c4 : t131 < 0
  · rw [if_pos c4] at H
    have c4b0 : decide (t131 < 0) = true := decide_eq_true c4
    clear c4
    obtain rfl := Option.some.inj H
    go_enter Try.func16, Try.ntmps16
    go_wp2_with (first | ((with_reducible refine uS (N := 2) rfl ?_); refine uR ?hg (N := 2) ?hd (cs := #[.slice A0_0 l0_0.length c0_0, .slice A0_1 l0_1.length c0_1]) (t := 31) ?hr ?_; (case hd => rfl); (case hg => rfl); (case hr => first | (go_simp; done) | (go_simp; rfl)); intro gb130 hg w5 hbox hb; have n0_ := Aside0.mk (uP (by repeat (first | (with_reducible first | exact HB.out | apply uC | apply uA | apply uB) | exact HB.out)) hb); have n1_ := Aside0.mk (hbox); have n2_ := Aside0.mk ((by rw [hg]; exact (uK (by repeat (first | (with_reducible first | exact HB.out | apply uC | apply uA | apply uB) | exact HB.out))) : w.heap.size ≤ gb130)); have n3_ := Aside0.mk ((by rw [hg]; exact (uK (by repeat (first | (with_reducible first | exact HB.out | apply uC | apply uA | apply uB) | exact HB.out))) : w.heap.size ≤ gb130)); clear HB; have HB := n0_; have BK130 := n1_; have GW130 := n2_; have GE130 := n3_; clear n0_ n1_ n2_ n3_; clear hb hbox hg; have hcz6_0 : w5.cell? ⟨gb130, 0, none⟩ = some (.slice A0_0 l0_0.length c0_0) := (uE BK130.out 0).trans rfl; have hcz6_1 : w5.cell? ⟨gb130, 1, none⟩ = some (.slice A0_1 l0_1.length c0_1) := (uE BK130.out 1).trans rfl; have hfz6_0 := uD BK130.out 0; have hfz6_1 := uD BK130.out 1) | ((with_reducible refine uU (f := 56) rfl ?_); refine vE (some 8) rfl rfl Try.func56 (by kernel_rfl) rfl #[.slice A0_0 l0_0.length c0_0, .int .i64 a1] rfl (by (try simp only [vV, List.map_cons, List.map_nil]); first | done | rfl | (simp only [vX, vW]; rfl)) ?_; (with_reducible refine (laws_heldIntS.calls k _ _ l0_0 a1 t131 _ ?side1 ?side2 A3.out).mono ?_); (case side1 => repeat (first | exact (Kd.vC HR0_0.out HB.out) | (with_reducible refine Kd.vL ?_ _) | (with_reducible refine Kd.vM ?_ _) | (with_reducible refine Kd.vN ?_))); (case side2 => exact HC0_0.out); rintro e w' ⟨rfl, ⟨nd, rfl⟩⟩; refine ⟨_, rfl, ?_⟩))
    go_ret
    exact ⟨by first | rfl | (simp [errW_none, errW_some] <;> rfl) | (simp [*, errW_none, errW_some] <;> rfl), by repeat (first | (with_reducible first | exact HB.out | apply uC | apply uA | apply uB | refine uF ?_ GE130.out) | exact HB.out)⟩
  rw [if_neg c4] at H
  have c4b0 : decide (t131 < 0) = false := decide_eq_false c4
  clear c4
  replace H := Option.bind_eq_some_iff.mp H
  obtain ⟨t132, A70, H⟩ := H
  replace H : (if t132 < 0 then (some (-1)) else (some t132)) = some r := H
  have A7 := Aside0.mk A70
  clear A70
  by_cases c8 : t132 < 0
  · rw [if_pos c8] at H
    have c8b0 : decide (t132 < 0) = true := decide_eq_true c8
    clear c8
    obtain rfl := Option.some.inj H
    go_enter Try.func16, Try.ntmps16
    go_wp2_with (first | ((with_reducible refine uS (N := 2) rfl ?_); refine uR ?hg (N := 2) ?hd (cs := #[.slice A0_0 l0_0.length c0_0, .slice A0_1 l0_1.length c0_1]) (t := 31) ?hr ?_; (case hd => rfl); (case hg => rfl); (case hr => first | (go_simp; done) | (go_simp; rfl)); intro gb130 hg w9 hbox hb; have n0_ := Aside0.mk (uP (by repeat (first | (with_reducible first | exact HB.out | apply uC | apply uA | apply uB) | exact HB.out)) hb); have n1_ := Aside0.mk (hbox); have n2_ := Aside0.mk ((by rw [hg]; exact (uK (by repeat (first | (with_reducible first | exact HB.out | apply uC | apply uA | apply uB) | exact HB.out))) : w.heap.size ≤ gb130)); have n3_ := Aside0.mk ((by rw [hg]; exact (uK (by repeat (first | (with_reducible first | exact HB.out | apply uC | apply uA | apply uB) | exact HB.out))) : w.heap.size ≤ gb130)); clear HB; have HB := n0_; have BK130 := n1_; have GW130 := n2_; have GE130 := n3_; clear n0_ n1_ n2_ n3_; clear hb hbox hg; have hcz10_0 : w9.cell? ⟨gb130, 0, none⟩ = some (.slice A0_0 l0_0.length c0_0) := (uE BK130.out 0).trans rfl; have hcz10_1 : w9.cell? ⟨gb130, 1, none⟩ = some (.slice A0_1 l0_1.length c0_1) := (uE BK130.out 1).trans rfl; have hfz10_0 := uD BK130.out 0; have hfz10_1 := uD BK130.out 1) | ((with_reducible refine uU (f := 56) rfl ?_); refine vE (some 8) rfl rfl Try.func56 (by kernel_rfl) rfl #[.slice A0_0 l0_0.length c0_0, .int .i64 a1] rfl (by (try simp only [vV, List.map_cons, List.map_nil]); first | done | rfl | (simp only [vX, vW]; rfl)) ?_; (with_reducible refine (laws_heldIntS.calls k _ _ l0_0 a1 t131 _ ?side1 ?side2 A3.out).mono ?_); (case side1 => repeat (first | exact (Kd.vC HR0_0.out HB.out) | (with_reducible refine Kd.vL ?_ _) | (with_reducible refine Kd.vM ?_ _) | (with_reducible refine Kd.vN ?_))); (case side2 => exact HC0_0.out); rintro e w' ⟨rfl, ⟨nd, rfl⟩⟩; refine ⟨_, rfl, ?_⟩) | ((with_reducible refine uU (f := 57) rfl ?_); refine vE (some 14) rfl rfl Try.func57 (by kernel_rfl) rfl #[.slice A0_1 l0_1.length c0_1, .int .i64 t131] rfl (by (try simp only [vV, List.map_cons, List.map_nil]); first | done | rfl | (simp only [vX, vW]; rfl)) ?_; (with_reducible refine (laws_heldSessionS.calls k _ _ l0_1 t131 t132 _ ?side1 ?side2 A7.out).mono ?_); (case side1 => repeat (first | exact (Kd.vC HR0_1.out (by repeat (first | (with_reducible first | exact HB.out | apply uC | apply uA | apply uB | refine uF ?_ GE130.out) | exact HB.out))) | (with_reducible refine Kd.vL ?_ _) | (with_reducible refine Kd.vM ?_ _) | (with_reducible refine Kd.vN ?_))); (case side2 => exact HC0_1.out); rintro e w' ⟨rfl, ⟨nd, rfl⟩⟩; refine ⟨_, rfl, ?_⟩))
    go_ret
    exact ⟨by first | rfl | (simp [errW_none, errW_some] <;> rfl) | (simp [*, errW_none, errW_some] <;> rfl), by repeat (first | (with_reducible first | exact HB.out | apply uC | apply uA | apply uB | refine uF ?_ GE130.out) | exact HB.out)⟩
  rw [if_neg c8] at H
  have c8b0 : decide (t132 < 0) = false := decide_eq_false c8
  clear c8
  obtain rfl := Option.some.inj H
  go_enter Try.func16, Try.ntmps16
  go_wp2_with (first | ((with_reducible refine uS (N := 2) rfl ?_); refine uR ?hg (N := 2) ?hd (cs := #[.slice A0_0 l0_0.length c0_0, .slice A0_1 l0_1.length c0_1]) (t := 31) ?hr ?_; (case hd => rfl); (case hg => rfl); (case hr => first | (go_simp; done) | (go_simp; rfl)); intro gb130 hg w11 hbox hb; have n0_ := Aside0.mk (uP (by repeat (first | (with_reducible first | exact HB.out | apply uC | apply uA | apply uB) | exact HB.out)) hb); have n1_ := Aside0.mk (hbox); have n2_ := Aside0.mk ((by rw [hg]; exact (uK (by repeat (first | (with_reducible first | exact HB.out | apply uC | apply uA | apply uB) | exact HB.out))) : w.heap.size ≤ gb130)); have n3_ := Aside0.mk ((by rw [hg]; exact (uK (by repeat (first | (with_reducible first | exact HB.out | apply uC | apply uA | apply uB) | exact HB.out))) : w.heap.size ≤ gb130)); clear HB; have HB := n0_; have BK130 := n1_; have GW130 := n2_; have GE130 := n3_; clear n0_ n1_ n2_ n3_; clear hb hbox hg; have hcz12_0 : w11.cell? ⟨gb130, 0, none⟩ = some (.slice A0_0 l0_0.length c0_0) := (uE BK130.out 0).trans rfl; have hcz12_1 : w11.cell? ⟨gb130, 1, none⟩ = some (.slice A0_1 l0_1.length c0_1) := (uE BK130.out 1).trans rfl; have hfz12_0 := uD BK130.out 0; have hfz12_1 := uD BK130.out 1) | ((with_reducible refine uU (f := 56) rfl ?_); refine vE (some 8) rfl rfl Try.func56 (by kernel_rfl) rfl #[.slice A0_0 l0_0.length c0_0, .int .i64 a1] rfl (by (try simp only [vV, List.map_cons, List.map_nil]); first | done | rfl | (simp only [vX, vW]; rfl)) ?_; (with_reducible refine (laws_heldIntS.calls k _ _ l0_0 a1 t131 _ ?side1 ?side2 A3.out).mono ?_); (case side1 => repeat (first | exact (Kd.vC HR0_0.out HB.out) | (with_reducible refine Kd.vL ?_ _) | (with_reducible refine Kd.vM ?_ _) | (with_reducible refine Kd.vN ?_))); (case side2 => exact HC0_0.out); rintro e w' ⟨rfl, ⟨nd, rfl⟩⟩; refine ⟨_, rfl, ?_⟩) | ((with_reducible refine uU (f := 57) rfl ?_); refine vE (some 14) rfl rfl Try.func57 (by kernel_rfl) rfl #[.slice A0_1 l0_1.length c0_1, .int .i64 t131] rfl (by (try simp only [vV, List.map_cons, List.map_nil]); first | done | rfl | (simp only [vX, vW]; rfl)) ?_; (with_reducible refine (laws_heldSessionS.calls k _ _ l0_1 t131 t132 _ ?side1 ?side2 A7.out).mono ?_); (case side1 => repeat (first | exact (Kd.vC HR0_1.out (by repeat (first | (with_reducible first | exact HB.out | apply uC | apply uA | apply uB | refine uF ?_ GE130.out) | exact HB.out))) | (with_reducible refine Kd.vL ?_ _) | (with_reducible refine Kd.vM ?_ _) | (with_reducible refine Kd.vN ?_))); (case side2 => exact HC0_1.out); rintro e w' ⟨rfl, ⟨nd, rfl⟩⟩; refine ⟨_, rfl, ?_⟩))
  go_ret
  exact ⟨by first | rfl | (simp [errW_none, errW_some] <;> rfl) | (simp [*, errW_none, errW_some] <;> rfl), by repeat (first | (with_reducible first | exact HB.out | apply uC | apply uA | apply uB | refine uF ?_ GE130.out) | exact HB.out)⟩

/-! ### laws_szEntryS: function 25 -/
def laws_szEntryS.f (l0 : List (S97)) (a1 : Int) : Option (Int) := if (wrap64 (a1 - (l0.length : Int))) < 0 then (some (-1)) else (some (wrap64 (a1 - (l0.length : Int))))
set_option maxHeartbeats 8000000 in
set_option maxRecDepth 100000 in
theorem laws_szEntryS.calls (A0 : Option Addr) (c0 : Nat) (l0 : List (S97)) (a1 : Int) (r : Int) (w : World) (hr0 : Kd.C k97 w A0 l0.length l0) (hc0 : l0.length ≤ c0) (h : laws_szEntryS.f l0 a1 = some r) :
    Calls Try.prog 25 #[.slice A0 l0.length c0, .int .i64 a1] w fun e w' => e = .returned (.int .i64 r) ∧ Drawn0 w w' := by
  have HR0 := Aside0.mk hr0
  have HC0 := Aside0.mk hc0
  clear hr0 hc0
  have H : (if (wrap64 (a1 - (l0.length : Int))) < 0 then (some (-1)) else (some (wrap64 (a1 - (l0.length : Int))))) = some r := h
  clear h
  by_cases c3 : (wrap64 (a1 - (l0.length : Int))) < 0
  · rw [if_pos c3] at H
    have c3b0 : decide ((wrap64 (a1 - (l0.length : Int))) < 0) = true := decide_eq_true c3
    clear c3
    obtain rfl := Option.some.inj H
    go_enter Try.func25, Try.ntmps25
    go_wp2
    go_ret
    exact ⟨by first | rfl | (simp; done) | (simp [*]; done), by repeat (first | exact Drawn0.refl _ | apply Drawn0.step)⟩
  rw [if_neg c3] at H
  have c3b0 : decide ((wrap64 (a1 - (l0.length : Int))) < 0) = false := decide_eq_false c3
  clear c3
  obtain rfl := Option.some.inj H
  go_enter Try.func25, Try.ntmps25
  go_wp2
  go_ret
  exact ⟨by first | rfl | (simp; done) | (simp [*]; done), by repeat (first | exact Drawn0.refl _ | apply Drawn0.step)⟩

/-! ### laws_toOp: function 11 -/
def laws_toOp.f (a0_0 : Int) (a0_1 : Int) (a0_2 : Int) (a0_3 : Int) (a0_4 : Int) (a0_5 : Int) : Option (Int × Int × Int × Int × Int × Int) := some (a0_0, a0_1, a0_2, a0_3, a0_4, a0_5)
set_option maxHeartbeats 8000000 in
set_option maxRecDepth 100000 in
theorem laws_toOp.calls (a0_0 : Int) (a0_1 : Int) (a0_2 : Int) (a0_3 : Int) (a0_4 : Int) (a0_5 : Int) (r1 : Int) (r2 : Int) (r3 : Int) (r4 : Int) (r5 : Int) (r6 : Int) (w : World) (h : laws_toOp.f a0_0 a0_1 a0_2 a0_3 a0_4 a0_5 = some (r1, r2, r3, r4, r5, r6)) :
    Calls Try.prog 11 #[.agg #[.int .i64 a0_0, .int .i64 a0_1, .int .i64 a0_2, .int .i64 a0_3, .int .i64 a0_4, .int .i64 a0_5]] w fun e w' => e = .returned (.agg #[.int .i64 r1, .int .i64 r2, .int .i64 r3, .int .i64 r4, .int .i64 r5, .int .i64 r6]) ∧ Below w.heap.size w w' := by
  have hu27 := Try.underlying27
  have hu37 := Try.underlying37
  have HB := Aside0.mk (Below.refl w.heap.size w)
  have H : (some (a0_0, a0_1, a0_2, a0_3, a0_4, a0_5)) = some (r1, r2, r3, r4, r5, r6) := h
  clear h
  simp only [Option.some.injEq, Prod.mk.injEq] at H
  obtain ⟨rfl, rfl, rfl, rfl, rfl, rfl⟩ := H
  go_enter Try.func11, Try.ntmps11
  go_wp2_with (first | ((with_reducible refine uS (N := 1) rfl ?_); refine uR ?hg (N := 1) ?hd (cs := #[.int .i64 a0_0, .int .i64 a0_1, .int .i64 a0_2, .int .i64 a0_3, .int .i64 a0_4, .int .i64 a0_5]) (t := 27) ?hr ?_; (case hd => rfl); (case hg => rfl); (case hr => first | (go_simp; done) | (go_simp; rfl)); intro gb133 hg w2 hbox hb; have n0_ := Aside0.mk (uP (by repeat (first | (with_reducible first | exact HB.out | apply uC | apply uA | apply uB) | exact HB.out)) hb); have n1_ := Aside0.mk (hbox); have n2_ := Aside0.mk ((by rw [hg]; exact (uK (by repeat (first | (with_reducible first | exact HB.out | apply uC | apply uA | apply uB) | exact HB.out))) : w.heap.size ≤ gb133)); have n3_ := Aside0.mk ((by rw [hg]; exact (uK (by repeat (first | (with_reducible first | exact HB.out | apply uC | apply uA | apply uB) | exact HB.out))) : w.heap.size ≤ gb133)); clear HB; have HB := n0_; have BK133 := n1_; have GW133 := n2_; have GE133 := n3_; clear n0_ n1_ n2_ n3_; clear hb hbox hg) | ((with_reducible refine uS (N := 2) rfl ?_); refine uR ?hg (N := 2) ?hd (cs := #[.int .i64 0, .int .i64 0, .int .i64 0, .int .i64 0, .int .i64 0, .int .i64 0]) (t := 37) ?hr ?_; (case hd => rfl); (case hg => rfl); (case hr => first | (go_simp; done) | (go_simp; rfl)); intro gb134 hg w3 hbox hb; have n0_ := Aside0.mk (uT (g := gb133) (o := .cells #[.int .i64 a0_0, .int .i64 a0_1, .int .i64 a0_2, .int .i64 a0_3, .int .i64 a0_4, .int .i64 a0_5] 27 (0, 0)) (by (with_reducible repeat (first | refine uG ?_ _ | refine uI ?_ | refine uH ?_ _)); exact BK133.out) hb); have n1_ := Aside0.mk (uP (by repeat (first | (with_reducible first | exact HB.out | apply uC | apply uA | apply uB | refine uF ?_ GE133.out) | exact HB.out)) hb); have n2_ := Aside0.mk (hbox); have n3_ := Aside0.mk ((by rw [hg]; exact (uK (by repeat (first | (with_reducible first | exact HB.out | apply uC | apply uA | apply uB | refine uF ?_ GE133.out) | exact HB.out))) : w.heap.size ≤ gb134)); have n4_ := Aside0.mk ((by rw [hg]; exact (uK (by repeat (first | (with_reducible first | exact HB.out | apply uC | apply uA | apply uB | refine uF ?_ GE133.out) | exact HB.out))) : w.heap.size ≤ gb134)); have n5_ := Aside0.mk ((by rw [hg]; exact Nat.ne_of_lt (vG (g := gb133) (o := .cells #[.int .i64 a0_0, .int .i64 a0_1, .int .i64 a0_2, .int .i64 a0_3, .int .i64 a0_4, .int .i64 a0_5] 27 (0, 0)) (by (with_reducible repeat (first | refine uG ?_ _ | refine uI ?_ | refine uH ?_ _)); exact BK133.out)) : gb133 ≠ gb134)); have n6_ := Aside0.mk ((by rw [hg]; exact Nat.ne_of_gt (vG (g := gb133) (o := .cells #[.int .i64 a0_0, .int .i64 a0_1, .int .i64 a0_2, .int .i64 a0_3, .int .i64 a0_4, .int .i64 a0_5] 27 (0, 0)) (by (with_reducible repeat (first | refine uG ?_ _ | refine uI ?_ | refine uH ?_ _)); exact BK133.out)) : gb134 ≠ gb133)); clear BK133; clear HB; have BK133 := n0_; have HB := n1_; have BK134 := n2_; have GW134 := n3_; have GE134 := n4_; have NB133_134 := n5_; have NB134_133 := n6_; clear n0_ n1_ n2_ n3_ n4_ n5_ n6_; clear hb hbox hg) | ((with_reducible refine uS (N := 3) rfl ?_); refine uR ?hg (N := 3) ?hd (cs := #[.int .i64 0, .int .i64 0, .int .i64 0, .int .i64 0, .int .i64 0, .int .i64 0]) (t := 37) ?hr ?_; (case hd => rfl); (case hg => rfl); (case hr => first | (go_simp; done) | (go_simp; rfl)); intro gb135 hg w4 hbox hb; have n0_ := Aside0.mk (uT (g := gb133) (o := .cells #[.int .i64 a0_0, .int .i64 a0_1, .int .i64 a0_2, .int .i64 a0_3, .int .i64 a0_4, .int .i64 a0_5] 27 (0, 0)) (by (with_reducible repeat (first | refine uG ?_ _ | refine uI ?_ | refine uH ?_ _)); exact BK133.out) hb); have n1_ := Aside0.mk (uT (g := gb134) (o := .cells #[.int .i64 0, .int .i64 0, .int .i64 0, .int .i64 0, .int .i64 0, .int .i64 0] 37 (0, 0)) (by (with_reducible repeat (first | refine uG ?_ _ | refine uI ?_ | refine uH ?_ _)); exact BK134.out) hb); have n2_ := Aside0.mk (uP (by repeat (first | (with_reducible first | exact HB.out | apply uC | apply uA | apply uB | refine uF ?_ GE133.out | refine uF ?_ GE134.out) | exact HB.out)) hb); have n3_ := Aside0.mk (hbox); have n4_ := Aside0.mk ((by rw [hg]; exact (uK (by repeat (first | (with_reducible first | exact HB.out | apply uC | apply uA | apply uB | refine uF ?_ GE133.out | refine uF ?_ GE134.out) | exact HB.out))) : w.heap.size ≤ gb135)); have n5_ := Aside0.mk ((by rw [hg]; exact (uK (by repeat (first | (with_reducible first | exact HB.out | apply uC | apply uA | apply uB | refine uF ?_ GE133.out | refine uF ?_ GE134.out) | exact HB.out))) : w.heap.size ≤ gb135)); have n6_ := Aside0.mk ((by rw [hg]; exact Nat.ne_of_lt (vG (g := gb133) (o := .cells #[.int .i64 a0_0, .int .i64 a0_1, .int .i64 a0_2, .int .i64 a0_3, .int .i64 a0_4, .int .i64 a0_5] 27 (0, 0)) (by (with_reducible repeat (first | refine uG ?_ _ | refine uI ?_ | refine uH ?_ _)); exact BK133.out)) : gb133 ≠ gb135)); have n7_ := Aside0.mk ((by rw [hg]; exact Nat.ne_of_gt (vG (g := gb133) (o := .cells #[.int .i64 a0_0, .int .i64 a0_1, .int .i64 a0_2, .int .i64 a0_3, .int .i64 a0_4, .int .i64 a0_5] 27 (0, 0)) (by (with_reducible repeat (first | refine uG ?_ _ | refine uI ?_ | refine uH ?_ _)); exact BK133.out)) : gb135 ≠ gb133)); have n8_ := Aside0.mk ((by rw [hg]; exact Nat.ne_of_lt (vG (g := gb134) (o := .cells #[.int .i64 0, .int .i64 0, .int .i64 0, .int .i64 0, .int .i64 0, .int .i64 0] 37 (0, 0)) (by (with_reducible repeat (first | refine uG ?_ _ | refine uI ?_ | refine uH ?_ _)); exact BK134.out)) : gb134 ≠ gb135)); have n9_ := Aside0.mk ((by rw [hg]; exact Nat.ne_of_gt (vG (g := gb134) (o := .cells #[.int .i64 0, .int .i64 0, .int .i64 0, .int .i64 0, .int .i64 0, .int .i64 0] 37 (0, 0)) (by (with_reducible repeat (first | refine uG ?_ _ | refine uI ?_ | refine uH ?_ _)); exact BK134.out)) : gb135 ≠ gb134)); clear BK133; clear BK134; clear HB; have BK133 := n0_; have BK134 := n1_; have HB := n2_; have BK135 := n3_; have GW135 := n4_; have GE135 := n5_; have NB133_135 := n6_; have NB135_133 := n7_; have NB134_135 := n8_; have NB135_134 := n9_; clear n0_ n1_ n2_ n3_ n4_ n5_ n6_ n7_ n8_ n9_; clear hb hbox hg; have hnb5 := NB133_134.out; have hnc5 := NB134_133.out; have hnb6 := NB133_135.out; have hnc6 := NB135_133.out; have hcz7_0 : w4.cell? ⟨gb133, 0, none⟩ = some (.int .i64 a0_0) := (uE BK133.out 0).trans rfl; have hcz7_1 : w4.cell? ⟨gb133, 1, none⟩ = some (.int .i64 a0_1) := (uE BK133.out 1).trans rfl; have hcz7_2 : w4.cell? ⟨gb133, 2, none⟩ = some (.int .i64 a0_2) := (uE BK133.out 2).trans rfl; have hcz7_3 : w4.cell? ⟨gb133, 3, none⟩ = some (.int .i64 a0_3) := (uE BK133.out 3).trans rfl; have hcz7_4 : w4.cell? ⟨gb133, 4, none⟩ = some (.int .i64 a0_4) := (uE BK133.out 4).trans rfl; have hcz7_5 : w4.cell? ⟨gb133, 5, none⟩ = some (.int .i64 a0_5) := (uE BK133.out 5).trans rfl; have hfz7_0 := uD BK133.out 0; have hfz7_1 := uD BK133.out 1; have hfz7_2 := uD BK133.out 2; have hfz7_3 := uD BK133.out 3; have hfz7_4 := uD BK133.out 4; have hfz7_5 := uD BK133.out 5; have hnb8 := NB135_134.out; have hnc8 := NB134_135.out; have hcz9_0 : w4.cell? ⟨gb135, 0, none⟩ = some (.int .i64 0) := (uE BK135.out 0).trans rfl; have hcz9_1 : w4.cell? ⟨gb135, 1, none⟩ = some (.int .i64 0) := (uE BK135.out 1).trans rfl; have hcz9_2 : w4.cell? ⟨gb135, 2, none⟩ = some (.int .i64 0) := (uE BK135.out 2).trans rfl; have hcz9_3 : w4.cell? ⟨gb135, 3, none⟩ = some (.int .i64 0) := (uE BK135.out 3).trans rfl; have hcz9_4 : w4.cell? ⟨gb135, 4, none⟩ = some (.int .i64 0) := (uE BK135.out 4).trans rfl; have hcz9_5 : w4.cell? ⟨gb135, 5, none⟩ = some (.int .i64 0) := (uE BK135.out 5).trans rfl; have hfz9_0 := uD BK135.out 0; have hfz9_1 := uD BK135.out 1; have hfz9_2 := uD BK135.out 2; have hfz9_3 := uD BK135.out 3; have hfz9_4 := uD BK135.out 4; have hfz9_5 := uD BK135.out 5; have hcz10_0 : w4.cell? ⟨gb134, 0, none⟩ = some (.int .i64 0) := (uE BK134.out 0).trans rfl; have hcz10_1 : w4.cell? ⟨gb134, 1, none⟩ = some (.int .i64 0) := (uE BK134.out 1).trans rfl; have hcz10_2 : w4.cell? ⟨gb134, 2, none⟩ = some (.int .i64 0) := (uE BK134.out 2).trans rfl; have hcz10_3 : w4.cell? ⟨gb134, 3, none⟩ = some (.int .i64 0) := (uE BK134.out 3).trans rfl; have hcz10_4 : w4.cell? ⟨gb134, 4, none⟩ = some (.int .i64 0) := (uE BK134.out 4).trans rfl; have hcz10_5 : w4.cell? ⟨gb134, 5, none⟩ = some (.int .i64 0) := (uE BK134.out 5).trans rfl; have hfz10_0 := uD BK134.out 0; have hfz10_1 := uD BK134.out 1; have hfz10_2 := uD BK134.out 2; have hfz10_3 := uD BK134.out 3; have hfz10_4 := uD BK134.out 4; have hfz10_5 := uD BK134.out 5))
  refine bodyPost_ret (results_cell_row rfl _ _ gb134 37 #[.int .i64 a0_0, .int .i64 a0_1, .int .i64 a0_2, .int .i64 a0_3, .int .i64 a0_4, .int .i64 a0_5] (0, 0) _ rfl (by (with_reducible repeat (first | refine uG ?_ _ | refine uI ?_ | refine uH ?_ _)); refine vB (cs := #[.int .i64 a0_0, .int .i64 a0_1, .int .i64 a0_2, .int .i64 a0_3, .int .i64 a0_4, .int .i64 0]) ?_ 5 _ rfl; (with_reducible repeat (first | refine uG ?_ _ | refine uI ?_ | refine uH ?_ _)); refine vB (cs := #[.int .i64 a0_0, .int .i64 a0_1, .int .i64 a0_2, .int .i64 a0_3, .int .i64 0, .int .i64 0]) ?_ 4 _ rfl; (with_reducible repeat (first | refine uG ?_ _ | refine uI ?_ | refine uH ?_ _)); refine vB (cs := #[.int .i64 a0_0, .int .i64 a0_1, .int .i64 a0_2, .int .i64 0, .int .i64 0, .int .i64 0]) ?_ 3 _ rfl; (with_reducible repeat (first | refine uG ?_ _ | refine uI ?_ | refine uH ?_ _)); refine vB (cs := #[.int .i64 a0_0, .int .i64 a0_1, .int .i64 0, .int .i64 0, .int .i64 0, .int .i64 0]) ?_ 2 _ rfl; (with_reducible repeat (first | refine uG ?_ _ | refine uI ?_ | refine uH ?_ _)); refine vB (cs := #[.int .i64 a0_0, .int .i64 0, .int .i64 0, .int .i64 0, .int .i64 0, .int .i64 0]) ?_ 1 _ rfl; (with_reducible repeat (first | refine uG ?_ _ | refine uI ?_ | refine uH ?_ _)); refine vB (cs := #[.int .i64 0, .int .i64 0, .int .i64 0, .int .i64 0, .int .i64 0, .int .i64 0]) ?_ 0 _ rfl; (with_reducible repeat (first | refine uG ?_ _ | refine uI ?_ | refine uH ?_ _)); refine vI ?_ NB134_135.out _; (with_reducible repeat (first | refine uG ?_ _ | refine uI ?_ | refine uH ?_ _)); refine vI ?_ NB134_135.out _; (with_reducible repeat (first | refine uG ?_ _ | refine uI ?_ | refine uH ?_ _)); refine vI ?_ NB134_135.out _; (with_reducible repeat (first | refine uG ?_ _ | refine uI ?_ | refine uH ?_ _)); refine vI ?_ NB134_135.out _; (with_reducible repeat (first | refine uG ?_ _ | refine uI ?_ | refine uH ?_ _)); refine vI ?_ NB134_135.out _; (with_reducible repeat (first | refine uG ?_ _ | refine uI ?_ | refine uH ?_ _)); refine vI ?_ NB134_135.out _; (with_reducible repeat (first | refine uG ?_ _ | refine uI ?_ | refine uH ?_ _)); exact BK134.out) Try.underlying37 rfl (by kernel_rfl)) rfl ?_
  exact ⟨by first | rfl | (simp [errW_none, errW_some] <;> rfl) | (simp [*, errW_none, errW_some] <;> rfl), by repeat (first | (with_reducible first | exact HB.out | apply uC | apply uA | apply uB | refine uF ?_ GE133.out | refine uF ?_ GE134.out | refine uF ?_ GE135.out) | exact HB.out)⟩

/-! ### laws_toEntry: function 68 -/
def laws_toEntry.f (a0_0 : Int) (a0_1 : Int) (a0_2 : Int) (a0_3 : Int) (a0_4 : Int) (a0_5 : Int) (a0_6 : Int) : Option (Int × Int × Int × Int × Int × Int × Int) := (laws_toOp.f a0_1 a0_2 a0_3 a0_4 a0_5 a0_6).bind fun bt139 => (some (a0_0, bt139.1, bt139.2.1, bt139.2.2.1, bt139.2.2.2.1, bt139.2.2.2.2.1, bt139.2.2.2.2.2))
set_option maxHeartbeats 8000000 in
set_option maxRecDepth 100000 in
theorem laws_toEntry.calls (a0_0 : Int) (a0_1 : Int) (a0_2 : Int) (a0_3 : Int) (a0_4 : Int) (a0_5 : Int) (a0_6 : Int) (r1 : Int) (r2 : Int) (r3 : Int) (r4 : Int) (r5 : Int) (r6 : Int) (r7 : Int) (w : World) (h : laws_toEntry.f a0_0 a0_1 a0_2 a0_3 a0_4 a0_5 a0_6 = some (r1, r2, r3, r4, r5, r6, r7)) :
    Calls Try.prog 68 #[.agg #[.int .i64 a0_0, .int .i64 a0_1, .int .i64 a0_2, .int .i64 a0_3, .int .i64 a0_4, .int .i64 a0_5, .int .i64 a0_6]] w fun e w' => e = .returned (.agg #[.int .i64 r1, .int .i64 r2, .int .i64 r3, .int .i64 r4, .int .i64 r5, .int .i64 r6, .int .i64 r7]) ∧ Below w.heap.size w w' := by
  have hu97 := Try.underlying97
  have hu72 := Try.underlying72
  have hu27 := Try.underlying27
  have hu37 := Try.underlying37
  have HB := Aside0.mk (Below.refl w.heap.size w)
  have H : ((laws_toOp.f a0_1 a0_2 a0_3 a0_4 a0_5 a0_6).bind fun bt139 => (some (a0_0, bt139.1, bt139.2.1, bt139.2.2.1, bt139.2.2.2.1, bt139.2.2.2.2.1, bt139.2.2.2.2.2))) = some (r1, r2, r3, r4, r5, r6, r7) := h
  clear h
  replace H := Option.bind_eq_some_iff.mp H
  obtain ⟨⟨t139, t140, t141, t142, t143, t144⟩, A20, H⟩ := H
  replace H : (some (a0_0, t139, t140, t141, t142, t143, t144)) = some (r1, r2, r3, r4, r5, r6, r7) := H
  have A2 := Aside0.mk A20
  clear A20
  simp only [Option.some.injEq, Prod.mk.injEq] at H
  obtain ⟨rfl, rfl, rfl, rfl, rfl, rfl, rfl⟩ := H
  go_enter Try.func68, Try.ntmps68
  go_wp2_with (first | ((with_reducible refine uS (N := 1) rfl ?_); refine uR ?hg (N := 1) ?hd (cs := #[.int .i64 a0_0, .int .i64 a0_1, .int .i64 a0_2, .int .i64 a0_3, .int .i64 a0_4, .int .i64 a0_5, .int .i64 a0_6]) (t := 97) ?hr ?_; (case hd => rfl); (case hg => rfl); (case hr => first | (go_simp; done) | (go_simp; rfl)); intro gb136 hg w3 hbox hb; have n0_ := Aside0.mk (uP (by repeat (first | (with_reducible first | exact HB.out | apply uC | apply uA | apply uB) | exact HB.out)) hb); have n1_ := Aside0.mk (hbox); have n2_ := Aside0.mk ((by rw [hg]; exact (uK (by repeat (first | (with_reducible first | exact HB.out | apply uC | apply uA | apply uB) | exact HB.out))) : w.heap.size ≤ gb136)); have n3_ := Aside0.mk ((by rw [hg]; exact (uK (by repeat (first | (with_reducible first | exact HB.out | apply uC | apply uA | apply uB) | exact HB.out))) : w.heap.size ≤ gb136)); clear HB; have HB := n0_; have BK136 := n1_; have GW136 := n2_; have GE136 := n3_; clear n0_ n1_ n2_ n3_; clear hb hbox hg) | ((with_reducible refine uS (N := 2) rfl ?_); refine uR ?hg (N := 2) ?hd (cs := #[.int .i64 0, .int .i64 0, .int .i64 0, .int .i64 0, .int .i64 0, .int .i64 0, .int .i64 0]) (t := 72) ?hr ?_; (case hd => rfl); (case hg => rfl); (case hr => first | (go_simp; done) | (go_simp; rfl)); intro gb137 hg w4 hbox hb; have n0_ := Aside0.mk (uT (g := gb136) (o := .cells #[.int .i64 a0_0, .int .i64 a0_1, .int .i64 a0_2, .int .i64 a0_3, .int .i64 a0_4, .int .i64 a0_5, .int .i64 a0_6] 97 (0, 0)) (by (with_reducible repeat (first | refine uG ?_ _ | refine uI ?_ | refine uH ?_ _)); exact BK136.out) hb); have n1_ := Aside0.mk (uP (by repeat (first | (with_reducible first | exact HB.out | apply uC | apply uA | apply uB | refine uF ?_ GE136.out) | exact HB.out)) hb); have n2_ := Aside0.mk (hbox); have n3_ := Aside0.mk ((by rw [hg]; exact (uK (by repeat (first | (with_reducible first | exact HB.out | apply uC | apply uA | apply uB | refine uF ?_ GE136.out) | exact HB.out))) : w.heap.size ≤ gb137)); have n4_ := Aside0.mk ((by rw [hg]; exact (uK (by repeat (first | (with_reducible first | exact HB.out | apply uC | apply uA | apply uB | refine uF ?_ GE136.out) | exact HB.out))) : w.heap.size ≤ gb137)); have n5_ := Aside0.mk ((by rw [hg]; exact Nat.ne_of_lt (vG (g := gb136) (o := .cells #[.int .i64 a0_0, .int .i64 a0_1, .int .i64 a0_2, .int .i64 a0_3, .int .i64 a0_4, .int .i64 a0_5, .int .i64 a0_6] 97 (0, 0)) (by (with_reducible repeat (first | refine uG ?_ _ | refine uI ?_ | refine uH ?_ _)); exact BK136.out)) : gb136 ≠ gb137)); have n6_ := Aside0.mk ((by rw [hg]; exact Nat.ne_of_gt (vG (g := gb136) (o := .cells #[.int .i64 a0_0, .int .i64 a0_1, .int .i64 a0_2, .int .i64 a0_3, .int .i64 a0_4, .int .i64 a0_5, .int .i64 a0_6] 97 (0, 0)) (by (with_reducible repeat (first | refine uG ?_ _ | refine uI ?_ | refine uH ?_ _)); exact BK136.out)) : gb137 ≠ gb136)); clear BK136; clear HB; have BK136 := n0_; have HB := n1_; have BK137 := n2_; have GW137 := n3_; have GE137 := n4_; have NB136_137 := n5_; have NB137_136 := n6_; clear n0_ n1_ n2_ n3_ n4_ n5_ n6_; clear hb hbox hg) | ((with_reducible refine uS (N := 3) rfl ?_); refine uR ?hg (N := 3) ?hd (cs := #[.int .i64 0, .int .i64 0, .int .i64 0, .int .i64 0, .int .i64 0, .int .i64 0, .int .i64 0]) (t := 72) ?hr ?_; (case hd => rfl); (case hg => rfl); (case hr => first | (go_simp; done) | (go_simp; rfl)); intro gb138 hg w5 hbox hb; have n0_ := Aside0.mk (uT (g := gb136) (o := .cells #[.int .i64 a0_0, .int .i64 a0_1, .int .i64 a0_2, .int .i64 a0_3, .int .i64 a0_4, .int .i64 a0_5, .int .i64 a0_6] 97 (0, 0)) (by (with_reducible repeat (first | refine uG ?_ _ | refine uI ?_ | refine uH ?_ _)); exact BK136.out) hb); have n1_ := Aside0.mk (uT (g := gb137) (o := .cells #[.int .i64 0, .int .i64 0, .int .i64 0, .int .i64 0, .int .i64 0, .int .i64 0, .int .i64 0] 72 (0, 0)) (by (with_reducible repeat (first | refine uG ?_ _ | refine uI ?_ | refine uH ?_ _)); exact BK137.out) hb); have n2_ := Aside0.mk (uP (by repeat (first | (with_reducible first | exact HB.out | apply uC | apply uA | apply uB | refine uF ?_ GE136.out | refine uF ?_ GE137.out) | exact HB.out)) hb); have n3_ := Aside0.mk (hbox); have n4_ := Aside0.mk ((by rw [hg]; exact (uK (by repeat (first | (with_reducible first | exact HB.out | apply uC | apply uA | apply uB | refine uF ?_ GE136.out | refine uF ?_ GE137.out) | exact HB.out))) : w.heap.size ≤ gb138)); have n5_ := Aside0.mk ((by rw [hg]; exact (uK (by repeat (first | (with_reducible first | exact HB.out | apply uC | apply uA | apply uB | refine uF ?_ GE136.out | refine uF ?_ GE137.out) | exact HB.out))) : w.heap.size ≤ gb138)); have n6_ := Aside0.mk ((by rw [hg]; exact Nat.ne_of_lt (vG (g := gb136) (o := .cells #[.int .i64 a0_0, .int .i64 a0_1, .int .i64 a0_2, .int .i64 a0_3, .int .i64 a0_4, .int .i64 a0_5, .int .i64 a0_6] 97 (0, 0)) (by (with_reducible repeat (first | refine uG ?_ _ | refine uI ?_ | refine uH ?_ _)); exact BK136.out)) : gb136 ≠ gb138)); have n7_ := Aside0.mk ((by rw [hg]; exact Nat.ne_of_gt (vG (g := gb136) (o := .cells #[.int .i64 a0_0, .int .i64 a0_1, .int .i64 a0_2, .int .i64 a0_3, .int .i64 a0_4, .int .i64 a0_5, .int .i64 a0_6] 97 (0, 0)) (by (with_reducible repeat (first | refine uG ?_ _ | refine uI ?_ | refine uH ?_ _)); exact BK136.out)) : gb138 ≠ gb136)); have n8_ := Aside0.mk ((by rw [hg]; exact Nat.ne_of_lt (vG (g := gb137) (o := .cells #[.int .i64 0, .int .i64 0, .int .i64 0, .int .i64 0, .int .i64 0, .int .i64 0, .int .i64 0] 72 (0, 0)) (by (with_reducible repeat (first | refine uG ?_ _ | refine uI ?_ | refine uH ?_ _)); exact BK137.out)) : gb137 ≠ gb138)); have n9_ := Aside0.mk ((by rw [hg]; exact Nat.ne_of_gt (vG (g := gb137) (o := .cells #[.int .i64 0, .int .i64 0, .int .i64 0, .int .i64 0, .int .i64 0, .int .i64 0, .int .i64 0] 72 (0, 0)) (by (with_reducible repeat (first | refine uG ?_ _ | refine uI ?_ | refine uH ?_ _)); exact BK137.out)) : gb138 ≠ gb137)); clear BK136; clear BK137; clear HB; have BK136 := n0_; have BK137 := n1_; have HB := n2_; have BK138 := n3_; have GW138 := n4_; have GE138 := n5_; have NB136_138 := n6_; have NB138_136 := n7_; have NB137_138 := n8_; have NB138_137 := n9_; clear n0_ n1_ n2_ n3_ n4_ n5_ n6_ n7_ n8_ n9_; clear hb hbox hg; have hnb6 := NB136_137.out; have hnc6 := NB137_136.out; have hnb7 := NB136_138.out; have hnc7 := NB138_136.out; have hcz8_0 : w5.cell? ⟨gb136, 0, none⟩ = some (.int .i64 a0_0) := (uE BK136.out 0).trans rfl; have hcz8_1 : w5.cell? ⟨gb136, 1, none⟩ = some (.int .i64 a0_1) := (uE BK136.out 1).trans rfl; have hcz8_2 : w5.cell? ⟨gb136, 2, none⟩ = some (.int .i64 a0_2) := (uE BK136.out 2).trans rfl; have hcz8_3 : w5.cell? ⟨gb136, 3, none⟩ = some (.int .i64 a0_3) := (uE BK136.out 3).trans rfl; have hcz8_4 : w5.cell? ⟨gb136, 4, none⟩ = some (.int .i64 a0_4) := (uE BK136.out 4).trans rfl; have hcz8_5 : w5.cell? ⟨gb136, 5, none⟩ = some (.int .i64 a0_5) := (uE BK136.out 5).trans rfl; have hcz8_6 : w5.cell? ⟨gb136, 6, none⟩ = some (.int .i64 a0_6) := (uE BK136.out 6).trans rfl; have hfz8_0 := uD BK136.out 0; have hfz8_1 := uD BK136.out 1; have hfz8_2 := uD BK136.out 2; have hfz8_3 := uD BK136.out 3; have hfz8_4 := uD BK136.out 4; have hfz8_5 := uD BK136.out 5; have hfz8_6 := uD BK136.out 6; have hnb9 := NB138_137.out; have hnc9 := NB137_138.out; have hcz10_0 : w5.cell? ⟨gb138, 0, none⟩ = some (.int .i64 0) := (uE BK138.out 0).trans rfl; have hcz10_1 : w5.cell? ⟨gb138, 1, none⟩ = some (.int .i64 0) := (uE BK138.out 1).trans rfl; have hcz10_2 : w5.cell? ⟨gb138, 2, none⟩ = some (.int .i64 0) := (uE BK138.out 2).trans rfl; have hcz10_3 : w5.cell? ⟨gb138, 3, none⟩ = some (.int .i64 0) := (uE BK138.out 3).trans rfl; have hcz10_4 : w5.cell? ⟨gb138, 4, none⟩ = some (.int .i64 0) := (uE BK138.out 4).trans rfl; have hcz10_5 : w5.cell? ⟨gb138, 5, none⟩ = some (.int .i64 0) := (uE BK138.out 5).trans rfl; have hcz10_6 : w5.cell? ⟨gb138, 6, none⟩ = some (.int .i64 0) := (uE BK138.out 6).trans rfl; have hfz10_0 := uD BK138.out 0; have hfz10_1 := uD BK138.out 1; have hfz10_2 := uD BK138.out 2; have hfz10_3 := uD BK138.out 3; have hfz10_4 := uD BK138.out 4; have hfz10_5 := uD BK138.out 5; have hfz10_6 := uD BK138.out 6) | ((with_reducible refine uU (f := 11) rfl ?_); refine vE (some 9) rfl rfl Try.func11 (by kernel_rfl) rfl #[.agg #[.int .i64 a0_1, .int .i64 a0_2, .int .i64 a0_3, .int .i64 a0_4, .int .i64 a0_5, .int .i64 a0_6]] rfl (by (try simp only [vV, List.map_cons, List.map_nil]); first | done | rfl | (simp only [vX, vW]; rfl)) ?_; (with_reducible refine (laws_toOp.calls a0_1 a0_2 a0_3 a0_4 a0_5 a0_6 t139 t140 t141 t142 t143 t144 _ A2.out).mono ?_); rintro e w11 ⟨rfl, hb⟩; refine ⟨_, rfl, ?_⟩; have n0_ := Aside0.mk (uT (g := gb136) (o := .cells #[.int .i64 a0_0, .int .i64 a0_1, .int .i64 a0_2, .int .i64 a0_3, .int .i64 a0_4, .int .i64 a0_5, .int .i64 a0_6] 97 (0, 0)) (by (with_reducible repeat (first | refine uG ?_ _ | refine uI ?_ | refine uH ?_ _)); refine vI ?_ NB136_138.out _; (with_reducible repeat (first | refine uG ?_ _ | refine uI ?_ | refine uH ?_ _)); exact BK136.out) hb); have n1_ := Aside0.mk (uT (g := gb137) (o := .cells #[.int .i64 0, .int .i64 0, .int .i64 0, .int .i64 0, .int .i64 0, .int .i64 0, .int .i64 0] 72 (0, 0)) (by (with_reducible repeat (first | refine uG ?_ _ | refine uI ?_ | refine uH ?_ _)); refine vI ?_ NB137_138.out _; (with_reducible repeat (first | refine uG ?_ _ | refine uI ?_ | refine uH ?_ _)); exact BK137.out) hb); have n2_ := Aside0.mk (uT (g := gb138) (o := .cells #[.int .i64 a0_0, .int .i64 0, .int .i64 0, .int .i64 0, .int .i64 0, .int .i64 0, .int .i64 0] 72 (0, 0)) (by (with_reducible repeat (first | refine uG ?_ _ | refine uI ?_ | refine uH ?_ _)); refine vB (cs := #[.int .i64 0, .int .i64 0, .int .i64 0, .int .i64 0, .int .i64 0, .int .i64 0, .int .i64 0]) ?_ 0 _ rfl; (with_reducible repeat (first | refine uG ?_ _ | refine uI ?_ | refine uH ?_ _)); exact BK138.out) hb); have n3_ := Aside0.mk (uP (by repeat (first | (with_reducible first | exact HB.out | apply uC | apply uA | apply uB | refine uF ?_ GE136.out | refine uF ?_ GE137.out | refine uF ?_ GE138.out) | exact HB.out)) hb); clear BK136; clear BK137; clear BK138; clear HB; have BK136 := n0_; have BK137 := n1_; have BK138 := n2_; have HB := n3_; clear n0_ n1_ n2_ n3_; (try clear hb); (try clear hb2); (try clear hk); (try clear hi); have hcz12_0 : w11.cell? ⟨gb138, 0, none⟩ = some (.int .i64 a0_0) := (uE BK138.out 0).trans rfl; have hcz12_1 : w11.cell? ⟨gb138, 1, none⟩ = some (.int .i64 0) := (uE BK138.out 1).trans rfl; have hcz12_2 : w11.cell? ⟨gb138, 2, none⟩ = some (.int .i64 0) := (uE BK138.out 2).trans rfl; have hcz12_3 : w11.cell? ⟨gb138, 3, none⟩ = some (.int .i64 0) := (uE BK138.out 3).trans rfl; have hcz12_4 : w11.cell? ⟨gb138, 4, none⟩ = some (.int .i64 0) := (uE BK138.out 4).trans rfl; have hcz12_5 : w11.cell? ⟨gb138, 5, none⟩ = some (.int .i64 0) := (uE BK138.out 5).trans rfl; have hcz12_6 : w11.cell? ⟨gb138, 6, none⟩ = some (.int .i64 0) := (uE BK138.out 6).trans rfl; have hfz12_0 := uD BK138.out 0; have hfz12_1 := uD BK138.out 1; have hfz12_2 := uD BK138.out 2; have hfz12_3 := uD BK138.out 3; have hfz12_4 := uD BK138.out 4; have hfz12_5 := uD BK138.out 5; have hfz12_6 := uD BK138.out 6; have hcz13_0 : w11.cell? ⟨gb137, 0, none⟩ = some (.int .i64 0) := (uE BK137.out 0).trans rfl; have hcz13_1 : w11.cell? ⟨gb137, 1, none⟩ = some (.int .i64 0) := (uE BK137.out 1).trans rfl; have hcz13_2 : w11.cell? ⟨gb137, 2, none⟩ = some (.int .i64 0) := (uE BK137.out 2).trans rfl; have hcz13_3 : w11.cell? ⟨gb137, 3, none⟩ = some (.int .i64 0) := (uE BK137.out 3).trans rfl; have hcz13_4 : w11.cell? ⟨gb137, 4, none⟩ = some (.int .i64 0) := (uE BK137.out 4).trans rfl; have hcz13_5 : w11.cell? ⟨gb137, 5, none⟩ = some (.int .i64 0) := (uE BK137.out 5).trans rfl; have hcz13_6 : w11.cell? ⟨gb137, 6, none⟩ = some (.int .i64 0) := (uE BK137.out 6).trans rfl; have hfz13_0 := uD BK137.out 0; have hfz13_1 := uD BK137.out 1; have hfz13_2 := uD BK137.out 2; have hfz13_3 := uD BK137.out 3; have hfz13_4 := uD BK137.out 4; have hfz13_5 := uD BK137.out 5; have hfz13_6 := uD BK137.out 6))
  refine bodyPost_ret (results_cell_row rfl _ _ gb137 72 #[.int .i64 a0_0, .int .i64 t139, .int .i64 t140, .int .i64 t141, .int .i64 t142, .int .i64 t143, .int .i64 t144] (0, 0) _ rfl (by (with_reducible repeat (first | refine uG ?_ _ | refine uI ?_ | refine uH ?_ _)); refine vB (cs := #[.int .i64 a0_0, .int .i64 t139, .int .i64 t140, .int .i64 t141, .int .i64 t142, .int .i64 t143, .int .i64 0]) ?_ 6 _ rfl; (with_reducible repeat (first | refine uG ?_ _ | refine uI ?_ | refine uH ?_ _)); refine vB (cs := #[.int .i64 a0_0, .int .i64 t139, .int .i64 t140, .int .i64 t141, .int .i64 t142, .int .i64 0, .int .i64 0]) ?_ 5 _ rfl; (with_reducible repeat (first | refine uG ?_ _ | refine uI ?_ | refine uH ?_ _)); refine vB (cs := #[.int .i64 a0_0, .int .i64 t139, .int .i64 t140, .int .i64 t141, .int .i64 0, .int .i64 0, .int .i64 0]) ?_ 4 _ rfl; (with_reducible repeat (first | refine uG ?_ _ | refine uI ?_ | refine uH ?_ _)); refine vB (cs := #[.int .i64 a0_0, .int .i64 t139, .int .i64 t140, .int .i64 0, .int .i64 0, .int .i64 0, .int .i64 0]) ?_ 3 _ rfl; (with_reducible repeat (first | refine uG ?_ _ | refine uI ?_ | refine uH ?_ _)); refine vB (cs := #[.int .i64 a0_0, .int .i64 t139, .int .i64 0, .int .i64 0, .int .i64 0, .int .i64 0, .int .i64 0]) ?_ 2 _ rfl; (with_reducible repeat (first | refine uG ?_ _ | refine uI ?_ | refine uH ?_ _)); refine vB (cs := #[.int .i64 a0_0, .int .i64 0, .int .i64 0, .int .i64 0, .int .i64 0, .int .i64 0, .int .i64 0]) ?_ 1 _ rfl; (with_reducible repeat (first | refine uG ?_ _ | refine uI ?_ | refine uH ?_ _)); refine vB (cs := #[.int .i64 0, .int .i64 0, .int .i64 0, .int .i64 0, .int .i64 0, .int .i64 0, .int .i64 0]) ?_ 0 _ rfl; (with_reducible repeat (first | refine uG ?_ _ | refine uI ?_ | refine uH ?_ _)); refine vI ?_ NB137_138.out _; (with_reducible repeat (first | refine uG ?_ _ | refine uI ?_ | refine uH ?_ _)); refine vI ?_ NB137_138.out _; (with_reducible repeat (first | refine uG ?_ _ | refine uI ?_ | refine uH ?_ _)); refine vI ?_ NB137_138.out _; (with_reducible repeat (first | refine uG ?_ _ | refine uI ?_ | refine uH ?_ _)); refine vI ?_ NB137_138.out _; (with_reducible repeat (first | refine uG ?_ _ | refine uI ?_ | refine uH ?_ _)); refine vI ?_ NB137_138.out _; (with_reducible repeat (first | refine uG ?_ _ | refine uI ?_ | refine uH ?_ _)); refine vI ?_ NB137_138.out _; (with_reducible repeat (first | refine uG ?_ _ | refine uI ?_ | refine uH ?_ _)); exact BK137.out) Try.underlying72 rfl (by kernel_rfl)) rfl ?_
  exact ⟨by first | rfl | (simp [errW_none, errW_some] <;> rfl) | (simp [*, errW_none, errW_some] <;> rfl), by repeat (first | (with_reducible first | exact HB.out | apply uC | apply uA | apply uB | refine uF ?_ GE136.out | refine uF ?_ GE137.out | refine uF ?_ GE138.out) | exact HB.out)⟩

/-! ### laws_toEntryS: function 27 -/
def laws_toEntryS.l0 : Nat → List (S97) → List (S72) → Int → Option ((List (S72)))
  | 0, _, _, _ => none
  | k + 1, x0, x3, x4 => if x4 < (x0.length : Int) then (if 0 ≤ x4 then ((laws_toEntry.f ((rd_T97 x0 x4).f0) ((rd_T97 x0 x4).f1.f0) ((rd_T97 x0 x4).f1.f1) ((rd_T97 x0 x4).f1.f2) ((rd_T97 x0 x4).f1.f3) ((rd_T97 x0 x4).f1.f4) ((rd_T97 x0 x4).f1.f5)).bind fun bt149 => (if x4 < (x3.length : Int) then (laws_toEntryS.l0 k x0 (x3.set (x4 : Int).toNat (⟨bt149.1, (⟨bt149.2.1, bt149.2.2.1, bt149.2.2.2.1, bt149.2.2.2.2.1, bt149.2.2.2.2.2.1, bt149.2.2.2.2.2.2⟩ : S37)⟩ : S72)) (wrap64 (x4 + 1))) else (none))) else (none)) else (some x3)
def laws_toEntryS.f (k : Nat) (l0 : List (S97)) : Option ((List (S72))) := if 0 ≤ (l0.length : Int) then (if ((l0.length : Int) : Int).toNat ≤ 5026338869833 then (laws_toEntryS.l0 k l0 (List.replicate ((l0.length : Int) : Int).toNat z72) 0) else (none)) else (none)
theorem laws_toEntryS.mono_l : ∀ k, (∀ y0 y1 y2, uV (laws_toEntryS.l0 k y0 y1 y2) (laws_toEntryS.l0 (k + 1) y0 y1 y2))
  | 0 => fun _ _ _ r h => by simp [laws_toEntryS.l0] at h
  | k + 1 => by
    have ih0 := laws_toEntryS.mono_l k
    intro y0 y1 y2
    unfold laws_toEntryS.l0
    repeat' first
    | (with_reducible exact ih0 _ _ _)
    | (with_reducible exact uV.refl _)
    | (with_reducible exact uV.none _)
    | (with_reducible refine uV.ite ?_ ?_)
    | (with_reducible refine uV.bind ?_ (fun _ => ?_))
    | exact ih0 _ _ _
    | exact uV.none _
    | refine uV.ite ?_ ?_
    | refine uV.bind ?_ (fun _ => ?_)
theorem laws_toEntryS.mono : ∀ a0 k, uV (laws_toEntryS.f k a0) (laws_toEntryS.f (k + 1) a0) := by
  intro a0 k
  have ih0 := laws_toEntryS.mono_l k
  unfold laws_toEntryS.f
  repeat' first
      | (with_reducible exact ih0 _ _ _)
      | (with_reducible exact uV.refl _)
      | (with_reducible exact uV.none _)
      | (with_reducible refine uV.ite ?_ ?_)
      | (with_reducible refine uV.bind ?_ (fun _ => ?_))
      | exact ih0 _ _ _
      | exact uV.none _
      | refine uV.ite ?_ ?_
      | refine uV.bind ?_ (fun _ => ?_)
set_option maxHeartbeats 8000000 in
set_option maxRecDepth 100000 in
theorem laws_toEntryS.calls (k : Nat) (A0 : Option Addr) (c0 : Nat) (l0 : List (S97)) (r : List (S72)) (w : World) (hr0 : Kd.C k97 w A0 l0.length l0) (hc0 : l0.length ≤ c0) (h : laws_toEntryS.f k l0 = some r) :
    Calls Try.prog 27 #[.slice A0 l0.length c0] w fun e w' => ∃ v0_ : Value, e = .returned (v0_) ∧ Kd.R k72 72 w' w.heap.size (fun _ => True) v0_ r ∧ Below w.heap.size w w' := by
  have hu97 := Try.underlying97
  have hu72 := Try.underlying72
  have HR0 := Aside0.mk hr0
  have HC0 := Aside0.mk hc0
  clear hr0 hc0
  have HB := Aside0.mk (Below.refl w.heap.size w)
  have H : (if 0 ≤ (l0.length : Int) then (if ((l0.length : Int) : Int).toNat ≤ 5026338869833 then (laws_toEntryS.l0 k l0 (List.replicate ((l0.length : Int) : Int).toNat z72) 0) else (none)) else (none)) = some r := h
  clear h
  by_cases c2 : 0 ≤ (l0.length : Int)
  rotate_left
  · rw [if_neg c2] at H
    exact absurd H (by simp)
  rw [if_pos c2] at H
  have c2b0 := eq_true c2
  have c2b1 : decide (0 ≤ (l0.length : Int)) = true := decide_eq_true c2
  clear c2
  by_cases c3 : ((l0.length : Int) : Int).toNat ≤ 5026338869833
  rotate_left
  · rw [if_neg c3] at H
    exact absurd H (by simp)
  rw [if_pos c3] at H
  have c3b0 := eq_true c3
  have c3b1 : decide (((l0.length : Int) : Int).toNat ≤ 5026338869833) = true := decide_eq_true c3
  clear c3
  obtain ⟨y145, hy145⟩ : ∃ y_ : List (S72), y_ = (List.replicate ((l0.length : Int) : Int).toNat z72) := ⟨_, rfl⟩
  replace H : (laws_toEntryS.l0 k l0 y145 0) = some r := by first | (rw [hy145]; with_reducible exact H) | (have H2_ := (Option.bind_some _ _).symm.trans H; rw [hy145]; with_reducible exact H2_) | (have H2_ := (Option.bind_some _ _).symm.trans H; with_reducible exact H2_) | with_reducible exact H | (rw [hy145]; exact H) | exact H | rfl
  have Ny145 := Aside0.mk hy145
  clear hy145
  have H' := Aside0.mk H
  clear H
  go_enter Try.func27, Try.ntmps27
  go_wp2_with (first | ((with_reducible refine uS (N := 7) rfl ?_); refine Kd.R_make k72 _ 72 rfl (N := 7) rfl 58 _ _ rfl (l0.length : Int) rfl rfl Try.underlying58 (.agg #[(.int .i64 0), (.int .i64 0), (.int .i64 0), (.int .i64 0), (.int .i64 0), (.int .i64 0), (.int .i64 0)]) 56 info72 rfl (by decide) (by omega) z72 (ok := fun _ => True) (okp := fun _ => True) (k72_mkM _ _ _ z72 ) (fun _ hk => hk) trivial (of_decide_eq_true (by first | (with_reducible assumption) | assumption)) (Nat.le_trans (Nat.mul_le_mul_right _ (of_decide_eq_true (by first | (with_reducible assumption) | assumption) : (l0.length : Int).toNat ≤ 5026338869833)) (by omega)) (Below.refl _ _) (Nat.le_refl _) ?_; intro v146 w4 ho5 hb hg_ hnew_; clear hg_ hnew_; (first | rw [← Ny145.out] at ho5 | (simp only [Int.reduceToNat] at ho5; rw [← Ny145.out] at ho5)); have n0_ := Aside0.mk (Kd.vR ho5 (uK (by repeat (first | (with_reducible first | exact HB.out | apply uC | apply uA | apply uB) | exact HB.out)))); have n1_ := Aside0.mk (uP (by repeat (first | (with_reducible first | exact HB.out | apply uC | apply uA | apply uB) | exact HB.out)) hb); clear HB; have HO147 := n0_; have HB := n1_; clear n0_ n1_; clear hb ho5))
  go_loopg [4] k (fun kq v4 w' => ∃ (x3_1 : List (S72)) (x4_1 : Int), v4 = .int .i64 x4_1 ∧ Aside0 (laws_toEntryS.l0 kq l0 x3_1 x4_1 = some r) ∧ Aside0 (kq ≤ k) ∧ Aside0 (Kd.R k72 72 w' w.heap.size (fun _ => True) v146 x3_1) ∧ Aside0 (Below w.heap.size w w'))
  case atStart => exact ⟨(y145), (0), (by first | rfl | (simp; done) | (simp [*]; done)), H', ⟨Nat.le_refl _⟩, ⟨by (with_reducible repeat (first | apply Kd.uO | apply Kd.uN | apply Kd.uQ)); exact HO147.out⟩, ⟨by repeat (first | (with_reducible first | exact HB.out | apply uC | apply uA | apply uB) | exact HB.out)⟩⟩
  case round =>
    clear H'
    try clear c2
    try clear c2b0
    try clear c2b1
    try clear p2
    try clear c3
    try clear c3b0
    try clear c3b1
    obtain ⟨x3_1, x4_1, rfl, HA, HK1, HO_3, HB⟩ := hrel
    cases gk with
    | zero => exact absurd HA.out (by simp [laws_toEntryS.l0])
    | succ k1 =>
      have H := HA.out
      clear HA
      simp only [laws_toEntryS.l0] at H
      by_cases c6 : x4_1 < (l0.length : Int)
      rotate_left
      · rw [if_neg c6] at H
        have c6b0 : decide (x4_1 < (l0.length : Int)) = false := decide_eq_false c6
        clear c6
        obtain rfl := Option.some.inj H
        go_wp2
        go_ret
        exact ⟨_, by first | rfl | (simp [errW_none, errW_some] <;> rfl) | (simp [*, errW_none, errW_some] <;> rfl), by (with_reducible repeat (first | apply Kd.uO | apply Kd.uN | apply Kd.uQ)); exact HO_3.out, by repeat (first | (with_reducible first | exact HB.out | apply uC | apply uA | apply uB) | exact HB.out)⟩
      rw [if_pos c6] at H
      have c6b0 : decide (x4_1 < (l0.length : Int)) = true := decide_eq_true c6
      clear c6
      by_cases c7 : 0 ≤ x4_1
      rotate_left
      · rw [if_neg c7] at H
        exact absurd H (by simp)
      rw [if_pos c7] at H
      have c7b0 : decide (0 ≤ x4_1) = true := decide_eq_true c7
      clear c7
      replace H := Option.bind_eq_some_iff.mp H
      obtain ⟨⟨t149, t150, t151, t152, t153, t154, t155⟩, A80, H⟩ := H
      replace H : (if x4_1 < (x3_1.length : Int) then (laws_toEntryS.l0 k1 l0 (x3_1.set (x4_1 : Int).toNat (⟨t149, (⟨t150, t151, t152, t153, t154, t155⟩ : S37)⟩ : S72)) (wrap64 (x4_1 + 1))) else (none)) = some r := H
      have A8 := Aside0.mk A80
      clear A80
      by_cases c9 : x4_1 < (x3_1.length : Int)
      rotate_left
      · rw [if_neg c9] at H
        exact absurd H (by simp)
      rw [if_pos c9] at H
      have c9b0 : decide (x4_1 < (x3_1.length : Int)) = true := decide_eq_true c9
      clear c9
      obtain ⟨y156, hy156⟩ : ∃ y_ : List (S72), y_ = (x3_1.set (x4_1 : Int).toNat (⟨t149, (⟨t150, t151, t152, t153, t154, t155⟩ : S37)⟩ : S72)) := ⟨_, rfl⟩
      replace H : (laws_toEntryS.l0 k1 l0 y156 (wrap64 (x4_1 + 1))) = some r := by first | (rw [hy156]; with_reducible exact H) | (have H2_ := (Option.bind_some _ _).symm.trans H; rw [hy156]; with_reducible exact H2_) | (have H2_ := (Option.bind_some _ _).symm.trans H; with_reducible exact H2_) | with_reducible exact H | (rw [hy156]; exact H) | exact H | rfl
      have Ny156 := Aside0.mk hy156
      clear hy156
      have H' := Aside0.mk H
      clear H
      have p148 : 0 ≤ (x4_1 : Int) := of_decide_eq_true (by first | (with_reducible assumption) | assumption)
      have q148 : x4_1 < (l0.length : Int) := of_decide_eq_true (by first | (with_reducible assumption) | assumption)
      obtain ⟨ad148, e148, hx148_0, hx148_1, hx148_2, hx148_3, hx148_4, hx148_5, hx148_6⟩ := at_T97 HR0.out x4_1 p148 q148
      cases e148
      replace hx148_0 := (HB.out.cell (vY w _ hx148_0)).trans hx148_0
      replace hx148_1 := (HB.out.cell (vY w _ hx148_1)).trans hx148_1
      replace hx148_2 := (HB.out.cell (vY w _ hx148_2)).trans hx148_2
      replace hx148_3 := (HB.out.cell (vY w _ hx148_3)).trans hx148_3
      replace hx148_4 := (HB.out.cell (vY w _ hx148_4)).trans hx148_4
      replace hx148_5 := (HB.out.cell (vY w _ hx148_5)).trans hx148_5
      replace hx148_6 := (HB.out.cell (vY w _ hx148_6)).trans hx148_6
      replace p148 := eq_true p148
      replace q148 := eq_true q148
      go_wp2_with (first | ((with_reducible refine uU (f := 68) rfl ?_); refine vE (some 20) rfl rfl Try.func68 (by kernel_rfl) rfl #[.agg #[.int .i64 ((rd_T97 l0 x4_1).f0), .int .i64 ((rd_T97 l0 x4_1).f1.f0), .int .i64 ((rd_T97 l0 x4_1).f1.f1), .int .i64 ((rd_T97 l0 x4_1).f1.f2), .int .i64 ((rd_T97 l0 x4_1).f1.f3), .int .i64 ((rd_T97 l0 x4_1).f1.f4), .int .i64 ((rd_T97 l0 x4_1).f1.f5)]] rfl (by (try simp only [vV, List.map_cons, List.map_nil]); first | done | rfl | (simp only [vX, vW]; rfl)) ?_; (with_reducible refine (laws_toEntry.calls ((rd_T97 l0 x4_1).f0) ((rd_T97 l0 x4_1).f1.f0) ((rd_T97 l0 x4_1).f1.f1) ((rd_T97 l0 x4_1).f1.f2) ((rd_T97 l0 x4_1).f1.f3) ((rd_T97 l0 x4_1).f1.f4) ((rd_T97 l0 x4_1).f1.f5) t149 t150 t151 t152 t153 t154 t155 _ A8.out).mono ?_); rintro e w11 ⟨rfl, hb⟩; refine ⟨_, rfl, ?_⟩; have n0_ := Aside0.mk (Kd.uZ (by (with_reducible repeat (first | apply Kd.uO | apply Kd.uN | apply Kd.uQ)); exact HO_3.out) hb); have n1_ := Aside0.mk (uP (by repeat (first | (with_reducible first | exact HB.out | apply uC | apply uA | apply uB) | exact HB.out)) hb); clear HO_3; clear HB; have HO_3 := n0_; have HB := n1_; clear n0_ n1_; (try clear hb); (try clear hb2); (try clear hk); (try clear hi); have p10 : 0 ≤ (x4_1 : Int) := of_decide_eq_true (by first | (with_reducible assumption) | assumption); have q10 : (x4_1 : Int) < ((x3_1.length : Int) : Int) := of_decide_eq_true (by first | (with_reducible assumption) | assumption); obtain ⟨go10, co10, eo10, gb10, gl10, cl10, HG10⟩ := Kd.R_form HO_3.out (by omega); (first | cases eo10 | (injection eo10 with ea_ en_ ec_; (first | subst ea_ | (injection ea_ with ea_; subst ea_)); subst ec_; clear en_)); have GB10 := Aside0.mk gb10; have GG10 := Aside0.mk HG10; clear gb10 gl10 HG10; obtain ⟨ce10, hcl10, hM10, hcc10, hfr10⟩ := Kd.R_elem HO_3.out z72 (x4_1 : Int) p10 q10; obtain rfl := k72_openM hM10; have hx10_0 : w11.cell? ⟨go10, (x4_1 : Int).toNat * 7, none⟩ = some (.int .i64 ((rd_T72 x3_1 x4_1).f0)) := hcc10 0 _ rfl; have hx10_1 : w11.cell? ⟨go10, (x4_1 : Int).toNat * 7 + 1, none⟩ = some (.int .i64 ((rd_T72 x3_1 x4_1).f1.f0)) := hcc10 1 _ rfl; have hx10_2 : w11.cell? ⟨go10, (x4_1 : Int).toNat * 7 + 2, none⟩ = some (.int .i64 ((rd_T72 x3_1 x4_1).f1.f1)) := hcc10 2 _ rfl; have hx10_3 : w11.cell? ⟨go10, (x4_1 : Int).toNat * 7 + 3, none⟩ = some (.int .i64 ((rd_T72 x3_1 x4_1).f1.f2)) := hcc10 3 _ rfl; have hx10_4 : w11.cell? ⟨go10, (x4_1 : Int).toNat * 7 + 4, none⟩ = some (.int .i64 ((rd_T72 x3_1 x4_1).f1.f3)) := hcc10 4 _ rfl; have hx10_5 : w11.cell? ⟨go10, (x4_1 : Int).toNat * 7 + 5, none⟩ = some (.int .i64 ((rd_T72 x3_1 x4_1).f1.f4)) := hcc10 5 _ rfl; have hx10_6 : w11.cell? ⟨go10, (x4_1 : Int).toNat * 7 + 6, none⟩ = some (.int .i64 ((rd_T72 x3_1 x4_1).f1.f5)) := hcc10 6 _ rfl; have hf10_0 : w11.frozen? ⟨go10, (x4_1 : Int).toNat * 7, none⟩ = false := hfr10 0; have hf10_1 : w11.frozen? ⟨go10, (x4_1 : Int).toNat * 7 + 1, none⟩ = false := hfr10 1; have hf10_2 : w11.frozen? ⟨go10, (x4_1 : Int).toNat * 7 + 2, none⟩ = false := hfr10 2; have hf10_3 : w11.frozen? ⟨go10, (x4_1 : Int).toNat * 7 + 3, none⟩ = false := hfr10 3; have hf10_4 : w11.frozen? ⟨go10, (x4_1 : Int).toNat * 7 + 4, none⟩ = false := hfr10 4; have hf10_5 : w11.frozen? ⟨go10, (x4_1 : Int).toNat * 7 + 5, none⟩ = false := hfr10 5; have hf10_6 : w11.frozen? ⟨go10, (x4_1 : Int).toNat * 7 + 6, none⟩ = false := hfr10 6; clear hcl10 hcc10 hfr10 hM10; replace p10 := eq_true p10; replace q10 := eq_true q10; have HX12 := Aside0.mk (show Kd.R k72 72 w11 w.heap.size (fun _ => True) (.slice (some ⟨go10, 0, none⟩) x3_1.length co10) x3_1 from (by (with_reducible repeat (first | apply Kd.uO | apply Kd.uN | apply Kd.uQ)); exact HO_3.out)); obtain ⟨ce12, hcl12, hM12, hcc12, hfr12⟩ := Kd.R_elem HX12.out z72 (x4_1 : Int) (of_decide_eq_true (by first | (with_reducible assumption) | assumption)) (by have h_ : (x4_1 : Int) < ((x3_1.length : Int) : Int) := of_decide_eq_true (by first | (with_reducible assumption) | assumption); first | exact h_ | (have e_ := (Kd.uW HO_3.out).1; omega) | simpa using h_); obtain rfl := k72_openM hM12; have HP12 := Kd.R_seg HX12.out (x4_1 : Int) (of_decide_eq_true (by first | (with_reducible assumption) | assumption)) (by have h_ : (x4_1 : Int) < ((x3_1.length : Int) : Int) := of_decide_eq_true (by first | (with_reducible assumption) | assumption); first | exact h_ | (have e_ := (Kd.uW HO_3.out).1; omega) | simpa using h_) (seg := [.int .i64 t149, .int .i64 t150, .int .i64 t151, .int .i64 t152, .int .i64 t153, .int .i64 t154, .int .i64 t155]) (j := 0) hcl12 hcc12 (show 7 ≤ 7 from by decide) (x' := (⟨t149, (⟨t150, t151, t152, t153, t154, t155⟩ : S37)⟩ : S72)) (k72_mkM _ _ _ (⟨t149, (⟨t150, t151, t152, t153, t154, t155⟩ : S37)⟩ : S72) ) (fun _ hk => hk); have hx12_0 := hcc12 0 _ rfl; (try simp only [show (k72).sz = 7 from rfl, Nat.mul_one, Nat.add_zero] at hx12_0); have hf12_0 := hfr12 0; (try simp only [show (k72).sz = 7 from rfl, Nat.mul_one, Nat.add_zero] at hf12_0); have hx12_1 := hcc12 1 _ rfl; (try simp only [show (k72).sz = 7 from rfl, Nat.mul_one, Nat.add_zero] at hx12_1); have hf12_1 := hfr12 1; (try simp only [show (k72).sz = 7 from rfl, Nat.mul_one, Nat.add_zero] at hf12_1); have hx12_2 := hcc12 2 _ rfl; (try simp only [show (k72).sz = 7 from rfl, Nat.mul_one, Nat.add_zero] at hx12_2); have hf12_2 := hfr12 2; (try simp only [show (k72).sz = 7 from rfl, Nat.mul_one, Nat.add_zero] at hf12_2); have hx12_3 := hcc12 3 _ rfl; (try simp only [show (k72).sz = 7 from rfl, Nat.mul_one, Nat.add_zero] at hx12_3); have hf12_3 := hfr12 3; (try simp only [show (k72).sz = 7 from rfl, Nat.mul_one, Nat.add_zero] at hf12_3); have hx12_4 := hcc12 4 _ rfl; (try simp only [show (k72).sz = 7 from rfl, Nat.mul_one, Nat.add_zero] at hx12_4); have hf12_4 := hfr12 4; (try simp only [show (k72).sz = 7 from rfl, Nat.mul_one, Nat.add_zero] at hf12_4); have hx12_5 := hcc12 5 _ rfl; (try simp only [show (k72).sz = 7 from rfl, Nat.mul_one, Nat.add_zero] at hx12_5); have hf12_5 := hfr12 5; (try simp only [show (k72).sz = 7 from rfl, Nat.mul_one, Nat.add_zero] at hf12_5); have hx12_6 := hcc12 6 _ rfl; (try simp only [show (k72).sz = 7 from rfl, Nat.mul_one, Nat.add_zero] at hx12_6); have hf12_6 := hfr12 6; (try simp only [show (k72).sz = 7 from rfl, Nat.mul_one, Nat.add_zero] at hf12_6); clear hcl12 hcc12 hfr12 hM12) | ((with_reducible refine vF (t := 72) (p := 21) rfl ?_); refine vD (t := 72) (p := 21) (v := ?vo_w13) (w1 := (((((((w11.setCell ⟨go10, (x4_1 : Int).toNat * 7, none⟩ (.int .i64 t149)).setCell ⟨go10, (x4_1 : Int).toNat * 7 + 1, none⟩ (.int .i64 t150)).setCell ⟨go10, (x4_1 : Int).toNat * 7 + 2, none⟩ (.int .i64 t151)).setCell ⟨go10, (x4_1 : Int).toNat * 7 + 3, none⟩ (.int .i64 t152)).setCell ⟨go10, (x4_1 : Int).toNat * 7 + 4, none⟩ (.int .i64 t153)).setCell ⟨go10, (x4_1 : Int).toNat * 7 + 5, none⟩ (.int .i64 t154)).setCell ⟨go10, (x4_1 : Int).toNat * 7 + 6, none⟩ (.int .i64 t155))) ?hg ?ho ?hn ?hr ?_; (case ho => rfl); (case hg => rfl); (case hn => rfl); (case hr => first | (go_simp; done) | (go_simp; rfl)); intro w13 hw; have hg : w11.grownBy w13 (some go10) := (by rw [hw]; exact HP12.2); have hp_ : Kd.R k72 72 w13 w.heap.size (fun _ => True) (.slice (some ⟨go10, 0, none⟩) x3_1.length co10) y156 := (by rw [hw, Ny156.out]; exact HP12.1); clear HP12; have n0_ := Aside0.mk (hp_); have n1_ := Aside0.mk ((by rw [hw]; exact uF (uF (uF (uF (uF (uF (uF (HB.out) GB10.out) GB10.out) GB10.out) GB10.out) GB10.out) GB10.out) GB10.out : Below w.heap.size w w13)); clear HO_3; clear HB; have HO_3 := n0_; have HB := n1_; clear n0_ n1_; clear hg hw hp_))
      go_roundg k1
      case measure => have := HK1.out; omega
      case rel => exact ⟨(y156), (wrap64 (x4_1 + 1)), (by first | rfl | (simp; done) | (simp [*]; done)), H', ⟨by have := HK1.out; omega⟩, ⟨by (with_reducible repeat (first | apply Kd.uO | apply Kd.uN | apply Kd.uQ)); exact HO_3.out⟩, ⟨by repeat (first | (with_reducible first | exact HB.out | apply uC | apply uA | apply uB) | exact HB.out)⟩⟩

/-! ### laws_eqOp: function 87 -/
def laws_eqOp.f (a0_0 : Int) (a0_1 : Int) (a0_2 : Int) (a0_3 : Int) (a0_4 : Int) (a0_5 : Int) (a1_0 : Int) (a1_1 : Int) (a1_2 : Int) (a1_3 : Int) (a1_4 : Int) (a1_5 : Int) : Option (Bool) := if a0_0 = a1_0 then (if a0_1 = a1_1 then (if a0_2 = a1_2 then (if a0_3 = a1_3 then (if a0_4 = a1_4 then (if a0_5 = a1_5 then (some true) else (some false)) else (some false)) else (some false)) else (some false)) else (some false)) else (some false)
set_option maxHeartbeats 8000000 in
set_option maxRecDepth 100000 in
theorem laws_eqOp.calls (a0_0 : Int) (a0_1 : Int) (a0_2 : Int) (a0_3 : Int) (a0_4 : Int) (a0_5 : Int) (a1_0 : Int) (a1_1 : Int) (a1_2 : Int) (a1_3 : Int) (a1_4 : Int) (a1_5 : Int) (r : Bool) (w : World) (h : laws_eqOp.f a0_0 a0_1 a0_2 a0_3 a0_4 a0_5 a1_0 a1_1 a1_2 a1_3 a1_4 a1_5 = some r) :
    Calls Try.prog 87 #[.agg #[.int .i64 a0_0, .int .i64 a0_1, .int .i64 a0_2, .int .i64 a0_3, .int .i64 a0_4, .int .i64 a0_5], .agg #[.int .i64 a1_0, .int .i64 a1_1, .int .i64 a1_2, .int .i64 a1_3, .int .i64 a1_4, .int .i64 a1_5]] w fun e w' => e = .returned (.bool r) ∧ Below w.heap.size w w' := by
  have hu37 := Try.underlying37
  have HB := Aside0.mk (Below.refl w.heap.size w)
  have H : (if a0_0 = a1_0 then (if a0_1 = a1_1 then (if a0_2 = a1_2 then (if a0_3 = a1_3 then (if a0_4 = a1_4 then (if a0_5 = a1_5 then (some true) else (some false)) else (some false)) else (some false)) else (some false)) else (some false)) else (some false)) = some r := h
  clear h
  by_cases c3 : a0_0 = a1_0
  rotate_left
  · rw [if_neg c3] at H
    have c3b0 : (a0_0 == a1_0) = false := beq_eq_false_iff_ne.mpr c3
    have c3b1 : (a0_0 != a1_0) = true := bne_iff_ne.mpr c3
    obtain rfl := Option.some.inj H
    go_enter Try.func87, Try.ntmps87
    go_wp2_with (first | ((with_reducible refine uS (N := 2) rfl ?_); refine uR ?hg (N := 2) ?hd (cs := #[.int .i64 a0_0, .int .i64 a0_1, .int .i64 a0_2, .int .i64 a0_3, .int .i64 a0_4, .int .i64 a0_5]) (t := 37) ?hr ?_; (case hd => rfl); (case hg => rfl); (case hr => first | (go_simp; done) | (go_simp; rfl)); intro gb157 hg w39 hbox hb; have n0_ := Aside0.mk (uP (by repeat (first | (with_reducible first | exact HB.out | apply uC | apply uA | apply uB) | exact HB.out)) hb); have n1_ := Aside0.mk (hbox); have n2_ := Aside0.mk ((by rw [hg]; exact (uK (by repeat (first | (with_reducible first | exact HB.out | apply uC | apply uA | apply uB) | exact HB.out))) : w.heap.size ≤ gb157)); have n3_ := Aside0.mk ((by rw [hg]; exact (uK (by repeat (first | (with_reducible first | exact HB.out | apply uC | apply uA | apply uB) | exact HB.out))) : w.heap.size ≤ gb157)); clear HB; have HB := n0_; have BK157 := n1_; have GW157 := n2_; have GE157 := n3_; clear n0_ n1_ n2_ n3_; clear hb hbox hg) | ((with_reducible refine uS (N := 3) rfl ?_); refine uR ?hg (N := 3) ?hd (cs := #[.int .i64 a1_0, .int .i64 a1_1, .int .i64 a1_2, .int .i64 a1_3, .int .i64 a1_4, .int .i64 a1_5]) (t := 37) ?hr ?_; (case hd => rfl); (case hg => rfl); (case hr => first | (go_simp; done) | (go_simp; rfl)); intro gb158 hg w40 hbox hb; have n0_ := Aside0.mk (uT (g := gb157) (o := .cells #[.int .i64 a0_0, .int .i64 a0_1, .int .i64 a0_2, .int .i64 a0_3, .int .i64 a0_4, .int .i64 a0_5] 37 (0, 0)) (by (with_reducible repeat (first | refine uG ?_ _ | refine uI ?_ | refine uH ?_ _)); exact BK157.out) hb); have n1_ := Aside0.mk (uP (by repeat (first | (with_reducible first | exact HB.out | apply uC | apply uA | apply uB | refine uF ?_ GE157.out) | exact HB.out)) hb); have n2_ := Aside0.mk (hbox); have n3_ := Aside0.mk ((by rw [hg]; exact (uK (by repeat (first | (with_reducible first | exact HB.out | apply uC | apply uA | apply uB | refine uF ?_ GE157.out) | exact HB.out))) : w.heap.size ≤ gb158)); have n4_ := Aside0.mk ((by rw [hg]; exact (uK (by repeat (first | (with_reducible first | exact HB.out | apply uC | apply uA | apply uB | refine uF ?_ GE157.out) | exact HB.out))) : w.heap.size ≤ gb158)); have n5_ := Aside0.mk ((by rw [hg]; exact Nat.ne_of_lt (vG (g := gb157) (o := .cells #[.int .i64 a0_0, .int .i64 a0_1, .int .i64 a0_2, .int .i64 a0_3, .int .i64 a0_4, .int .i64 a0_5] 37 (0, 0)) (by (with_reducible repeat (first | refine uG ?_ _ | refine uI ?_ | refine uH ?_ _)); exact BK157.out)) : gb157 ≠ gb158)); have n6_ := Aside0.mk ((by rw [hg]; exact Nat.ne_of_gt (vG (g := gb157) (o := .cells #[.int .i64 a0_0, .int .i64 a0_1, .int .i64 a0_2, .int .i64 a0_3, .int .i64 a0_4, .int .i64 a0_5] 37 (0, 0)) (by (with_reducible repeat (first | refine uG ?_ _ | refine uI ?_ | refine uH ?_ _)); exact BK157.out)) : gb158 ≠ gb157)); clear BK157; clear HB; have BK157 := n0_; have HB := n1_; have BK158 := n2_; have GW158 := n3_; have GE158 := n4_; have NB157_158 := n5_; have NB158_157 := n6_; clear n0_ n1_ n2_ n3_ n4_ n5_ n6_; clear hb hbox hg; have hnb41 := NB157_158.out; have hnc41 := NB158_157.out; have hcz42_0 : w40.cell? ⟨gb157, 0, none⟩ = some (.int .i64 a0_0) := (uE BK157.out 0).trans rfl; have hcz42_1 : w40.cell? ⟨gb157, 1, none⟩ = some (.int .i64 a0_1) := (uE BK157.out 1).trans rfl; have hcz42_2 : w40.cell? ⟨gb157, 2, none⟩ = some (.int .i64 a0_2) := (uE BK157.out 2).trans rfl; have hcz42_3 : w40.cell? ⟨gb157, 3, none⟩ = some (.int .i64 a0_3) := (uE BK157.out 3).trans rfl; have hcz42_4 : w40.cell? ⟨gb157, 4, none⟩ = some (.int .i64 a0_4) := (uE BK157.out 4).trans rfl; have hcz42_5 : w40.cell? ⟨gb157, 5, none⟩ = some (.int .i64 a0_5) := (uE BK157.out 5).trans rfl; have hfz42_0 := uD BK157.out 0; have hfz42_1 := uD BK157.out 1; have hfz42_2 := uD BK157.out 2; have hfz42_3 := uD BK157.out 3; have hfz42_4 := uD BK157.out 4; have hfz42_5 := uD BK157.out 5; have hcz43_0 : w40.cell? ⟨gb158, 0, none⟩ = some (.int .i64 a1_0) := (uE BK158.out 0).trans rfl; have hcz43_1 : w40.cell? ⟨gb158, 1, none⟩ = some (.int .i64 a1_1) := (uE BK158.out 1).trans rfl; have hcz43_2 : w40.cell? ⟨gb158, 2, none⟩ = some (.int .i64 a1_2) := (uE BK158.out 2).trans rfl; have hcz43_3 : w40.cell? ⟨gb158, 3, none⟩ = some (.int .i64 a1_3) := (uE BK158.out 3).trans rfl; have hcz43_4 : w40.cell? ⟨gb158, 4, none⟩ = some (.int .i64 a1_4) := (uE BK158.out 4).trans rfl; have hcz43_5 : w40.cell? ⟨gb158, 5, none⟩ = some (.int .i64 a1_5) := (uE BK158.out 5).trans rfl; have hfz43_0 := uD BK158.out 0; have hfz43_1 := uD BK158.out 1; have hfz43_2 := uD BK158.out 2; have hfz43_3 := uD BK158.out 3; have hfz43_4 := uD BK158.out 4; have hfz43_5 := uD BK158.out 5))
    go_ret
    exact ⟨by first | rfl | (simp [errW_none, errW_some] <;> rfl) | (simp [*, errW_none, errW_some] <;> rfl), by repeat (first | (with_reducible first | exact HB.out | apply uC | apply uA | apply uB | refine uF ?_ GE157.out | refine uF ?_ GE158.out) | exact HB.out)⟩
  rw [if_pos c3] at H
  have c3b0 : (a0_0 == a1_0) = true := beq_iff_eq.mpr c3
  have c3b1 : (a0_0 != a1_0) = false := bne_eq_false_iff_eq.mpr c3
  clear c3
  by_cases c4 : a0_1 = a1_1
  rotate_left
  · rw [if_neg c4] at H
    have c4b0 : (a0_1 == a1_1) = false := beq_eq_false_iff_ne.mpr c4
    have c4b1 : (a0_1 != a1_1) = true := bne_iff_ne.mpr c4
    obtain rfl := Option.some.inj H
    go_enter Try.func87, Try.ntmps87
    go_wp2_with (first | ((with_reducible refine uS (N := 2) rfl ?_); refine uR ?hg (N := 2) ?hd (cs := #[.int .i64 a0_0, .int .i64 a0_1, .int .i64 a0_2, .int .i64 a0_3, .int .i64 a0_4, .int .i64 a0_5]) (t := 37) ?hr ?_; (case hd => rfl); (case hg => rfl); (case hr => first | (go_simp; done) | (go_simp; rfl)); intro gb157 hg w34 hbox hb; have n0_ := Aside0.mk (uP (by repeat (first | (with_reducible first | exact HB.out | apply uC | apply uA | apply uB) | exact HB.out)) hb); have n1_ := Aside0.mk (hbox); have n2_ := Aside0.mk ((by rw [hg]; exact (uK (by repeat (first | (with_reducible first | exact HB.out | apply uC | apply uA | apply uB) | exact HB.out))) : w.heap.size ≤ gb157)); have n3_ := Aside0.mk ((by rw [hg]; exact (uK (by repeat (first | (with_reducible first | exact HB.out | apply uC | apply uA | apply uB) | exact HB.out))) : w.heap.size ≤ gb157)); clear HB; have HB := n0_; have BK157 := n1_; have GW157 := n2_; have GE157 := n3_; clear n0_ n1_ n2_ n3_; clear hb hbox hg) | ((with_reducible refine uS (N := 3) rfl ?_); refine uR ?hg (N := 3) ?hd (cs := #[.int .i64 a1_0, .int .i64 a1_1, .int .i64 a1_2, .int .i64 a1_3, .int .i64 a1_4, .int .i64 a1_5]) (t := 37) ?hr ?_; (case hd => rfl); (case hg => rfl); (case hr => first | (go_simp; done) | (go_simp; rfl)); intro gb158 hg w35 hbox hb; have n0_ := Aside0.mk (uT (g := gb157) (o := .cells #[.int .i64 a0_0, .int .i64 a0_1, .int .i64 a0_2, .int .i64 a0_3, .int .i64 a0_4, .int .i64 a0_5] 37 (0, 0)) (by (with_reducible repeat (first | refine uG ?_ _ | refine uI ?_ | refine uH ?_ _)); exact BK157.out) hb); have n1_ := Aside0.mk (uP (by repeat (first | (with_reducible first | exact HB.out | apply uC | apply uA | apply uB | refine uF ?_ GE157.out) | exact HB.out)) hb); have n2_ := Aside0.mk (hbox); have n3_ := Aside0.mk ((by rw [hg]; exact (uK (by repeat (first | (with_reducible first | exact HB.out | apply uC | apply uA | apply uB | refine uF ?_ GE157.out) | exact HB.out))) : w.heap.size ≤ gb158)); have n4_ := Aside0.mk ((by rw [hg]; exact (uK (by repeat (first | (with_reducible first | exact HB.out | apply uC | apply uA | apply uB | refine uF ?_ GE157.out) | exact HB.out))) : w.heap.size ≤ gb158)); have n5_ := Aside0.mk ((by rw [hg]; exact Nat.ne_of_lt (vG (g := gb157) (o := .cells #[.int .i64 a0_0, .int .i64 a0_1, .int .i64 a0_2, .int .i64 a0_3, .int .i64 a0_4, .int .i64 a0_5] 37 (0, 0)) (by (with_reducible repeat (first | refine uG ?_ _ | refine uI ?_ | refine uH ?_ _)); exact BK157.out)) : gb157 ≠ gb158)); have n6_ := Aside0.mk ((by rw [hg]; exact Nat.ne_of_gt (vG (g := gb157) (o := .cells #[.int .i64 a0_0, .int .i64 a0_1, .int .i64 a0_2, .int .i64 a0_3, .int .i64 a0_4, .int .i64 a0_5] 37 (0, 0)) (by (with_reducible repeat (first | refine uG ?_ _ | refine uI ?_ | refine uH ?_ _)); exact BK157.out)) : gb158 ≠ gb157)); clear BK157; clear HB; have BK157 := n0_; have HB := n1_; have BK158 := n2_; have GW158 := n3_; have GE158 := n4_; have NB157_158 := n5_; have NB158_157 := n6_; clear n0_ n1_ n2_ n3_ n4_ n5_ n6_; clear hb hbox hg; have hnb36 := NB157_158.out; have hnc36 := NB158_157.out; have hcz37_0 : w35.cell? ⟨gb157, 0, none⟩ = some (.int .i64 a0_0) := (uE BK157.out 0).trans rfl; have hcz37_1 : w35.cell? ⟨gb157, 1, none⟩ = some (.int .i64 a0_1) := (uE BK157.out 1).trans rfl; have hcz37_2 : w35.cell? ⟨gb157, 2, none⟩ = some (.int .i64 a0_2) := (uE BK157.out 2).trans rfl; have hcz37_3 : w35.cell? ⟨gb157, 3, none⟩ = some (.int .i64 a0_3) := (uE BK157.out 3).trans rfl; have hcz37_4 : w35.cell? ⟨gb157, 4, none⟩ = some (.int .i64 a0_4) := (uE BK157.out 4).trans rfl; have hcz37_5 : w35.cell? ⟨gb157, 5, none⟩ = some (.int .i64 a0_5) := (uE BK157.out 5).trans rfl; have hfz37_0 := uD BK157.out 0; have hfz37_1 := uD BK157.out 1; have hfz37_2 := uD BK157.out 2; have hfz37_3 := uD BK157.out 3; have hfz37_4 := uD BK157.out 4; have hfz37_5 := uD BK157.out 5; have hcz38_0 : w35.cell? ⟨gb158, 0, none⟩ = some (.int .i64 a1_0) := (uE BK158.out 0).trans rfl; have hcz38_1 : w35.cell? ⟨gb158, 1, none⟩ = some (.int .i64 a1_1) := (uE BK158.out 1).trans rfl; have hcz38_2 : w35.cell? ⟨gb158, 2, none⟩ = some (.int .i64 a1_2) := (uE BK158.out 2).trans rfl; have hcz38_3 : w35.cell? ⟨gb158, 3, none⟩ = some (.int .i64 a1_3) := (uE BK158.out 3).trans rfl; have hcz38_4 : w35.cell? ⟨gb158, 4, none⟩ = some (.int .i64 a1_4) := (uE BK158.out 4).trans rfl; have hcz38_5 : w35.cell? ⟨gb158, 5, none⟩ = some (.int .i64 a1_5) := (uE BK158.out 5).trans rfl; have hfz38_0 := uD BK158.out 0; have hfz38_1 := uD BK158.out 1; have hfz38_2 := uD BK158.out 2; have hfz38_3 := uD BK158.out 3; have hfz38_4 := uD BK158.out 4; have hfz38_5 := uD BK158.out 5))
    go_ret
    exact ⟨by first | rfl | (simp [errW_none, errW_some] <;> rfl) | (simp [*, errW_none, errW_some] <;> rfl), by repeat (first | (with_reducible first | exact HB.out | apply uC | apply uA | apply uB | refine uF ?_ GE157.out | refine uF ?_ GE158.out) | exact HB.out)⟩
  rw [if_pos c4] at H
  have c4b0 : (a0_1 == a1_1) = true := beq_iff_eq.mpr c4
  have c4b1 : (a0_1 != a1_1) = false := bne_eq_false_iff_eq.mpr c4
  clear c4
  by_cases c5 : a0_2 = a1_2
  rotate_left
  · rw [if_neg c5] at H
    have c5b0 : (a0_2 == a1_2) = false := beq_eq_false_iff_ne.mpr c5
    have c5b1 : (a0_2 != a1_2) = true := bne_iff_ne.mpr c5
    obtain rfl := Option.some.inj H
    go_enter Try.func87, Try.ntmps87
    go_wp2_with (first | ((with_reducible refine uS (N := 2) rfl ?_); refine uR ?hg (N := 2) ?hd (cs := #[.int .i64 a0_0, .int .i64 a0_1, .int .i64 a0_2, .int .i64 a0_3, .int .i64 a0_4, .int .i64 a0_5]) (t := 37) ?hr ?_; (case hd => rfl); (case hg => rfl); (case hr => first | (go_simp; done) | (go_simp; rfl)); intro gb157 hg w29 hbox hb; have n0_ := Aside0.mk (uP (by repeat (first | (with_reducible first | exact HB.out | apply uC | apply uA | apply uB) | exact HB.out)) hb); have n1_ := Aside0.mk (hbox); have n2_ := Aside0.mk ((by rw [hg]; exact (uK (by repeat (first | (with_reducible first | exact HB.out | apply uC | apply uA | apply uB) | exact HB.out))) : w.heap.size ≤ gb157)); have n3_ := Aside0.mk ((by rw [hg]; exact (uK (by repeat (first | (with_reducible first | exact HB.out | apply uC | apply uA | apply uB) | exact HB.out))) : w.heap.size ≤ gb157)); clear HB; have HB := n0_; have BK157 := n1_; have GW157 := n2_; have GE157 := n3_; clear n0_ n1_ n2_ n3_; clear hb hbox hg) | ((with_reducible refine uS (N := 3) rfl ?_); refine uR ?hg (N := 3) ?hd (cs := #[.int .i64 a1_0, .int .i64 a1_1, .int .i64 a1_2, .int .i64 a1_3, .int .i64 a1_4, .int .i64 a1_5]) (t := 37) ?hr ?_; (case hd => rfl); (case hg => rfl); (case hr => first | (go_simp; done) | (go_simp; rfl)); intro gb158 hg w30 hbox hb; have n0_ := Aside0.mk (uT (g := gb157) (o := .cells #[.int .i64 a0_0, .int .i64 a0_1, .int .i64 a0_2, .int .i64 a0_3, .int .i64 a0_4, .int .i64 a0_5] 37 (0, 0)) (by (with_reducible repeat (first | refine uG ?_ _ | refine uI ?_ | refine uH ?_ _)); exact BK157.out) hb); have n1_ := Aside0.mk (uP (by repeat (first | (with_reducible first | exact HB.out | apply uC | apply uA | apply uB | refine uF ?_ GE157.out) | exact HB.out)) hb); have n2_ := Aside0.mk (hbox); have n3_ := Aside0.mk ((by rw [hg]; exact (uK (by repeat (first | (with_reducible first | exact HB.out | apply uC | apply uA | apply uB | refine uF ?_ GE157.out) | exact HB.out))) : w.heap.size ≤ gb158)); have n4_ := Aside0.mk ((by rw [hg]; exact (uK (by repeat (first | (with_reducible first | exact HB.out | apply uC | apply uA | apply uB | refine uF ?_ GE157.out) | exact HB.out))) : w.heap.size ≤ gb158)); have n5_ := Aside0.mk ((by rw [hg]; exact Nat.ne_of_lt (vG (g := gb157) (o := .cells #[.int .i64 a0_0, .int .i64 a0_1, .int .i64 a0_2, .int .i64 a0_3, .int .i64 a0_4, .int .i64 a0_5] 37 (0, 0)) (by (with_reducible repeat (first | refine uG ?_ _ | refine uI ?_ | refine uH ?_ _)); exact BK157.out)) : gb157 ≠ gb158)); have n6_ := Aside0.mk ((by rw [hg]; exact Nat.ne_of_gt (vG (g := gb157) (o := .cells #[.int .i64 a0_0, .int .i64 a0_1, .int .i64 a0_2, .int .i64 a0_3, .int .i64 a0_4, .int .i64 a0_5] 37 (0, 0)) (by (with_reducible repeat (first | refine uG ?_ _ | refine uI ?_ | refine uH ?_ _)); exact BK157.out)) : gb158 ≠ gb157)); clear BK157; clear HB; have BK157 := n0_; have HB := n1_; have BK158 := n2_; have GW158 := n3_; have GE158 := n4_; have NB157_158 := n5_; have NB158_157 := n6_; clear n0_ n1_ n2_ n3_ n4_ n5_ n6_; clear hb hbox hg; have hnb31 := NB157_158.out; have hnc31 := NB158_157.out; have hcz32_0 : w30.cell? ⟨gb157, 0, none⟩ = some (.int .i64 a0_0) := (uE BK157.out 0).trans rfl; have hcz32_1 : w30.cell? ⟨gb157, 1, none⟩ = some (.int .i64 a0_1) := (uE BK157.out 1).trans rfl; have hcz32_2 : w30.cell? ⟨gb157, 2, none⟩ = some (.int .i64 a0_2) := (uE BK157.out 2).trans rfl; have hcz32_3 : w30.cell? ⟨gb157, 3, none⟩ = some (.int .i64 a0_3) := (uE BK157.out 3).trans rfl; have hcz32_4 : w30.cell? ⟨gb157, 4, none⟩ = some (.int .i64 a0_4) := (uE BK157.out 4).trans rfl; have hcz32_5 : w30.cell? ⟨gb157, 5, none⟩ = some (.int .i64 a0_5) := (uE BK157.out 5).trans rfl; have hfz32_0 := uD BK157.out 0; have hfz32_1 := uD BK157.out 1; have hfz32_2 := uD BK157.out 2; have hfz32_3 := uD BK157.out 3; have hfz32_4 := uD BK157.out 4; have hfz32_5 := uD BK157.out 5; have hcz33_0 : w30.cell? ⟨gb158, 0, none⟩ = some (.int .i64 a1_0) := (uE BK158.out 0).trans rfl; have hcz33_1 : w30.cell? ⟨gb158, 1, none⟩ = some (.int .i64 a1_1) := (uE BK158.out 1).trans rfl; have hcz33_2 : w30.cell? ⟨gb158, 2, none⟩ = some (.int .i64 a1_2) := (uE BK158.out 2).trans rfl; have hcz33_3 : w30.cell? ⟨gb158, 3, none⟩ = some (.int .i64 a1_3) := (uE BK158.out 3).trans rfl; have hcz33_4 : w30.cell? ⟨gb158, 4, none⟩ = some (.int .i64 a1_4) := (uE BK158.out 4).trans rfl; have hcz33_5 : w30.cell? ⟨gb158, 5, none⟩ = some (.int .i64 a1_5) := (uE BK158.out 5).trans rfl; have hfz33_0 := uD BK158.out 0; have hfz33_1 := uD BK158.out 1; have hfz33_2 := uD BK158.out 2; have hfz33_3 := uD BK158.out 3; have hfz33_4 := uD BK158.out 4; have hfz33_5 := uD BK158.out 5))
    go_ret
    exact ⟨by first | rfl | (simp [errW_none, errW_some] <;> rfl) | (simp [*, errW_none, errW_some] <;> rfl), by repeat (first | (with_reducible first | exact HB.out | apply uC | apply uA | apply uB | refine uF ?_ GE157.out | refine uF ?_ GE158.out) | exact HB.out)⟩
  rw [if_pos c5] at H
  have c5b0 : (a0_2 == a1_2) = true := beq_iff_eq.mpr c5
  have c5b1 : (a0_2 != a1_2) = false := bne_eq_false_iff_eq.mpr c5
  clear c5
  by_cases c6 : a0_3 = a1_3
  rotate_left
  · rw [if_neg c6] at H
    have c6b0 : (a0_3 == a1_3) = false := beq_eq_false_iff_ne.mpr c6
    have c6b1 : (a0_3 != a1_3) = true := bne_iff_ne.mpr c6
    obtain rfl := Option.some.inj H
    go_enter Try.func87, Try.ntmps87
    go_wp2_with (first | ((with_reducible refine uS (N := 2) rfl ?_); refine uR ?hg (N := 2) ?hd (cs := #[.int .i64 a0_0, .int .i64 a0_1, .int .i64 a0_2, .int .i64 a0_3, .int .i64 a0_4, .int .i64 a0_5]) (t := 37) ?hr ?_; (case hd => rfl); (case hg => rfl); (case hr => first | (go_simp; done) | (go_simp; rfl)); intro gb157 hg w24 hbox hb; have n0_ := Aside0.mk (uP (by repeat (first | (with_reducible first | exact HB.out | apply uC | apply uA | apply uB) | exact HB.out)) hb); have n1_ := Aside0.mk (hbox); have n2_ := Aside0.mk ((by rw [hg]; exact (uK (by repeat (first | (with_reducible first | exact HB.out | apply uC | apply uA | apply uB) | exact HB.out))) : w.heap.size ≤ gb157)); have n3_ := Aside0.mk ((by rw [hg]; exact (uK (by repeat (first | (with_reducible first | exact HB.out | apply uC | apply uA | apply uB) | exact HB.out))) : w.heap.size ≤ gb157)); clear HB; have HB := n0_; have BK157 := n1_; have GW157 := n2_; have GE157 := n3_; clear n0_ n1_ n2_ n3_; clear hb hbox hg) | ((with_reducible refine uS (N := 3) rfl ?_); refine uR ?hg (N := 3) ?hd (cs := #[.int .i64 a1_0, .int .i64 a1_1, .int .i64 a1_2, .int .i64 a1_3, .int .i64 a1_4, .int .i64 a1_5]) (t := 37) ?hr ?_; (case hd => rfl); (case hg => rfl); (case hr => first | (go_simp; done) | (go_simp; rfl)); intro gb158 hg w25 hbox hb; have n0_ := Aside0.mk (uT (g := gb157) (o := .cells #[.int .i64 a0_0, .int .i64 a0_1, .int .i64 a0_2, .int .i64 a0_3, .int .i64 a0_4, .int .i64 a0_5] 37 (0, 0)) (by (with_reducible repeat (first | refine uG ?_ _ | refine uI ?_ | refine uH ?_ _)); exact BK157.out) hb); have n1_ := Aside0.mk (uP (by repeat (first | (with_reducible first | exact HB.out | apply uC | apply uA | apply uB | refine uF ?_ GE157.out) | exact HB.out)) hb); have n2_ := Aside0.mk (hbox); have n3_ := Aside0.mk ((by rw [hg]; exact (uK (by repeat (first | (with_reducible first | exact HB.out | apply uC | apply uA | apply uB | refine uF ?_ GE157.out) | exact HB.out))) : w.heap.size ≤ gb158)); have n4_ := Aside0.mk ((by rw [hg]; exact (uK (by repeat (first | (with_reducible first | exact HB.out | apply uC | apply uA | apply uB | refine uF ?_ GE157.out) | exact HB.out))) : w.heap.size ≤ gb158)); have n5_ := Aside0.mk ((by rw [hg]; exact Nat.ne_of_lt (vG (g := gb157) (o := .cells #[.int .i64 a0_0, .int .i64 a0_1, .int .i64 a0_2, .int .i64 a0_3, .int .i64 a0_4, .int .i64 a0_5] 37 (0, 0)) (by (with_reducible repeat (first | refine uG ?_ _ | refine uI ?_ | refine uH ?_ _)); exact BK157.out)) : gb157 ≠ gb158)); have n6_ := Aside0.mk ((by rw [hg]; exact Nat.ne_of_gt (vG (g := gb157) (o := .cells #[.int .i64 a0_0, .int .i64 a0_1, .int .i64 a0_2, .int .i64 a0_3, .int .i64 a0_4, .int .i64 a0_5] 37 (0, 0)) (by (with_reducible repeat (first | refine uG ?_ _ | refine uI ?_ | refine uH ?_ _)); exact BK157.out)) : gb158 ≠ gb157)); clear BK157; clear HB; have BK157 := n0_; have HB := n1_; have BK158 := n2_; have GW158 := n3_; have GE158 := n4_; have NB157_158 := n5_; have NB158_157 := n6_; clear n0_ n1_ n2_ n3_ n4_ n5_ n6_; clear hb hbox hg; have hnb26 := NB157_158.out; have hnc26 := NB158_157.out; have hcz27_0 : w25.cell? ⟨gb157, 0, none⟩ = some (.int .i64 a0_0) := (uE BK157.out 0).trans rfl; have hcz27_1 : w25.cell? ⟨gb157, 1, none⟩ = some (.int .i64 a0_1) := (uE BK157.out 1).trans rfl; have hcz27_2 : w25.cell? ⟨gb157, 2, none⟩ = some (.int .i64 a0_2) := (uE BK157.out 2).trans rfl; have hcz27_3 : w25.cell? ⟨gb157, 3, none⟩ = some (.int .i64 a0_3) := (uE BK157.out 3).trans rfl; have hcz27_4 : w25.cell? ⟨gb157, 4, none⟩ = some (.int .i64 a0_4) := (uE BK157.out 4).trans rfl; have hcz27_5 : w25.cell? ⟨gb157, 5, none⟩ = some (.int .i64 a0_5) := (uE BK157.out 5).trans rfl; have hfz27_0 := uD BK157.out 0; have hfz27_1 := uD BK157.out 1; have hfz27_2 := uD BK157.out 2; have hfz27_3 := uD BK157.out 3; have hfz27_4 := uD BK157.out 4; have hfz27_5 := uD BK157.out 5; have hcz28_0 : w25.cell? ⟨gb158, 0, none⟩ = some (.int .i64 a1_0) := (uE BK158.out 0).trans rfl; have hcz28_1 : w25.cell? ⟨gb158, 1, none⟩ = some (.int .i64 a1_1) := (uE BK158.out 1).trans rfl; have hcz28_2 : w25.cell? ⟨gb158, 2, none⟩ = some (.int .i64 a1_2) := (uE BK158.out 2).trans rfl; have hcz28_3 : w25.cell? ⟨gb158, 3, none⟩ = some (.int .i64 a1_3) := (uE BK158.out 3).trans rfl; have hcz28_4 : w25.cell? ⟨gb158, 4, none⟩ = some (.int .i64 a1_4) := (uE BK158.out 4).trans rfl; have hcz28_5 : w25.cell? ⟨gb158, 5, none⟩ = some (.int .i64 a1_5) := (uE BK158.out 5).trans rfl; have hfz28_0 := uD BK158.out 0; have hfz28_1 := uD BK158.out 1; have hfz28_2 := uD BK158.out 2; have hfz28_3 := uD BK158.out 3; have hfz28_4 := uD BK158.out 4; have hfz28_5 := uD BK158.out 5))
    go_ret
    exact ⟨by first | rfl | (simp [errW_none, errW_some] <;> rfl) | (simp [*, errW_none, errW_some] <;> rfl), by repeat (first | (with_reducible first | exact HB.out | apply uC | apply uA | apply uB | refine uF ?_ GE157.out | refine uF ?_ GE158.out) | exact HB.out)⟩
  rw [if_pos c6] at H
  have c6b0 : (a0_3 == a1_3) = true := beq_iff_eq.mpr c6
  have c6b1 : (a0_3 != a1_3) = false := bne_eq_false_iff_eq.mpr c6
  clear c6
  by_cases c7 : a0_4 = a1_4
  rotate_left
  · rw [if_neg c7] at H
    have c7b0 : (a0_4 == a1_4) = false := beq_eq_false_iff_ne.mpr c7
    have c7b1 : (a0_4 != a1_4) = true := bne_iff_ne.mpr c7
    obtain rfl := Option.some.inj H
    go_enter Try.func87, Try.ntmps87
    go_wp2_with (first | ((with_reducible refine uS (N := 2) rfl ?_); refine uR ?hg (N := 2) ?hd (cs := #[.int .i64 a0_0, .int .i64 a0_1, .int .i64 a0_2, .int .i64 a0_3, .int .i64 a0_4, .int .i64 a0_5]) (t := 37) ?hr ?_; (case hd => rfl); (case hg => rfl); (case hr => first | (go_simp; done) | (go_simp; rfl)); intro gb157 hg w19 hbox hb; have n0_ := Aside0.mk (uP (by repeat (first | (with_reducible first | exact HB.out | apply uC | apply uA | apply uB) | exact HB.out)) hb); have n1_ := Aside0.mk (hbox); have n2_ := Aside0.mk ((by rw [hg]; exact (uK (by repeat (first | (with_reducible first | exact HB.out | apply uC | apply uA | apply uB) | exact HB.out))) : w.heap.size ≤ gb157)); have n3_ := Aside0.mk ((by rw [hg]; exact (uK (by repeat (first | (with_reducible first | exact HB.out | apply uC | apply uA | apply uB) | exact HB.out))) : w.heap.size ≤ gb157)); clear HB; have HB := n0_; have BK157 := n1_; have GW157 := n2_; have GE157 := n3_; clear n0_ n1_ n2_ n3_; clear hb hbox hg) | ((with_reducible refine uS (N := 3) rfl ?_); refine uR ?hg (N := 3) ?hd (cs := #[.int .i64 a1_0, .int .i64 a1_1, .int .i64 a1_2, .int .i64 a1_3, .int .i64 a1_4, .int .i64 a1_5]) (t := 37) ?hr ?_; (case hd => rfl); (case hg => rfl); (case hr => first | (go_simp; done) | (go_simp; rfl)); intro gb158 hg w20 hbox hb; have n0_ := Aside0.mk (uT (g := gb157) (o := .cells #[.int .i64 a0_0, .int .i64 a0_1, .int .i64 a0_2, .int .i64 a0_3, .int .i64 a0_4, .int .i64 a0_5] 37 (0, 0)) (by (with_reducible repeat (first | refine uG ?_ _ | refine uI ?_ | refine uH ?_ _)); exact BK157.out) hb); have n1_ := Aside0.mk (uP (by repeat (first | (with_reducible first | exact HB.out | apply uC | apply uA | apply uB | refine uF ?_ GE157.out) | exact HB.out)) hb); have n2_ := Aside0.mk (hbox); have n3_ := Aside0.mk ((by rw [hg]; exact (uK (by repeat (first | (with_reducible first | exact HB.out | apply uC | apply uA | apply uB | refine uF ?_ GE157.out) | exact HB.out))) : w.heap.size ≤ gb158)); have n4_ := Aside0.mk ((by rw [hg]; exact (uK (by repeat (first | (with_reducible first | exact HB.out | apply uC | apply uA | apply uB | refine uF ?_ GE157.out) | exact HB.out))) : w.heap.size ≤ gb158)); have n5_ := Aside0.mk ((by rw [hg]; exact Nat.ne_of_lt (vG (g := gb157) (o := .cells #[.int .i64 a0_0, .int .i64 a0_1, .int .i64 a0_2, .int .i64 a0_3, .int .i64 a0_4, .int .i64 a0_5] 37 (0, 0)) (by (with_reducible repeat (first | refine uG ?_ _ | refine uI ?_ | refine uH ?_ _)); exact BK157.out)) : gb157 ≠ gb158)); have n6_ := Aside0.mk ((by rw [hg]; exact Nat.ne_of_gt (vG (g := gb157) (o := .cells #[.int .i64 a0_0, .int .i64 a0_1, .int .i64 a0_2, .int .i64 a0_3, .int .i64 a0_4, .int .i64 a0_5] 37 (0, 0)) (by (with_reducible repeat (first | refine uG ?_ _ | refine uI ?_ | refine uH ?_ _)); exact BK157.out)) : gb158 ≠ gb157)); clear BK157; clear HB; have BK157 := n0_; have HB := n1_; have BK158 := n2_; have GW158 := n3_; have GE158 := n4_; have NB157_158 := n5_; have NB158_157 := n6_; clear n0_ n1_ n2_ n3_ n4_ n5_ n6_; clear hb hbox hg; have hnb21 := NB157_158.out; have hnc21 := NB158_157.out; have hcz22_0 : w20.cell? ⟨gb157, 0, none⟩ = some (.int .i64 a0_0) := (uE BK157.out 0).trans rfl; have hcz22_1 : w20.cell? ⟨gb157, 1, none⟩ = some (.int .i64 a0_1) := (uE BK157.out 1).trans rfl; have hcz22_2 : w20.cell? ⟨gb157, 2, none⟩ = some (.int .i64 a0_2) := (uE BK157.out 2).trans rfl; have hcz22_3 : w20.cell? ⟨gb157, 3, none⟩ = some (.int .i64 a0_3) := (uE BK157.out 3).trans rfl; have hcz22_4 : w20.cell? ⟨gb157, 4, none⟩ = some (.int .i64 a0_4) := (uE BK157.out 4).trans rfl; have hcz22_5 : w20.cell? ⟨gb157, 5, none⟩ = some (.int .i64 a0_5) := (uE BK157.out 5).trans rfl; have hfz22_0 := uD BK157.out 0; have hfz22_1 := uD BK157.out 1; have hfz22_2 := uD BK157.out 2; have hfz22_3 := uD BK157.out 3; have hfz22_4 := uD BK157.out 4; have hfz22_5 := uD BK157.out 5; have hcz23_0 : w20.cell? ⟨gb158, 0, none⟩ = some (.int .i64 a1_0) := (uE BK158.out 0).trans rfl; have hcz23_1 : w20.cell? ⟨gb158, 1, none⟩ = some (.int .i64 a1_1) := (uE BK158.out 1).trans rfl; have hcz23_2 : w20.cell? ⟨gb158, 2, none⟩ = some (.int .i64 a1_2) := (uE BK158.out 2).trans rfl; have hcz23_3 : w20.cell? ⟨gb158, 3, none⟩ = some (.int .i64 a1_3) := (uE BK158.out 3).trans rfl; have hcz23_4 : w20.cell? ⟨gb158, 4, none⟩ = some (.int .i64 a1_4) := (uE BK158.out 4).trans rfl; have hcz23_5 : w20.cell? ⟨gb158, 5, none⟩ = some (.int .i64 a1_5) := (uE BK158.out 5).trans rfl; have hfz23_0 := uD BK158.out 0; have hfz23_1 := uD BK158.out 1; have hfz23_2 := uD BK158.out 2; have hfz23_3 := uD BK158.out 3; have hfz23_4 := uD BK158.out 4; have hfz23_5 := uD BK158.out 5))
    go_ret
    exact ⟨by first | rfl | (simp [errW_none, errW_some] <;> rfl) | (simp [*, errW_none, errW_some] <;> rfl), by repeat (first | (with_reducible first | exact HB.out | apply uC | apply uA | apply uB | refine uF ?_ GE157.out | refine uF ?_ GE158.out) | exact HB.out)⟩
  rw [if_pos c7] at H
  have c7b0 : (a0_4 == a1_4) = true := beq_iff_eq.mpr c7
  have c7b1 : (a0_4 != a1_4) = false := bne_eq_false_iff_eq.mpr c7
  clear c7
  by_cases c8 : a0_5 = a1_5
  rotate_left
  · rw [if_neg c8] at H
    have c8b0 : (a0_5 == a1_5) = false := beq_eq_false_iff_ne.mpr c8
    have c8b1 : (a0_5 != a1_5) = true := bne_iff_ne.mpr c8
    obtain rfl := Option.some.inj H
    go_enter Try.func87, Try.ntmps87
    go_wp2_with (first | ((with_reducible refine uS (N := 2) rfl ?_); refine uR ?hg (N := 2) ?hd (cs := #[.int .i64 a0_0, .int .i64 a0_1, .int .i64 a0_2, .int .i64 a0_3, .int .i64 a0_4, .int .i64 a0_5]) (t := 37) ?hr ?_; (case hd => rfl); (case hg => rfl); (case hr => first | (go_simp; done) | (go_simp; rfl)); intro gb157 hg w14 hbox hb; have n0_ := Aside0.mk (uP (by repeat (first | (with_reducible first | exact HB.out | apply uC | apply uA | apply uB) | exact HB.out)) hb); have n1_ := Aside0.mk (hbox); have n2_ := Aside0.mk ((by rw [hg]; exact (uK (by repeat (first | (with_reducible first | exact HB.out | apply uC | apply uA | apply uB) | exact HB.out))) : w.heap.size ≤ gb157)); have n3_ := Aside0.mk ((by rw [hg]; exact (uK (by repeat (first | (with_reducible first | exact HB.out | apply uC | apply uA | apply uB) | exact HB.out))) : w.heap.size ≤ gb157)); clear HB; have HB := n0_; have BK157 := n1_; have GW157 := n2_; have GE157 := n3_; clear n0_ n1_ n2_ n3_; clear hb hbox hg) | ((with_reducible refine uS (N := 3) rfl ?_); refine uR ?hg (N := 3) ?hd (cs := #[.int .i64 a1_0, .int .i64 a1_1, .int .i64 a1_2, .int .i64 a1_3, .int .i64 a1_4, .int .i64 a1_5]) (t := 37) ?hr ?_; (case hd => rfl); (case hg => rfl); (case hr => first | (go_simp; done) | (go_simp; rfl)); intro gb158 hg w15 hbox hb; have n0_ := Aside0.mk (uT (g := gb157) (o := .cells #[.int .i64 a0_0, .int .i64 a0_1, .int .i64 a0_2, .int .i64 a0_3, .int .i64 a0_4, .int .i64 a0_5] 37 (0, 0)) (by (with_reducible repeat (first | refine uG ?_ _ | refine uI ?_ | refine uH ?_ _)); exact BK157.out) hb); have n1_ := Aside0.mk (uP (by repeat (first | (with_reducible first | exact HB.out | apply uC | apply uA | apply uB | refine uF ?_ GE157.out) | exact HB.out)) hb); have n2_ := Aside0.mk (hbox); have n3_ := Aside0.mk ((by rw [hg]; exact (uK (by repeat (first | (with_reducible first | exact HB.out | apply uC | apply uA | apply uB | refine uF ?_ GE157.out) | exact HB.out))) : w.heap.size ≤ gb158)); have n4_ := Aside0.mk ((by rw [hg]; exact (uK (by repeat (first | (with_reducible first | exact HB.out | apply uC | apply uA | apply uB | refine uF ?_ GE157.out) | exact HB.out))) : w.heap.size ≤ gb158)); have n5_ := Aside0.mk ((by rw [hg]; exact Nat.ne_of_lt (vG (g := gb157) (o := .cells #[.int .i64 a0_0, .int .i64 a0_1, .int .i64 a0_2, .int .i64 a0_3, .int .i64 a0_4, .int .i64 a0_5] 37 (0, 0)) (by (with_reducible repeat (first | refine uG ?_ _ | refine uI ?_ | refine uH ?_ _)); exact BK157.out)) : gb157 ≠ gb158)); have n6_ := Aside0.mk ((by rw [hg]; exact Nat.ne_of_gt (vG (g := gb157) (o := .cells #[.int .i64 a0_0, .int .i64 a0_1, .int .i64 a0_2, .int .i64 a0_3, .int .i64 a0_4, .int .i64 a0_5] 37 (0, 0)) (by (with_reducible repeat (first | refine uG ?_ _ | refine uI ?_ | refine uH ?_ _)); exact BK157.out)) : gb158 ≠ gb157)); clear BK157; clear HB; have BK157 := n0_; have HB := n1_; have BK158 := n2_; have GW158 := n3_; have GE158 := n4_; have NB157_158 := n5_; have NB158_157 := n6_; clear n0_ n1_ n2_ n3_ n4_ n5_ n6_; clear hb hbox hg; have hnb16 := NB157_158.out; have hnc16 := NB158_157.out; have hcz17_0 : w15.cell? ⟨gb157, 0, none⟩ = some (.int .i64 a0_0) := (uE BK157.out 0).trans rfl; have hcz17_1 : w15.cell? ⟨gb157, 1, none⟩ = some (.int .i64 a0_1) := (uE BK157.out 1).trans rfl; have hcz17_2 : w15.cell? ⟨gb157, 2, none⟩ = some (.int .i64 a0_2) := (uE BK157.out 2).trans rfl; have hcz17_3 : w15.cell? ⟨gb157, 3, none⟩ = some (.int .i64 a0_3) := (uE BK157.out 3).trans rfl; have hcz17_4 : w15.cell? ⟨gb157, 4, none⟩ = some (.int .i64 a0_4) := (uE BK157.out 4).trans rfl; have hcz17_5 : w15.cell? ⟨gb157, 5, none⟩ = some (.int .i64 a0_5) := (uE BK157.out 5).trans rfl; have hfz17_0 := uD BK157.out 0; have hfz17_1 := uD BK157.out 1; have hfz17_2 := uD BK157.out 2; have hfz17_3 := uD BK157.out 3; have hfz17_4 := uD BK157.out 4; have hfz17_5 := uD BK157.out 5; have hcz18_0 : w15.cell? ⟨gb158, 0, none⟩ = some (.int .i64 a1_0) := (uE BK158.out 0).trans rfl; have hcz18_1 : w15.cell? ⟨gb158, 1, none⟩ = some (.int .i64 a1_1) := (uE BK158.out 1).trans rfl; have hcz18_2 : w15.cell? ⟨gb158, 2, none⟩ = some (.int .i64 a1_2) := (uE BK158.out 2).trans rfl; have hcz18_3 : w15.cell? ⟨gb158, 3, none⟩ = some (.int .i64 a1_3) := (uE BK158.out 3).trans rfl; have hcz18_4 : w15.cell? ⟨gb158, 4, none⟩ = some (.int .i64 a1_4) := (uE BK158.out 4).trans rfl; have hcz18_5 : w15.cell? ⟨gb158, 5, none⟩ = some (.int .i64 a1_5) := (uE BK158.out 5).trans rfl; have hfz18_0 := uD BK158.out 0; have hfz18_1 := uD BK158.out 1; have hfz18_2 := uD BK158.out 2; have hfz18_3 := uD BK158.out 3; have hfz18_4 := uD BK158.out 4; have hfz18_5 := uD BK158.out 5))
    go_ret
    exact ⟨by first | rfl | (simp [errW_none, errW_some] <;> rfl) | (simp [*, errW_none, errW_some] <;> rfl), by repeat (first | (with_reducible first | exact HB.out | apply uC | apply uA | apply uB | refine uF ?_ GE157.out | refine uF ?_ GE158.out) | exact HB.out)⟩
  rw [if_pos c8] at H
  have c8b0 : (a0_5 == a1_5) = true := beq_iff_eq.mpr c8
  have c8b1 : (a0_5 != a1_5) = false := bne_eq_false_iff_eq.mpr c8
  clear c8
  obtain rfl := Option.some.inj H
  go_enter Try.func87, Try.ntmps87
  go_wp2_with (first | ((with_reducible refine uS (N := 2) rfl ?_); refine uR ?hg (N := 2) ?hd (cs := #[.int .i64 a0_0, .int .i64 a0_1, .int .i64 a0_2, .int .i64 a0_3, .int .i64 a0_4, .int .i64 a0_5]) (t := 37) ?hr ?_; (case hd => rfl); (case hg => rfl); (case hr => first | (go_simp; done) | (go_simp; rfl)); intro gb157 hg w9 hbox hb; have n0_ := Aside0.mk (uP (by repeat (first | (with_reducible first | exact HB.out | apply uC | apply uA | apply uB) | exact HB.out)) hb); have n1_ := Aside0.mk (hbox); have n2_ := Aside0.mk ((by rw [hg]; exact (uK (by repeat (first | (with_reducible first | exact HB.out | apply uC | apply uA | apply uB) | exact HB.out))) : w.heap.size ≤ gb157)); have n3_ := Aside0.mk ((by rw [hg]; exact (uK (by repeat (first | (with_reducible first | exact HB.out | apply uC | apply uA | apply uB) | exact HB.out))) : w.heap.size ≤ gb157)); clear HB; have HB := n0_; have BK157 := n1_; have GW157 := n2_; have GE157 := n3_; clear n0_ n1_ n2_ n3_; clear hb hbox hg) | ((with_reducible refine uS (N := 3) rfl ?_); refine uR ?hg (N := 3) ?hd (cs := #[.int .i64 a1_0, .int .i64 a1_1, .int .i64 a1_2, .int .i64 a1_3, .int .i64 a1_4, .int .i64 a1_5]) (t := 37) ?hr ?_; (case hd => rfl); (case hg => rfl); (case hr => first | (go_simp; done) | (go_simp; rfl)); intro gb158 hg w10 hbox hb; have n0_ := Aside0.mk (uT (g := gb157) (o := .cells #[.int .i64 a0_0, .int .i64 a0_1, .int .i64 a0_2, .int .i64 a0_3, .int .i64 a0_4, .int .i64 a0_5] 37 (0, 0)) (by (with_reducible repeat (first | refine uG ?_ _ | refine uI ?_ | refine uH ?_ _)); exact BK157.out) hb); have n1_ := Aside0.mk (uP (by repeat (first | (with_reducible first | exact HB.out | apply uC | apply uA | apply uB | refine uF ?_ GE157.out) | exact HB.out)) hb); have n2_ := Aside0.mk (hbox); have n3_ := Aside0.mk ((by rw [hg]; exact (uK (by repeat (first | (with_reducible first | exact HB.out | apply uC | apply uA | apply uB | refine uF ?_ GE157.out) | exact HB.out))) : w.heap.size ≤ gb158)); have n4_ := Aside0.mk ((by rw [hg]; exact (uK (by repeat (first | (with_reducible first | exact HB.out | apply uC | apply uA | apply uB | refine uF ?_ GE157.out) | exact HB.out))) : w.heap.size ≤ gb158)); have n5_ := Aside0.mk ((by rw [hg]; exact Nat.ne_of_lt (vG (g := gb157) (o := .cells #[.int .i64 a0_0, .int .i64 a0_1, .int .i64 a0_2, .int .i64 a0_3, .int .i64 a0_4, .int .i64 a0_5] 37 (0, 0)) (by (with_reducible repeat (first | refine uG ?_ _ | refine uI ?_ | refine uH ?_ _)); exact BK157.out)) : gb157 ≠ gb158)); have n6_ := Aside0.mk ((by rw [hg]; exact Nat.ne_of_gt (vG (g := gb157) (o := .cells #[.int .i64 a0_0, .int .i64 a0_1, .int .i64 a0_2, .int .i64 a0_3, .int .i64 a0_4, .int .i64 a0_5] 37 (0, 0)) (by (with_reducible repeat (first | refine uG ?_ _ | refine uI ?_ | refine uH ?_ _)); exact BK157.out)) : gb158 ≠ gb157)); clear BK157; clear HB; have BK157 := n0_; have HB := n1_; have BK158 := n2_; have GW158 := n3_; have GE158 := n4_; have NB157_158 := n5_; have NB158_157 := n6_; clear n0_ n1_ n2_ n3_ n4_ n5_ n6_; clear hb hbox hg; have hnb11 := NB157_158.out; have hnc11 := NB158_157.out; have hcz12_0 : w10.cell? ⟨gb157, 0, none⟩ = some (.int .i64 a0_0) := (uE BK157.out 0).trans rfl; have hcz12_1 : w10.cell? ⟨gb157, 1, none⟩ = some (.int .i64 a0_1) := (uE BK157.out 1).trans rfl; have hcz12_2 : w10.cell? ⟨gb157, 2, none⟩ = some (.int .i64 a0_2) := (uE BK157.out 2).trans rfl; have hcz12_3 : w10.cell? ⟨gb157, 3, none⟩ = some (.int .i64 a0_3) := (uE BK157.out 3).trans rfl; have hcz12_4 : w10.cell? ⟨gb157, 4, none⟩ = some (.int .i64 a0_4) := (uE BK157.out 4).trans rfl; have hcz12_5 : w10.cell? ⟨gb157, 5, none⟩ = some (.int .i64 a0_5) := (uE BK157.out 5).trans rfl; have hfz12_0 := uD BK157.out 0; have hfz12_1 := uD BK157.out 1; have hfz12_2 := uD BK157.out 2; have hfz12_3 := uD BK157.out 3; have hfz12_4 := uD BK157.out 4; have hfz12_5 := uD BK157.out 5; have hcz13_0 : w10.cell? ⟨gb158, 0, none⟩ = some (.int .i64 a1_0) := (uE BK158.out 0).trans rfl; have hcz13_1 : w10.cell? ⟨gb158, 1, none⟩ = some (.int .i64 a1_1) := (uE BK158.out 1).trans rfl; have hcz13_2 : w10.cell? ⟨gb158, 2, none⟩ = some (.int .i64 a1_2) := (uE BK158.out 2).trans rfl; have hcz13_3 : w10.cell? ⟨gb158, 3, none⟩ = some (.int .i64 a1_3) := (uE BK158.out 3).trans rfl; have hcz13_4 : w10.cell? ⟨gb158, 4, none⟩ = some (.int .i64 a1_4) := (uE BK158.out 4).trans rfl; have hcz13_5 : w10.cell? ⟨gb158, 5, none⟩ = some (.int .i64 a1_5) := (uE BK158.out 5).trans rfl; have hfz13_0 := uD BK158.out 0; have hfz13_1 := uD BK158.out 1; have hfz13_2 := uD BK158.out 2; have hfz13_3 := uD BK158.out 3; have hfz13_4 := uD BK158.out 4; have hfz13_5 := uD BK158.out 5))
  go_ret
  exact ⟨by first | rfl | (simp [errW_none, errW_some] <;> rfl) | (simp [*, errW_none, errW_some] <;> rfl), by repeat (first | (with_reducible first | exact HB.out | apply uC | apply uA | apply uB | refine uF ?_ GE157.out | refine uF ?_ GE158.out) | exact HB.out)⟩

end Go.Proofs.Ytcikahnmiiichaa.R
