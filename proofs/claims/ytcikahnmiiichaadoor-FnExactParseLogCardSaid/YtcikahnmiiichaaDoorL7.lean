/- Go functions as Lean functions, and the proof that the code comes to them: written by a program of this session out of the translation. -/
import Derived.Test.YtcikahnmiiichaaDoorL0
import Derived.Test.YtcikahnmiiichaaDoorL4
import Derived.Test.YtcikahnmiiichaaDoorL5
import Derived.Test.YtcikahnmiiichaaDoorL6
namespace Go.Proofs.YtcikahnmiiichaaDoor.L
open List renaming setIfInBounds_toArray → vD, set_cons_zero → vE, set_cons_succ → vF
open Go.World renaming block_lt_of_cell? → vJ
open Go.Proofs.YtcikahnmiiichaaDoor.Given
open Go.RowKit Go.Proofs.YtcikahnmiiichaaDoorW.PrintWords Go.Proofs.YtcikahnmiiichaaDoorW.PrintLast Go.Proofs.YtcikahnmiiichaaDoorW.PrintMore
attribute [local go_sem] max2_int min2_int max_two min_two max_three min_three max_four min_four   -- for this text's walks alone
set_option linter.unusedVariables false
set_option linter.unusedSimpArgs false

/-! ### spec_ParseLog: function 32 -/
mutual
def spec_ParseLog.l0 : Nat → ByteArray → List (S66) → List ByteArray → Int → Option ((List (S66)) × Bool)
  | 0, _, _, _, _ => none
  | k + 1, x0, x4, x5, x6 => if x6 < (x5.length : Int) then (spec_ParseLog.j1 k x0 x4 x5 x6 (decide (x6 ≤ 16))) else (spec_ParseLog.j1 k x0 x4 x5 x6 false)
def spec_ParseLog.j1 : Nat → ByteArray → List (S66) → List ByteArray → Int → Bool → Option ((List (S66)) × Bool)
  | 0, _, _, _, _, _ => none
  | k + 1, x0, x4, x5, x6, x23 => if x23 = true then (if 0 ≤ x6 then (if x6 < (x5.length : Int) then ((spec_l2Cut.f k (rdOf ByteArray.empty x5 x6) 58).bind fun t172 => (if 0 ≤ (wrap64 ((t172.length : Int) - 1)) then (if (wrap64 ((t172.length : Int) - 1)) < (t172.length : Int) then ((spec_ParseOp.f k (rdOf ByteArray.empty t172 (wrap64 ((t172.length : Int) - 1)))).bind fun bt176 => (if 0 < (t172.length : Int) then ((spec_l3Num.f k (rdOf ByteArray.empty t172 0)).bind fun t185 => (if x4.length < 2513169434916 then (spec_ParseLog.l0 k x0 (x4 ++ [(⟨t185, (⟨bt176.1, bt176.2.1, bt176.2.2.1, bt176.2.2.2.1, bt176.2.2.2.2.1, bt176.2.2.2.2.2.1⟩ : S64)⟩ : S66)]) x5 (wrap64 (x6 + 1))) else (none))) else (none))) else (none)) else (none))) else (none)) else (none)) else (if x0.toList = ([] : List UInt8) then (some ((([] : List (S66))), false)) else ((spec_FormatLog.f k x4).bind fun t192 => (if t192.toList = x0.toList then (some (x4, true)) else (some ((([] : List (S66))), false)))))
end
def spec_ParseLog.f (k : Nat) (a0 : ByteArray) : Option ((List (S66)) × Bool) := (some (([] : List (S66)) : List (S66))).bind fun y165 => (if a0.toList = ([110, 111, 110, 101] : List UInt8) then (some (y165, true)) else ((spec_l2Cut.f k a0 59).bind fun t168 => (spec_ParseLog.l0 k a0 y165 t168 0)))
theorem spec_ParseLog.mono_l : ∀ k, (∀ y0 y1 y2 y3, uE (spec_ParseLog.l0 k y0 y1 y2 y3) (spec_ParseLog.l0 (k + 1) y0 y1 y2 y3)) ∧ (∀ y0 y1 y2 y3 y4, uE (spec_ParseLog.j1 k y0 y1 y2 y3 y4) (spec_ParseLog.j1 (k + 1) y0 y1 y2 y3 y4))
  | 0 => ⟨fun _ _ _ _ r h => by simp [spec_ParseLog.l0] at h, fun _ _ _ _ _ r h => by simp [spec_ParseLog.j1] at h⟩
  | k + 1 => by
    obtain ⟨ih0, ih1⟩ := spec_ParseLog.mono_l k
    refine ⟨?_, ?_⟩
    · intro y0 y1 y2 y3
      unfold spec_ParseLog.l0
      repeat' first
      | (with_reducible exact ih0 _ _ _ _)
      | (with_reducible exact ih1 _ _ _ _ _)
      | (with_reducible exact spec_FormatLog.mono _ _)
      | (with_reducible exact spec_ParseOp.mono _ _)
      | (with_reducible exact spec_l2Cut.mono _ _ _)
      | (with_reducible exact spec_l3Num.mono _ _)
      | (with_reducible exact uE.refl _)
      | (with_reducible exact uE.none _)
      | (with_reducible refine uE.ite ?_ ?_)
      | (with_reducible refine uE.bind ?_ (fun _ => ?_))
      | exact ih0 _ _ _ _
      | exact ih1 _ _ _ _ _
      | exact uE.none _
      | refine uE.ite ?_ ?_
      | refine uE.bind ?_ (fun _ => ?_)
    intro y0 y1 y2 y3 y4
    unfold spec_ParseLog.j1
    repeat' first
    | (with_reducible exact ih0 _ _ _ _)
    | (with_reducible exact ih1 _ _ _ _ _)
    | (with_reducible exact spec_FormatLog.mono _ _)
    | (with_reducible exact spec_ParseOp.mono _ _)
    | (with_reducible exact spec_l2Cut.mono _ _ _)
    | (with_reducible exact spec_l3Num.mono _ _)
    | (with_reducible exact uE.refl _)
    | (with_reducible exact uE.none _)
    | (with_reducible refine uE.ite ?_ ?_)
    | (with_reducible refine uE.bind ?_ (fun _ => ?_))
    | exact ih0 _ _ _ _
    | exact ih1 _ _ _ _ _
    | exact uE.none _
    | refine uE.ite ?_ ?_
    | refine uE.bind ?_ (fun _ => ?_)
theorem spec_ParseLog.mono : ∀ a0 k, uE (spec_ParseLog.f k a0) (spec_ParseLog.f (k + 1) a0) := by
  intro a0 k
  obtain ⟨ih0, ih1⟩ := spec_ParseLog.mono_l k
  unfold spec_ParseLog.f
  repeat' first
      | (with_reducible exact ih0 _ _ _ _)
      | (with_reducible exact ih1 _ _ _ _ _)
      | (with_reducible exact spec_FormatLog.mono _ _)
      | (with_reducible exact spec_ParseOp.mono _ _)
      | (with_reducible exact spec_l2Cut.mono _ _ _)
      | (with_reducible exact spec_l3Num.mono _ _)
      | (with_reducible exact uE.refl _)
      | (with_reducible exact uE.none _)
      | (with_reducible refine uE.ite ?_ ?_)
      | (with_reducible refine uE.bind ?_ (fun _ => ?_))
      | exact ih0 _ _ _ _
      | exact ih1 _ _ _ _ _
      | exact uE.none _
      | refine uE.ite ?_ ?_
      | refine uE.bind ?_ (fun _ => ?_)
def spec_ParseLog.T10 : Bool × List (List Nat × List Nat) := (true, [([], []), ([], []), ([1], [1]), ([2], [2]), ([3], [3]), ([], []), ([4, 5], [4, 5]), ([6], [6]), ([0, 7, 4], [0, 7]), ([8, 8, 0, 1, 2, 3, 4, 5, 6, 7, 8], [0, 8])])
def spec_ParseLog.B10 : List Nat := [0, 0, 2, 6, 14, 0, 62, 126, 255, 511]
theorem spec_ParseLog.tab10 : rtab .any (opsOf Tryd.f32 10) = spec_ParseLog.T10 := by kernel_rfl
theorem spec_ParseLog.bits10 : waitsOk spec_ParseLog.T10.2 spec_ParseLog.B10 = true := by kernel_rfl
set_option maxHeartbeats 8000000 in
set_option maxRecDepth 100000 in
theorem spec_ParseLog.calls (k : Nat) (a0 : ByteArray) (r1 : List (S66)) (r2 : Bool) (w : World) (h : spec_ParseLog.f k a0 = some (r1, r2)) :
    Calls Tryd.prog 32 #[.string a0] w fun e w' => ∃ v0_ : Value, e = .returned (.tuple #[v0_, .bool r2]) ∧ Kd.R k66 66 w' w.heap.size (fun _ => True) v0_ r1 ∧ Below w.heap.size w w' := by
  have hu64 := Tryd.underlying64
  have hu66 := Tryd.underlying66
  have HB := Aside0.mk (Below.refl w.heap.size w)
  have H : ((some (([] : List (S66)) : List (S66))).bind fun y165 => (if a0.toList = ([110, 111, 110, 101] : List UInt8) then (some (y165, true)) else ((spec_l2Cut.f k a0 59).bind fun t168 => (spec_ParseLog.l0 k a0 y165 t168 0)))) = some (r1, r2) := h
  clear h
  obtain ⟨y165, hy165⟩ : ∃ y_ : List (S66), y_ = (([] : List (S66))) := ⟨_, rfl⟩
  replace H : (if a0.toList = ([110, 111, 110, 101] : List UInt8) then (some (y165, true)) else ((spec_l2Cut.f k a0 59).bind fun t168 => (spec_ParseLog.l0 k a0 y165 t168 0))) = some (r1, r2) := rpl hy165 H
  have Ny165 := Aside0.mk hy165
  clear hy165
  go_enter Tryd.func32, Tryd.ntmps32
  go_wp2_with (first | ((with_reducible refine gate_dst (N := 10) rfl ?_); refine Kd.R_lit k66 _ 66 ?hg (N := 10) ?hd (xs := ([] : List (S66))) (inner := []) (ok := fun _ => True) (okp := fun _ => True) ?hr ?hp (fun _ hk => hk) trivial (Below.refl _ _) (Nat.le_refl _) (by simp) ?_; (case hd => rfl); (case hg => rfl); (case hr => first | (go_simp; done) | (go_simp; rfl)); (case hp => exact (Reps.none _ _)); intro v166 w3 ho4 hb hg_ hnew_; clear hg_ hnew_; (first | rw [← Ny165.out] at ho4 | (simp only [Int.reduceToNat] at ho4; rw [← Ny165.out] at ho4)); have HO167 := Aside0.mk (Kd.R_lower ho4 (vA cq1)); replace HB := uR HB hb; clear hb ho4; refine ?roundEnd))
  case roundEnd =>
  by_cases c2 : a0.toList = ([110, 111, 110, 101] : List UInt8)
  · rw [if_pos c2] at H
    have c2b0 : (a0.toList == ([110, 111, 110, 101] : List UInt8)) = true := beq_iff_eq.mpr c2
    have c2b1 : (a0.toList != ([110, 111, 110, 101] : List UInt8)) = false := bne_eq_false_iff_eq.mpr c2
    clear c2
    simp only [Option.some.injEq, Prod.mk.injEq] at H
    obtain ⟨rfl, rfl⟩ := H
    go_wp2
    go_ret2
    exact ⟨_, cq3, by (with_reducible repeat (first | apply Kd.uV | apply Kd.uU | apply Kd.uT)); exact HO167.out, cq1⟩
  rw [if_neg c2] at H
  have c2b0 : (a0.toList == ([110, 111, 110, 101] : List UInt8)) = false := beq_eq_false_iff_ne.mpr c2
  have c2b1 : (a0.toList != ([110, 111, 110, 101] : List UInt8)) = true := bne_iff_ne.mpr c2
  replace H := Option.bind_eq_some_iff.mp H
  obtain ⟨t168, A50, H⟩ := H
  try dsimp only at H
  have A5 := Aside0.mk A50
  clear A50
  have H' := Aside0.mk H
  clear H
  go_wp2_with (first | ((with_reducible refine uM (f := 66) rfl ?_); refine uY (some 15) Tryd.func66 #[.string a0, .int .u8 59] ?_; (with_reducible refine (spec_l2Cut.calls k a0 59 t168 _ A5.out).mono ?_); rintro e w8 ⟨v169, rfl, ho0, hb⟩; refine ⟨_, rfl, ?_⟩; have HO170 := Aside0.mk (Kd.R_lower ho0 (vA cq1)); replace HO167 := Kd.tR HO167 hb; replace HB := uR HB hb; (try clear hb); (try clear ho0)))
  go_loopg [4, 6] k (fun kq v4 v6 w' => ∃ (x4_1 : List (S66)) (x6_1 : Int), v6 = .int .i64 x6_1 ∧ Aside0 (spec_ParseLog.l0 kq a0 x4_1 t168 x6_1 = some (r1, r2)) ∧ Aside0 (kq ≤ k) ∧ Aside0 (Kd.R k66 66 w' w.heap.size (fun _ => True) v4 x4_1) ∧ Aside0 (Kd.R Kd.string 9 w' w.heap.size (fun _ => True) v169 t168) ∧ Aside0 (Below w.heap.size w w'))
  case atStart => exact ⟨(y165), (0), cq6, H', ⟨Nat.le_refl _⟩, ⟨by (with_reducible repeat (first | apply Kd.uV | apply Kd.uU | apply Kd.uT)); exact HO167.out⟩, ⟨by (with_reducible repeat (first | apply Kd.uV | apply Kd.uU | apply Kd.uT)); exact HO170.out⟩, ⟨cq1⟩⟩
  case round =>
    clear H'
    try clear c2
    try clear c2b0
    try clear c2b1
    obtain ⟨x4_1, x6_1, rfl, HA, HK1, HO_4, HO_5, HB⟩ := hrel
    cases gk with
    | zero => exact absurd HA.out (by simp [spec_ParseLog.l0])
    | succ k1 =>
      have H := HA.out
      clear HA
      simp only [spec_ParseLog.l0] at H
      have HC9 := Aside0.mk H
      clear H
      go_upto_region 6 with (fail)
      go_cut [23] (fun v23 wc => ∃ (kq : Nat) (x23_8 : Bool), v23 = .bool x23_8 ∧ Aside0 (spec_ParseLog.j1 kq a0 x4_1 t168 x6_1 x23_8 = some (r1, r2)) ∧ Aside0 (kq ≤ k1) ∧ Aside0 (Kd.R k66 66 wc w.heap.size (fun _ => True) u4 x4_1) ∧ Aside0 (Kd.R Kd.string 9 wc w.heap.size (fun _ => True) v169 t168) ∧ Aside0 (Below w.heap.size w wc))
      case first =>
        have H := HC9.out
        clear HC9
        by_cases c10 : x6_1 < (t168.length : Int)
        rotate_left
        · rw [if_neg c10] at H
          have c10b0 := decide_eq_false c10
          clear c10
          (first | rw [c10b0] | (simp only [uI, uO]; rw [c10b0]) | skip)
          have H' := Aside0.mk H
          clear H
          obtain ⟨Ao12, co12, eo12⟩ := Kd.R_slice HO_5.out
          subst eo12
          go_wp2
          go_meet
          case rel => exact ⟨_, (false), cq6, H', ⟨by have := HK1.out; first | omega | exact Nat.le_refl _⟩, ⟨cq39⟩, ⟨cq53⟩, ⟨cq1⟩⟩
        rw [if_pos c10] at H
        have c10b0 := decide_eq_true c10
        clear c10
        (first | rw [c10b0] | (simp only [uI, uO]; rw [c10b0]) | skip)
        have H' := Aside0.mk H
        clear H
        obtain ⟨Ao11, co11, eo11⟩ := Kd.R_slice HO_5.out
        subst eo11
        go_wp2
        go_meet
        case rel => exact ⟨_, (decide (x6_1 ≤ 16)), cq6, H', ⟨by have := HK1.out; first | omega | exact Nat.le_refl _⟩, ⟨cq39⟩, ⟨cq53⟩, ⟨cq1⟩⟩
      case rest =>
        clear HC9
        try clear c2
        try clear c2b0
        try clear c2b1
        obtain ⟨kq, x23_8, rfl, HA, HJ8, HO_4, HO_5, HB⟩ := hcut
        cases kq with
        | zero => exact absurd HA.out (by simp [spec_ParseLog.j1])
        | succ kj8 =>
          have H := HA.out
          clear HA
          simp only [spec_ParseLog.j1] at H
          by_cases c13 : x23_8 = true
          rotate_left
          · replace c13 := Bool.eq_false_iff.mpr c13
            subst c13
            try rw [if_neg (show ¬ (false = true) by decide)] at H
            by_cases c34 : a0.toList = ([] : List UInt8)
            · rw [if_pos c34] at H
              have c34b0 : (a0.toList == ([] : List UInt8)) = true := beq_iff_eq.mpr c34
              have c34b1 : (a0.toList != ([] : List UInt8)) = false := bne_eq_false_iff_eq.mpr c34
              clear c34
              obtain ⟨y189, hy189⟩ : ∃ y_ : List (S66), y_ = (([] : List (S66))) := ⟨_, rfl⟩
              replace H : (some (y189, false)) = some (r1, r2) := rpl hy189 H
              have Ny189 := Aside0.mk hy189
              clear hy189
              simp only [Option.some.injEq, Prod.mk.injEq] at H
              obtain ⟨rfl, rfl⟩ := H
              go_wp2_with (first | ((with_reducible refine gate_dst (N := 58) rfl ?_); refine Kd.R_lit k66 _ 66 ?hg (N := 58) ?hd (xs := ([] : List (S66))) (inner := []) (ok := fun _ => True) (okp := fun _ => True) ?hr ?hp (fun _ hk => hk) trivial (Below.refl _ _) (Nat.le_refl _) (by simp) ?_; (case hd => rfl); (case hg => rfl); (case hr => first | (go_simp; done) | (go_simp; rfl)); (case hp => exact (Reps.none _ _)); intro v190 w35 ho36 hb hg_ hnew_; clear hg_ hnew_; (first | rw [← Ny189.out] at ho36 | (simp only [Int.reduceToNat] at ho36; rw [← Ny189.out] at ho36)); have HO191 := Aside0.mk (Kd.R_lower (Kd.R_new' ho36 (Kd.R_lt (rSR HO_4.out))) (vA cq1)); replace HO_4 := Aside0.mk (Kd.R_elder' (rSR HO_4.out) (Kd.R_base ho36) hb); replace HO_5 := Kd.tR HO_5 hb; replace HB := uR HB hb; clear hb ho36))
              go_ret2
              exact ⟨_, cq3, by (with_reducible repeat (first | apply Kd.uV | apply Kd.uU | apply Kd.uT)); exact Kd.R_mono HO191.out (fun _ hk => trivial), cq1⟩
            rw [if_neg c34] at H
            have c34b0 : (a0.toList == ([] : List UInt8)) = false := beq_eq_false_iff_ne.mpr c34
            have c34b1 : (a0.toList != ([] : List UInt8)) = true := bne_iff_ne.mpr c34
            replace H := Option.bind_eq_some_iff.mp H
            obtain ⟨t192, A370, H⟩ := H
            try dsimp only at H
            have A37 := Aside0.mk A370
            clear A370
            obtain ⟨Ao39, co39, eo39⟩ := Kd.R_slice HO_4.out
            subst eo39
            go_wp2_with (first | (go_at_call 47; (with_reducible refine (spec_FormatLog.calls kj8 _ _ x4_1 t192 _ ?side1 ?side2 A37.out).mono ?_); (case side1 => repeat (first | exact (Kd.uQ HO_4.out).2.2 | (with_reducible refine Kd.C_alloc ?_ _) | (with_reducible refine Kd.C_drewN ?_ _) | (with_reducible refine Kd.C_drew ?_))); (case side2 => exact (Kd.uQ HO_4.out).2.1); rintro e w40 ⟨rfl, hb⟩; replace HO_4 := Kd.tR HO_4 hb; replace HO_5 := Kd.tR HO_5 hb; replace HB := uR HB hb; (try clear hb); refine ?roundEnd))
            case roundEnd =>
            by_cases c38 : t192.toList = a0.toList
            · rw [if_pos c38] at H
              have c38b0 : (t192.toList == a0.toList) = true := beq_iff_eq.mpr c38
              have c38b1 : (t192.toList != a0.toList) = false := bne_eq_false_iff_eq.mpr c38
              clear c38
              simp only [Option.some.injEq, Prod.mk.injEq] at H
              obtain ⟨rfl, rfl⟩ := H
              go_wp2
              go_ret2
              exact ⟨_, cq3, cq39, cq1⟩
            rw [if_neg c38] at H
            have c38b0 : (t192.toList == a0.toList) = false := beq_eq_false_iff_ne.mpr c38
            have c38b1 : (t192.toList != a0.toList) = true := bne_iff_ne.mpr c38
            obtain ⟨y193, hy193⟩ : ∃ y_ : List (S66), y_ = (([] : List (S66))) := ⟨_, rfl⟩
            replace H : (some (y193, false)) = some (r1, r2) := rpl hy193 H
            have Ny193 := Aside0.mk hy193
            clear hy193
            simp only [Option.some.injEq, Prod.mk.injEq] at H
            obtain ⟨rfl, rfl⟩ := H
            go_wp2_with (first | ((with_reducible refine gate_dst (N := 58) rfl ?_); refine Kd.R_lit k66 _ 66 ?hg (N := 58) ?hd (xs := ([] : List (S66))) (inner := []) (ok := fun _ => True) (okp := fun _ => True) ?hr ?hp (fun _ hk => hk) trivial (Below.refl _ _) (Nat.le_refl _) (by simp) ?_; (case hd => rfl); (case hg => rfl); (case hr => first | (go_simp; done) | (go_simp; rfl)); (case hp => exact (Reps.none _ _)); intro v194 w43 ho44 hb hg_ hnew_; clear hg_ hnew_; (first | rw [← Ny193.out] at ho44 | (simp only [Int.reduceToNat] at ho44; rw [← Ny193.out] at ho44)); have HO195 := Aside0.mk (Kd.R_lower (Kd.R_new' ho44 (Kd.R_lt (rSR HO_4.out))) (vA cq1)); replace HO_4 := Aside0.mk (Kd.R_elder' (rSR HO_4.out) (Kd.R_base ho44) hb); replace HO_5 := Kd.tR HO_5 hb; replace HB := uR HB hb; clear hb ho44))
            go_ret2
            exact ⟨_, cq3, by (with_reducible repeat (first | apply Kd.uV | apply Kd.uU | apply Kd.uT)); exact Kd.R_mono HO195.out (fun _ hk => trivial), cq1⟩
          subst c13
          try rw [if_pos rfl] at H
          obtain ⟨c14b0, H⟩ := ifD H
          obtain ⟨c15b0, H⟩ := ifD H
          replace H := Option.bind_eq_some_iff.mp H
          obtain ⟨t172, A160, H⟩ := H
          try dsimp only at H
          have A16 := Aside0.mk A160
          clear A160
          obtain ⟨ji17, hji17⟩ : ∃ j_ : Int, (wrap64 ((t172.length : Int) - 1)) = j_ := ⟨_, rfl⟩
          replace H : (if 0 ≤ (ji17) then (if (ji17) < (t172.length : Int) then ((spec_ParseOp.f kj8 (rdOf ByteArray.empty t172 (ji17))).bind fun bt176 => (if 0 < (t172.length : Int) then ((spec_l3Num.f kj8 (rdOf ByteArray.empty t172 0)).bind fun t185 => (if x4_1.length < 2513169434916 then (spec_ParseLog.l0 kj8 a0 (x4_1 ++ [(⟨t185, (⟨bt176.1, bt176.2.1, bt176.2.2.1, bt176.2.2.2.1, bt176.2.2.2.2.1, bt176.2.2.2.2.2.1⟩ : S64)⟩ : S66)]) t168 (wrap64 (x6_1 + 1))) else (none))) else (none))) else (none)) else (none)) = some (r1, r2) := by first | (rw [hji17] at H; exact H) | (simp only [hji17] at H ⊢; exact H) | rfl
          (try rw [hji17] at A16)
          have hji17w : (IntKind.i64.wrap ((t172.length : Int) - 1)) = ji17 := (uI _).trans hji17
          obtain ⟨c18b0, H⟩ := ifD H
          obtain ⟨c19b0, H⟩ := ifD H
          replace H := Option.bind_eq_some_iff.mp H
          obtain ⟨⟨t176, t177, t178, t179, t180, t181, t182⟩, A200, H⟩ := H
          try dsimp only at H
          have A20 := Aside0.mk A200
          clear A200
          by_cases c21 : 0 < (t172.length : Int)
          rotate_left
          · rw [if_neg c21] at H
            exact absurd H (by simp)
          rw [if_pos c21] at H
          have c21b0 := decide_eq_true c21
          have c21b1 : decide (0 < t172.length) = true := decide_eq_true (by omega)
          clear c21
          replace H := Option.bind_eq_some_iff.mp H
          obtain ⟨t185, A220, H⟩ := H
          try dsimp only at H
          have A22 := Aside0.mk A220
          clear A220
          obtain ⟨LMc23, H⟩ := ifL H
          obtain ⟨y186, hy186⟩ : ∃ y_ : List (S66), y_ = (x4_1 ++ [(⟨t185, (⟨t176, t177, t178, t179, t180, t181⟩ : S64)⟩ : S66)]) := ⟨_, rfl⟩
          replace H : (spec_ParseLog.l0 kj8 a0 y186 t168 (wrap64 (x6_1 + 1))) = some (r1, r2) := rpl hy186 H
          have Ny186 := Aside0.mk hy186
          clear hy186
          have H' := Aside0.mk H
          clear H
          obtain ⟨Ao24, co24, eo24⟩ := Kd.R_slice HO_5.out
          subst eo24
          have p171 : 0 ≤ (x6_1 : Int) := of_decide_eq_true uL
          have q171 : x6_1 < (t168.length : Int) := of_decide_eq_true uL
          obtain ⟨ad171, e171, hx171_0⟩ := Kd.at_string (Kd.uQ HO_5.out).2.2 x6_1 p171 q171
          cases e171
          replace p171 := eq_true p171
          replace q171 := eq_true q171
          try go_wp2_with (first | ((with_reducible refine uM (f := 66) rfl ?_); refine uY (some 30) Tryd.func66 #[.string (rdOf ByteArray.empty t168 x6_1), .int .u8 58] ?_; (with_reducible refine (spec_l2Cut.calls kj8 (rdOf ByteArray.empty t168 x6_1) 58 t172 _ A16.out).mono ?_); rintro e w25 ⟨v173, rfl, ho0, hb⟩; refine ⟨_, rfl, ?_⟩; have HO174 := Aside0.mk (Kd.R_lower (Kd.R_new' ho0 (Kd.R_lt (rSR HO_5.out))) (vA cq1)); replace HO_4 := Kd.tR HO_4 hb; replace HO_5 := Aside0.mk (Kd.R_elder' (rSR HO_5.out) (Kd.R_base ho0) hb); replace HB := uR HB hb; (try clear hb); (try clear ho0); obtain ⟨Ao26, co26, eo26⟩ := Kd.R_slice HO174.out; subst eo26; have p175 : 0 ≤ ((ji17) : Int) := of_decide_eq_true uL; have q175 : (ji17) < (t172.length : Int) := of_decide_eq_true uL; obtain ⟨ad175, e175, hx175_0⟩ := Kd.at_string (Kd.uQ HO174.out).2.2 (ji17) p175 q175; cases e175; replace p175 := eq_true p175; replace q175 := eq_true q175) | ((with_reducible refine uM (f := 67) rfl ?_); refine goesL_ (some 38) rfl rfl Tryd.func67 (by kernel_rfl) rfl #[.string (rdOf ByteArray.empty t172 (ji17))] rfl (by (try simp only [List.map_toArray, List.map_cons, List.map_nil]); first | done | (simp only [hji17]; rfl) | rfl | (simp only [List.length_drop, List.length_take]; rfl)) ?_; (with_reducible refine (spec_ParseOp.calls kj8 (rdOf ByteArray.empty t172 (ji17)) t176 t177 t178 t179 t180 t181 t182 _ A20.out).mono ?_); rintro e w27 ⟨rfl, hb⟩; refine ⟨_, rfl, ?_⟩; replace HO_4 := Kd.tR HO_4 hb; replace HO_5 := Kd.tR HO_5 hb; replace HO174 := Kd.tR HO174 hb; replace HB := uR HB hb; (try clear hb)) | ((with_reducible refine gate_dst (N := 8) rfl ?_); refine bxe 8 #[.int .i64 0, .int .i64 0, .int .i64 0, .int .i64 0, .int .i64 0, .int .i64 0] 64 ?_; intro gb183 hg w28 hbox hb; have BK183 := Aside0.mk (hbox); have GW183 := tGe HB hg; have GE183 := tGe HB hg; replace HO_4 := Kd.tR HO_4 hb; replace HO_5 := Kd.tR HO_5 hb; replace HO174 := Kd.tR HO174 hb; replace HB := uR HB hb; clear hb hbox hg; obtain ⟨hcz29_0, hcz29_1, hcz29_2, hcz29_3, hcz29_4, hcz29_5, hfz29_0, hfz29_1, hfz29_2, hfz29_3, hfz29_4, hfz29_5⟩ := cz6 BK183))
          have n0_ : Aside0 (Kd.R k66 66 ((((((w28.setCell ⟨gb183, 0, none⟩ (.int .i64 t176)).setCell ⟨gb183, 1, none⟩ (.int .i64 t177)).setCell ⟨gb183, 2, none⟩ (.int .i64 t178)).setCell ⟨gb183, 3, none⟩ (.int .i64 t179)).setCell ⟨gb183, 4, none⟩ (.int .i64 t180)).setCell ⟨gb183, 5, none⟩ (.int .i64 t181)) w.heap.size (fun _ => True) u4 x4_1) := ⟨by (with_reducible repeat (first | apply Kd.uV | apply Kd.uU | apply Kd.uT)); exact Kd.R_mono (Kd.uX (p := ⟨gb183, 5, none⟩) (Kd.uX (p := ⟨gb183, 4, none⟩) (Kd.uX (p := ⟨gb183, 3, none⟩) (Kd.uX (p := ⟨gb183, 2, none⟩) (Kd.uX (p := ⟨gb183, 1, none⟩) (Kd.uX (p := ⟨gb183, 0, none⟩) (Kd.R_types HO_4.out BK183.out (by decide)) (fun _ hk => hk.2) (.int .i64 t176)) (fun _ hk => hk.2) (.int .i64 t177)) (fun _ hk => hk.2) (.int .i64 t178)) (fun _ hk => hk.2) (.int .i64 t179)) (fun _ hk => hk.2) (.int .i64 t180)) (fun _ hk => hk.2) (.int .i64 t181)) (fun _ hk => trivial)⟩
          have n1_ : Aside0 (Kd.R Kd.string 9 ((((((w28.setCell ⟨gb183, 0, none⟩ (.int .i64 t176)).setCell ⟨gb183, 1, none⟩ (.int .i64 t177)).setCell ⟨gb183, 2, none⟩ (.int .i64 t178)).setCell ⟨gb183, 3, none⟩ (.int .i64 t179)).setCell ⟨gb183, 4, none⟩ (.int .i64 t180)).setCell ⟨gb183, 5, none⟩ (.int .i64 t181)) w.heap.size (fun k_ => some k_ ≠ (.slice (some ad175) t172.length co26 : Value).ownBlock) (.slice (some ad171) t168.length co24) t168) := ⟨by (with_reducible repeat (first | apply Kd.uV | apply Kd.uU | apply Kd.uT)); exact Kd.R_mono (Kd.uX (p := ⟨gb183, 5, none⟩) (Kd.uX (p := ⟨gb183, 4, none⟩) (Kd.uX (p := ⟨gb183, 3, none⟩) (Kd.uX (p := ⟨gb183, 2, none⟩) (Kd.uX (p := ⟨gb183, 1, none⟩) (Kd.uX (p := ⟨gb183, 0, none⟩) (Kd.R_types HO_5.out BK183.out (by decide)) (fun _ hk => hk.2) (.int .i64 t176)) (fun _ hk => hk.2) (.int .i64 t177)) (fun _ hk => hk.2) (.int .i64 t178)) (fun _ hk => hk.2) (.int .i64 t179)) (fun _ hk => hk.2) (.int .i64 t180)) (fun _ hk => hk.2) (.int .i64 t181)) (fun _ hk => hk.1.2)⟩
          have n2_ : Aside0 (Kd.R Kd.string 9 ((((((w28.setCell ⟨gb183, 0, none⟩ (.int .i64 t176)).setCell ⟨gb183, 1, none⟩ (.int .i64 t177)).setCell ⟨gb183, 2, none⟩ (.int .i64 t178)).setCell ⟨gb183, 3, none⟩ (.int .i64 t179)).setCell ⟨gb183, 4, none⟩ (.int .i64 t180)).setCell ⟨gb183, 5, none⟩ (.int .i64 t181)) w.heap.size (fun k_ => some k_ ≠ (.slice (some ad171) t168.length co24 : Value).ownBlock) (.slice (some ad175) t172.length co26) t172) := ⟨by (with_reducible repeat (first | apply Kd.uV | apply Kd.uU | apply Kd.uT)); exact Kd.R_mono (Kd.uX (p := ⟨gb183, 5, none⟩) (Kd.uX (p := ⟨gb183, 4, none⟩) (Kd.uX (p := ⟨gb183, 3, none⟩) (Kd.uX (p := ⟨gb183, 2, none⟩) (Kd.uX (p := ⟨gb183, 1, none⟩) (Kd.uX (p := ⟨gb183, 0, none⟩) (Kd.R_types HO174.out BK183.out (by decide)) (fun _ hk => hk.2) (.int .i64 t176)) (fun _ hk => hk.2) (.int .i64 t177)) (fun _ hk => hk.2) (.int .i64 t178)) (fun _ hk => hk.2) (.int .i64 t179)) (fun _ hk => hk.2) (.int .i64 t180)) (fun _ hk => hk.2) (.int .i64 t181)) (fun _ hk => hk.1.2)⟩
          have n3_ : Aside0 (((((((w28.setCell ⟨gb183, 0, none⟩ (.int .i64 t176)).setCell ⟨gb183, 1, none⟩ (.int .i64 t177)).setCell ⟨gb183, 2, none⟩ (.int .i64 t178)).setCell ⟨gb183, 3, none⟩ (.int .i64 t179)).setCell ⟨gb183, 4, none⟩ (.int .i64 t180)).setCell ⟨gb183, 5, none⟩ (.int .i64 t181)).heap[gb183]? = some (.cells #[.int .i64 t176, .int .i64 t177, .int .i64 t178, .int .i64 t179, .int .i64 t180, .int .i64 t181] 64 (0, 0))) := ⟨by (with_reducible repeat (first | refine uD ?_ _ | refine uF ?_ | refine uB ?_ _)); refine uP (cs := #[.int .i64 t176, .int .i64 t177, .int .i64 t178, .int .i64 t179, .int .i64 t180, .int .i64 0]) ?_ 5 _ rfl; (with_reducible repeat (first | refine uD ?_ _ | refine uF ?_ | refine uB ?_ _)); refine uP (cs := #[.int .i64 t176, .int .i64 t177, .int .i64 t178, .int .i64 t179, .int .i64 0, .int .i64 0]) ?_ 4 _ rfl; (with_reducible repeat (first | refine uD ?_ _ | refine uF ?_ | refine uB ?_ _)); refine uP (cs := #[.int .i64 t176, .int .i64 t177, .int .i64 t178, .int .i64 0, .int .i64 0, .int .i64 0]) ?_ 3 _ rfl; (with_reducible repeat (first | refine uD ?_ _ | refine uF ?_ | refine uB ?_ _)); refine uP (cs := #[.int .i64 t176, .int .i64 t177, .int .i64 0, .int .i64 0, .int .i64 0, .int .i64 0]) ?_ 2 _ rfl; (with_reducible repeat (first | refine uD ?_ _ | refine uF ?_ | refine uB ?_ _)); refine uP (cs := #[.int .i64 t176, .int .i64 0, .int .i64 0, .int .i64 0, .int .i64 0, .int .i64 0]) ?_ 1 _ rfl; (with_reducible repeat (first | refine uD ?_ _ | refine uF ?_ | refine uB ?_ _)); refine uP (cs := #[.int .i64 0, .int .i64 0, .int .i64 0, .int .i64 0, .int .i64 0, .int .i64 0]) ?_ 0 _ rfl; (with_reducible repeat (first | refine uD ?_ _ | refine uF ?_ | refine uB ?_ _)); exact BK183.out⟩
          have n4_ : Aside0 (Below w.heap.size w ((((((w28.setCell ⟨gb183, 0, none⟩ (.int .i64 t176)).setCell ⟨gb183, 1, none⟩ (.int .i64 t177)).setCell ⟨gb183, 2, none⟩ (.int .i64 t178)).setCell ⟨gb183, 3, none⟩ (.int .i64 t179)).setCell ⟨gb183, 4, none⟩ (.int .i64 t180)).setCell ⟨gb183, 5, none⟩ (.int .i64 t181))) := ⟨cq0⟩
          generalize ((((((w28.setCell ⟨gb183, 0, none⟩ (.int .i64 t176)).setCell ⟨gb183, 1, none⟩ (.int .i64 t177)).setCell ⟨gb183, 2, none⟩ (.int .i64 t178)).setCell ⟨gb183, 3, none⟩ (.int .i64 t179)).setCell ⟨gb183, 4, none⟩ (.int .i64 t180)).setCell ⟨gb183, 5, none⟩ (.int .i64 t181)) = w30 at n0_ n1_ n2_ n3_ n4_ ⊢
          have HO_4 := n0_
          have HO_5 := n1_
          have HO174 := n2_
          have BK183 := n3_
          have HB := n4_
          clear n0_ n1_ n2_ n3_ n4_
          replace HO_4 := Aside0.mk (Kd.uT HO_4.out)
          replace HO_5 := Aside0.mk (Kd.uT HO_5.out)
          replace HO174 := Aside0.mk (Kd.uT HO174.out)
          replace BK183 := Aside0.mk (uF BK183.out)
          replace HB := Aside0.mk (vB HB.out)
          have p184 : 0 ≤ (0 : Int) := (by omega)
          have q184 : 0 < (t172.length : Int) := of_decide_eq_true uL
          obtain ⟨ad184, e184, hx184_0⟩ := Kd.at_string (Kd.uQ HO174.out).2.2 0 p184 q184
          obtain rfl : ad175 = ad184 := (by injection e184)
          have qi184 : (0 < t172.length) = True := eq_true (by omega)
          (try rw [show ((0 : Int)).toNat = 0 from rfl] at hx184_0)
          (try rw [Addr.add_zero'] at hx184_0)
          replace p184 := eq_true p184
          replace q184 := eq_true q184
          refine start_ (n := 10) (S := fun w' => w'.cell? ⟨gb183, 0, none⟩ = some (.int .i64 t176) ∧ w'.cell? ⟨gb183, 1, none⟩ = some (.int .i64 t177) ∧ w'.cell? ⟨gb183, 2, none⟩ = some (.int .i64 t178) ∧ w'.cell? ⟨gb183, 3, none⟩ = some (.int .i64 t179) ∧ w'.cell? ⟨gb183, 4, none⟩ = some (.int .i64 t180) ∧ w'.cell? ⟨gb183, 5, none⟩ = some (.int .i64 t181) ∧ w'.cell? ad175 = some (.string (rdOf ByteArray.empty t172 0))) (ds := [7, 8]) tb12 (by kernel_rfl) rfl rfl ⟨(uA BK183.out 0).trans rfl, (uA BK183.out 1).trans rfl, (uA BK183.out 2).trans rfl, (uA BK183.out 3).trans rfl, (uA BK183.out 4).trans rfl, (uA BK183.out 5).trans rfl, hx184_0⟩ (fun hHeld => ?_); refine with_tabW spec_ParseLog.tab10 spec_ParseLog.bits10 (fun HT_ HW_ => ?_)
          generalize w30.drew = w31 at HO_4 HO_5 HO174 BK183 HB hx184_0 hHeld ⊢
          refine uJ 0 (some 41) tb13 ?_
          refine uJ 1 (some 42) tb60 ?_
          refine uJ 2 (some 43) tb61 ?_
          refine takeT 3 (some 44) #[true, true, true, true, false, false, false, false, false, false] ?_
          refine takeT 5 (some 46) #[true, true, true, true, false, true, false, false, false, false] ?_
          refine oneT 4 (some 45) tb62 (fun K hK => ?_)
          refine goesT Tryd.func68 #[.string (rdOf ByteArray.empty t172 0)] ?_
          with_reducible refine (spec_l3Num.calls kj8 (rdOf ByteArray.empty t172 0) t185 _ A22.out).mono ?_
          rintro e w32 ⟨rfl, hb⟩
          have HS6_ := (hb.cell (vJ _ _ (hHeld.2.2.2.2.2.2))).trans (hHeld.2.2.2.2.2.2)
          refine ⟨_, rfl, ?_⟩
          replace HO_4 := Kd.tR HO_4 hb
          replace HO_5 := Kd.tR HO_5 hb
          replace HO174 := Kd.tR HO174 hb
          replace BK183 := tBlk BK183 hb
          replace HB := uR HB hb
          (try clear hb)
          refine hK.out _ _ ⟨(uA BK183.out 0).trans rfl, (uA BK183.out 1).trans rfl, (uA BK183.out 2).trans rfl, (uA BK183.out 3).trans rfl, (uA BK183.out 4).trans rfl, (uA BK183.out 5).trans rfl, HS6_⟩ (fun hHeld => ?_)
          clear hK K
          refine uW ?_
          refine uJ 6 (some 47) tb18 ?_
          refine last_ (i := 7) (N := some 48) tb19 rfl rfl (one_of HT_.out (by kernel_rfl)) (by decide) (fun K hK => ?_)
          refine value_ (w1 := ?_) (v := ?_) (by rfl) rfl ?_ ?_
          rotate_left 2
          · go_simp
            constructor
            · rfl
            rfl
          refine hK.out _ _ ?_
          clear hK K
          refine uW ?_
          refine last_ (i := 8) (N := some 49) tb20 rfl rfl (one_of HT_.out (by kernel_rfl)) (by decide) (fun K hK => ?_)
          refine Kd.R_append_step k66 (w0 := w) w.heap.size (by rfl) (.tmp 41) (.tmp 48) 24 66 (.agg #[(.int .i64 0), (.int .i64 0), (.int .i64 0), (.int .i64 0), (.int .i64 0), (.int .i64 0), (.int .i64 0)]) 56 rfl Tryd.underlying24 info66 rfl (by decide) (by omega) u4 x4_1 (⟨t185, (⟨t176, t177, t178, t179, t180, t181⟩ : S64)⟩ : S66) [.int .i64 t185, .int .i64 t176, .int .i64 t177, .int .i64 t178, .int .i64 t179, .int .i64 t180, .int .i64 t181] (fun _ => True) (fun _ => False) rfl rfl ?aP (fun _ hk => hk.elim) ?aF ?aO ?aB ?aS ?aL ?_
          (case aP => exact k66_mkM _ _ _ (⟨t185, (⟨t176, t177, t178, t179, t180, t181⟩ : S64)⟩ : S66))
          (case aB => exact cq35)
          (case aF => exact (fun _ _ => trivial))
          (case aO => exact (rSR HO_4.out))
          (case aS => exact cq28)
          (case aL => have := LMc23.out; omega)
          intro v187 w33 ho hb hg hat
          rw [← Ny186.out] at ho
          have n0_ := Aside0.mk (Kd.R_over' (rSR HO_5.out) (Kd.R_typed (rSR HO_4.out)) (by decide) hg)
          have n1_ := Aside0.mk (Kd.R_over' (rSR HO174.out) (Kd.R_typed (rSR HO_4.out)) (by decide) hg)
          have n2_ := tGr BK183 hg (Kd.uK HO_4.out BK183.out (by decide))
          have n3_ := Aside0.mk (hb)
          have n4_ := Aside0.mk (ho)
          clear HO_5
          clear HO174
          clear BK183
          clear HB
          clear HO_4
          have HO_5 := n0_
          have HO174 := n1_
          have BK183 := n2_
          have HB := n3_
          have HO188 := n4_
          clear n0_ n1_ n2_ n3_ n4_
          clear ho hb hg hat
          refine hK.out _ _ ?_
          clear hK K
          refine uW ?_
          refine uJ 9 (some 4) tb21 ?_
          refine done_ (done_of HT_.out (by kernel_rfl)) ?_
          try go_wp2
          go_roundg kj8
          case measure => have := HK1.out; have := HJ8.out; omega
          case rel => exact ⟨(y186), (wrap64 (x6_1 + 1)), cq6, H', ⟨by have := HK1.out; have := HJ8.out; omega⟩, ⟨by (with_reducible repeat (first | apply Kd.uV | apply Kd.uU | apply Kd.uT)); exact HO188.out⟩, ⟨cq40⟩, ⟨cq0⟩⟩

/-! ### impl_within: function 55 -/
def impl_within.f (a0 : Int) (a1 : Int) (a2 : Int) : Option (Bool) := if a1 ≤ a0 then (some (decide (a0 ≤ a2))) else (some false)
set_option maxHeartbeats 8000000 in
set_option maxRecDepth 100000 in
theorem impl_within.calls (a0 : Int) (a1 : Int) (a2 : Int) (r : Bool) (w : World) (h : impl_within.f a0 a1 a2 = some r) :
    Calls Tryd.prog 55 #[.int .i64 a0, .int .i64 a1, .int .i64 a2] w fun e w' => e = .returned (.bool r) ∧ Drawn0 w w' := by
  have H : (if a1 ≤ a0 then (some (decide (a0 ≤ a2))) else (some false)) = some r := h
  clear h
  by_cases c4 : a1 ≤ a0
  · rw [if_pos c4] at H
    have c4b0 := decide_eq_true c4
    clear c4
    obtain rfl := Option.some.inj H
    go_enter Tryd.func55, Tryd.ntmps55
    go_wp2
    go_ret
    exact ⟨cq6, cq20⟩
  rw [if_neg c4] at H
  have c4b0 := decide_eq_false c4
  clear c4
  obtain rfl := Option.some.inj H
  go_enter Tryd.func55, Tryd.ntmps55
  go_wp2
  go_ret
  exact ⟨cq6, cq20⟩

/-! ### impl_IsValidOp: function 86 -/
def impl_IsValidOp.f (a0_0 : Int) (a0_1 : Int) (a0_2 : Int) (a0_3 : Int) (a0_4 : Int) (a0_5 : Int) : Option (Bool) := (impl_within.f a0_0 0 2).bind fun t197 => (if t197 = true then ((impl_within.f a0_1 1 99).bind fun t198 => (if t198 = true then ((impl_within.f a0_3 0 2).bind fun t199 => (if t199 = true then ((impl_within.f a0_5 0 9).bind fun t200 => (if t200 = true then (if a0_2 = 1 then (if a0_4 = 0 then (some true) else (if a0_2 = 2 then ((impl_within.f a0_4 0 9).bind fun t201 => (some t201)) else (some false))) else (if a0_2 = 2 then ((impl_within.f a0_4 0 9).bind fun t202 => (some t202)) else (some false))) else (some false))) else (some false))) else (some false))) else (some false))
set_option maxHeartbeats 8000000 in
set_option maxRecDepth 100000 in
theorem impl_IsValidOp.calls (a0_0 : Int) (a0_1 : Int) (a0_2 : Int) (a0_3 : Int) (a0_4 : Int) (a0_5 : Int) (r : Bool) (w : World) (h : impl_IsValidOp.f a0_0 a0_1 a0_2 a0_3 a0_4 a0_5 = some r) :
    Calls Tryd.prog 86 #[.agg #[.int .i64 a0_0, .int .i64 a0_1, .int .i64 a0_2, .int .i64 a0_3, .int .i64 a0_4, .int .i64 a0_5]] w fun e w' => e = .returned (.bool r) ∧ Below w.heap.size w w' := by
  have hu64 := Tryd.underlying64
  have HB := Aside0.mk (Below.refl w.heap.size w)
  have H : ((impl_within.f a0_0 0 2).bind fun t197 => (if t197 = true then ((impl_within.f a0_1 1 99).bind fun t198 => (if t198 = true then ((impl_within.f a0_3 0 2).bind fun t199 => (if t199 = true then ((impl_within.f a0_5 0 9).bind fun t200 => (if t200 = true then (if a0_2 = 1 then (if a0_4 = 0 then (some true) else (if a0_2 = 2 then ((impl_within.f a0_4 0 9).bind fun t201 => (some t201)) else (some false))) else (if a0_2 = 2 then ((impl_within.f a0_4 0 9).bind fun t202 => (some t202)) else (some false))) else (some false))) else (some false))) else (some false))) else (some false))) = some r := h
  clear h
  replace H := Option.bind_eq_some_iff.mp H
  obtain ⟨t197, A20, H⟩ := H
  try dsimp only at H
  have A2 := Aside0.mk A20
  clear A20
  go_enter Tryd.func86, Tryd.ntmps86
  go_wp2_with (first | ((with_reducible refine gate_dst (N := 1) rfl ?_); refine bxe 1 #[.int .i64 a0_0, .int .i64 a0_1, .int .i64 a0_2, .int .i64 a0_3, .int .i64 a0_4, .int .i64 a0_5] 64 ?_; intro gb196 hg w32 hbox hb; have BK196 := Aside0.mk (hbox); have GW196 := tGe HB hg; have GE196 := tGe HB hg; replace HB := uR HB hb; clear hb hbox hg; obtain ⟨hcz33_0, hcz33_1, hcz33_2, hcz33_3, hcz33_4, hcz33_5, hfz33_0, hfz33_1, hfz33_2, hfz33_3, hfz33_4, hfz33_5⟩ := cz6 BK196; refine ?roundEnd))
  case roundEnd =>
  by_cases c3 : t197 = true
  rotate_left
  · replace c3 := Bool.eq_false_iff.mpr c3
    subst c3
    try rw [if_neg (show ¬ (false = true) by decide)] at H
    obtain rfl := Option.some.inj H
    go_wp2_with (first | ((with_reducible refine uM (f := 55) rfl ?_); refine uY (some 5) Tryd.func55 #[.int .i64 a0_0, .int .i64 0, .int .i64 2] ?_; (with_reducible refine (impl_within.calls a0_0 0 2 false _ A2.out).mono ?_); rintro e w' ⟨rfl, ⟨nd, rfl⟩⟩; refine ⟨_, rfl, ?_⟩))
    go_ret
    exact ⟨cq3, cq0⟩
  subst c3
  try rw [if_pos rfl] at H
  replace H := Option.bind_eq_some_iff.mp H
  obtain ⟨t198, A40, H⟩ := H
  try dsimp only at H
  have A4 := Aside0.mk A40
  clear A40
  go_wp2_with (first | ((with_reducible refine uM (f := 55) rfl ?_); refine uY (some 5) Tryd.func55 #[.int .i64 a0_0, .int .i64 0, .int .i64 2] ?_; (with_reducible refine (impl_within.calls a0_0 0 2 true _ A2.out).mono ?_); rintro e w' ⟨rfl, ⟨nd, rfl⟩⟩; refine ⟨_, rfl, ?_⟩; refine ?roundEnd))
  case roundEnd =>
  by_cases c5 : t198 = true
  rotate_left
  · replace c5 := Bool.eq_false_iff.mpr c5
    subst c5
    try rw [if_neg (show ¬ (false = true) by decide)] at H
    obtain rfl := Option.some.inj H
    go_wp2_with (first | (go_at_call 55; (with_reducible refine (impl_within.calls a0_1 1 99 false _ A4.out).mono ?_); rintro e w' ⟨rfl, ⟨nd, rfl⟩⟩))
    go_ret
    exact ⟨cq3, cq0⟩
  subst c5
  try rw [if_pos rfl] at H
  replace H := Option.bind_eq_some_iff.mp H
  obtain ⟨t199, A60, H⟩ := H
  try dsimp only at H
  have A6 := Aside0.mk A60
  clear A60
  go_wp2_with (first | (go_at_call 55; (with_reducible refine (impl_within.calls a0_1 1 99 true _ A4.out).mono ?_); rintro e w' ⟨rfl, ⟨nd, rfl⟩⟩; refine ?roundEnd))
  case roundEnd =>
  by_cases c7 : t199 = true
  rotate_left
  · replace c7 := Bool.eq_false_iff.mpr c7
    subst c7
    try rw [if_neg (show ¬ (false = true) by decide)] at H
    obtain rfl := Option.some.inj H
    go_wp2_with (first | (go_at_call 55; (with_reducible refine (impl_within.calls a0_3 0 2 false _ A6.out).mono ?_); rintro e w' ⟨rfl, ⟨nd, rfl⟩⟩))
    go_ret
    exact ⟨cq3, cq0⟩
  subst c7
  try rw [if_pos rfl] at H
  replace H := Option.bind_eq_some_iff.mp H
  obtain ⟨t200, A80, H⟩ := H
  try dsimp only at H
  have A8 := Aside0.mk A80
  clear A80
  go_wp2_with (first | (go_at_call 55; (with_reducible refine (impl_within.calls a0_3 0 2 true _ A6.out).mono ?_); rintro e w' ⟨rfl, ⟨nd, rfl⟩⟩; refine ?roundEnd))
  case roundEnd =>
  by_cases c9 : t200 = true
  rotate_left
  · replace c9 := Bool.eq_false_iff.mpr c9
    subst c9
    try rw [if_neg (show ¬ (false = true) by decide)] at H
    obtain rfl := Option.some.inj H
    go_wp2_with (first | (go_at_call 55; (with_reducible refine (impl_within.calls a0_5 0 9 false _ A8.out).mono ?_); rintro e w' ⟨rfl, ⟨nd, rfl⟩⟩))
    go_ret
    exact ⟨cq3, cq0⟩
  subst c9
  try rw [if_pos rfl] at H
  go_wp2_with (first | (go_at_call 55; (with_reducible refine (impl_within.calls a0_5 0 9 true _ A8.out).mono ?_); rintro e w' ⟨rfl, ⟨nd, rfl⟩⟩; refine ?roundEnd))
  case roundEnd =>
  by_cases c10 : a0_2 = 1
  rotate_left
  · rw [if_neg c10] at H
    have c10b0 := beq_eq_false_iff_ne.mpr c10
    have c10b1 := bne_iff_ne.mpr c10
    by_cases c20 : a0_2 = 2
    rotate_left
    · rw [if_neg c20] at H
      have c20b0 := beq_eq_false_iff_ne.mpr c20
      have c20b1 := bne_iff_ne.mpr c20
      obtain rfl := Option.some.inj H
      go_wp2
      go_ret
      exact ⟨cq3, cq0⟩
    rw [if_pos c20] at H
    have c20b0 := beq_iff_eq.mpr c20
    have c20b1 := bne_eq_false_iff_eq.mpr c20
    clear c20
    replace H := Option.bind_eq_some_iff.mp H
    obtain ⟨t202, A210, H⟩ := H
    try dsimp only at H
    have A21 := Aside0.mk A210
    clear A210
    obtain rfl := Option.some.inj H
    go_wp2_with (first | (go_at_call 55; (with_reducible refine (impl_within.calls a0_4 0 9 t202 _ A21.out).mono ?_); rintro e w' ⟨rfl, ⟨nd, rfl⟩⟩))
    go_ret
    exact ⟨cq3, cq0⟩
  rw [if_pos c10] at H
  have c10b0 := beq_iff_eq.mpr c10
  have c10b1 := bne_eq_false_iff_eq.mpr c10
  clear c10
  by_cases c11 : a0_4 = 0
  · rw [if_pos c11] at H
    have c11b0 := beq_iff_eq.mpr c11
    have c11b1 := bne_eq_false_iff_eq.mpr c11
    clear c11
    obtain rfl := Option.some.inj H
    go_wp2
    go_ret
    exact ⟨cq3, cq0⟩
  rw [if_neg c11] at H
  have c11b0 := beq_eq_false_iff_ne.mpr c11
  have c11b1 := bne_iff_ne.mpr c11
  by_cases c14 : a0_2 = 2
  rotate_left
  · rw [if_neg c14] at H
    have c14b0 := beq_eq_false_iff_ne.mpr c14
    have c14b1 := bne_iff_ne.mpr c14
    obtain rfl := Option.some.inj H
    go_wp2
    go_ret
    exact ⟨cq3, cq0⟩
  rw [if_pos c14] at H
  have c14b0 := beq_iff_eq.mpr c14
  have c14b1 := bne_eq_false_iff_eq.mpr c14
  clear c14
  replace H := Option.bind_eq_some_iff.mp H
  obtain ⟨t201, A150, H⟩ := H
  try dsimp only at H
  have A15 := Aside0.mk A150
  clear A150
  obtain rfl := Option.some.inj H
  go_wp2_with (first | (go_at_call 55; (with_reducible refine (impl_within.calls a0_4 0 9 t201 _ A15.out).mono ?_); rintro e w' ⟨rfl, ⟨nd, rfl⟩⟩))
  go_ret
  exact ⟨cq3, cq0⟩

end Go.Proofs.YtcikahnmiiichaaDoor.L
