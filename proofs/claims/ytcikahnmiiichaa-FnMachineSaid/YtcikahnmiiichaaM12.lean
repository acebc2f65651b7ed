/- Go functions as Lean functions, and the proof that the code comes to them: written by a program of this session out of the translation. -/
import Derived.Test.YtcikahnmiiichaaM0
import Derived.Test.YtcikahnmiiichaaM11
namespace Go.Proofs.Ytcikahnmiiichaa.M
open List renaming setIfInBounds_toArray → vO, set_cons_zero → vP, set_cons_succ → vQ, map_toArray → vR
open Go.World renaming block_lt_of_cell? → vU
open Go.RowKit Go.Proofs.YtcikahnmiiichaaW.PrintWords Go.Proofs.YtcikahnmiiichaaW.PrintLast Go.Proofs.YtcikahnmiiichaaW.PrintMore
attribute [local go_sem] max2_int min2_int max_two min_two max_three min_three max_four min_four   -- for this text's walks alone
set_option linter.unusedVariables false
set_option linter.unusedSimpArgs false

/-! ### spec_l4Any: function 59 -/
def spec_l4Any.f (k : Nat) (s0_0 : List Int) (s0_1 : Int) (s0_2 : Int) : Option (List Int × (List (S49)) × Int × Int) := (spec_l4Machine.f k s0_0 s0_1 s0_2).bind fun bt226 => ((spec_l1Below.f s0_0 bt226.2.2.1 bt226.2.2.2 14).bind fun bt235 => (if bt235.1 = 0 then ((spec_l1Below.f s0_0 bt235.2.1 bt235.2.2 3).bind fun bt238 => ((spec_l1PickInt.f s0_0 bt238.2.1 bt238.2.2 (([(-1), 9, 10] : List Int))).bind fun bt244 => (if 0 ≤ bt238.1 then (if bt238.1 < (bt226.1.length : Int) then (some ((bt226.1.set (bt238.1 : Int).toNat bt244.1), bt226.2.1, bt244.2.1, bt244.2.2)) else (none)) else (none)))) else (if bt235.1 = 1 then (if 1 ≤ (bt226.1.length : Int) then (some ((bt226.1.drop (1 : Int).toNat), bt226.2.1, bt235.2.1, bt235.2.2)) else (none)) else (if bt235.1 = 2 then ((spec_l1Below.f s0_0 bt235.2.1 bt235.2.2 4).bind fun bt251 => ((spec_l1Below.f s0_0 bt251.2.1 bt251.2.2 3).bind fun bt254 => ((spec_l1PickInt.f s0_0 bt254.2.1 bt254.2.2 (([0, 10] : List Int))).bind fun bt260 => (if bt226.2.1.length < 4398046511104 then (some (bt226.1, (bt226.2.1 ++ [(⟨bt251.1, bt254.1, (⟨false, bt260.1⟩ : S33)⟩ : S49)]), bt260.2.1, bt260.2.2)) else (none))))) else (some (bt226.1, bt226.2.1, bt235.2.1, bt235.2.2))))))
theorem spec_l4Any.mono : ∀ a0 a1 a2 k, uN (spec_l4Any.f k a0 a1 a2) (spec_l4Any.f (k + 1) a0 a1 a2) := by
  intro a0 a1 a2 k
  unfold spec_l4Any.f
  repeat' first
      | (with_reducible exact spec_l4Machine.mono _ _ _ _)
      | (with_reducible exact uN.refl _)
      | (with_reducible exact uN.none _)
      | (with_reducible refine uN.ite ?_ ?_)
      | (with_reducible refine uN.bind ?_ (fun _ => ?_))
      | exact spec_l4Machine.mono _ _ _ _
      | exact uN.none _
      | refine uN.ite ?_ ?_
      | refine uN.bind ?_ (fun _ => ?_)
def spec_l4Any.T4 : Bool × List (List Nat × List Nat) := (true, [([], []), ([0], [0]), ([], []), ([2], [2]), ([], []), ([], []), ([4, 5, 3], [4, 5]), ([1, 3, 0, 1, 2, 3, 4, 5, 6], [1, 3]), ([7, 6, 6, 0, 1, 2, 3, 4, 5, 6], [6, 7])])
def spec_l4Any.B4 : List Nat := [0, 1, 0, 4, 0, 0, 60, 127, 255]
theorem spec_l4Any.tab4 : rtab .any (opsOf Try.f59 4) = spec_l4Any.T4 := by kernel_rfl
theorem spec_l4Any.bits4 : waitsOk spec_l4Any.T4.2 spec_l4Any.B4 = true := by kernel_rfl
def spec_l4Any.T8 : Bool × List (List Nat × List Nat) := (true, [([], []), ([0], [0]), ([], []), ([2], [2]), ([], []), ([4, 3], [4]), ([], []), ([], []), ([6, 7, 5], [6, 7]), ([8], [8]), ([3, 5, 9], [3, 5, 9]), ([10], [10]), ([1, 11, 8], [1, 11]), ([0, 1, 2, 3, 4, 5, 6, 7, 8, 9, 10, 11, 12], []), ([13, 12, 12, 0, 1, 2, 3, 4, 5, 6, 7, 8, 9, 10, 11, 12], [12, 13])])
def spec_l4Any.B8 : List Nat := [0, 1, 0, 4, 0, 28, 0, 0, 252, 508, 1020, 2044, 4095, 8191, 16383]
theorem spec_l4Any.tab8 : rtab .any (opsOf Try.f59 8) = spec_l4Any.T8 := by kernel_rfl
theorem spec_l4Any.bits8 : waitsOk spec_l4Any.T8.2 spec_l4Any.B8 = true := by kernel_rfl
set_option maxHeartbeats 8000000 in
set_option maxRecDepth 100000 in
theorem spec_l4Any.calls (k : Nat) (g : Nat) (s0_0 : List Int) (s0_1 : Int) (s0_2 : Int) (r1 : List Int) (r2 : List (S49)) (r3 : Int) (r4 : Int) (w0 w : World) (hI : IsS112 w0 w g s0_0 s0_1 s0_2) (hB : Below w0.heap.size w0 w) (h : spec_l4Any.f k s0_0 s0_1 s0_2 = some (r1, r2, r3, r4)) :
    Calls Try.prog 59 #[.pointer (some ⟨g, 0, none⟩)] w fun e w' => ∃ v0_ v1_ : Value, e = .returned (.agg #[v0_, v1_]) ∧ Kd.Q (Kd.int .i64) 3 w' w.heap.size (fun _ => True) v0_ r1 ∧ Kd.R k49 49 w' w.heap.size (fun _ => True) v1_ r2 ∧ IsS112 w0 w' g s0_0 r3 r4 ∧ Below w0.heap.size w0 w' ∧ uX w w' g none := by
  have hu31 := Try.underlying31
  have hu33 := Try.underlying33
  have hu49 := Try.underlying49
  have HI0 := Aside0.mk hI
  have HK := Aside0.mk (uX.refl w g none)
  have HL := Aside0.mk hB.size
  clear hI
  have HW0 := Aside0.mk hB.size
  have HB := Aside0.mk hB
  clear hB
  have H : ((spec_l4Machine.f k s0_0 s0_1 s0_2).bind fun bt226 => ((spec_l1Below.f s0_0 bt226.2.2.1 bt226.2.2.2 14).bind fun bt235 => (if bt235.1 = 0 then ((spec_l1Below.f s0_0 bt235.2.1 bt235.2.2 3).bind fun bt238 => ((spec_l1PickInt.f s0_0 bt238.2.1 bt238.2.2 (([(-1), 9, 10] : List Int))).bind fun bt244 => (if 0 ≤ bt238.1 then (if bt238.1 < (bt226.1.length : Int) then (some ((bt226.1.set (bt238.1 : Int).toNat bt244.1), bt226.2.1, bt244.2.1, bt244.2.2)) else (none)) else (none)))) else (if bt235.1 = 1 then (if 1 ≤ (bt226.1.length : Int) then (some ((bt226.1.drop (1 : Int).toNat), bt226.2.1, bt235.2.1, bt235.2.2)) else (none)) else (if bt235.1 = 2 then ((spec_l1Below.f s0_0 bt235.2.1 bt235.2.2 4).bind fun bt251 => ((spec_l1Below.f s0_0 bt251.2.1 bt251.2.2 3).bind fun bt254 => ((spec_l1PickInt.f s0_0 bt254.2.1 bt254.2.2 (([0, 10] : List Int))).bind fun bt260 => (if bt226.2.1.length < 4398046511104 then (some (bt226.1, (bt226.2.1 ++ [(⟨bt251.1, bt254.1, (⟨false, bt260.1⟩ : S33)⟩ : S49)]), bt260.2.1, bt260.2.2)) else (none))))) else (some (bt226.1, bt226.2.1, bt235.2.1, bt235.2.2))))))) = some (r1, r2, r3, r4) := h
  clear h
  replace H := Option.bind_eq_some_iff.mp H
  obtain ⟨⟨t226, t229, t232, t233⟩, A20, H⟩ := H
  try dsimp only at H
  have A2 := Aside0.mk A20
  clear A20
  replace H := Option.bind_eq_some_iff.mp H
  obtain ⟨⟨t235, t236, t237⟩, A30, H⟩ := H
  try dsimp only at H
  have A3 := Aside0.mk A30
  clear A30
  go_enter Try.func59, Try.ntmps59
  go_wp2_with (first | ((with_reducible refine uI (N := 2) rfl ?_); refine bxe 2 #[.slice none 0 0, .slice none 0 0] 31 ?_; intro gb225 hg w10 hbox hb; have BK225 := Aside0.mk (hbox); have GW225 := tKGe HK hg; have GE225 := tKW HW0 HK hg; have NB0_225 := Aside0.mk ((by rw [hg]; exact Nat.ne_of_lt (IsS112.lt (show IsS112 w0 _ g s0_0 s0_1 s0_2 from by repeat (first | (with_reducible first | exact HI0.out | apply IsS112.alloc | apply IsS112.drewN | apply IsS112.drew | apply IsS112.set_1 | apply IsS112.set_2) | exact HI0.out))) : g ≠ gb225)); have NB225_0 := Aside0.mk ((by rw [hg]; exact Nat.ne_of_gt (IsS112.lt (show IsS112 w0 _ g s0_0 s0_1 s0_2 from by repeat (first | (with_reducible first | exact HI0.out | apply IsS112.alloc | apply IsS112.drewN | apply IsS112.drew | apply IsS112.set_1 | apply IsS112.set_2) | exact HI0.out))) : gb225 ≠ g)); replace HI0 := Aside0.mk (IsS112.below q6 hb); replace HK := uU HK (uX.of_below hb g none); replace HB := tBel1 HB hb; clear hb hbox hg; refine ?roundEnd))
  case roundEnd =>
  by_cases c4 : t235 = 0
  · rw [if_pos c4] at H
    have c4b0 : (t235 == 0) = true := beq_iff_eq.mpr c4
    have c4b1 : (t235 != 0) = false := bne_eq_false_iff_eq.mpr c4
    clear c4
    replace H := Option.bind_eq_some_iff.mp H
    obtain ⟨⟨t238, t239, t240⟩, A50, H⟩ := H
    try dsimp only at H
    have A5 := Aside0.mk A50
    clear A50
    obtain ⟨y241, hy241⟩ : ∃ y_ : List Int, y_ = (([(-1), 9, 10] : List Int)) := ⟨_, rfl⟩
    replace H : ((spec_l1PickInt.f s0_0 t239 t240 y241).bind fun bt244 => (if 0 ≤ t238 then (if t238 < (t226.length : Int) then (some ((t226.set (t238 : Int).toNat bt244.1), t229, bt244.2.1, bt244.2.2)) else (none)) else (none))) = some (r1, r2, r3, r4) := by first | (rw [hy241]; with_reducible exact H) | (have H2_ := (Option.bind_some _ _).symm.trans H; rw [hy241]; with_reducible exact H2_) | (have H2_ := (Option.bind_some _ _).symm.trans H; with_reducible exact H2_) | with_reducible exact H | (rw [hy241]; exact H) | exact H | rfl
    have Ny241 := Aside0.mk hy241
    clear hy241
    replace H := Option.bind_eq_some_iff.mp H
    obtain ⟨⟨t244, t245, t246⟩, A60, H⟩ := H
    try dsimp only at H
    have A6 := Aside0.mk A60
    clear A60
    by_cases c7 : 0 ≤ t238
    rotate_left
    · rw [if_neg c7] at H
      exact absurd H (by simp)
    rw [if_pos c7] at H
    have c7b0 : decide (0 ≤ t238) = true := decide_eq_true c7
    clear c7
    by_cases c8 : t238 < (t226.length : Int)
    rotate_left
    · rw [if_neg c8] at H
      exact absurd H (by simp)
    rw [if_pos c8] at H
    have c8b0 : decide (t238 < (t226.length : Int)) = true := decide_eq_true c8
    clear c8
    obtain ⟨y247, hy247⟩ : ∃ y_ : List Int, y_ = (t226.set (t238 : Int).toNat t244) := ⟨_, rfl⟩
    replace H : (some (y247, t229, t245, t246)) = some (r1, r2, r3, r4) := by first | (rw [hy247]; with_reducible exact H) | (have H2_ := (Option.bind_some _ _).symm.trans H; rw [hy247]; with_reducible exact H2_) | (have H2_ := (Option.bind_some _ _).symm.trans H; with_reducible exact H2_) | with_reducible exact H | (rw [hy247]; exact H) | exact H | rfl
    have Ny247 := Aside0.mk hy247
    clear hy247
    simp only [Option.some.injEq, Prod.mk.injEq] at H
    obtain ⟨rfl, rfl, rfl, rfl⟩ := H
    try go_wp2_with (first | ((with_reducible refine uH (f := 84) rfl ?_); refine vC (some 5) Try.func84 #[.pointer (some ⟨g, 0, none⟩)] ?_; (with_reducible refine (spec_l4Machine.calls k g s0_0 s0_1 s0_2 t226 t229 t232 t233 w0 _ ?side1 ?side2 A2.out).mono ?_); (case side1 => exact q29); (case side2 => exact q0); rintro e w11 ⟨v227, v230, rfl, ho0, ho1, hi, hb, hk⟩; refine ⟨_, rfl, ?_⟩; have HO228 := Aside0.mk (Kd.vG ho0 (vN (w := w) (g := g) (row := none) q2)); have HO231 := Aside0.mk (Kd.vG ho1 (vN (w := w) (g := g) (row := none) q2)); replace BK225 := vH BK225 hk NB225_0; replace HK := uU HK hk; replace HB := Aside0.mk (hb); replace HI0 := Aside0.mk (hi); (try clear hb); (try clear hb2); (try clear hk); (try clear hi); (try clear ho0); (try clear ho1)) | ((with_reducible refine uI (N := 3) rfl ?_); refine bxe 3 #[.slice none 0 0, .slice none 0 0] 31 ?_; intro gb234 hg w12 hbox hb; have BK234 := Aside0.mk (hbox); have GW234 := tKGe HK hg; have GE234 := tKW HW0 HK hg; have NB225_234 := tNl BK225 hg; have NB234_225 := tNg BK225 hg; have NB0_234 := Aside0.mk ((by rw [hg]; exact Nat.ne_of_lt (IsS112.lt (show IsS112 w0 _ g s0_0 t232 t233 from by repeat (first | (with_reducible first | exact HI0.out | apply IsS112.alloc | apply IsS112.drewN | apply IsS112.drew | apply IsS112.set_1 | apply IsS112.set_2 | refine IsS112.far ?_ NB0_225.out _) | exact HI0.out))) : g ≠ gb234)); have NB234_0 := Aside0.mk ((by rw [hg]; exact Nat.ne_of_gt (IsS112.lt (show IsS112 w0 _ g s0_0 t232 t233 from by repeat (first | (with_reducible first | exact HI0.out | apply IsS112.alloc | apply IsS112.drewN | apply IsS112.drew | apply IsS112.set_1 | apply IsS112.set_2 | refine IsS112.far ?_ NB0_225.out _) | exact HI0.out))) : gb234 ≠ g)); replace HO228 := Kd.tR HO228 hb; replace HO231 := Kd.tR HO231 hb; replace HI0 := Aside0.mk (IsS112.below q29 hb); replace BK225 := uL BK225 hb; replace HK := uU HK (uX.of_below hb g none); replace HB := tBel1 HB hb; clear hb hbox hg; obtain ⟨Ao13, co13, eo13⟩ := Kd.uW HO228.out; subst eo13; have hnb14 := NB234_225.out; have hnc14 := NB225_234.out; have hnb15 := NB234_0.out; have hnc15 := NB0_234.out; obtain ⟨hcz16_0, hcz16_1, hfz16_0, hfz16_1⟩ := cz2 BK234; obtain ⟨Ao17, co17, eo17⟩ := Kd.uW HO231.out; subst eo17) | ((with_reducible refine uH (f := 74) rfl ?_); refine vC (some 7) Try.func74 #[.pointer (some ⟨g, 0, none⟩), .int .i64 14] ?_; (with_reducible refine (spec_l1Below.calls g s0_0 t232 t233 14 t235 t236 t237 w0 _ ?side1 ?side2 A3.out).mono ?_); (case side1 => exact q3); (case side2 => exact q0); rintro e w18 ⟨rfl, hi, hb, hk⟩; refine ⟨_, rfl, ?_⟩; replace BK225 := tKBlkF BK225 hk NB225_0; replace HO228 := Aside0.mk (Kd.uJ (Kd.vI (IsS112.apart (show IsS112 w0 _ g s0_0 t232 t233 from by repeat (first | (with_reducible first | exact HI0.out | apply IsS112.alloc | apply IsS112.drewN | apply IsS112.drew | apply IsS112.set_1 | apply IsS112.set_2 | refine IsS112.far ?_ NB0_225.out _ | refine IsS112.far ?_ NB0_234.out _) | exact HI0.out)) (by (with_reducible repeat (first | apply Kd.vA | apply Kd.vB | apply Kd.uR)); exact (Kd.uJ (Kd.uM (p := ⟨gb234, 1, none⟩) (Kd.uM (p := ⟨gb234, 0, none⟩) (Kd.uY HO228.out BK234.out (by decide)) (fun _ hk => hk.2) (.slice Ao13 t226.length co13)) (fun _ hk => hk.2) (.slice Ao17 t229.length co17)) (fun _ h_ => h_.1))) (by decide)) hk (fun _ h => h.2)) (fun _ h => h.1)); replace HO231 := Aside0.mk (Kd.uJ (Kd.vI (IsS112.apart (show IsS112 w0 _ g s0_0 t232 t233 from by repeat (first | (with_reducible first | exact HI0.out | apply IsS112.alloc | apply IsS112.drewN | apply IsS112.drew | apply IsS112.set_1 | apply IsS112.set_2 | refine IsS112.far ?_ NB0_225.out _ | refine IsS112.far ?_ NB0_234.out _) | exact HI0.out)) (by (with_reducible repeat (first | apply Kd.vA | apply Kd.vB | apply Kd.uR)); exact (Kd.uJ (Kd.uM (p := ⟨gb234, 1, none⟩) (Kd.uM (p := ⟨gb234, 0, none⟩) (Kd.uY HO231.out BK234.out (by decide)) (fun _ hk => hk.2) (.slice Ao13 t226.length co13)) (fun _ hk => hk.2) (.slice Ao17 t229.length co17)) (fun _ h_ => h_.1))) (by decide)) hk (fun _ h => h.2)) (fun _ h => h.1)); replace BK234 := tKBlkP BK234 #[.slice Ao13 t226.length co13, .slice Ao17 t229.length co17] hk NB234_0; replace HK := uU HK hk; replace HB := Aside0.mk (hb); replace HI0 := Aside0.mk (hi); (try clear hb); (try clear hb2); (try clear hk); (try clear hi)))
    replace HO228 := Aside0.mk (Kd.uR HO228.out)
    replace HO231 := Aside0.mk (Kd.uR HO231.out)
    replace BK225 := Aside0.mk (uB BK225.out)
    replace BK234 := Aside0.mk (uB BK234.out)
    replace HI0 := Aside0.mk (IsS112.drew HI0.out)
    replace HK := Aside0.mk (keep_drew HK.out)
    replace HB := Aside0.mk (vD HB.out)
    refine start_ (n := 9) (S := fun w' => w'.cell? ⟨gb234, 0, none⟩ = some (.slice Ao13 t226.length co13) ∧ w'.cell? ⟨gb234, 1, none⟩ = some (.slice Ao17 t229.length co17)) (ds := [8]) tb30 (by kernel_rfl) rfl rfl ⟨(uG BK234.out 0).trans rfl, (uG BK234.out 1).trans rfl⟩ (fun hHeld => ?_); refine with_tabW spec_l4Any.tab4 spec_l4Any.bits4 (fun HT_ HW_ => ?_)
    generalize w18.drew = w19 at HO228 HO231 BK225 BK234 HI0 HK HB hHeld ⊢
    refine uA (i := 0) (N := some 10) (v := ?_) (a' := ?_) #[true, false, false, false, false, false, false, false, false] rfl rfl (uQ HT_.out (by kernel_rfl)) (fun _ _ _ h => h) (Or.inl ⟨by rfl, ?_⟩) ?_ ?_
    rotate_left
    · intro w'
      go_simp
      with_reducible rfl
    rotate_left
    · simp only [Act.put, vO, vP, vQ, uC, uD]
      rfl
    refine uA (i := 2) (N := some 12) (v := ?_) (a' := ?_) #[true, false, true, false, false, false, false, false, false] rfl rfl (uQ HT_.out (by kernel_rfl)) (fun _ _ _ h => h) (Or.inl ⟨by rfl, ?_⟩) ?_ ?_
    rotate_left
    · intro w'
      go_simp
      with_reducible rfl
    rotate_left
    · simp only [Act.put, vO, vP, vQ, uC, uD]
      rfl
    refine uA (i := 4) (N := some 14) (v := ?_) (a' := ?_) #[true, false, true, false, true, false, false, false, false] rfl rfl (uQ HT_.out (by kernel_rfl)) (fun _ _ _ h => h) (Or.inl ⟨by rfl, ?_⟩) ?_ ?_
    rotate_left
    · intro w'
      go_simp
      with_reducible rfl
    rotate_left
    · simp only [Act.put, vO, vP, vQ, uC, uD]
      rfl
    refine take_ (i := 1) (N := some 11) (v := ?_) (a' := ?_) #[true, true, true, false, true, false, false, false, false] rfl rfl (take_ofW HT_.out HW_.out (by kernel_rfl)) (fun _ _ _ h => h) (Or.inl ⟨by rfl, ?_⟩) hHeld ?_ ?_
    rotate_left
    · rintro w' ⟨s0, s1⟩
      go_simp
      with_reducible rfl
    rotate_left
    · simp only [Act.put, vO, vP, vQ, uC, uD]
      rfl
    refine join_ (σ := Value) 3 tb25 (fun s_ => [(13, .int .i64 t238), (15, s_)]) (fun s_ w' => (w'.cell? ⟨gb234, 0, none⟩ = some (.slice Ao13 t226.length co13) ∧ w'.cell? ⟨gb234, 1, none⟩ = some (.slice Ao17 t229.length co17)) ∧ (Kd.R (Kd.int .i64) 3 w' w.heap.size (fun k_ => some k_ ≠ (s_ : Value).ownBlock) (.slice Ao13 t226.length co13) t226) ∧ (Kd.R k49 49 w' w.heap.size (fun _ => True) (.slice Ao17 t229.length co17) t229) ∧ (Kd.R (Kd.int .i64) 3 w' w.heap.size (fun k_ => some k_ ≠ (.slice Ao13 t226.length co13 : Value).ownBlock) s_ y241) ∧ (w'.heap[gb225]? = some (.cells #[.slice none 0 0, .slice none 0 0] 31 (0, 0))) ∧ (w'.heap[gb234]? = some (.cells #[.slice Ao13 t226.length co13, .slice Ao17 t229.length co17] 31 (0, 0))) ∧ (IsS112 w0 w' g s0_0 t239 t240) ∧ (uX w w' g none) ∧ (Below w0.heap.size w0 w')) ?_ ?_
    rotate_left
    · intro hCont
      refine two_ (i := 3) (j := 5) (Ni := some 13) (Nj := some 15) tb40 #[true, true, true, false, true, true, false, false, false] rfl rfl rfl rfl (two_of HT_.out (by kernel_rfl)) (by decide) (by decide) (fun K hK => ?_) (fun K hK => ?_)
      · skip
        refine goes_ Try.func74 (by kernel_rfl) rfl #[.pointer (some ⟨g, 0, none⟩), .int .i64 3] (by rfl) rfl rfl q17 ?_
        with_reducible refine (spec_l1Below.calls g s0_0 t236 t237 3 t238 t239 t240 w0 _ ?side1 ?side2 A5.out).mono ?_
        (case side1 => exact q3)
        (case side2 => exact q0)
        rintro e w20 ⟨rfl, hi, hb, hk⟩
        refine ⟨_, rfl, ?_⟩
        replace BK225 := vH BK225 hk NB225_0
        replace HO228 := Aside0.mk (Kd.uJ (Kd.vI (IsS112.apart (show IsS112 w0 _ g s0_0 t236 t237 from by repeat (first | (with_reducible first | exact HI0.out | apply IsS112.alloc | apply IsS112.drewN | apply IsS112.drew | apply IsS112.set_1 | apply IsS112.set_2 | refine IsS112.far ?_ NB0_225.out _ | refine IsS112.far ?_ NB0_234.out _) | exact HI0.out)) (rSR HO228.out) (by decide)) hk (fun _ h => h.2)) (fun _ h => h.1))
        replace HO231 := Aside0.mk (Kd.uJ (Kd.vI (IsS112.apart (show IsS112 w0 _ g s0_0 t236 t237 from by repeat (first | (with_reducible first | exact HI0.out | apply IsS112.alloc | apply IsS112.drewN | apply IsS112.drew | apply IsS112.set_1 | apply IsS112.set_2 | refine IsS112.far ?_ NB0_225.out _ | refine IsS112.far ?_ NB0_234.out _) | exact HI0.out)) (rSR HO231.out) (by decide)) hk (fun _ h => h.2)) (fun _ h => h.1))
        replace BK234 := vH BK234 hk NB234_0
        replace HK := uU HK hk
        replace HB := Aside0.mk (hb)
        replace HI0 := Aside0.mk (hi)
        (try clear hb)
        (try clear hb2)
        (try clear hk)
        (try clear hi)
        refine hK.out _ _ ⟨(uG BK234.out 0).trans rfl, (uG BK234.out 1).trans rfl⟩ (fun hHeld => ?_)
        clear hK K
        refine uZ (a' := ?_) ?_ ?_
        rotate_left
        · show Act.put _ (some 13) _ = _
          simp only [Act.put, vO, vP, vQ, uC, uD]
          rfl
        refine one_ (i := 5) (N := some 15) tb25 rfl rfl (one_of HT_.out (by kernel_rfl)) (by decide) (fun K hK => ?_)
        refine Kd.R_lit_step (Kd.int .i64) _ 3 ?hg (N := 15) ?hd (xs := ([(-1), 9, 10] : List Int)) (inner := [.int .i64 (-1), .int .i64 9, .int .i64 10]) (ok := fun _ => True) (okp := fun _ => True) ?hr ?hp (fun _ hk => hk) trivial (Below.refl _ _) (Nat.le_refl _) (by simp) ?_; (case hd => rfl); (case hg => rfl); (case hr => first | (go_simp; done) | (go_simp; rfl)); (case hp => exact (Reps.one (show Kd.M (Kd.int .i64) _ _ _ (-1) [.int .i64 (-1)] from rfl) (Reps.one (show Kd.M (Kd.int .i64) _ _ _ 9 [.int .i64 9] from rfl) (Reps.one (show Kd.M (Kd.int .i64) _ _ _ 10 [.int .i64 10] from rfl) (Reps.none _ _)))))
        intro v242 w21 ho22 hb hg_ hnew_
        clear hg_ hnew_
        (first | rw [← Ny241.out] at ho22 | (simp only [Int.reduceToNat] at ho22; rw [← Ny241.out] at ho22))
        have HO243 := Aside0.mk (Kd.vG (Kd.R_new' ho22 (Kd.R_lt (rSR HO228.out))) (vN (w := w) (g := g) (row := none) q2))
        replace HO228 := Aside0.mk (Kd.R_elder' (rSR HO228.out) (Kd.R_base ho22) hb)
        replace HO231 := Kd.tR HO231 hb
        replace HI0 := Aside0.mk (IsS112.below q3 hb)
        replace BK225 := uL BK225 hb
        replace BK234 := uL BK234 hb
        replace HK := uU HK (uX.of_below hb g none)
        replace HB := tBel1 HB hb
        clear hb ho22
        refine hK.out _ _ ⟨(uG BK234.out 0).trans rfl, (uG BK234.out 1).trans rfl⟩ (fun hHeld => ?_)
        clear hK K
        refine uZ (a' := ?_) ?_ ?_
        rotate_left
        · show Act.put _ (some 15) _ = _
          simp only [Act.put, vO, vP, vQ, uC, uD]
          rfl
        exact uZ q68 (hCont (v242) _ ⟨hHeld, q74, (rSR HO231.out), (by (with_reducible repeat (first | apply Kd.vA | apply Kd.vB | apply Kd.uR)); exact Kd.uJ HO243.out (fun _ hk => hk.2)), (rSB BK225.out), (rSB BK234.out), q3, q2, q0⟩)
      skip
      refine Kd.R_lit_step (Kd.int .i64) _ 3 ?hg (N := 15) ?hd (xs := ([(-1), 9, 10] : List Int)) (inner := [.int .i64 (-1), .int .i64 9, .int .i64 10]) (ok := fun _ => True) (okp := fun _ => True) ?hr ?hp (fun _ hk => hk) trivial (Below.refl _ _) (Nat.le_refl _) (by simp) ?_; (case hd => rfl); (case hg => rfl); (case hr => first | (go_simp; done) | (go_simp; rfl)); (case hp => exact (Reps.one (show Kd.M (Kd.int .i64) _ _ _ (-1) [.int .i64 (-1)] from rfl) (Reps.one (show Kd.M (Kd.int .i64) _ _ _ 9 [.int .i64 9] from rfl) (Reps.one (show Kd.M (Kd.int .i64) _ _ _ 10 [.int .i64 10] from rfl) (Reps.none _ _)))))
      intro v242 w20 ho21 hb hg_ hnew_
      clear hg_ hnew_
      (first | rw [← Ny241.out] at ho21 | (simp only [Int.reduceToNat] at ho21; rw [← Ny241.out] at ho21))
      have HO243 := Aside0.mk (Kd.vG (Kd.R_new' ho21 (Kd.R_lt (rSR HO228.out))) (vN (w := w) (g := g) (row := none) q2))
      replace HO228 := Aside0.mk (Kd.R_elder' (rSR HO228.out) (Kd.R_base ho21) hb)
      replace HO231 := Kd.tR HO231 hb
      replace HI0 := Aside0.mk (IsS112.below q3 hb)
      replace BK225 := uL BK225 hb
      replace BK234 := uL BK234 hb
      replace HK := uU HK (uX.of_below hb g none)
      replace HB := tBel1 HB hb
      clear hb ho21
      refine hK.out _ _ ⟨(uG BK234.out 0).trans rfl, (uG BK234.out 1).trans rfl⟩ (fun hHeld => ?_)
      clear hK K
      refine uZ (a' := ?_) ?_ ?_
      rotate_left
      · show Act.put _ (some 15) _ = _
        simp only [Act.put, vO, vP, vQ, uC, uD]
        rfl
      refine one_ (i := 3) (N := some 13) tb25 rfl rfl (one_of HT_.out (by kernel_rfl)) (by decide) (fun K hK => ?_)
      refine goes_ Try.func74 (by kernel_rfl) rfl #[.pointer (some ⟨g, 0, none⟩), .int .i64 3] (by rfl) rfl rfl q17 ?_
      with_reducible refine (spec_l1Below.calls g s0_0 t236 t237 3 t238 t239 t240 w0 _ ?side1 ?side2 A5.out).mono ?_
      (case side1 => exact q3)
      (case side2 => exact q0)
      rintro e w22 ⟨rfl, hi, hb, hk⟩
      refine ⟨_, rfl, ?_⟩
      replace BK225 := vH BK225 hk NB225_0
      replace HO228 := Aside0.mk (Kd.uJ (Kd.vI (IsS112.apart (show IsS112 w0 _ g s0_0 t236 t237 from by repeat (first | (with_reducible first | exact HI0.out | apply IsS112.alloc | apply IsS112.drewN | apply IsS112.drew | apply IsS112.set_1 | apply IsS112.set_2 | refine IsS112.far ?_ NB0_225.out _ | refine IsS112.far ?_ NB0_234.out _) | exact HI0.out)) (rSR HO228.out) (by decide)) hk (fun _ h => h.2)) (fun _ h => h.1))
      replace HO231 := Aside0.mk (Kd.uJ (Kd.vI (IsS112.apart (show IsS112 w0 _ g s0_0 t236 t237 from by repeat (first | (with_reducible first | exact HI0.out | apply IsS112.alloc | apply IsS112.drewN | apply IsS112.drew | apply IsS112.set_1 | apply IsS112.set_2 | refine IsS112.far ?_ NB0_225.out _ | refine IsS112.far ?_ NB0_234.out _) | exact HI0.out)) (rSR HO231.out) (by decide)) hk (fun _ h => h.2)) (fun _ h => h.1))
      replace BK234 := vH BK234 hk NB234_0
      replace HO243 := Aside0.mk (Kd.uJ (Kd.vI (IsS112.apart (show IsS112 w0 _ g s0_0 t236 t237 from by repeat (first | (with_reducible first | exact HI0.out | apply IsS112.alloc | apply IsS112.drewN | apply IsS112.drew | apply IsS112.set_1 | apply IsS112.set_2 | refine IsS112.far ?_ NB0_225.out _ | refine IsS112.far ?_ NB0_234.out _) | exact HI0.out)) (rSR HO243.out) (by decide)) hk (fun _ h => h.2)) (fun _ h => h.1))
      replace HK := uU HK hk
      replace HB := Aside0.mk (hb)
      replace HI0 := Aside0.mk (hi)
      (try clear hb)
      (try clear hb2)
      (try clear hk)
      (try clear hi)
      refine hK.out _ _ ⟨(uG BK234.out 0).trans rfl, (uG BK234.out 1).trans rfl⟩ (fun hHeld => ?_)
      clear hK K
      refine uZ (a' := ?_) ?_ ?_
      rotate_left
      · show Act.put _ (some 13) _ = _
        simp only [Act.put, vO, vP, vQ, uC, uD]
        rfl
      exact uZ q68 (hCont (v242) _ ⟨hHeld, q74, (rSR HO231.out), (by (with_reducible repeat (first | apply Kd.vA | apply Kd.vB | apply Kd.uR)); exact Kd.uJ HO243.out (fun _ hk => hk.2)), (rSB BK225.out), (rSB BK234.out), q3, q2, q0⟩)
    rintro v242 w23 ⟨hS_, h0_, h1_, h2_, h3_, h4_, h5_, h6_, h7_⟩
    have n0_ : Aside0 (Kd.R (Kd.int .i64) 3 w23 w.heap.size (fun k_ => some k_ ≠ (v242 : Value).ownBlock) (.slice Ao13 t226.length co13) t226) := ⟨h0_⟩
    have n1_ : Aside0 (Kd.R k49 49 w23 w.heap.size (fun _ => True) (.slice Ao17 t229.length co17) t229) := ⟨h1_⟩
    have n2_ : Aside0 (Kd.R (Kd.int .i64) 3 w23 w.heap.size (fun k_ => some k_ ≠ (.slice Ao13 t226.length co13 : Value).ownBlock) v242 y241) := ⟨h2_⟩
    have n3_ : Aside0 (w23.heap[gb225]? = some (.cells #[.slice none 0 0, .slice none 0 0] 31 (0, 0))) := ⟨h3_⟩
    have n4_ : Aside0 (w23.heap[gb234]? = some (.cells #[.slice Ao13 t226.length co13, .slice Ao17 t229.length co17] 31 (0, 0))) := ⟨h4_⟩
    have n5_ : Aside0 (IsS112 w0 w23 g s0_0 t239 t240) := ⟨h5_⟩
    have n6_ : Aside0 (uX w w23 g none) := ⟨h6_⟩
    have n7_ : Aside0 (Below w0.heap.size w0 w23) := ⟨h7_⟩
    clear HO228
    clear HO231
    clear BK225
    clear BK234
    clear HI0
    clear HK
    clear HB
    clear h0_ h1_ h2_ h3_ h4_ h5_ h6_ h7_
    have HO228 := n0_
    have HO231 := n1_
    have HO243 := n2_
    have BK225 := n3_
    have BK234 := n4_
    have HI0 := n5_
    have HK := n6_
    have HB := n7_
    clear n0_ n1_ n2_ n3_ n4_ n5_ n6_ n7_
    have hHeld : w23.cell? ⟨gb234, 0, none⟩ = some (.slice Ao13 t226.length co13) ∧ w23.cell? ⟨gb234, 1, none⟩ = some (.slice Ao17 t229.length co17) := hS_
    obtain ⟨Ao24, co24, eo24⟩ := Kd.uW HO243.out
    (first | subst eo24 | (injection eo24 with f1_ f2_ f3_; have f4_ := f1_.symm; have f5_ := f3_.symm; clear f1_ f2_ f3_; subst f4_; subst f5_))
    refine uZ (a' := ?_) ?_ ?_
    rotate_left
    · simp only [putAll, Act.put, vO, vP, vQ]
      rfl
    refine one_ (i := 6) (N := some 16) tb46 rfl rfl (one_of HT_.out (by kernel_rfl)) (by decide) (fun K hK => ?_)
    refine goes_ Try.func75 (by kernel_rfl) rfl #[.pointer (some ⟨g, 0, none⟩), .slice Ao24 y241.length co24] (by rfl) rfl rfl q17 ?_
    with_reducible refine (spec_l1PickInt.calls g s0_0 t239 t240 _ _ y241 t244 t245 t246 w0 _ ?side1 ?side2 ?side3 ?side4 ?side5 A6.out).mono ?_
    (case side1 => exact q3)
    (case side2 => exact q0)
    (case side3 => repeat (first | exact (Kd.uP HO243.out).2.2 | (with_reducible refine Kd.vJ ?_ _) | (with_reducible refine Kd.vK ?_ _) | (with_reducible refine Kd.C_drew ?_)))
    (case side4 => exact (Kd.uP HO243.out).2.1)
    (case side5 => exact far_slice (IsS112.own_ne HI0.out HO243.out (by decide)))
    rintro e w25 ⟨rfl, hi, hb, hk⟩
    refine ⟨_, rfl, ?_⟩
    replace BK225 := vH BK225 hk NB225_0
    replace HO228 := Aside0.mk (Kd.uJ (Kd.vI (IsS112.apart (show IsS112 w0 _ g s0_0 t239 t240 from by repeat (first | (with_reducible first | exact HI0.out | apply IsS112.alloc | apply IsS112.drewN | apply IsS112.drew | apply IsS112.set_1 | apply IsS112.set_2 | refine IsS112.far ?_ NB0_225.out _ | refine IsS112.far ?_ NB0_234.out _) | exact HI0.out)) (rSR HO228.out) (by decide)) hk (fun _ h => h.2)) (fun _ h => h.1))
    replace HO231 := Aside0.mk (Kd.uJ (Kd.vI (IsS112.apart (show IsS112 w0 _ g s0_0 t239 t240 from by repeat (first | (with_reducible first | exact HI0.out | apply IsS112.alloc | apply IsS112.drewN | apply IsS112.drew | apply IsS112.set_1 | apply IsS112.set_2 | refine IsS112.far ?_ NB0_225.out _ | refine IsS112.far ?_ NB0_234.out _) | exact HI0.out)) (rSR HO231.out) (by decide)) hk (fun _ h => h.2)) (fun _ h => h.1))
    replace BK234 := vH BK234 hk NB234_0
    replace HO243 := Aside0.mk (Kd.uJ (Kd.vI (IsS112.apart (show IsS112 w0 _ g s0_0 t239 t240 from by repeat (first | (with_reducible first | exact HI0.out | apply IsS112.alloc | apply IsS112.drewN | apply IsS112.drew | apply IsS112.set_1 | apply IsS112.set_2 | refine IsS112.far ?_ NB0_225.out _ | refine IsS112.far ?_ NB0_234.out _) | exact HI0.out)) (rSR HO243.out) (by decide)) hk (fun _ h => h.2)) (fun _ h => h.1))
    replace HK := uU HK hk
    replace HB := Aside0.mk (hb)
    replace HI0 := Aside0.mk (hi)
    (try clear hb)
    (try clear hb2)
    (try clear hk)
    (try clear hi)
    have p9 : 0 ≤ (t238 : Int) := of_decide_eq_true q25
    have q9 : (t238 : Int) < ((t226.length : Int) : Int) := of_decide_eq_true q25
    obtain ⟨go9, co9, eo9, gb9, gl9, cl9, HG9⟩ := Kd.R_form HO228.out (by omega)
    (first | cases eo9 | (injection eo9 with ea_ en_ ec_; (first | subst ea_ | (injection ea_ with ea_; subst ea_)); subst ec_; clear en_))
    have GB9 := Aside0.mk gb9
    have GG9 := Aside0.mk HG9
    clear gb9 gl9 HG9
    obtain ⟨hx9_0, hf9_0⟩ := Kd.R_celln 0 HO228.out (t238 : Int) p9 q9
    replace p9 := eq_true p9
    replace q9 := eq_true q9
    have HN0_go9 := Aside0.mk (show g ≠ go9 from by have h_ := IsS112.own_ne HI0.out HO228.out (by decide); intro e_; exact h_ (by rw [e_]; rfl))
    have HP26 := Kd.R_putn HO228.out (t238 : Int) t244
    rw [← Ny247.out] at HP26
    have HQ26 := Aside0.mk HP26
    clear HP26
    refine hK.out _ _ ⟨(uG BK234.out 0).trans rfl, (uG BK234.out 1).trans rfl⟩ (fun hHeld => ?_)
    clear hK K
    refine uZ (a' := ?_) ?_ ?_
    rotate_left
    · show Act.put _ (some 16) _ = _
      simp only [Act.put, vO, vP, vQ, uC, uD]
      rfl
    refine uA (i := 7) (N := some 17) (v := ?_) (a' := ?_) tb48 rfl rfl (uQ HT_.out (by kernel_rfl)) (fun _ _ _ h => h) (Or.inl ⟨by rfl, ?_⟩) ?_ ?_
    rotate_left
    · intro w'
      go_simp
      with_reducible rfl
    rotate_left
    · simp only [Act.put, vO, vP, vQ, uC, uD]
      rfl
    refine last_ (i := 8) (N := none) tb51 rfl rfl (one_of HT_.out (by kernel_rfl)) (by decide) (fun K hK => ?_)
    refine skip_ (w1 := ?_) (by rfl) rfl ?_ ?_
    rotate_left
    · go_simp
      rfl
    refine hK.out _ _ ?_
    clear hK K
    refine done_ (done_of HT_.out (by kernel_rfl)) ?_
    have n0_ : Aside0 (Kd.R (Kd.int .i64) 3 (w25.setCell ⟨go9, (t238 : Int).toNat, none⟩ (.int .i64 t244)) w.heap.size (fun k_ => some k_ ≠ (.slice Ao24 y241.length co24 : Value).ownBlock) (.slice (some ⟨go9, 0, none⟩) t226.length co13) y247) := ⟨by (with_reducible repeat (first | apply Kd.vA | apply Kd.vB | apply Kd.uR)); exact HQ26.out⟩
    have n1_ : Aside0 (Kd.R k49 49 (w25.setCell ⟨go9, (t238 : Int).toNat, none⟩ (.int .i64 t244)) w.heap.size (fun _ => True) (.slice Ao17 t229.length co17) t229) := ⟨by (with_reducible repeat (first | apply Kd.vA | apply Kd.vB | apply Kd.uR)); exact Kd.uJ (Kd.uM (p := ⟨go9, (t238 : Int).toNat, none⟩) (Kd.uY HO231.out GG9.out (by decide)) (fun _ hk => hk.2) (.int .i64 t244)) (fun _ hk => trivial)⟩
    have n2_ : Aside0 (Kd.R (Kd.int .i64) 3 (w25.setCell ⟨go9, (t238 : Int).toNat, none⟩ (.int .i64 t244)) w.heap.size (fun k_ => some k_ ≠ (.slice (some ⟨go9, 0, none⟩) t226.length co13 : Value).ownBlock) (.slice Ao24 y241.length co24) y241) := ⟨by (with_reducible repeat (first | apply Kd.vA | apply Kd.vB | apply Kd.uR)); exact Kd.uJ (Kd.uM (p := ⟨go9, (t238 : Int).toNat, none⟩) (Kd.uJ HO243.out (fun k_ hk => (⟨hk, fun e_ => hk (by rw [e_]; rfl)⟩ : _ ∧ k_ ≠ go9))) (fun _ hk => hk.2) (.int .i64 t244)) (fun _ hk => hk.1)⟩
    have n3_ : Aside0 ((w25.setCell ⟨go9, (t238 : Int).toNat, none⟩ (.int .i64 t244)).heap[gb225]? = some (.cells #[.slice none 0 0, .slice none 0 0] 31 (0, 0))) := ⟨by (with_reducible repeat (first | refine uF ?_ _ | refine uB ?_ | refine uE ?_ _)); refine vF ?_ (by have h_ := Kd.R_ne HO228.out BK225.out (by decide); intro e_; exact h_ (by rw [e_]; rfl)) _; (with_reducible repeat (first | refine uF ?_ _ | refine uB ?_ | refine uE ?_ _)); exact BK225.out⟩
    have n4_ : Aside0 ((w25.setCell ⟨go9, (t238 : Int).toNat, none⟩ (.int .i64 t244)).heap[gb234]? = some (.cells #[.slice (some ⟨go9, 0, none⟩) t226.length co13, .slice Ao17 t229.length co17] 31 (0, 0))) := ⟨by (with_reducible repeat (first | refine uF ?_ _ | refine uB ?_ | refine uE ?_ _)); refine vF ?_ (by have h_ := Kd.R_ne HO228.out BK234.out (by decide); intro e_; exact h_ (by rw [e_]; rfl)) _; (with_reducible repeat (first | refine uF ?_ _ | refine uB ?_ | refine uE ?_ _)); exact BK234.out⟩
    have n5_ : Aside0 (IsS112 w0 (w25.setCell ⟨go9, (t238 : Int).toNat, none⟩ (.int .i64 t244)) g s0_0 t245 t246) := ⟨by repeat (first | (with_reducible first | exact HI0.out | apply IsS112.alloc | apply IsS112.drewN | apply IsS112.drew | apply IsS112.set_1 | apply IsS112.set_2 | refine IsS112.far ?_ HN0_go9.out _ | refine IsS112.far ?_ NB0_225.out _ | refine IsS112.far ?_ NB0_234.out _) | exact HI0.out)⟩
    have n6_ : Aside0 (uX w (w25.setCell ⟨go9, (t238 : Int).toNat, none⟩ (.int .i64 t244)) g none) := ⟨by repeat (first | (with_reducible first | exact HK.out | apply uX.set_ | apply keep_drewN | apply keep_drew | apply keep_alloc | refine keep_far ?_ GB9.out _ | refine keep_far ?_ GW225.out _ | refine keep_far ?_ GW234.out _) | exact HK.out)⟩
    have n7_ : Aside0 (Below w0.heap.size w0 (w25.setCell ⟨go9, (t238 : Int).toNat, none⟩ (.int .i64 t244))) := ⟨by repeat (first | (with_reducible first | exact HB.out | apply below_alloc | apply vE | apply vD | refine below_set ?_ (Nat.le_trans HL.out GB9.out) | refine below_set ?_ (IsS112.ge HI0.out) | refine below_set ?_ GE225.out | refine below_set ?_ GE234.out) | exact HB.out)⟩
    (try clear HO228)
    (try clear HO231)
    (try clear HO243)
    (try clear BK225)
    (try clear BK234)
    (try clear HI0)
    (try clear HK)
    (try clear HB)
    generalize (w25.setCell ⟨go9, (t238 : Int).toNat, none⟩ (.int .i64 t244)) = w27 at n0_ n1_ n2_ n3_ n4_ n5_ n6_ n7_ ⊢
    have HO228 := n0_
    have HO231 := n1_
    have HO243 := n2_
    have BK225 := n3_
    have BK234 := n4_
    have HI0 := n5_
    have HK := n6_
    have HB := n7_
    clear n0_ n1_ n2_ n3_ n4_ n5_ n6_ n7_
    obtain ⟨hcz28_0, hcz28_1, hfz28_0, hfz28_1⟩ := cz2 BK234
    have hnb29 := NB225_0.out
    have hnc29 := NB0_225.out
    obtain ⟨hcz30_0, hcz30_1, hfz30_0, hfz30_1⟩ := cz2 BK225
    try go_wp2
    refine bodyPost_ret (results_cell_row rfl _ _ gb225 31 #[.slice (some ⟨go9, 0, none⟩) t226.length co13, .slice Ao17 t229.length co17] (0, 0) _ rfl (by (with_reducible repeat (first | refine uF ?_ _ | refine uB ?_ | refine uE ?_ _)); refine uK (cs := #[.slice (some ⟨go9, 0, none⟩) t226.length co13, .slice none 0 0]) ?_ 1 _ rfl; (with_reducible repeat (first | refine uF ?_ _ | refine uB ?_ | refine uE ?_ _)); refine uK (cs := #[.slice none 0 0, .slice none 0 0]) ?_ 0 _ rfl; (with_reducible repeat (first | refine uF ?_ _ | refine uB ?_ | refine uE ?_ _)); exact BK225.out) Try.underlying31 rfl (by kernel_rfl)) rfl ?_
    exact ⟨_, _, q5, Kd.Q_of_R (by (with_reducible repeat (first | apply Kd.vA | apply Kd.vB | apply Kd.uR)); exact Kd.uJ (Kd.uM (p := ⟨gb225, 1, none⟩) (Kd.uM (p := ⟨gb225, 0, none⟩) (Kd.uY HO228.out BK225.out (by decide)) (fun _ hk => hk.2) (.slice (some ⟨go9, 0, none⟩) t226.length co13)) (fun _ hk => hk.2) (.slice Ao17 t229.length co17)) (fun _ hk => trivial)), by (with_reducible repeat (first | apply Kd.vA | apply Kd.vB | apply Kd.uR)); exact Kd.uJ (Kd.uM (p := ⟨gb225, 1, none⟩) (Kd.uM (p := ⟨gb225, 0, none⟩) (Kd.uY HO231.out BK225.out (by decide)) (fun _ hk => hk.2) (.slice (some ⟨go9, 0, none⟩) t226.length co13)) (fun _ hk => hk.2) (.slice Ao17 t229.length co17)) (fun _ hk => trivial), q3, q0, q2⟩
  rw [if_neg c4] at H
  have c4b0 : (t235 == 0) = false := beq_eq_false_iff_ne.mpr c4
  have c4b1 : (t235 != 0) = true := bne_iff_ne.mpr c4
  by_cases c31 : t235 = 1
  · rw [if_pos c31] at H
    have c31b0 : (t235 == 1) = true := beq_iff_eq.mpr c31
    have c31b1 : (t235 != 1) = false := bne_eq_false_iff_eq.mpr c31
    clear c31
    by_cases c32 : 1 ≤ (t226.length : Int)
    rotate_left
    · rw [if_neg c32] at H
      exact absurd H (by simp)
    rw [if_pos c32] at H
    have c32b0 := eq_true c32
    have c32b1 : decide (1 ≤ (t226.length : Int)) = true := decide_eq_true c32
    clear c32
    obtain ⟨y248, hy248⟩ : ∃ y_ : List Int, y_ = (t226.drop (1 : Int).toNat) := ⟨_, rfl⟩
    replace H : (some (y248, t229, t236, t237)) = some (r1, r2, r3, r4) := by first | (rw [hy248]; with_reducible exact H) | (have H2_ := (Option.bind_some _ _).symm.trans H; rw [hy248]; with_reducible exact H2_) | (have H2_ := (Option.bind_some _ _).symm.trans H; with_reducible exact H2_) | with_reducible exact H | (rw [hy248]; exact H) | exact H | rfl
    have Ny248 := Aside0.mk hy248
    clear hy248
    simp only [Option.some.injEq, Prod.mk.injEq] at H
    obtain ⟨rfl, rfl, rfl, rfl⟩ := H
    go_wp2_with (first | ((with_reducible refine uH (f := 84) rfl ?_); refine vC (some 5) Try.func84 #[.pointer (some ⟨g, 0, none⟩)] ?_; (with_reducible refine (spec_l4Machine.calls k g s0_0 s0_1 s0_2 t226 t229 t232 t233 w0 _ ?side1 ?side2 A2.out).mono ?_); (case side1 => exact q29); (case side2 => exact q0); rintro e w34 ⟨v227, v230, rfl, ho0, ho1, hi, hb, hk⟩; refine ⟨_, rfl, ?_⟩; have HO228 := Aside0.mk (Kd.vG ho0 (vN (w := w) (g := g) (row := none) q2)); have HO231 := Aside0.mk (Kd.vG ho1 (vN (w := w) (g := g) (row := none) q2)); replace BK225 := vH BK225 hk NB225_0; replace HK := uU HK hk; replace HB := Aside0.mk (hb); replace HI0 := Aside0.mk (hi); (try clear hb); (try clear hb2); (try clear hk); (try clear hi); (try clear ho0); (try clear ho1)) | ((with_reducible refine uI (N := 3) rfl ?_); refine bxe 3 #[.slice none 0 0, .slice none 0 0] 31 ?_; intro gb234 hg w35 hbox hb; have BK234 := Aside0.mk (hbox); have GW234 := tKGe HK hg; have GE234 := tKW HW0 HK hg; have NB225_234 := tNl BK225 hg; have NB234_225 := tNg BK225 hg; have NB0_234 := Aside0.mk ((by rw [hg]; exact Nat.ne_of_lt (IsS112.lt (show IsS112 w0 _ g s0_0 t232 t233 from by repeat (first | (with_reducible first | exact HI0.out | apply IsS112.alloc | apply IsS112.drewN | apply IsS112.drew | apply IsS112.set_1 | apply IsS112.set_2 | refine IsS112.far ?_ NB0_225.out _) | exact HI0.out))) : g ≠ gb234)); have NB234_0 := Aside0.mk ((by rw [hg]; exact Nat.ne_of_gt (IsS112.lt (show IsS112 w0 _ g s0_0 t232 t233 from by repeat (first | (with_reducible first | exact HI0.out | apply IsS112.alloc | apply IsS112.drewN | apply IsS112.drew | apply IsS112.set_1 | apply IsS112.set_2 | refine IsS112.far ?_ NB0_225.out _) | exact HI0.out))) : gb234 ≠ g)); replace HO228 := Kd.tR HO228 hb; replace HO231 := Kd.tR HO231 hb; replace HI0 := Aside0.mk (IsS112.below q29 hb); replace BK225 := uL BK225 hb; replace HK := uU HK (uX.of_below hb g none); replace HB := tBel1 HB hb; clear hb hbox hg; obtain ⟨Ao36, co36, eo36⟩ := Kd.uW HO228.out; subst eo36; have hnb37 := NB234_225.out; have hnc37 := NB225_234.out; have hnb38 := NB234_0.out; have hnc38 := NB0_234.out; obtain ⟨hcz39_0, hcz39_1, hfz39_0, hfz39_1⟩ := cz2 BK234; obtain ⟨Ao40, co40, eo40⟩ := Kd.uW HO231.out; subst eo40) | ((with_reducible refine uH (f := 74) rfl ?_); refine vC (some 7) Try.func74 #[.pointer (some ⟨g, 0, none⟩), .int .i64 14] ?_; (with_reducible refine (spec_l1Below.calls g s0_0 t232 t233 14 t235 t236 t237 w0 _ ?side1 ?side2 A3.out).mono ?_); (case side1 => exact q3); (case side2 => exact q0); rintro e w41 ⟨rfl, hi, hb, hk⟩; refine ⟨_, rfl, ?_⟩; replace BK225 := tKBlkF BK225 hk NB225_0; replace HO228 := Aside0.mk (Kd.uJ (Kd.vI (IsS112.apart (show IsS112 w0 _ g s0_0 t232 t233 from by repeat (first | (with_reducible first | exact HI0.out | apply IsS112.alloc | apply IsS112.drewN | apply IsS112.drew | apply IsS112.set_1 | apply IsS112.set_2 | refine IsS112.far ?_ NB0_225.out _ | refine IsS112.far ?_ NB0_234.out _) | exact HI0.out)) (by (with_reducible repeat (first | apply Kd.vA | apply Kd.vB | apply Kd.uR)); exact (Kd.uJ (Kd.uM (p := ⟨gb234, 1, none⟩) (Kd.uM (p := ⟨gb234, 0, none⟩) (Kd.uY HO228.out BK234.out (by decide)) (fun _ hk => hk.2) (.slice Ao36 t226.length co36)) (fun _ hk => hk.2) (.slice Ao40 t229.length co40)) (fun _ h_ => h_.1))) (by decide)) hk (fun _ h => h.2)) (fun _ h => h.1)); replace HO231 := Aside0.mk (Kd.uJ (Kd.vI (IsS112.apart (show IsS112 w0 _ g s0_0 t232 t233 from by repeat (first | (with_reducible first | exact HI0.out | apply IsS112.alloc | apply IsS112.drewN | apply IsS112.drew | apply IsS112.set_1 | apply IsS112.set_2 | refine IsS112.far ?_ NB0_225.out _ | refine IsS112.far ?_ NB0_234.out _) | exact HI0.out)) (by (with_reducible repeat (first | apply Kd.vA | apply Kd.vB | apply Kd.uR)); exact (Kd.uJ (Kd.uM (p := ⟨gb234, 1, none⟩) (Kd.uM (p := ⟨gb234, 0, none⟩) (Kd.uY HO231.out BK234.out (by decide)) (fun _ hk => hk.2) (.slice Ao36 t226.length co36)) (fun _ hk => hk.2) (.slice Ao40 t229.length co40)) (fun _ h_ => h_.1))) (by decide)) hk (fun _ h => h.2)) (fun _ h => h.1)); replace BK234 := tKBlkP BK234 #[.slice Ao36 t226.length co36, .slice Ao40 t229.length co40] hk NB234_0; replace HK := uU HK hk; replace HB := Aside0.mk (hb); replace HI0 := Aside0.mk (hi); (try clear hb); (try clear hb2); (try clear hk); (try clear hi); obtain ⟨hcz42_0, hcz42_1, hfz42_0, hfz42_1⟩ := cz2 BK234; have q43 : (1 : Int) ≤ ((t226.length : Int) : Int) := of_decide_eq_true q25; obtain ⟨i043, hi043, _, hsz43, _⟩ := info_parts info3; have hcut43 := cut_from (P := Try.prog) 22 3 .i64 Try.underlying22 hi043 1 hsz43 Ao36 t226.length co36 1 (by omega) q43; have hr43 := Kd.Q_drop (k := (1 : Int).toNat) (Kd.Q_of_R HO228.out) (by omega); obtain ⟨A43, hA43⟩ : ∃ A1, A1 = (if co36 = (1 : Int).toNat then Ao36 else (Ao36 : Option Addr).map (·.add ((1 : Int).toNat * 1))) := ⟨_, rfl⟩; obtain ⟨c43, hc43⟩ : ∃ c1, c1 = co36 - (1 : Int).toNat := ⟨_, rfl⟩; have hy43 : y248.length = t226.length - (1 : Int).toNat := (by rw [Ny248.out, List.length_drop]); rw [← Ny248.out] at hr43; rw [← hy43, ← hA43, ← hc43] at hcut43; replace hr43 : Kd.Q (Kd.int .i64) 3 w41 w.heap.size (fun _ => True) (.slice A43 y248.length c43) y248 := (by rw [hA43, hc43, hy43]; exact hr43); have HE43 : Aside0 ((Value.slice A43 y248.length c43).ownBlock = (.slice Ao36 t226.length co36 : Value).ownBlock) := ⟨by rw [hA43]; split <;> (cases (Ao36 : Option Addr) <;> rfl)⟩; clear hy43 hi043 hsz43 HO228 hA43 hc43; have HO250 := Aside0.mk hr43; clear hr43; replace q43 := eq_true q43; have hnb44 := NB225_0.out; have hnc44 := NB0_225.out; obtain ⟨hcz45_0, hcz45_1, hfz45_0, hfz45_1⟩ := cz2 BK225))
    refine bodyPost_ret (results_cell_row rfl _ _ gb225 31 #[.slice A43 y248.length c43, .slice Ao40 t229.length co40] (0, 0) _ rfl (by (with_reducible repeat (first | refine uF ?_ _ | refine uB ?_ | refine uE ?_ _)); refine uK (cs := #[.slice A43 y248.length c43, .slice none 0 0]) ?_ 1 _ rfl; (with_reducible repeat (first | refine uF ?_ _ | refine uB ?_ | refine uE ?_ _)); refine uK (cs := #[.slice none 0 0, .slice none 0 0]) ?_ 0 _ rfl; (with_reducible repeat (first | refine uF ?_ _ | refine uB ?_ | refine uE ?_ _)); refine vF ?_ NB225_234.out _; (with_reducible repeat (first | refine uF ?_ _ | refine uB ?_ | refine uE ?_ _)); exact BK225.out) Try.underlying31 rfl (by kernel_rfl)) rfl ?_
    exact ⟨_, _, q5, by (with_reducible repeat (first | apply Kd.Q_alloc | apply Kd.Q_drewN | apply Kd.Q_drew)); exact Kd.Q_mono (Kd.Q_far (p := ⟨gb225, 1, none⟩) (Kd.Q_far (p := ⟨gb225, 0, none⟩) (Kd.Q_far (p := ⟨gb234, 0, none⟩) (Kd.Q_types (Kd.Q_types HO250.out BK234.out (by decide)) BK225.out (by decide)) (fun _ hk => hk.1.2) (.slice A43 y248.length c43)) (fun _ hk => hk.2) (.slice A43 y248.length c43)) (fun _ hk => hk.2) (.slice Ao40 t229.length co40)) (fun _ hk => trivial), by (with_reducible repeat (first | apply Kd.vA | apply Kd.vB | apply Kd.uR)); exact Kd.uJ (Kd.uM (p := ⟨gb225, 1, none⟩) (Kd.uM (p := ⟨gb225, 0, none⟩) (Kd.uM (p := ⟨gb234, 0, none⟩) (Kd.uY (Kd.uY HO231.out BK234.out (by decide)) BK225.out (by decide)) (fun _ hk => hk.1.2) (.slice A43 y248.length c43)) (fun _ hk => hk.2) (.slice A43 y248.length c43)) (fun _ hk => hk.2) (.slice Ao40 t229.length co40)) (fun _ hk => trivial), q3, q0, q2⟩
  rw [if_neg c31] at H
  have c31b0 : (t235 == 1) = false := beq_eq_false_iff_ne.mpr c31
  have c31b1 : (t235 != 1) = true := bne_iff_ne.mpr c31
  by_cases c46 : t235 = 2
  rotate_left
  · rw [if_neg c46] at H
    have c46b0 : (t235 == 2) = false := beq_eq_false_iff_ne.mpr c46
    have c46b1 : (t235 != 2) = true := bne_iff_ne.mpr c46
    simp only [Option.some.injEq, Prod.mk.injEq] at H
    obtain ⟨rfl, rfl, rfl, rfl⟩ := H
    go_wp2_with (first | ((with_reducible refine uH (f := 84) rfl ?_); refine vC (some 5) Try.func84 #[.pointer (some ⟨g, 0, none⟩)] ?_; (with_reducible refine (spec_l4Machine.calls k g s0_0 s0_1 s0_2 t226 t229 t232 t233 w0 _ ?side1 ?side2 A2.out).mono ?_); (case side1 => exact q29); (case side2 => exact q0); rintro e w75 ⟨v227, v230, rfl, ho0, ho1, hi, hb, hk⟩; refine ⟨_, rfl, ?_⟩; have HO228 := Aside0.mk (Kd.vG ho0 (vN (w := w) (g := g) (row := none) q2)); have HO231 := Aside0.mk (Kd.vG ho1 (vN (w := w) (g := g) (row := none) q2)); replace BK225 := vH BK225 hk NB225_0; replace HK := uU HK hk; replace HB := Aside0.mk (hb); replace HI0 := Aside0.mk (hi); (try clear hb); (try clear hb2); (try clear hk); (try clear hi); (try clear ho0); (try clear ho1)) | ((with_reducible refine uI (N := 3) rfl ?_); refine bxe 3 #[.slice none 0 0, .slice none 0 0] 31 ?_; intro gb234 hg w76 hbox hb; have BK234 := Aside0.mk (hbox); have GW234 := tKGe HK hg; have GE234 := tKW HW0 HK hg; have NB225_234 := tNl BK225 hg; have NB234_225 := tNg BK225 hg; have NB0_234 := Aside0.mk ((by rw [hg]; exact Nat.ne_of_lt (IsS112.lt (show IsS112 w0 _ g s0_0 t232 t233 from by repeat (first | (with_reducible first | exact HI0.out | apply IsS112.alloc | apply IsS112.drewN | apply IsS112.drew | apply IsS112.set_1 | apply IsS112.set_2 | refine IsS112.far ?_ NB0_225.out _) | exact HI0.out))) : g ≠ gb234)); have NB234_0 := Aside0.mk ((by rw [hg]; exact Nat.ne_of_gt (IsS112.lt (show IsS112 w0 _ g s0_0 t232 t233 from by repeat (first | (with_reducible first | exact HI0.out | apply IsS112.alloc | apply IsS112.drewN | apply IsS112.drew | apply IsS112.set_1 | apply IsS112.set_2 | refine IsS112.far ?_ NB0_225.out _) | exact HI0.out))) : gb234 ≠ g)); replace HO228 := Kd.tR HO228 hb; replace HO231 := Kd.tR HO231 hb; replace HI0 := Aside0.mk (IsS112.below q29 hb); replace BK225 := uL BK225 hb; replace HK := uU HK (uX.of_below hb g none); replace HB := tBel1 HB hb; clear hb hbox hg; obtain ⟨Ao77, co77, eo77⟩ := Kd.uW HO228.out; subst eo77; have hnb78 := NB234_225.out; have hnc78 := NB225_234.out; have hnb79 := NB234_0.out; have hnc79 := NB0_234.out; obtain ⟨hcz80_0, hcz80_1, hfz80_0, hfz80_1⟩ := cz2 BK234; obtain ⟨Ao81, co81, eo81⟩ := Kd.uW HO231.out; subst eo81) | ((with_reducible refine uH (f := 74) rfl ?_); refine vC (some 7) Try.func74 #[.pointer (some ⟨g, 0, none⟩), .int .i64 14] ?_; (with_reducible refine (spec_l1Below.calls g s0_0 t232 t233 14 t235 t236 t237 w0 _ ?side1 ?side2 A3.out).mono ?_); (case side1 => exact q3); (case side2 => exact q0); rintro e w82 ⟨rfl, hi, hb, hk⟩; refine ⟨_, rfl, ?_⟩; replace BK225 := tKBlkF BK225 hk NB225_0; replace HO228 := Aside0.mk (Kd.uJ (Kd.vI (IsS112.apart (show IsS112 w0 _ g s0_0 t232 t233 from by repeat (first | (with_reducible first | exact HI0.out | apply IsS112.alloc | apply IsS112.drewN | apply IsS112.drew | apply IsS112.set_1 | apply IsS112.set_2 | refine IsS112.far ?_ NB0_225.out _ | refine IsS112.far ?_ NB0_234.out _) | exact HI0.out)) (by (with_reducible repeat (first | apply Kd.vA | apply Kd.vB | apply Kd.uR)); exact (Kd.uJ (Kd.uM (p := ⟨gb234, 1, none⟩) (Kd.uM (p := ⟨gb234, 0, none⟩) (Kd.uY HO228.out BK234.out (by decide)) (fun _ hk => hk.2) (.slice Ao77 t226.length co77)) (fun _ hk => hk.2) (.slice Ao81 t229.length co81)) (fun _ h_ => h_.1))) (by decide)) hk (fun _ h => h.2)) (fun _ h => h.1)); replace HO231 := Aside0.mk (Kd.uJ (Kd.vI (IsS112.apart (show IsS112 w0 _ g s0_0 t232 t233 from by repeat (first | (with_reducible first | exact HI0.out | apply IsS112.alloc | apply IsS112.drewN | apply IsS112.drew | apply IsS112.set_1 | apply IsS112.set_2 | refine IsS112.far ?_ NB0_225.out _ | refine IsS112.far ?_ NB0_234.out _) | exact HI0.out)) (by (with_reducible repeat (first | apply Kd.vA | apply Kd.vB | apply Kd.uR)); exact (Kd.uJ (Kd.uM (p := ⟨gb234, 1, none⟩) (Kd.uM (p := ⟨gb234, 0, none⟩) (Kd.uY HO231.out BK234.out (by decide)) (fun _ hk => hk.2) (.slice Ao77 t226.length co77)) (fun _ hk => hk.2) (.slice Ao81 t229.length co81)) (fun _ h_ => h_.1))) (by decide)) hk (fun _ h => h.2)) (fun _ h => h.1)); replace BK234 := tKBlkP BK234 #[.slice Ao77 t226.length co77, .slice Ao81 t229.length co81] hk NB234_0; replace HK := uU HK hk; replace HB := Aside0.mk (hb); replace HI0 := Aside0.mk (hi); (try clear hb); (try clear hb2); (try clear hk); (try clear hi); obtain ⟨hcz83_0, hcz83_1, hfz83_0, hfz83_1⟩ := cz2 BK234; have hnb84 := NB225_0.out; have hnc84 := NB0_225.out; obtain ⟨hcz85_0, hcz85_1, hfz85_0, hfz85_1⟩ := cz2 BK225))
    refine bodyPost_ret (results_cell_row rfl _ _ gb225 31 #[.slice Ao77 t226.length co77, .slice Ao81 t229.length co81] (0, 0) _ rfl (by (with_reducible repeat (first | refine uF ?_ _ | refine uB ?_ | refine uE ?_ _)); refine uK (cs := #[.slice Ao77 t226.length co77, .slice none 0 0]) ?_ 1 _ rfl; (with_reducible repeat (first | refine uF ?_ _ | refine uB ?_ | refine uE ?_ _)); refine uK (cs := #[.slice none 0 0, .slice none 0 0]) ?_ 0 _ rfl; (with_reducible repeat (first | refine uF ?_ _ | refine uB ?_ | refine uE ?_ _)); exact BK225.out) Try.underlying31 rfl (by kernel_rfl)) rfl ?_
    exact ⟨_, _, q5, Kd.Q_of_R (by (with_reducible repeat (first | apply Kd.vA | apply Kd.vB | apply Kd.uR)); exact Kd.uJ (Kd.uM (p := ⟨gb225, 1, none⟩) (Kd.uM (p := ⟨gb225, 0, none⟩) (Kd.uY HO228.out BK225.out (by decide)) (fun _ hk => hk.2) (.slice Ao77 t226.length co77)) (fun _ hk => hk.2) (.slice Ao81 t229.length co81)) (fun _ hk => trivial)), by (with_reducible repeat (first | apply Kd.vA | apply Kd.vB | apply Kd.uR)); exact Kd.uJ (Kd.uM (p := ⟨gb225, 1, none⟩) (Kd.uM (p := ⟨gb225, 0, none⟩) (Kd.uY HO231.out BK225.out (by decide)) (fun _ hk => hk.2) (.slice Ao77 t226.length co77)) (fun _ hk => hk.2) (.slice Ao81 t229.length co81)) (fun _ hk => trivial), q3, q0, q2⟩
  rw [if_pos c46] at H
  have c46b0 : (t235 == 2) = true := beq_iff_eq.mpr c46
  have c46b1 : (t235 != 2) = false := bne_eq_false_iff_eq.mpr c46
  clear c46
  replace H := Option.bind_eq_some_iff.mp H
  obtain ⟨⟨t251, t252, t253⟩, A470, H⟩ := H
  try dsimp only at H
  have A47 := Aside0.mk A470
  clear A470
  replace H := Option.bind_eq_some_iff.mp H
  obtain ⟨⟨t254, t255, t256⟩, A480, H⟩ := H
  try dsimp only at H
  have A48 := Aside0.mk A480
  clear A480
  obtain ⟨y257, hy257⟩ : ∃ y_ : List Int, y_ = (([0, 10] : List Int)) := ⟨_, rfl⟩
  replace H : ((spec_l1PickInt.f s0_0 t255 t256 y257).bind fun bt260 => (if t229.length < 4398046511104 then (some (t226, (t229 ++ [(⟨t251, t254, (⟨false, bt260.1⟩ : S33)⟩ : S49)]), bt260.2.1, bt260.2.2)) else (none))) = some (r1, r2, r3, r4) := by first | (rw [hy257]; with_reducible exact H) | (have H2_ := (Option.bind_some _ _).symm.trans H; rw [hy257]; with_reducible exact H2_) | (have H2_ := (Option.bind_some _ _).symm.trans H; with_reducible exact H2_) | with_reducible exact H | (rw [hy257]; exact H) | exact H | rfl
  have Ny257 := Aside0.mk hy257
  clear hy257
  replace H := Option.bind_eq_some_iff.mp H
  obtain ⟨⟨t260, t261, t262⟩, A490, H⟩ := H
  try dsimp only at H
  have A49 := Aside0.mk A490
  clear A490
  by_cases c50 : t229.length < 4398046511104
  rotate_left
  · rw [if_neg c50] at H
    exact absurd H (by simp)
  rw [if_pos c50] at H
  have LMc50 := Aside0.mk c50
  clear c50
  obtain ⟨y263, hy263⟩ : ∃ y_ : List (S49), y_ = (t229 ++ [(⟨t251, t254, (⟨false, t260⟩ : S33)⟩ : S49)]) := ⟨_, rfl⟩
  replace H : (some (t226, y263, t261, t262)) = some (r1, r2, r3, r4) := by first | (rw [hy263]; with_reducible exact H) | (have H2_ := (Option.bind_some _ _).symm.trans H; rw [hy263]; with_reducible exact H2_) | (have H2_ := (Option.bind_some _ _).symm.trans H; with_reducible exact H2_) | with_reducible exact H | (rw [hy263]; exact H) | exact H | rfl
  have Ny263 := Aside0.mk hy263
  clear hy263
  simp only [Option.some.injEq, Prod.mk.injEq] at H
  obtain ⟨rfl, rfl, rfl, rfl⟩ := H
  try go_wp2_with (first | ((with_reducible refine uH (f := 84) rfl ?_); refine vC (some 5) Try.func84 #[.pointer (some ⟨g, 0, none⟩)] ?_; (with_reducible refine (spec_l4Machine.calls k g s0_0 s0_1 s0_2 t226 t229 t232 t233 w0 _ ?side1 ?side2 A2.out).mono ?_); (case side1 => exact q29); (case side2 => exact q0); rintro e w52 ⟨v227, v230, rfl, ho0, ho1, hi, hb, hk⟩; refine ⟨_, rfl, ?_⟩; have HO228 := Aside0.mk (Kd.vG ho0 (vN (w := w) (g := g) (row := none) q2)); have HO231 := Aside0.mk (Kd.vG ho1 (vN (w := w) (g := g) (row := none) q2)); replace BK225 := vH BK225 hk NB225_0; replace HK := uU HK hk; replace HB := Aside0.mk (hb); replace HI0 := Aside0.mk (hi); (try clear hb); (try clear hb2); (try clear hk); (try clear hi); (try clear ho0); (try clear ho1)) | ((with_reducible refine uI (N := 3) rfl ?_); refine bxe 3 #[.slice none 0 0, .slice none 0 0] 31 ?_; intro gb234 hg w53 hbox hb; have BK234 := Aside0.mk (hbox); have GW234 := tKGe HK hg; have GE234 := tKW HW0 HK hg; have NB225_234 := tNl BK225 hg; have NB234_225 := tNg BK225 hg; have NB0_234 := Aside0.mk ((by rw [hg]; exact Nat.ne_of_lt (IsS112.lt (show IsS112 w0 _ g s0_0 t232 t233 from by repeat (first | (with_reducible first | exact HI0.out | apply IsS112.alloc | apply IsS112.drewN | apply IsS112.drew | apply IsS112.set_1 | apply IsS112.set_2 | refine IsS112.far ?_ NB0_225.out _) | exact HI0.out))) : g ≠ gb234)); have NB234_0 := Aside0.mk ((by rw [hg]; exact Nat.ne_of_gt (IsS112.lt (show IsS112 w0 _ g s0_0 t232 t233 from by repeat (first | (with_reducible first | exact HI0.out | apply IsS112.alloc | apply IsS112.drewN | apply IsS112.drew | apply IsS112.set_1 | apply IsS112.set_2 | refine IsS112.far ?_ NB0_225.out _) | exact HI0.out))) : gb234 ≠ g)); replace HO228 := Kd.tR HO228 hb; replace HO231 := Kd.tR HO231 hb; replace HI0 := Aside0.mk (IsS112.below q29 hb); replace BK225 := uL BK225 hb; replace HK := uU HK (uX.of_below hb g none); replace HB := tBel1 HB hb; clear hb hbox hg; obtain ⟨Ao54, co54, eo54⟩ := Kd.uW HO228.out; subst eo54; have hnb55 := NB234_225.out; have hnc55 := NB225_234.out; have hnb56 := NB234_0.out; have hnc56 := NB0_234.out; obtain ⟨hcz57_0, hcz57_1, hfz57_0, hfz57_1⟩ := cz2 BK234; obtain ⟨Ao58, co58, eo58⟩ := Kd.uW HO231.out; subst eo58) | ((with_reducible refine uH (f := 74) rfl ?_); refine vC (some 7) Try.func74 #[.pointer (some ⟨g, 0, none⟩), .int .i64 14] ?_; (with_reducible refine (spec_l1Below.calls g s0_0 t232 t233 14 t235 t236 t237 w0 _ ?side1 ?side2 A3.out).mono ?_); (case side1 => exact q3); (case side2 => exact q0); rintro e w59 ⟨rfl, hi, hb, hk⟩; refine ⟨_, rfl, ?_⟩; replace BK225 := tKBlkF BK225 hk NB225_0; replace HO228 := Aside0.mk (Kd.uJ (Kd.vI (IsS112.apart (show IsS112 w0 _ g s0_0 t232 t233 from by repeat (first | (with_reducible first | exact HI0.out | apply IsS112.alloc | apply IsS112.drewN | apply IsS112.drew | apply IsS112.set_1 | apply IsS112.set_2 | refine IsS112.far ?_ NB0_225.out _ | refine IsS112.far ?_ NB0_234.out _) | exact HI0.out)) (by (with_reducible repeat (first | apply Kd.vA | apply Kd.vB | apply Kd.uR)); exact (Kd.uJ (Kd.uM (p := ⟨gb234, 1, none⟩) (Kd.uM (p := ⟨gb234, 0, none⟩) (Kd.uY HO228.out BK234.out (by decide)) (fun _ hk => hk.2) (.slice Ao54 t226.length co54)) (fun _ hk => hk.2) (.slice Ao58 t229.length co58)) (fun _ h_ => h_.1))) (by decide)) hk (fun _ h => h.2)) (fun _ h => h.1)); replace HO231 := Aside0.mk (Kd.uJ (Kd.vI (IsS112.apart (show IsS112 w0 _ g s0_0 t232 t233 from by repeat (first | (with_reducible first | exact HI0.out | apply IsS112.alloc | apply IsS112.drewN | apply IsS112.drew | apply IsS112.set_1 | apply IsS112.set_2 | refine IsS112.far ?_ NB0_225.out _ | refine IsS112.far ?_ NB0_234.out _) | exact HI0.out)) (by (with_reducible repeat (first | apply Kd.vA | apply Kd.vB | apply Kd.uR)); exact (Kd.uJ (Kd.uM (p := ⟨gb234, 1, none⟩) (Kd.uM (p := ⟨gb234, 0, none⟩) (Kd.uY HO231.out BK234.out (by decide)) (fun _ hk => hk.2) (.slice Ao54 t226.length co54)) (fun _ hk => hk.2) (.slice Ao58 t229.length co58)) (fun _ h_ => h_.1))) (by decide)) hk (fun _ h => h.2)) (fun _ h => h.1)); replace BK234 := tKBlkP BK234 #[.slice Ao54 t226.length co54, .slice Ao58 t229.length co58] hk NB234_0; replace HK := uU HK hk; replace HB := Aside0.mk (hb); replace HI0 := Aside0.mk (hi); (try clear hb); (try clear hb2); (try clear hk); (try clear hi)))
  replace HO228 := Aside0.mk (Kd.uR HO228.out)
  replace HO231 := Aside0.mk (Kd.uR HO231.out)
  replace BK225 := Aside0.mk (uB BK225.out)
  replace BK234 := Aside0.mk (uB BK234.out)
  replace HI0 := Aside0.mk (IsS112.drew HI0.out)
  replace HK := Aside0.mk (keep_drew HK.out)
  replace HB := Aside0.mk (vD HB.out)
  refine start_ (n := 15) (S := fun w' => w'.cell? ⟨gb234, 0, none⟩ = some (.slice Ao54 t226.length co54) ∧ w'.cell? ⟨gb234, 1, none⟩ = some (.slice Ao58 t229.length co58)) (ds := [14]) #[false, false, false, false, false, false, false, false, false, false, false, false, false, false, false] (by kernel_rfl) rfl rfl ⟨(uG BK234.out 0).trans rfl, (uG BK234.out 1).trans rfl⟩ (fun hHeld => ?_); refine with_tabW spec_l4Any.tab8 spec_l4Any.bits8 (fun HT_ HW_ => ?_)
  generalize w59.drew = w60 at HO228 HO231 BK225 BK234 HI0 HK HB hHeld ⊢
  refine uA (i := 0) (N := some 26) (v := ?_) (a' := ?_) #[true, false, false, false, false, false, false, false, false, false, false, false, false, false, false] rfl rfl (uQ HT_.out (by kernel_rfl)) (fun _ _ _ h => h) (Or.inl ⟨by rfl, ?_⟩) ?_ ?_
  rotate_left
  · intro w'
    go_simp
    with_reducible rfl
  rotate_left
  · simp only [Act.put, vO, vP, vQ, uC, uD]
    rfl
  refine uA (i := 2) (N := some 28) (v := ?_) (a' := ?_) #[true, false, true, false, false, false, false, false, false, false, false, false, false, false, false] rfl rfl (uQ HT_.out (by kernel_rfl)) (fun _ _ _ h => h) (Or.inl ⟨by rfl, ?_⟩) ?_ ?_
  rotate_left
  · intro w'
    go_simp
    with_reducible rfl
  rotate_left
  · simp only [Act.put, vO, vP, vQ, uC, uD]
    rfl
  refine uA (i := 4) (N := some 30) (v := ?_) (a' := ?_) #[true, false, true, false, true, false, false, false, false, false, false, false, false, false, false] rfl rfl (uQ HT_.out (by kernel_rfl)) (fun _ _ _ h => h) (Or.inl ⟨by rfl, ?_⟩) ?_ ?_
  rotate_left
  · intro w'
    go_simp
    with_reducible rfl
  rotate_left
  · simp only [Act.put, vO, vP, vQ, uC, uD]
    rfl
  refine uA (i := 6) (N := some 32) (v := ?_) (a' := ?_) #[true, false, true, false, true, false, true, false, false, false, false, false, false, false, false] rfl rfl (uQ HT_.out (by kernel_rfl)) (fun _ _ _ h => h) (Or.inl ⟨by rfl, ?_⟩) ?_ ?_
  rotate_left
  · intro w'
    go_simp
    with_reducible rfl
  rotate_left
  · simp only [Act.put, vO, vP, vQ, uC, uD]
    rfl
  refine take_ (i := 1) (N := some 27) (v := ?_) (a' := ?_) #[true, true, true, false, true, false, true, false, false, false, false, false, false, false, false] rfl rfl (take_ofW HT_.out HW_.out (by kernel_rfl)) (fun _ _ _ h => h) (Or.inl ⟨by rfl, ?_⟩) hHeld ?_ ?_
  rotate_left
  · rintro w' ⟨s0, s1⟩
    go_simp
    with_reducible rfl
  rotate_left
  · simp only [Act.put, vO, vP, vQ, uC, uD]
    rfl
  refine join_ (σ := Value) 7 tb23 (fun s_ => [(29, .int .i64 t251), (31, .int .i64 t254), (33, s_)]) (fun s_ w' => (w'.cell? ⟨gb234, 0, none⟩ = some (.slice Ao54 t226.length co54) ∧ w'.cell? ⟨gb234, 1, none⟩ = some (.slice Ao58 t229.length co58)) ∧ (Kd.R (Kd.int .i64) 3 w' w.heap.size (fun k_ => some k_ ≠ (s_ : Value).ownBlock) (.slice Ao54 t226.length co54) t226) ∧ (Kd.R k49 49 w' w.heap.size (fun _ => True) (.slice Ao58 t229.length co58) t229) ∧ (Kd.R (Kd.int .i64) 3 w' w.heap.size (fun k_ => some k_ ≠ (.slice Ao54 t226.length co54 : Value).ownBlock) s_ y257) ∧ (w'.heap[gb225]? = some (.cells #[.slice none 0 0, .slice none 0 0] 31 (0, 0))) ∧ (w'.heap[gb234]? = some (.cells #[.slice Ao54 t226.length co54, .slice Ao58 t229.length co58] 31 (0, 0))) ∧ (IsS112 w0 w' g s0_0 t255 t256) ∧ (uX w w' g none) ∧ (Below w0.heap.size w0 w')) ?_ ?_
  rotate_left
  · intro hCont
    refine two_ (i := 3) (j := 7) (Ni := some 29) (Nj := some 33) #[true, true, true, true, true, false, true, false, false, false, false, false, false, false, false] #[true, true, true, false, true, false, true, true, false, false, false, false, false, false, false] rfl rfl rfl rfl (two_of HT_.out (by kernel_rfl)) (by decide) (by decide) (fun K hK => ?_) (fun K hK => ?_)
    · skip
      refine goes_ Try.func74 (by kernel_rfl) rfl #[.pointer (some ⟨g, 0, none⟩), .int .i64 4] (by rfl) rfl rfl q17 ?_
      with_reducible refine (spec_l1Below.calls g s0_0 t236 t237 4 t251 t252 t253 w0 _ ?side1 ?side2 A47.out).mono ?_
      (case side1 => exact q3)
      (case side2 => exact q0)
      rintro e w61 ⟨rfl, hi, hb, hk⟩
      refine ⟨_, rfl, ?_⟩
      replace BK225 := vH BK225 hk NB225_0
      replace HO228 := Aside0.mk (Kd.uJ (Kd.vI (IsS112.apart (show IsS112 w0 _ g s0_0 t236 t237 from by repeat (first | (with_reducible first | exact HI0.out | apply IsS112.alloc | apply IsS112.drewN | apply IsS112.drew | apply IsS112.set_1 | apply IsS112.set_2 | refine IsS112.far ?_ NB0_225.out _ | refine IsS112.far ?_ NB0_234.out _) | exact HI0.out)) (rSR HO228.out) (by decide)) hk (fun _ h => h.2)) (fun _ h => h.1))
      replace HO231 := Aside0.mk (Kd.uJ (Kd.vI (IsS112.apart (show IsS112 w0 _ g s0_0 t236 t237 from by repeat (first | (with_reducible first | exact HI0.out | apply IsS112.alloc | apply IsS112.drewN | apply IsS112.drew | apply IsS112.set_1 | apply IsS112.set_2 | refine IsS112.far ?_ NB0_225.out _ | refine IsS112.far ?_ NB0_234.out _) | exact HI0.out)) (rSR HO231.out) (by decide)) hk (fun _ h => h.2)) (fun _ h => h.1))
      replace BK234 := vH BK234 hk NB234_0
      replace HK := uU HK hk
      replace HB := Aside0.mk (hb)
      replace HI0 := Aside0.mk (hi)
      (try clear hb)
      (try clear hb2)
      (try clear hk)
      (try clear hi)
      refine hK.out _ _ ⟨(uG BK234.out 0).trans rfl, (uG BK234.out 1).trans rfl⟩ (fun hHeld => ?_)
      clear hK K
      refine uZ (a' := ?_) ?_ ?_
      rotate_left
      · show Act.put _ (some 29) _ = _
        simp only [Act.put, vO, vP, vQ, uC, uD]
        rfl
      refine two_ (i := 5) (j := 7) (Ni := some 31) (Nj := some 33) #[true, true, true, true, true, true, true, false, false, false, false, false, false, false, false] tb27 rfl rfl rfl rfl (two_of HT_.out (by kernel_rfl)) (by decide) (by decide) (fun K hK => ?_) (fun K hK => ?_)
      · skip
        refine goes_ Try.func74 (by kernel_rfl) rfl #[.pointer (some ⟨g, 0, none⟩), .int .i64 3] (by rfl) rfl rfl q17 ?_
        with_reducible refine (spec_l1Below.calls g s0_0 t252 t253 3 t254 t255 t256 w0 _ ?side1 ?side2 A48.out).mono ?_
        (case side1 => exact q3)
        (case side2 => exact q0)
        rintro e w62 ⟨rfl, hi, hb, hk⟩
        refine ⟨_, rfl, ?_⟩
        replace BK225 := vH BK225 hk NB225_0
        replace HO228 := Aside0.mk (Kd.uJ (Kd.vI (IsS112.apart (show IsS112 w0 _ g s0_0 t252 t253 from by repeat (first | (with_reducible first | exact HI0.out | apply IsS112.alloc | apply IsS112.drewN | apply IsS112.drew | apply IsS112.set_1 | apply IsS112.set_2 | refine IsS112.far ?_ NB0_225.out _ | refine IsS112.far ?_ NB0_234.out _) | exact HI0.out)) (rSR HO228.out) (by decide)) hk (fun _ h => h.2)) (fun _ h => h.1))
        replace HO231 := Aside0.mk (Kd.uJ (Kd.vI (IsS112.apart (show IsS112 w0 _ g s0_0 t252 t253 from by repeat (first | (with_reducible first | exact HI0.out | apply IsS112.alloc | apply IsS112.drewN | apply IsS112.drew | apply IsS112.set_1 | apply IsS112.set_2 | refine IsS112.far ?_ NB0_225.out _ | refine IsS112.far ?_ NB0_234.out _) | exact HI0.out)) (rSR HO231.out) (by decide)) hk (fun _ h => h.2)) (fun _ h => h.1))
        replace BK234 := vH BK234 hk NB234_0
        replace HK := uU HK hk
        replace HB := Aside0.mk (hb)
        replace HI0 := Aside0.mk (hi)
        (try clear hb)
        (try clear hb2)
        (try clear hk)
        (try clear hi)
        refine hK.out _ _ ⟨(uG BK234.out 0).trans rfl, (uG BK234.out 1).trans rfl⟩ (fun hHeld => ?_)
        clear hK K
        refine uZ (a' := ?_) ?_ ?_
        rotate_left
        · show Act.put _ (some 31) _ = _
          simp only [Act.put, vO, vP, vQ, uC, uD]
          rfl
        refine one_ (i := 7) (N := some 33) tb23 rfl rfl (one_of HT_.out (by kernel_rfl)) (by decide) (fun K hK => ?_)
        refine Kd.R_lit_step (Kd.int .i64) _ 3 ?hg (N := 33) ?hd (xs := ([0, 10] : List Int)) (inner := [.int .i64 0, .int .i64 10]) (ok := fun _ => True) (okp := fun _ => True) ?hr ?hp (fun _ hk => hk) trivial (Below.refl _ _) (Nat.le_refl _) (by simp) ?_; (case hd => rfl); (case hg => rfl); (case hr => first | (go_simp; done) | (go_simp; rfl)); (case hp => exact (Reps.one (show Kd.M (Kd.int .i64) _ _ _ 0 [.int .i64 0] from rfl) (Reps.one (show Kd.M (Kd.int .i64) _ _ _ 10 [.int .i64 10] from rfl) (Reps.none _ _))))
        intro v258 w63 ho64 hb hg_ hnew_
        clear hg_ hnew_
        (first | rw [← Ny257.out] at ho64 | (simp only [Int.reduceToNat] at ho64; rw [← Ny257.out] at ho64))
        have HO259 := Aside0.mk (Kd.vG (Kd.R_new' ho64 (Kd.R_lt (rSR HO228.out))) (vN (w := w) (g := g) (row := none) q2))
        replace HO228 := Aside0.mk (Kd.R_elder' (rSR HO228.out) (Kd.R_base ho64) hb)
        replace HO231 := Kd.tR HO231 hb
        replace HI0 := Aside0.mk (IsS112.below q3 hb)
        replace BK225 := uL BK225 hb
        replace BK234 := uL BK234 hb
        replace HK := uU HK (uX.of_below hb g none)
        replace HB := tBel1 HB hb
        clear hb ho64
        refine hK.out _ _ ⟨(uG BK234.out 0).trans rfl, (uG BK234.out 1).trans rfl⟩ (fun hHeld => ?_)
        clear hK K
        refine uZ (a' := ?_) ?_ ?_
        rotate_left
        · show Act.put _ (some 33) _ = _
          simp only [Act.put, vO, vP, vQ, uC, uD]
          rfl
        exact uZ q68 (hCont (v258) _ ⟨hHeld, q74, (rSR HO231.out), q116, (rSB BK225.out), (rSB BK234.out), q3, q2, q0⟩)
      skip
      refine Kd.R_lit_step (Kd.int .i64) _ 3 ?hg (N := 33) ?hd (xs := ([0, 10] : List Int)) (inner := [.int .i64 0, .int .i64 10]) (ok := fun _ => True) (okp := fun _ => True) ?hr ?hp (fun _ hk => hk) trivial (Below.refl _ _) (Nat.le_refl _) (by simp) ?_; (case hd => rfl); (case hg => rfl); (case hr => first | (go_simp; done) | (go_simp; rfl)); (case hp => exact (Reps.one (show Kd.M (Kd.int .i64) _ _ _ 0 [.int .i64 0] from rfl) (Reps.one (show Kd.M (Kd.int .i64) _ _ _ 10 [.int .i64 10] from rfl) (Reps.none _ _))))
      intro v258 w62 ho63 hb hg_ hnew_
      clear hg_ hnew_
      (first | rw [← Ny257.out] at ho63 | (simp only [Int.reduceToNat] at ho63; rw [← Ny257.out] at ho63))
      have HO259 := Aside0.mk (Kd.vG (Kd.R_new' ho63 (Kd.R_lt (rSR HO228.out))) (vN (w := w) (g := g) (row := none) q2))
      replace HO228 := Aside0.mk (Kd.R_elder' (rSR HO228.out) (Kd.R_base ho63) hb)
      replace HO231 := Kd.tR HO231 hb
      replace HI0 := Aside0.mk (IsS112.below q3 hb)
      replace BK225 := uL BK225 hb
      replace BK234 := uL BK234 hb
      replace HK := uU HK (uX.of_below hb g none)
      replace HB := tBel1 HB hb
      clear hb ho63
      refine hK.out _ _ ⟨(uG BK234.out 0).trans rfl, (uG BK234.out 1).trans rfl⟩ (fun hHeld => ?_)
      clear hK K
      refine uZ (a' := ?_) ?_ ?_
      rotate_left
      · show Act.put _ (some 33) _ = _
        simp only [Act.put, vO, vP, vQ, uC, uD]
        rfl
      refine one_ (i := 5) (N := some 31) tb23 rfl rfl (one_of HT_.out (by kernel_rfl)) (by decide) (fun K hK => ?_)
      refine goes_ Try.func74 (by kernel_rfl) rfl #[.pointer (some ⟨g, 0, none⟩), .int .i64 3] (by rfl) rfl rfl q17 ?_
      with_reducible refine (spec_l1Below.calls g s0_0 t252 t253 3 t254 t255 t256 w0 _ ?side1 ?side2 A48.out).mono ?_
      (case side1 => exact q3)
      (case side2 => exact q0)
      rintro e w64 ⟨rfl, hi, hb, hk⟩
      refine ⟨_, rfl, ?_⟩
      replace BK225 := vH BK225 hk NB225_0
      replace HO228 := Aside0.mk (Kd.uJ (Kd.vI (IsS112.apart (show IsS112 w0 _ g s0_0 t252 t253 from by repeat (first | (with_reducible first | exact HI0.out | apply IsS112.alloc | apply IsS112.drewN | apply IsS112.drew | apply IsS112.set_1 | apply IsS112.set_2 | refine IsS112.far ?_ NB0_225.out _ | refine IsS112.far ?_ NB0_234.out _) | exact HI0.out)) (rSR HO228.out) (by decide)) hk (fun _ h => h.2)) (fun _ h => h.1))
      replace HO231 := Aside0.mk (Kd.uJ (Kd.vI (IsS112.apart (show IsS112 w0 _ g s0_0 t252 t253 from by repeat (first | (with_reducible first | exact HI0.out | apply IsS112.alloc | apply IsS112.drewN | apply IsS112.drew | apply IsS112.set_1 | apply IsS112.set_2 | refine IsS112.far ?_ NB0_225.out _ | refine IsS112.far ?_ NB0_234.out _) | exact HI0.out)) (rSR HO231.out) (by decide)) hk (fun _ h => h.2)) (fun _ h => h.1))
      replace BK234 := vH BK234 hk NB234_0
      replace HO259 := Aside0.mk (Kd.uJ (Kd.vI (IsS112.apart (show IsS112 w0 _ g s0_0 t252 t253 from by repeat (first | (with_reducible first | exact HI0.out | apply IsS112.alloc | apply IsS112.drewN | apply IsS112.drew | apply IsS112.set_1 | apply IsS112.set_2 | refine IsS112.far ?_ NB0_225.out _ | refine IsS112.far ?_ NB0_234.out _) | exact HI0.out)) (rSR HO259.out) (by decide)) hk (fun _ h => h.2)) (fun _ h => h.1))
      replace HK := uU HK hk
      replace HB := Aside0.mk (hb)
      replace HI0 := Aside0.mk (hi)
      (try clear hb)
      (try clear hb2)
      (try clear hk)
      (try clear hi)
      refine hK.out _ _ ⟨(uG BK234.out 0).trans rfl, (uG BK234.out 1).trans rfl⟩ (fun hHeld => ?_)
      clear hK K
      refine uZ (a' := ?_) ?_ ?_
      rotate_left
      · show Act.put _ (some 31) _ = _
        simp only [Act.put, vO, vP, vQ, uC, uD]
        rfl
      exact uZ q68 (hCont (v258) _ ⟨hHeld, q74, (rSR HO231.out), q116, (rSB BK225.out), (rSB BK234.out), q3, q2, q0⟩)
    skip
    refine Kd.R_lit_step (Kd.int .i64) _ 3 ?hg (N := 33) ?hd (xs := ([0, 10] : List Int)) (inner := [.int .i64 0, .int .i64 10]) (ok := fun _ => True) (okp := fun _ => True) ?hr ?hp (fun _ hk => hk) trivial (Below.refl _ _) (Nat.le_refl _) (by simp) ?_; (case hd => rfl); (case hg => rfl); (case hr => first | (go_simp; done) | (go_simp; rfl)); (case hp => exact (Reps.one (show Kd.M (Kd.int .i64) _ _ _ 0 [.int .i64 0] from rfl) (Reps.one (show Kd.M (Kd.int .i64) _ _ _ 10 [.int .i64 10] from rfl) (Reps.none _ _))))
    intro v258 w61 ho62 hb hg_ hnew_
    clear hg_ hnew_
    (first | rw [← Ny257.out] at ho62 | (simp only [Int.reduceToNat] at ho62; rw [← Ny257.out] at ho62))
    have HO259 := Aside0.mk (Kd.vG (Kd.R_new' ho62 (Kd.R_lt (rSR HO228.out))) (vN (w := w) (g := g) (row := none) q2))
    replace HO228 := Aside0.mk (Kd.R_elder' (rSR HO228.out) (Kd.R_base ho62) hb)
    replace HO231 := Kd.tR HO231 hb
    replace HI0 := Aside0.mk (IsS112.below q3 hb)
    replace BK225 := uL BK225 hb
    replace BK234 := uL BK234 hb
    replace HK := uU HK (uX.of_below hb g none)
    replace HB := tBel1 HB hb
    clear hb ho62
    refine hK.out _ _ ⟨(uG BK234.out 0).trans rfl, (uG BK234.out 1).trans rfl⟩ (fun hHeld => ?_)
    clear hK K
    refine uZ (a' := ?_) ?_ ?_
    rotate_left
    · show Act.put _ (some 33) _ = _
      simp only [Act.put, vO, vP, vQ, uC, uD]
      rfl
    refine one_ (i := 3) (N := some 29) tb27 rfl rfl (one_of HT_.out (by kernel_rfl)) (by decide) (fun K hK => ?_)
    refine goes_ Try.func74 (by kernel_rfl) rfl #[.pointer (some ⟨g, 0, none⟩), .int .i64 4] (by rfl) rfl rfl q17 ?_
    with_reducible refine (spec_l1Below.calls g s0_0 t236 t237 4 t251 t252 t253 w0 _ ?side1 ?side2 A47.out).mono ?_
    (case side1 => exact q3)
    (case side2 => exact q0)
    rintro e w63 ⟨rfl, hi, hb, hk⟩
    refine ⟨_, rfl, ?_⟩
    replace BK225 := vH BK225 hk NB225_0
    replace HO228 := Aside0.mk (Kd.uJ (Kd.vI (IsS112.apart (show IsS112 w0 _ g s0_0 t236 t237 from by repeat (first | (with_reducible first | exact HI0.out | apply IsS112.alloc | apply IsS112.drewN | apply IsS112.drew | apply IsS112.set_1 | apply IsS112.set_2 | refine IsS112.far ?_ NB0_225.out _ | refine IsS112.far ?_ NB0_234.out _) | exact HI0.out)) (rSR HO228.out) (by decide)) hk (fun _ h => h.2)) (fun _ h => h.1))
    replace HO231 := Aside0.mk (Kd.uJ (Kd.vI (IsS112.apart (show IsS112 w0 _ g s0_0 t236 t237 from by repeat (first | (with_reducible first | exact HI0.out | apply IsS112.alloc | apply IsS112.drewN | apply IsS112.drew | apply IsS112.set_1 | apply IsS112.set_2 | refine IsS112.far ?_ NB0_225.out _ | refine IsS112.far ?_ NB0_234.out _) | exact HI0.out)) (rSR HO231.out) (by decide)) hk (fun _ h => h.2)) (fun _ h => h.1))
    replace BK234 := vH BK234 hk NB234_0
    replace HO259 := Aside0.mk (Kd.uJ (Kd.vI (IsS112.apart (show IsS112 w0 _ g s0_0 t236 t237 from by repeat (first | (with_reducible first | exact HI0.out | apply IsS112.alloc | apply IsS112.drewN | apply IsS112.drew | apply IsS112.set_1 | apply IsS112.set_2 | refine IsS112.far ?_ NB0_225.out _ | refine IsS112.far ?_ NB0_234.out _) | exact HI0.out)) (rSR HO259.out) (by decide)) hk (fun _ h => h.2)) (fun _ h => h.1))
    replace HK := uU HK hk
    replace HB := Aside0.mk (hb)
    replace HI0 := Aside0.mk (hi)
    (try clear hb)
    (try clear hb2)
    (try clear hk)
    (try clear hi)
    refine hK.out _ _ ⟨(uG BK234.out 0).trans rfl, (uG BK234.out 1).trans rfl⟩ (fun hHeld => ?_)
    clear hK K
    refine uZ (a' := ?_) ?_ ?_
    rotate_left
    · show Act.put _ (some 29) _ = _
      simp only [Act.put, vO, vP, vQ, uC, uD]
      rfl
    refine one_ (i := 5) (N := some 31) tb23 rfl rfl (one_of HT_.out (by kernel_rfl)) (by decide) (fun K hK => ?_)
    refine goes_ Try.func74 (by kernel_rfl) rfl #[.pointer (some ⟨g, 0, none⟩), .int .i64 3] (by rfl) rfl rfl q17 ?_
    with_reducible refine (spec_l1Below.calls g s0_0 t252 t253 3 t254 t255 t256 w0 _ ?side1 ?side2 A48.out).mono ?_
    (case side1 => exact q3)
    (case side2 => exact q0)
    rintro e w64 ⟨rfl, hi, hb, hk⟩
    refine ⟨_, rfl, ?_⟩
    replace BK225 := vH BK225 hk NB225_0
    replace HO228 := Aside0.mk (Kd.uJ (Kd.vI (IsS112.apart (show IsS112 w0 _ g s0_0 t252 t253 from by repeat (first | (with_reducible first | exact HI0.out | apply IsS112.alloc | apply IsS112.drewN | apply IsS112.drew | apply IsS112.set_1 | apply IsS112.set_2 | refine IsS112.far ?_ NB0_225.out _ | refine IsS112.far ?_ NB0_234.out _) | exact HI0.out)) (rSR HO228.out) (by decide)) hk (fun _ h => h.2)) (fun _ h => h.1))
    replace HO231 := Aside0.mk (Kd.uJ (Kd.vI (IsS112.apart (show IsS112 w0 _ g s0_0 t252 t253 from by repeat (first | (with_reducible first | exact HI0.out | apply IsS112.alloc | apply IsS112.drewN | apply IsS112.drew | apply IsS112.set_1 | apply IsS112.set_2 | refine IsS112.far ?_ NB0_225.out _ | refine IsS112.far ?_ NB0_234.out _) | exact HI0.out)) (rSR HO231.out) (by decide)) hk (fun _ h => h.2)) (fun _ h => h.1))
    replace BK234 := vH BK234 hk NB234_0
    replace HO259 := Aside0.mk (Kd.uJ (Kd.vI (IsS112.apart (show IsS112 w0 _ g s0_0 t252 t253 from by repeat (first | (with_reducible first | exact HI0.out | apply IsS112.alloc | apply IsS112.drewN | apply IsS112.drew | apply IsS112.set_1 | apply IsS112.set_2 | refine IsS112.far ?_ NB0_225.out _ | refine IsS112.far ?_ NB0_234.out _) | exact HI0.out)) (rSR HO259.out) (by decide)) hk (fun _ h => h.2)) (fun _ h => h.1))
    replace HK := uU HK hk
    replace HB := Aside0.mk (hb)
    replace HI0 := Aside0.mk (hi)
    (try clear hb)
    (try clear hb2)
    (try clear hk)
    (try clear hi)
    refine hK.out _ _ ⟨(uG BK234.out 0).trans rfl, (uG BK234.out 1).trans rfl⟩ (fun hHeld => ?_)
    clear hK K
    refine uZ (a' := ?_) ?_ ?_
    rotate_left
    · show Act.put _ (some 31) _ = _
      simp only [Act.put, vO, vP, vQ, uC, uD]
      rfl
    exact uZ q68 (hCont (v258) _ ⟨hHeld, q74, (rSR HO231.out), q116, (rSB BK225.out), (rSB BK234.out), q3, q2, q0⟩)
  rintro v258 w65 ⟨hS_, h0_, h1_, h2_, h3_, h4_, h5_, h6_, h7_⟩
  have n0_ : Aside0 (Kd.R (Kd.int .i64) 3 w65 w.heap.size (fun k_ => some k_ ≠ (v258 : Value).ownBlock) (.slice Ao54 t226.length co54) t226) := ⟨h0_⟩
  have n1_ : Aside0 (Kd.R k49 49 w65 w.heap.size (fun _ => True) (.slice Ao58 t229.length co58) t229) := ⟨h1_⟩
  have n2_ : Aside0 (Kd.R (Kd.int .i64) 3 w65 w.heap.size (fun k_ => some k_ ≠ (.slice Ao54 t226.length co54 : Value).ownBlock) v258 y257) := ⟨h2_⟩
  have n3_ : Aside0 (w65.heap[gb225]? = some (.cells #[.slice none 0 0, .slice none 0 0] 31 (0, 0))) := ⟨h3_⟩
  have n4_ : Aside0 (w65.heap[gb234]? = some (.cells #[.slice Ao54 t226.length co54, .slice Ao58 t229.length co58] 31 (0, 0))) := ⟨h4_⟩
  have n5_ : Aside0 (IsS112 w0 w65 g s0_0 t255 t256) := ⟨h5_⟩
  have n6_ : Aside0 (uX w w65 g none) := ⟨h6_⟩
  have n7_ : Aside0 (Below w0.heap.size w0 w65) := ⟨h7_⟩
  clear HO228
  clear HO231
  clear BK225
  clear BK234
  clear HI0
  clear HK
  clear HB
  clear h0_ h1_ h2_ h3_ h4_ h5_ h6_ h7_
  have HO228 := n0_
  have HO231 := n1_
  have HO259 := n2_
  have BK225 := n3_
  have BK234 := n4_
  have HI0 := n5_
  have HK := n6_
  have HB := n7_
  clear n0_ n1_ n2_ n3_ n4_ n5_ n6_ n7_
  have hHeld : w65.cell? ⟨gb234, 0, none⟩ = some (.slice Ao54 t226.length co54) ∧ w65.cell? ⟨gb234, 1, none⟩ = some (.slice Ao58 t229.length co58) := hS_
  obtain ⟨Ao66, co66, eo66⟩ := Kd.uW HO259.out
  (first | subst eo66 | (injection eo66 with f1_ f2_ f3_; have f4_ := f1_.symm; have f5_ := f3_.symm; clear f1_ f2_ f3_; subst f4_; subst f5_))
  refine uZ (a' := ?_) ?_ ?_
  rotate_left
  · simp only [putAll, Act.put, vO, vP, vQ]
    rfl
  refine one_ (i := 8) (N := some 34) #[true, true, true, true, true, true, true, true, true, false, false, false, false, false, false] rfl rfl (one_of HT_.out (by kernel_rfl)) (by decide) (fun K hK => ?_)
  refine goes_ Try.func75 (by kernel_rfl) rfl #[.pointer (some ⟨g, 0, none⟩), .slice Ao66 y257.length co66] (by rfl) rfl rfl q17 ?_
  with_reducible refine (spec_l1PickInt.calls g s0_0 t255 t256 _ _ y257 t260 t261 t262 w0 _ ?side1 ?side2 ?side3 ?side4 ?side5 A49.out).mono ?_
  (case side1 => exact q3)
  (case side2 => exact q0)
  (case side3 => repeat (first | exact (Kd.uP HO259.out).2.2 | (with_reducible refine Kd.vJ ?_ _) | (with_reducible refine Kd.vK ?_ _) | (with_reducible refine Kd.C_drew ?_)))
  (case side4 => exact (Kd.uP HO259.out).2.1)
  (case side5 => exact far_slice (IsS112.own_ne HI0.out HO259.out (by decide)))
  rintro e w67 ⟨rfl, hi, hb, hk⟩
  refine ⟨_, rfl, ?_⟩
  replace BK225 := vH BK225 hk NB225_0
  replace HO228 := Aside0.mk (Kd.uJ (Kd.vI (IsS112.apart (show IsS112 w0 _ g s0_0 t255 t256 from by repeat (first | (with_reducible first | exact HI0.out | apply IsS112.alloc | apply IsS112.drewN | apply IsS112.drew | apply IsS112.set_1 | apply IsS112.set_2 | refine IsS112.far ?_ NB0_225.out _ | refine IsS112.far ?_ NB0_234.out _) | exact HI0.out)) (rSR HO228.out) (by decide)) hk (fun _ h => h.2)) (fun _ h => h.1))
  replace HO231 := Aside0.mk (Kd.uJ (Kd.vI (IsS112.apart (show IsS112 w0 _ g s0_0 t255 t256 from by repeat (first | (with_reducible first | exact HI0.out | apply IsS112.alloc | apply IsS112.drewN | apply IsS112.drew | apply IsS112.set_1 | apply IsS112.set_2 | refine IsS112.far ?_ NB0_225.out _ | refine IsS112.far ?_ NB0_234.out _) | exact HI0.out)) (rSR HO231.out) (by decide)) hk (fun _ h => h.2)) (fun _ h => h.1))
  replace BK234 := vH BK234 hk NB234_0
  replace HO259 := Aside0.mk (Kd.uJ (Kd.vI (IsS112.apart (show IsS112 w0 _ g s0_0 t255 t256 from by repeat (first | (with_reducible first | exact HI0.out | apply IsS112.alloc | apply IsS112.drewN | apply IsS112.drew | apply IsS112.set_1 | apply IsS112.set_2 | refine IsS112.far ?_ NB0_225.out _ | refine IsS112.far ?_ NB0_234.out _) | exact HI0.out)) (rSR HO259.out) (by decide)) hk (fun _ h => h.2)) (fun _ h => h.1))
  replace HK := uU HK hk
  replace HB := Aside0.mk (hb)
  replace HI0 := Aside0.mk (hi)
  (try clear hb)
  (try clear hb2)
  (try clear hk)
  (try clear hi)
  refine hK.out _ _ ⟨(uG BK234.out 0).trans rfl, (uG BK234.out 1).trans rfl⟩ (fun hHeld => ?_)
  clear hK K
  refine uZ (a' := ?_) ?_ ?_
  rotate_left
  · show Act.put _ (some 34) _ = _
    simp only [Act.put, vO, vP, vQ, uC, uD]
    rfl
  refine uA (i := 9) (N := some 35) (v := ?_) (a' := ?_) #[true, true, true, true, true, true, true, true, true, true, false, false, false, false, false] rfl rfl (uQ HT_.out (by kernel_rfl)) (fun _ _ _ h => h) (Or.inl ⟨by rfl, ?_⟩) ?_ ?_
  rotate_left
  · intro w'
    go_simp
    with_reducible rfl
  rotate_left
  · simp only [Act.put, vO, vP, vQ, uC, uD]
    rfl
  refine uA (i := 10) (N := some 36) (v := ?_) (a' := ?_) #[true, true, true, true, true, true, true, true, true, true, true, false, false, false, false] rfl rfl (uQ HT_.out (by kernel_rfl)) (fun _ _ _ h => h) (Or.inl ⟨by rfl, ?_⟩) ?_ ?_
  rotate_left
  · intro w'
    go_simp
    with_reducible rfl
  rotate_left
  · simp only [Act.put, vO, vP, vQ, uC, uD]
    rfl
  refine one_ (i := 11) (N := some 37) #[true, true, true, true, true, true, true, true, true, true, true, true, false, false, false] rfl rfl (one_of HT_.out (by kernel_rfl)) (by decide) (fun K hK => ?_)
  refine value_ (w1 := ?_) (v := ?_) (by rfl) rfl ?_ ?_
  rotate_left 2
  · go_simp
    constructor
    · rfl
    rfl
  refine hK.out _ _ ⟨(uG (uE BK234.out _) 0).trans rfl, (uG (uE BK234.out _) 1).trans rfl⟩ (fun hHeld => ?_)
  clear hK K
  refine uZ (a' := ?_) ?_ ?_
  rotate_left
  · show Act.put _ (some 37) _ = _
    simp only [Act.put, vO, vP, vQ, uC, uD]
    rfl
  refine one_ (i := 12) (N := some 38) #[true, true, true, true, true, true, true, true, true, true, true, true, true, false, false] rfl rfl (one_of HT_.out (by kernel_rfl)) (by decide) (fun K hK => ?_)
  refine Kd.R_append_step k49 w.heap.size (by rfl) (.tmp 27) (.tmp 37) 29 49 (.agg #[(.int .i64 0), (.int .i64 0), (.bool false), (.int .i64 0)]) 32 rfl Try.underlying29 info49 rfl (by decide) (by omega) (.slice Ao58 t229.length co58) t229 (⟨t251, t254, (⟨false, t260⟩ : S33)⟩ : S49) [.int .i64 t251, .int .i64 t254, .bool false, .int .i64 t260] (fun _ => True) (fun _ => False) rfl rfl ?aP (fun _ hk => hk.elim) ?aF ?aO (Below.refl _ _) ?aS ?aL ?_
  (case aP => exact k49_mkM _ _ _ (⟨t251, t254, (⟨false, t260⟩ : S33)⟩ : S49))
  (case aF => exact (fun _ _ => trivial))
  (case aO => exact (rSR HO231.out))
  (case aS => exact (vN (w := w) (g := g) (row := none) q2))
  (case aL => have := LMc50.out; omega)
  intro v264 w68 ho hb hg hat
  rw [← Ny263.out] at ho
  have n0_ := Aside0.mk (IsS112.grown q3 hg (IsS112.own_ne HI0.out HO231.out (by decide)))
  have n1_ := Aside0.mk (blk_grown (g := gb225) (o := .cells #[.slice none 0 0, .slice none 0 0] 31 (0, 0)) (rSB BK225.out) hg (Kd.R_ne HO231.out BK225.out (by decide)))
  have n2_ := Aside0.mk (Kd.R_over' (rSR HO228.out) (Kd.R_typed (rSR HO231.out)) (by decide) hg)
  have n3_ := Aside0.mk (blk_grown (g := gb234) (o := .cells #[.slice Ao54 t226.length co54, .slice Ao58 t229.length co58] 31 (0, 0)) (rSB BK234.out) hg (Kd.R_ne HO231.out BK234.out (by decide)))
  have n4_ := Aside0.mk (Kd.R_over' (rSR HO259.out) (Kd.R_typed (rSR HO231.out)) (by decide) hg)
  have n5_ := Aside0.mk (below_weaken q0 HL.out hb)
  have n6_ := Aside0.mk (uX.trans q2 (uX.of_grown hg g) (Kd.R_base2 HO231.out))
  have n7_ := Aside0.mk (ho)
  clear HI0
  clear BK225
  clear HO228
  clear BK234
  clear HO259
  clear HB
  clear HK
  clear HO231
  have HI0 := n0_
  have BK225 := n1_
  have HO228 := n2_
  have BK234 := n3_
  have HO259 := n4_
  have HB := n5_
  have HK := n6_
  have HO265 := n7_
  clear n0_ n1_ n2_ n3_ n4_ n5_ n6_ n7_
  clear ho hb hg hat
  obtain ⟨Ao69, co69, eo69⟩ := Kd.uW HO265.out
  (first | subst eo69 | (injection eo69 with f1_ f2_ f3_; have f4_ := f1_.symm; have f5_ := f3_.symm; clear f1_ f2_ f3_; subst f4_; subst f5_))
  refine hK.out _ _ ⟨(uG BK234.out 0).trans rfl, (uG BK234.out 1).trans rfl⟩ (fun hHeld => ?_)
  clear hK K
  refine uZ (a' := ?_) ?_ ?_
  rotate_left
  · show Act.put _ (some 38) _ = _
    simp only [Act.put, vO, vP, vQ, uC, uD]
    rfl
  refine uA (i := 13) (N := some 39) (v := ?_) (a' := ?_) #[true, true, true, true, true, true, true, true, true, true, true, true, true, true, false] rfl rfl (uQ HT_.out (by kernel_rfl)) (fun _ _ _ h => h) (Or.inl ⟨by rfl, ?_⟩) ?_ ?_
  rotate_left
  · intro w'
    go_simp
    with_reducible rfl
  rotate_left
  · simp only [Act.put, vO, vP, vQ, uC, uD]
    rfl
  refine last_ (i := 14) (N := none) #[true, true, true, true, true, true, true, true, true, true, true, true, true, true, true] rfl rfl (one_of HT_.out (by kernel_rfl)) (by decide) (fun K hK => ?_)
  have hs70 : w68.cell? ⟨gb234, 1, none⟩ = some (.slice Ao58 t229.length co58) := (uG BK234.out 1).trans rfl
  have hfs70 := vM BK234.out 1
  have hns70_0 := NB225_234.out
  have hms70_0 := NB234_225.out
  refine skip_ (w1 := ?_) (by rfl) rfl ?_ ?_
  rotate_left
  · go_simp
    rfl
  refine hK.out _ _ ?_
  clear hK K
  refine done_ (done_of HT_.out (by kernel_rfl)) ?_
  obtain ⟨hcz71_0, hcz71_1, hfz71_0, hfz71_1⟩ := cz2 BK234
  have hnb72 := NB225_0.out
  have hnc72 := NB0_225.out
  obtain ⟨hcz73_0, hcz73_1, hfz73_0, hfz73_1⟩ := cz2 BK225
  try go_wp2
  refine bodyPost_ret (results_cell_row rfl _ _ gb225 31 #[.slice Ao54 t226.length co54, .slice Ao69 y263.length co69] (0, 0) _ rfl (by (with_reducible repeat (first | refine uF ?_ _ | refine uB ?_ | refine uE ?_ _)); refine uK (cs := #[.slice Ao54 t226.length co54, .slice none 0 0]) ?_ 1 _ rfl; (with_reducible repeat (first | refine uF ?_ _ | refine uB ?_ | refine uE ?_ _)); refine uK (cs := #[.slice none 0 0, .slice none 0 0]) ?_ 0 _ rfl; (with_reducible repeat (first | refine uF ?_ _ | refine uB ?_ | refine uE ?_ _)); refine vF ?_ NB225_234.out _; (with_reducible repeat (first | refine uF ?_ _ | refine uB ?_ | refine uE ?_ _)); exact BK225.out) Try.underlying31 rfl (by kernel_rfl)) rfl ?_
  exact ⟨_, _, q5, Kd.Q_of_R (by (with_reducible repeat (first | apply Kd.vA | apply Kd.vB | apply Kd.uR)); exact Kd.uJ (Kd.uM (p := ⟨gb225, 1, none⟩) (Kd.uM (p := ⟨gb225, 0, none⟩) (Kd.uM (p := ⟨gb234, 1, none⟩) (Kd.uY (Kd.uY HO228.out BK234.out (by decide)) BK225.out (by decide)) (fun _ hk => hk.1.2) (.slice Ao69 y263.length co69)) (fun _ hk => hk.2) (.slice Ao54 t226.length co54)) (fun _ hk => hk.2) (.slice Ao69 y263.length co69)) (fun _ hk => trivial)), by (with_reducible repeat (first | apply Kd.vA | apply Kd.vB | apply Kd.uR)); exact Kd.uJ (Kd.uM (p := ⟨gb225, 1, none⟩) (Kd.uM (p := ⟨gb225, 0, none⟩) (Kd.uM (p := ⟨gb234, 1, none⟩) (Kd.uY (Kd.uY HO265.out BK234.out (by decide)) BK225.out (by decide)) (fun _ hk => hk.1.2) (.slice Ao69 y263.length co69)) (fun _ hk => hk.2) (.slice Ao54 t226.length co54)) (fun _ hk => hk.2) (.slice Ao69 y263.length co69)) (fun _ hk => trivial), q3, q0, q2⟩

end Go.Proofs.Ytcikahnmiiichaa.M
