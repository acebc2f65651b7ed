/- Go functions as Lean functions, and the proof that the code comes to them: written by a program of this session out of the translation. -/
import Derived.Test.YtcikahnmiiichaaDoorG0
import Derived.Test.YtcikahnmiiichaaDoorG2
namespace Go.Proofs.YtcikahnmiiichaaDoor.G
open List renaming setIfInBounds_toArray → uY, set_cons_zero → uZ, set_cons_succ → vA
open Go.World renaming block_lt_of_cell? → vE
open Go.Proofs.YtcikahnmiiichaaDoor.Given
open Go.RowKit Go.Proofs.YtcikahnmiiichaaDoorW.PrintWords Go.Proofs.YtcikahnmiiichaaDoorW.PrintLast Go.Proofs.YtcikahnmiiichaaDoorW.PrintMore
attribute [local go_sem] max2_int min2_int max_two min_two max_three min_three max_four min_four   -- for this text's walks alone
set_option linter.unusedVariables false
set_option linter.unusedSimpArgs false

/-! ### spec_l5Any: function 51 -/
def spec_l5Any.l0 : Nat → List (S66) → List Int → Int → Int → Option ((List (S66)) × Int × Int)
  | 0, _, _, _, _ => none
  | k + 1, x3, x1000, x1001, x1002 => if (x3.length : Int) < 17 then ((spec_l3Op.f x1000 x1001 x1002).bind fun bt252 => (if x3.length < 2513169434916 then (spec_l5Any.l0 k (x3 ++ [(⟨20, (⟨bt252.1, bt252.2.1, bt252.2.2.1, bt252.2.2.2.1, bt252.2.2.2.2.1, bt252.2.2.2.2.2.1⟩ : S64)⟩ : S66)]) x1000 bt252.2.2.2.2.2.2.1 bt252.2.2.2.2.2.2.2) else (none))) else (some (x3, x1001, x1002))
def spec_l5Any.f (k : Nat) (s0_0 : List Int) (s0_1 : Int) (s0_2 : Int) : Option ((List (S66)) × Int × Int) := (spec_l5Log.f k s0_0 s0_1 s0_2).bind fun bt227 => ((spec_l1Below.f s0_0 bt227.2.1 bt227.2.2 14).bind fun bt232 => (if bt232.1 = 0 then ((spec_l1PickInt.f s0_0 bt232.2.1 bt232.2.2 (([0, 1, 20, 21] : List Int))).bind fun bt238 => ((spec_l3Any.f s0_0 bt238.2.1 bt238.2.2).bind fun bt241 => (if bt227.1.length < 2513169434916 then (some ((bt227.1 ++ [(⟨bt238.1, (⟨bt241.1, bt241.2.1, bt241.2.2.1, bt241.2.2.2.1, bt241.2.2.2.2.1, bt241.2.2.2.2.2.1⟩ : S64)⟩ : S66)]), bt241.2.2.2.2.2.2.1, bt241.2.2.2.2.2.2.2)) else (none)))) else (if bt232.1 = 1 then (spec_l5Any.l0 k bt227.1 s0_0 bt232.2.1 bt232.2.2) else (some (bt227.1, bt232.2.1, bt232.2.2)))))
theorem spec_l5Any.mono_l : ∀ k, (∀ y0 y1 y2 y3, uF (spec_l5Any.l0 k y0 y1 y2 y3) (spec_l5Any.l0 (k + 1) y0 y1 y2 y3))
  | 0 => fun _ _ _ _ r h => by simp [spec_l5Any.l0] at h
  | k + 1 => by
    have ih0 := spec_l5Any.mono_l k
    intro y0 y1 y2 y3
    unfold spec_l5Any.l0
    repeat' first
    | (with_reducible exact ih0 _ _ _ _)
    | (with_reducible exact spec_l5Log.mono _ _ _ _)
    | (with_reducible exact uF.refl _)
    | (with_reducible exact uF.none _)
    | (with_reducible refine uF.ite ?_ ?_)
    | (with_reducible refine uF.bind ?_ (fun _ => ?_))
    | exact ih0 _ _ _ _
    | exact spec_l5Log.mono _ _ _ _
    | exact uF.none _
    | refine uF.ite ?_ ?_
    | refine uF.bind ?_ (fun _ => ?_)
theorem spec_l5Any.mono : ∀ a0 a1 a2 k, uF (spec_l5Any.f k a0 a1 a2) (spec_l5Any.f (k + 1) a0 a1 a2) := by
  intro a0 a1 a2 k
  have ih0 := spec_l5Any.mono_l k
  unfold spec_l5Any.f
  repeat' first
      | (with_reducible exact ih0 _ _ _ _)
      | (with_reducible exact spec_l5Log.mono _ _ _ _)
      | (with_reducible exact uF.refl _)
      | (with_reducible exact uF.none _)
      | (with_reducible refine uF.ite ?_ ?_)
      | (with_reducible refine uF.bind ?_ (fun _ => ?_))
      | exact ih0 _ _ _ _
      | exact spec_l5Log.mono _ _ _ _
      | exact uF.none _
      | refine uF.ite ?_ ?_
      | refine uF.bind ?_ (fun _ => ?_)
set_option maxHeartbeats 8000000 in
set_option maxRecDepth 100000 in
theorem spec_l5Any.calls (k : Nat) (g : Nat) (s0_0 : List Int) (s0_1 : Int) (s0_2 : Int) (r1 : List (S66)) (r2 : Int) (r3 : Int) (w0 w : World) (hI : IsS110 w0 w g s0_0 s0_1 s0_2) (hB : Below w0.heap.size w0 w) (h : spec_l5Any.f k s0_0 s0_1 s0_2 = some (r1, r2, r3)) :
    Calls Tryd.prog 51 #[.pointer (some ⟨g, 0, none⟩)] w fun e w' => ∃ v0_ : Value, e = .returned (v0_) ∧ Kd.R k66 66 w' w.heap.size (fun _ => True) v0_ r1 ∧ IsS110 w0 w' g s0_0 r2 r3 ∧ Below w0.heap.size w0 w' ∧ uP w w' g none := by
  have hu66 := Tryd.underlying66
  have hu64 := Tryd.underlying64
  have HI0 := Aside0.mk hI
  have HK := Aside0.mk (uP.refl w g none)
  have HL := Aside0.mk hB.size
  clear hI
  have HW0 := Aside0.mk hB.size
  have HB := Aside0.mk hB
  clear hB
  have H : ((spec_l5Log.f k s0_0 s0_1 s0_2).bind fun bt227 => ((spec_l1Below.f s0_0 bt227.2.1 bt227.2.2 14).bind fun bt232 => (if bt232.1 = 0 then ((spec_l1PickInt.f s0_0 bt232.2.1 bt232.2.2 (([0, 1, 20, 21] : List Int))).bind fun bt238 => ((spec_l3Any.f s0_0 bt238.2.1 bt238.2.2).bind fun bt241 => (if bt227.1.length < 2513169434916 then (some ((bt227.1 ++ [(⟨bt238.1, (⟨bt241.1, bt241.2.1, bt241.2.2.1, bt241.2.2.2.1, bt241.2.2.2.2.1, bt241.2.2.2.2.2.1⟩ : S64)⟩ : S66)]), bt241.2.2.2.2.2.2.1, bt241.2.2.2.2.2.2.2)) else (none)))) else (if bt232.1 = 1 then (spec_l5Any.l0 k bt227.1 s0_0 bt232.2.1 bt232.2.2) else (some (bt227.1, bt232.2.1, bt232.2.2)))))) = some (r1, r2, r3) := h
  clear h
  replace H := Option.bind_eq_some_iff.mp H
  obtain ⟨⟨t227, t230, t231⟩, A20, H⟩ := H
  try dsimp only at H
  have A2 := Aside0.mk A20
  clear A20
  replace H := Option.bind_eq_some_iff.mp H
  obtain ⟨⟨t232, t233, t234⟩, A30, H⟩ := H
  try dsimp only at H
  have A3 := Aside0.mk A30
  clear A30
  by_cases c4 : t232 = 0
  · rw [if_pos c4] at H
    have c4b0 : (t232 == 0) = true := beq_iff_eq.mpr c4
    have c4b1 : (t232 != 0) = false := bne_eq_false_iff_eq.mpr c4
    clear c4
    obtain ⟨y235, hy235⟩ : ∃ y_ : List Int, y_ = (([0, 1, 20, 21] : List Int)) := ⟨_, rfl⟩
    replace H : ((spec_l1PickInt.f s0_0 t233 t234 y235).bind fun bt238 => ((spec_l3Any.f s0_0 bt238.2.1 bt238.2.2).bind fun bt241 => (if t227.length < 2513169434916 then (some ((t227 ++ [(⟨bt238.1, (⟨bt241.1, bt241.2.1, bt241.2.2.1, bt241.2.2.2.1, bt241.2.2.2.2.1, bt241.2.2.2.2.2.1⟩ : S64)⟩ : S66)]), bt241.2.2.2.2.2.2.1, bt241.2.2.2.2.2.2.2)) else (none)))) = some (r1, r2, r3) := by first | (rw [hy235]; with_reducible exact H) | (have H2_ := (Option.bind_some _ _).symm.trans H; rw [hy235]; with_reducible exact H2_) | (have H2_ := (Option.bind_some _ _).symm.trans H; with_reducible exact H2_) | with_reducible exact H | (rw [hy235]; exact H) | exact H | rfl
    have Ny235 := Aside0.mk hy235
    clear hy235
    replace H := Option.bind_eq_some_iff.mp H
    obtain ⟨⟨t238, t239, t240⟩, A50, H⟩ := H
    try dsimp only at H
    have A5 := Aside0.mk A50
    clear A50
    replace H := Option.bind_eq_some_iff.mp H
    obtain ⟨⟨t241, t242, t243, t244, t245, t246, t247, t248⟩, A60, H⟩ := H
    try dsimp only at H
    have A6 := Aside0.mk A60
    clear A60
    by_cases c7 : t227.length < 2513169434916
    rotate_left
    · rw [if_neg c7] at H
      exact absurd H (by simp)
    rw [if_pos c7] at H
    have LMc7 := Aside0.mk c7
    clear c7
    obtain ⟨y249, hy249⟩ : ∃ y_ : List (S66), y_ = (t227 ++ [(⟨t238, (⟨t241, t242, t243, t244, t245, t246⟩ : S64)⟩ : S66)]) := ⟨_, rfl⟩
    replace H : (some (y249, t247, t248)) = some (r1, r2, r3) := by first | (rw [hy249]; with_reducible exact H) | (have H2_ := (Option.bind_some _ _).symm.trans H; rw [hy249]; with_reducible exact H2_) | (have H2_ := (Option.bind_some _ _).symm.trans H; with_reducible exact H2_) | with_reducible exact H | (rw [hy249]; exact H) | exact H | rfl
    have Ny249 := Aside0.mk hy249
    clear hy249
    simp only [Option.some.injEq, Prod.mk.injEq] at H
    obtain ⟨rfl, rfl, rfl⟩ := H
    go_enter Tryd.func51, Tryd.ntmps51
    go_wp2_with (first | ((with_reducible refine uE (f := 92) rfl ?_); refine uL (some 6) Tryd.func92 #[.pointer (some ⟨g, 0, none⟩)] ?_; (with_reducible refine (spec_l5Log.calls k g s0_0 s0_1 s0_2 t227 t230 t231 w0 _ ?side1 ?side2 A2.out).mono ?_); (case side1 => exact q4); (case side2 => exact q6); rintro e w8 ⟨v228, rfl, ho0, hi, hb, hk⟩; refine ⟨_, rfl, ?_⟩; have HO229 := Aside0.mk (Kd.uX ho0 (keep_size (w := w) (g := g) (row := none) q12)); replace HK := uO HK hk; replace HB := Aside0.mk (hb); replace HI0 := Aside0.mk (hi); (try clear hb); (try clear hb2); (try clear hk); (try clear hi); (try clear ho0)) | ((with_reducible refine uE (f := 52) rfl ?_); refine uL (some 8) Tryd.func52 #[.pointer (some ⟨g, 0, none⟩), .int .i64 14] ?_; (with_reducible refine (spec_l1Below.calls g s0_0 t230 t231 14 t232 t233 t234 w0 _ ?side1 ?side2 A3.out).mono ?_); (case side1 => exact q4); (case side2 => exact q6); rintro e w9 ⟨rfl, hi, hb, hk⟩; refine ⟨_, rfl, ?_⟩; replace HO229 := Aside0.mk (Kd.uV (Kd.R_keep (IsS110.apart (show IsS110 w0 _ g s0_0 t230 t231 from by repeat (first | (with_reducible first | exact HI0.out | apply IsS110.alloc | apply IsS110.drewN | apply IsS110.drew | apply IsS110.set_1 | apply IsS110.set_2) | exact HI0.out)) (rSR HO229.out) (by decide)) hk (fun _ h => h.2)) (fun _ h => h.1)); replace HK := uO HK hk; replace HB := Aside0.mk (hb); replace HI0 := Aside0.mk (hi); (try clear hb); (try clear hb2); (try clear hk); (try clear hi)) | ((with_reducible refine uR (N := 13) rfl ?_); refine Kd.R_lit (Kd.int .i64) _ 3 ?hg (N := 13) ?hd (xs := ([0, 1, 20, 21] : List Int)) (inner := [.int .i64 0, .int .i64 1, .int .i64 20, .int .i64 21]) (ok := fun _ => True) (okp := fun _ => True) ?hr ?hp (fun _ hk => hk) trivial (Below.refl _ _) (Nat.le_refl _) (by simp) ?_; (case hd => rfl); (case hg => rfl); (case hr => first | (go_simp; done) | (go_simp; rfl)); (case hp => exact (Reps.one (show Kd.M (Kd.int .i64) _ _ _ 0 [.int .i64 0] from rfl) (Reps.one (show Kd.M (Kd.int .i64) _ _ _ 1 [.int .i64 1] from rfl) (Reps.one (show Kd.M (Kd.int .i64) _ _ _ 20 [.int .i64 20] from rfl) (Reps.one (show Kd.M (Kd.int .i64) _ _ _ 21 [.int .i64 21] from rfl) (Reps.none _ _)))))); intro v236 w10 ho11 hb hg_ hnew_; clear hg_ hnew_; (first | rw [← Ny235.out] at ho11 | (simp only [Int.reduceToNat] at ho11; rw [← Ny235.out] at ho11)); have HO237 := Aside0.mk (Kd.uX ho11 (keep_size (w := w) (g := g) (row := none) q12)); replace HO229 := Kd.tR HO229 hb; replace HI0 := Aside0.mk (IsS110.below q4 hb); replace HK := uO HK (uP.of_below hb g none); replace HB := tBel2 HB hb; clear hb ho11; obtain ⟨Ao12, co12, eo12⟩ := Kd.R_slice HO237.out; subst eo12) | ((with_reducible refine uE (f := 54) rfl ?_); refine uL (some 14) Tryd.func54 #[.pointer (some ⟨g, 0, none⟩), .slice Ao12 y235.length co12] ?_; (with_reducible refine (spec_l1PickInt.calls g s0_0 t233 t234 _ _ y235 t238 t239 t240 w0 _ ?side1 ?side2 ?side3 ?side4 ?side5 A5.out).mono ?_); (case side1 => exact q4); (case side2 => exact q6); (case side3 => repeat (first | exact (Kd.uM HO237.out).2.2 | (with_reducible refine Kd.C_alloc ?_ _) | (with_reducible refine Kd.C_drewN ?_ _) | (with_reducible refine Kd.C_drew ?_))); (case side4 => exact (Kd.uM HO237.out).2.1); (case side5 => exact far_slice (IsS110.own_ne HI0.out HO237.out (by decide))); rintro e w13 ⟨rfl, hi, hb, hk⟩; refine ⟨_, rfl, ?_⟩; replace HO229 := Aside0.mk (Kd.uV (Kd.R_keep (IsS110.apart (show IsS110 w0 _ g s0_0 t233 t234 from by repeat (first | (with_reducible first | exact HI0.out | apply IsS110.alloc | apply IsS110.drewN | apply IsS110.drew | apply IsS110.set_1 | apply IsS110.set_2) | exact HI0.out)) (rSR HO229.out) (by decide)) hk (fun _ h => h.2)) (fun _ h => h.1)); replace HO237 := Aside0.mk (Kd.uV (Kd.R_keep (IsS110.apart (show IsS110 w0 _ g s0_0 t233 t234 from by repeat (first | (with_reducible first | exact HI0.out | apply IsS110.alloc | apply IsS110.drewN | apply IsS110.drew | apply IsS110.set_1 | apply IsS110.set_2) | exact HI0.out)) (rSR HO237.out) (by decide)) hk (fun _ h => h.2)) (fun _ h => h.1)); replace HK := uO HK hk; replace HB := Aside0.mk (hb); replace HI0 := Aside0.mk (hi); (try clear hb); (try clear hb2); (try clear hk); (try clear hi)) | ((with_reducible refine uE (f := 93) rfl ?_); refine uL (some 16) Tryd.func93 #[.pointer (some ⟨g, 0, none⟩)] ?_; (with_reducible refine (spec_l3Any.calls g s0_0 t239 t240 t241 t242 t243 t244 t245 t246 t247 t248 w0 _ ?side1 ?side2 A6.out).mono ?_); (case side1 => exact q4); (case side2 => exact q6); rintro e w14 ⟨rfl, hi, hb, hk⟩; refine ⟨_, rfl, ?_⟩; replace HO229 := Aside0.mk (Kd.uV (Kd.R_keep (IsS110.apart (show IsS110 w0 _ g s0_0 t239 t240 from by repeat (first | (with_reducible first | exact HI0.out | apply IsS110.alloc | apply IsS110.drewN | apply IsS110.drew | apply IsS110.set_1 | apply IsS110.set_2) | exact HI0.out)) (rSR HO229.out) (by decide)) hk (fun _ h => h.2)) (fun _ h => h.1)); replace HO237 := Aside0.mk (Kd.uV (Kd.R_keep (IsS110.apart (show IsS110 w0 _ g s0_0 t239 t240 from by repeat (first | (with_reducible first | exact HI0.out | apply IsS110.alloc | apply IsS110.drewN | apply IsS110.drew | apply IsS110.set_1 | apply IsS110.set_2) | exact HI0.out)) (rSR HO237.out) (by decide)) hk (fun _ h => h.2)) (fun _ h => h.1)); replace HK := uO HK hk; replace HB := Aside0.mk (hb); replace HI0 := Aside0.mk (hi); (try clear hb); (try clear hb2); (try clear hk); (try clear hi)) | ((with_reducible refine gate_builtin (b := .append) (xs := #[.tmp 11, .tmp 18]) rfl ?_); at_builtin; refine Kd.R_append k66 w.heap.size rfl (.tmp 11) (.tmp 18) 24 66 (.agg #[(.int .i64 0), (.int .i64 0), (.int .i64 0), (.int .i64 0), (.int .i64 0), (.int .i64 0), (.int .i64 0)]) 56 rfl Tryd.underlying24 info66 rfl (by decide) (by omega) v228 t227 (⟨t238, (⟨t241, t242, t243, t244, t245, t246⟩ : S64)⟩ : S66) [.int .i64 t238, .int .i64 t241, .int .i64 t242, .int .i64 t243, .int .i64 t244, .int .i64 t245, .int .i64 t246] (fun _ => True) (fun _ => False) rfl rfl ?aP (fun _ hk => hk.elim) ?aF ?aO (Below.refl _ _) ?aS ?aL ?_; (case aP => exact k66_mkM _ _ _ (⟨t238, (⟨t241, t242, t243, t244, t245, t246⟩ : S64)⟩ : S66)); (case aF => exact (fun _ _ => trivial)); (case aO => exact (rSR HO229.out)); (case aS => exact (keep_size (w := w) (g := g) (row := none) q12)); (case aL => have := LMc7.out; omega); intro v250 w15 ho hb hg hat; rw [← Ny249.out] at ho; have n0_ := IsS110.tgr HI0 hg (IsS110.own_ne HI0.out HO229.out (by decide)); have n1_ := Aside0.mk (Kd.R_over' (rSR HO237.out) (Kd.R_typed (rSR HO229.out)) (by decide) hg); have n2_ := Aside0.mk (below_weaken q6 HL.out hb); have n3_ := Aside0.mk (uP.trans q12 (uP.of_grown hg g) (Kd.R_base2 HO229.out)); have n4_ := Aside0.mk (ho); clear HI0; clear HO237; clear HB; clear HK; clear HO229; have HI0 := n0_; have HO237 := n1_; have HB := n2_; have HK := n3_; have HO251 := n4_; clear n0_ n1_ n2_ n3_ n4_; clear ho hb hg hat))
    go_ret
    exact ⟨_, q2, by (with_reducible repeat (first | apply Kd.uT | apply Kd.uS | apply Kd.uW)); exact HO251.out, q4, q6, q12⟩
  rw [if_neg c4] at H
  have c4b0 : (t232 == 0) = false := beq_eq_false_iff_ne.mpr c4
  have c4b1 : (t232 != 0) = true := bne_iff_ne.mpr c4
  go_enter Tryd.func51, Tryd.ntmps51
  go_wp2_with (first | ((with_reducible refine uE (f := 92) rfl ?_); refine uL (some 6) Tryd.func92 #[.pointer (some ⟨g, 0, none⟩)] ?_; (with_reducible refine (spec_l5Log.calls k g s0_0 s0_1 s0_2 t227 t230 t231 w0 _ ?side1 ?side2 A2.out).mono ?_); (case side1 => exact q4); (case side2 => exact q6); rintro e w29 ⟨v228, rfl, ho0, hi, hb, hk⟩; refine ⟨_, rfl, ?_⟩; have HO229 := Aside0.mk (Kd.uX ho0 (keep_size (w := w) (g := g) (row := none) q12)); replace HK := uO HK hk; replace HB := Aside0.mk (hb); replace HI0 := Aside0.mk (hi); (try clear hb); (try clear hb2); (try clear hk); (try clear hi); (try clear ho0)) | ((with_reducible refine uE (f := 52) rfl ?_); refine uL (some 8) Tryd.func52 #[.pointer (some ⟨g, 0, none⟩), .int .i64 14] ?_; (with_reducible refine (spec_l1Below.calls g s0_0 t230 t231 14 t232 t233 t234 w0 _ ?side1 ?side2 A3.out).mono ?_); (case side1 => exact q4); (case side2 => exact q6); rintro e w30 ⟨rfl, hi, hb, hk⟩; refine ⟨_, rfl, ?_⟩; replace HO229 := Aside0.mk (Kd.uV (Kd.R_keep (IsS110.apart (show IsS110 w0 _ g s0_0 t230 t231 from by repeat (first | (with_reducible first | exact HI0.out | apply IsS110.alloc | apply IsS110.drewN | apply IsS110.drew | apply IsS110.set_1 | apply IsS110.set_2) | exact HI0.out)) (rSR HO229.out) (by decide)) hk (fun _ h => h.2)) (fun _ h => h.1)); replace HK := uO HK hk; replace HB := Aside0.mk (hb); replace HI0 := Aside0.mk (hi); (try clear hb); (try clear hb2); (try clear hk); (try clear hi); refine ?roundEnd))
  case roundEnd =>
  by_cases c16 : t232 = 1
  rotate_left
  · rw [if_neg c16] at H
    have c16b0 : (t232 == 1) = false := beq_eq_false_iff_ne.mpr c16
    have c16b1 : (t232 != 1) = true := bne_iff_ne.mpr c16
    simp only [Option.some.injEq, Prod.mk.injEq] at H
    obtain ⟨rfl, rfl, rfl⟩ := H
    go_wp2
    go_ret
    exact ⟨_, q2, by (with_reducible repeat (first | apply Kd.uT | apply Kd.uS | apply Kd.uW)); exact HO229.out, q4, q6, q12⟩
  rw [if_pos c16] at H
  have c16b0 : (t232 == 1) = true := beq_iff_eq.mpr c16
  have c16b1 : (t232 != 1) = false := bne_eq_false_iff_eq.mpr c16
  clear c16
  have H' := Aside0.mk H
  clear H
  go_wp2
  go_loopg [3] k (fun kq v3 w' => ∃ (x3_1 : List (S66)) (x1001_1 : Int) (x1002_1 : Int), Aside0 (spec_l5Any.l0 kq x3_1 s0_0 x1001_1 x1002_1 = some (r1, r2, r3)) ∧ Aside0 (kq ≤ k) ∧ Aside0 (Kd.R k66 66 w' w.heap.size (fun _ => True) v3 x3_1) ∧ Aside0 (IsS110 w0 w' g s0_0 x1001_1 x1002_1) ∧ Aside0 (uP w w' g none) ∧ Aside0 (Below w0.heap.size w0 w'))
  case atStart => exact ⟨(t227), (t233), (t234), H', ⟨Nat.le_refl _⟩, ⟨by (with_reducible repeat (first | apply Kd.uT | apply Kd.uS | apply Kd.uW)); exact HO229.out⟩, ⟨q4⟩, ⟨q12⟩, ⟨q6⟩⟩
  case round =>
    clear H'
    try clear c1
    try clear p2
    try clear c4
    try clear c4b0
    try clear c4b1
    try clear c5
    try clear c7
    try clear c9
    try clear c16
    try clear c16b0
    try clear c16b1
    obtain ⟨x3_1, x1001_1, x1002_1, HA, HK1, HO_3, HI0, HK, HB⟩ := hrel
    cases gk with
    | zero => exact absurd HA.out (by simp [spec_l5Any.l0])
    | succ k1 =>
      have H := HA.out
      clear HA
      simp only [spec_l5Any.l0] at H
      by_cases c19 : (x3_1.length : Int) < 17
      rotate_left
      · rw [if_neg c19] at H
        have c19b0 : decide ((x3_1.length : Int) < 17) = false := decide_eq_false c19
        have c19b1 : decide (x3_1.length < 17) = false := decide_eq_false (by omega)
        clear c19
        simp only [Option.some.injEq, Prod.mk.injEq] at H
        obtain ⟨rfl, rfl, rfl⟩ := H
        obtain ⟨Ao28, co28, eo28⟩ := Kd.R_slice HO_3.out
        subst eo28
        go_wp2
        go_ret
        exact ⟨_, q2, q55, q4, q6, q12⟩
      rw [if_pos c19] at H
      have c19b0 : decide ((x3_1.length : Int) < 17) = true := decide_eq_true c19
      have c19b1 : decide (x3_1.length < 17) = true := decide_eq_true (by omega)
      clear c19
      replace H := Option.bind_eq_some_iff.mp H
      obtain ⟨⟨t252, t253, t254, t255, t256, t257, t258, t259⟩, A200, H⟩ := H
      try dsimp only at H
      have A20 := Aside0.mk A200
      clear A200
      by_cases c21 : x3_1.length < 2513169434916
      rotate_left
      · rw [if_neg c21] at H
        exact absurd H (by simp)
      rw [if_pos c21] at H
      have LMc21 := Aside0.mk c21
      clear c21
      obtain ⟨y261, hy261⟩ : ∃ y_ : List (S66), y_ = (x3_1 ++ [(⟨20, (⟨t252, t253, t254, t255, t256, t257⟩ : S64)⟩ : S66)]) := ⟨_, rfl⟩
      replace H : (spec_l5Any.l0 k1 y261 s0_0 t258 t259) = some (r1, r2, r3) := by first | (rw [hy261]; with_reducible exact H) | (have H2_ := (Option.bind_some _ _).symm.trans H; rw [hy261]; with_reducible exact H2_) | (have H2_ := (Option.bind_some _ _).symm.trans H; with_reducible exact H2_) | with_reducible exact H | (rw [hy261]; exact H) | exact H | rfl
      have Ny261 := Aside0.mk hy261
      clear hy261
      have H' := Aside0.mk H
      clear H
      obtain ⟨Ao22, co22, eo22⟩ := Kd.R_slice HO_3.out
      subst eo22
      go_wp2_with (first | ((with_reducible refine uE (f := 85) rfl ?_); refine uL (some 26) Tryd.func85 #[.pointer (some ⟨g, 0, none⟩)] ?_; (with_reducible refine (spec_l3Op.calls g s0_0 x1001_1 x1002_1 t252 t253 t254 t255 t256 t257 t258 t259 w0 _ ?side1 ?side2 A20.out).mono ?_); (case side1 => exact q4); (case side2 => exact q6); rintro e w23 ⟨rfl, hi, hb, hk⟩; refine ⟨_, rfl, ?_⟩; replace HO_3 := Aside0.mk (Kd.uV (Kd.R_keep (IsS110.apart (show IsS110 w0 _ g s0_0 x1001_1 x1002_1 from by repeat (first | (with_reducible first | exact HI0.out | apply IsS110.alloc | apply IsS110.drewN | apply IsS110.drew | apply IsS110.set_1 | apply IsS110.set_2) | exact HI0.out)) (rSR HO_3.out) (by decide)) hk (fun _ h => h.2)) (fun _ h => h.1)); replace HK := uO HK hk; replace HB := Aside0.mk (hb); replace HI0 := Aside0.mk (hi); (try clear hb); (try clear hb2); (try clear hk); (try clear hi)) | ((with_reducible refine uR (N := 4) rfl ?_); refine bxe 4 #[.int .i64 0, .int .i64 0, .int .i64 0, .int .i64 0, .int .i64 0, .int .i64 0] 64 ?_; intro gb260 hg w24 hbox hb; have BK260 := Aside0.mk (hbox); have GW260 := tKGe HK hg; have GE260 := tKW HW0 HK hg; have NB0_260 := Aside0.mk ((by rw [hg]; exact Nat.ne_of_lt (IsS110.lt (show IsS110 w0 _ g s0_0 t258 t259 from by repeat (first | (with_reducible first | exact HI0.out | apply IsS110.alloc | apply IsS110.drewN | apply IsS110.drew | apply IsS110.set_1 | apply IsS110.set_2) | exact HI0.out))) : g ≠ gb260)); have NB260_0 := Aside0.mk ((by rw [hg]; exact Nat.ne_of_gt (IsS110.lt (show IsS110 w0 _ g s0_0 t258 t259 from by repeat (first | (with_reducible first | exact HI0.out | apply IsS110.alloc | apply IsS110.drewN | apply IsS110.drew | apply IsS110.set_1 | apply IsS110.set_2) | exact HI0.out))) : gb260 ≠ g)); replace HO_3 := Kd.tR HO_3 hb; replace HI0 := Aside0.mk (IsS110.below q4 hb); replace HK := uO HK (uP.of_below hb g none); replace HB := tBel2 HB hb; clear hb hbox hg; have hnb25 := NB260_0.out; have hnc25 := NB0_260.out; obtain ⟨hcz26_0, hcz26_1, hcz26_2, hcz26_3, hcz26_4, hcz26_5, hfz26_0, hfz26_1, hfz26_2, hfz26_3, hfz26_4, hfz26_5⟩ := cz6 BK260) | ((with_reducible refine gate_builtin (b := .append) (xs := #[.tmp 27, .tmp 30]) rfl ?_); at_builtin; refine Kd.R_append k66 w.heap.size rfl (.tmp 27) (.tmp 30) 24 66 (.agg #[(.int .i64 0), (.int .i64 0), (.int .i64 0), (.int .i64 0), (.int .i64 0), (.int .i64 0), (.int .i64 0)]) 56 rfl Tryd.underlying24 info66 rfl (by decide) (by omega) (.slice Ao22 x3_1.length co22) x3_1 (⟨20, (⟨t252, t253, t254, t255, t256, t257⟩ : S64)⟩ : S66) [.int .i64 20, .int .i64 t252, .int .i64 t253, .int .i64 t254, .int .i64 t255, .int .i64 t256, .int .i64 t257] (fun _ => True) (fun _ => False) rfl (by first | (go_simp; done) | (go_simp; rfl)) ?aP (fun _ hk => hk.elim) ?aF ?aO (Below.refl _ _) ?aS ?aL ?_; (case aP => exact k66_mkM _ _ _ (⟨20, (⟨t252, t253, t254, t255, t256, t257⟩ : S64)⟩ : S66)); (case aF => exact (fun _ _ => trivial)); (case aO => exact (by (with_reducible repeat (first | apply Kd.uT | apply Kd.uS | apply Kd.uW)); exact Kd.uV (Kd.R_far (p := ⟨gb260, 5, none⟩) (Kd.R_far (p := ⟨gb260, 4, none⟩) (Kd.R_far (p := ⟨gb260, 3, none⟩) (Kd.R_far (p := ⟨gb260, 2, none⟩) (Kd.R_far (p := ⟨gb260, 1, none⟩) (Kd.R_far (p := ⟨gb260, 0, none⟩) (Kd.R_types HO_3.out BK260.out (by decide)) (fun _ hk => hk.2) (.int .i64 t252)) (fun _ hk => hk.2) (.int .i64 t253)) (fun _ hk => hk.2) (.int .i64 t254)) (fun _ hk => hk.2) (.int .i64 t255)) (fun _ hk => hk.2) (.int .i64 t256)) (fun _ hk => hk.2) (.int .i64 t257)) (fun _ hk => trivial))); (case aS => exact q35); (case aL => have := LMc21.out; omega); intro v262 w27 ho hb hg hat; rw [← Ny261.out] at ho; have n0_ := IsS110.tgr HI0 hg (IsS110.own_ne HI0.out HO_3.out (by decide)); have n1_ := tGrP BK260 #[.int .i64 t252, .int .i64 t253, .int .i64 t254, .int .i64 t255, .int .i64 t256, .int .i64 t257] hg (Kd.R_ne HO_3.out BK260.out (by decide)); have n2_ := Aside0.mk (below_weaken q1 HL.out hb); have n3_ := Aside0.mk (uP.trans q7 (uP.of_grown hg g) (Kd.R_base2 HO_3.out)); have n4_ := Aside0.mk (ho); clear HI0; clear BK260; clear HB; clear HK; clear HO_3; have HI0 := n0_; have BK260 := n1_; have HB := n2_; have HK := n3_; have HO263 := n4_; clear n0_ n1_ n2_ n3_ n4_; clear ho hb hg hat))
      go_roundg k1
      case measure => have := HK1.out; omega
      case rel => exact ⟨(y261), (t258), (t259), H', ⟨by have := HK1.out; omega⟩, ⟨by (with_reducible repeat (first | apply Kd.uT | apply Kd.uS | apply Kd.uW)); exact HO263.out⟩, ⟨by repeat (first | (with_reducible first | exact HI0.out | apply IsS110.alloc | apply IsS110.drewN | apply IsS110.drew | apply IsS110.set_1 | apply IsS110.set_2 | refine IsS110.far ?_ NB0_260.out _) | exact HI0.out)⟩, ⟨q7⟩, ⟨q1⟩⟩

/-! ### spec_l5Copy: function 84 -/
def spec_l5Copy.f (l0 : List (S66)) : Option ((List (S66))) := (some (([] : List (S66)) : List (S66))).bind fun y264 => (if y264.length + l0.length < 2513169434916 then (some (y264 ++ l0)) else (none))
set_option maxHeartbeats 8000000 in
set_option maxRecDepth 100000 in
theorem spec_l5Copy.calls (A0 : Option Addr) (c0 : Nat) (l0 : List (S66)) (r : List (S66)) (w : World) (hr0 : Kd.C k66 w A0 l0.length l0) (hc0 : l0.length ≤ c0) (h : spec_l5Copy.f l0 = some r) :
    Calls Tryd.prog 84 #[.slice A0 l0.length c0] w fun e w' => ∃ v0_ : Value, e = .returned (v0_) ∧ Kd.R k66 66 w' w.heap.size (fun _ => True) v0_ r ∧ Below w.heap.size w w' := by
  have HR0 := Aside0.mk hr0
  have HC0 := Aside0.mk hc0
  clear hr0 hc0
  have HB := Aside0.mk (Below.refl w.heap.size w)
  have H : ((some (([] : List (S66)) : List (S66))).bind fun y264 => (if y264.length + l0.length < 2513169434916 then (some (y264 ++ l0)) else (none))) = some r := h
  clear h
  obtain ⟨y264, hy264⟩ : ∃ y_ : List (S66), y_ = (([] : List (S66))) := ⟨_, rfl⟩
  replace H : (if y264.length + l0.length < 2513169434916 then (some (y264 ++ l0)) else (none)) = some r := by first | (rw [hy264]; with_reducible exact H) | (have H2_ := (Option.bind_some _ _).symm.trans H; rw [hy264]; with_reducible exact H2_) | (have H2_ := (Option.bind_some _ _).symm.trans H; with_reducible exact H2_) | with_reducible exact H | (rw [hy264]; exact H) | exact H | rfl
  have Ny264 := Aside0.mk hy264
  clear hy264
  by_cases c2 : y264.length + l0.length < 2513169434916
  rotate_left
  · rw [if_neg c2] at H
    exact absurd H (by simp)
  rw [if_pos c2] at H
  have LMc2 := Aside0.mk c2
  clear c2
  obtain ⟨y267, hy267⟩ : ∃ y_ : List (S66), y_ = (y264 ++ l0) := ⟨_, rfl⟩
  replace H : (some y267) = some r := by first | (rw [hy267]; with_reducible exact H) | (have H2_ := (Option.bind_some _ _).symm.trans H; rw [hy267]; with_reducible exact H2_) | (have H2_ := (Option.bind_some _ _).symm.trans H; with_reducible exact H2_) | with_reducible exact H | (rw [hy267]; exact H) | exact H | rfl
  have Ny267 := Aside0.mk hy267
  clear hy267
  obtain rfl := Option.some.inj H
  go_enter Tryd.func84, Tryd.ntmps84
  go_wp2_with (first | ((with_reducible refine uR (N := 3) rfl ?_); refine Kd.R_lit k66 _ 66 ?hg (N := 3) ?hd (xs := ([] : List (S66))) (inner := []) (ok := fun _ => True) (okp := fun _ => True) ?hr ?hp (fun _ hk => hk) trivial (Below.refl _ _) (Nat.le_refl _) (by simp) ?_; (case hd => rfl); (case hg => rfl); (case hr => first | (go_simp; done) | (go_simp; rfl)); (case hp => exact (Reps.none _ _)); intro v265 w3 ho4 hb hg_ hnew_; clear hg_ hnew_; (first | rw [← Ny264.out] at ho4 | (simp only [Int.reduceToNat] at ho4; rw [← Ny264.out] at ho4)); have HO266 := Aside0.mk (Kd.uX ho4 (uU q0)); replace HB := uQ HB hb; clear hb ho4) | ((with_reducible refine gate_builtin (b := .append) (xs := #[.tmp 3, .tmp 4]) rfl ?_); at_builtin; refine Kd.R_append_rows k66 (w0 := w) w.heap.size rfl (.tmp 3) (.tmp 4) 24 66 (.agg #[(.int .i64 0), (.int .i64 0), (.int .i64 0), (.int .i64 0), (.int .i64 0), (.int .i64 0), (.int .i64 0)]) 56 rfl Tryd.underlying24 info66 rfl (by decide) (by omega) v265 y264 l0 _ _ _ (fun _ => True) (fun _ => False) rfl rfl ?aO ?aR (fun _ _ h => h) (fun _ h => h.elim) ?aF ?aB ?aS ?aL ?_; (case aR => exact q36); (case aB => exact q51); (case aF => exact (fun _ _ => trivial)); (case aO => exact (rSR HO266.out)); (case aS => exact q40); (case aL => have := LMc2.out; omega); intro v268 w5 ho hb hg hat; rw [← Ny267.out] at ho; have n0_ := Aside0.mk (hb); have n1_ := Aside0.mk (ho); clear HB; clear HO266; have HB := n0_; have HO269 := n1_; clear n0_ n1_; clear ho hb hg hat))
  go_ret
  exact ⟨_, q2, by (with_reducible repeat (first | apply Kd.uT | apply Kd.uS | apply Kd.uW)); exact HO269.out, q0⟩

/-! ### spec_l5Two: function 42 -/
def spec_l5Two.l0 : Nat → List (S66) → List (S66) → Int → List Int → Int → Int → Option ((List (S66)) × (List (S66)))
  | 0, _, _, _, _, _, _ => none
  | k + 1, x5, x6, x7, x274000, x274001, x274002 => if x7 > 0 then ((spec_l3Op.f x274000 x274001 x274002).bind fun bt300 => (if x6.length < 2513169434916 then (spec_l5Two.l0 k x5 (x6 ++ [(⟨9, (⟨bt300.1, bt300.2.1, bt300.2.2.1, bt300.2.2.2.1, bt300.2.2.2.2.1, bt300.2.2.2.2.2.1⟩ : S64)⟩ : S66)]) (wrap64 (x7 - 1)) x274000 bt300.2.2.2.2.2.2.1 bt300.2.2.2.2.2.2.2) else (none))) else (some (x5, x6))
def spec_l5Two.f (k : Nat) (l0 : List Int) : Option ((List (S66)) × (List (S66))) := (spec_l1New.f k l0).bind fun bt270 => ((spec_l5Any.f k bt270.1 bt270.2.1 bt270.2.2).bind fun bt274 => ((spec_l1Once.f bt270.1 bt274.2.1 bt274.2.2 3).bind fun bt279 => (if bt279.1 = true then ((spec_l5Any.f k bt270.1 bt279.2.1 bt279.2.2).bind fun bt282 => (some (bt274.1, bt282.1))) else ((spec_l1Below.f bt270.1 bt279.2.1 bt279.2.2 (wrap64 ((bt274.1.length : Int) + 1))).bind fun bt287 => (if 0 ≤ bt287.1 then (if bt287.1 ≤ (bt274.1.length : Int) then ((spec_l5Copy.f (bt274.1.take (bt287.1 : Int).toNat)).bind fun t294 => ((spec_l1Below.f bt270.1 bt287.2.1 bt287.2.2 3).bind fun bt297 => (spec_l5Two.l0 k bt274.1 t294 bt297.1 bt270.1 bt297.2.1 bt297.2.2))) else (none)) else (none))))))
theorem spec_l5Two.mono_l : ∀ k, (∀ y0 y1 y2 y3 y4 y5, uF (spec_l5Two.l0 k y0 y1 y2 y3 y4 y5) (spec_l5Two.l0 (k + 1) y0 y1 y2 y3 y4 y5))
  | 0 => fun _ _ _ _ _ _ r h => by simp [spec_l5Two.l0] at h
  | k + 1 => by
    have ih0 := spec_l5Two.mono_l k
    intro y0 y1 y2 y3 y4 y5
    unfold spec_l5Two.l0
    repeat' first
    | (with_reducible exact ih0 _ _ _ _ _ _)
    | (with_reducible exact spec_l1New.mono _ _)
    | (with_reducible exact spec_l5Any.mono _ _ _ _)
    | (with_reducible exact uF.refl _)
    | (with_reducible exact uF.none _)
    | (with_reducible refine uF.ite ?_ ?_)
    | (with_reducible refine uF.bind ?_ (fun _ => ?_))
    | exact ih0 _ _ _ _ _ _
    | exact spec_l1New.mono _ _
    | exact spec_l5Any.mono _ _ _ _
    | exact uF.none _
    | refine uF.ite ?_ ?_
    | refine uF.bind ?_ (fun _ => ?_)
theorem spec_l5Two.mono : ∀ a0 k, uF (spec_l5Two.f k a0) (spec_l5Two.f (k + 1) a0) := by
  intro a0 k
  have ih0 := spec_l5Two.mono_l k
  unfold spec_l5Two.f
  repeat' first
      | (with_reducible exact ih0 _ _ _ _ _ _)
      | (with_reducible exact spec_l1New.mono _ _)
      | (with_reducible exact spec_l5Any.mono _ _ _ _)
      | (with_reducible exact uF.refl _)
      | (with_reducible exact uF.none _)
      | (with_reducible refine uF.ite ?_ ?_)
      | (with_reducible refine uF.bind ?_ (fun _ => ?_))
      | exact ih0 _ _ _ _ _ _
      | exact spec_l1New.mono _ _
      | exact spec_l5Any.mono _ _ _ _
      | exact uF.none _
      | refine uF.ite ?_ ?_
      | refine uF.bind ?_ (fun _ => ?_)
set_option maxHeartbeats 8000000 in
set_option maxRecDepth 100000 in
theorem spec_l5Two.calls (k : Nat) (A0 : Option Addr) (c0 : Nat) (l0 : List Int) (r1 : List (S66)) (r2 : List (S66)) (w : World) (hr0 : Kd.C (Kd.int .u8) w A0 l0.length l0) (hc0 : l0.length ≤ c0) (h : spec_l5Two.f k l0 = some (r1, r2)) :
    Calls Tryd.prog 42 #[.slice A0 l0.length c0] w fun e w' => ∃ v0_ v1_ : Value, e = .returned (.tuple #[v0_, v1_]) ∧ Kd.R k66 66 w' w.heap.size (fun k_ => some k_ ≠ (v1_ : Value).ownBlock) v0_ r1 ∧ Kd.R k66 66 w' w.heap.size (fun k_ => some k_ ≠ (v0_ : Value).ownBlock) v1_ r2 ∧ Below w.heap.size w w' := by
  have hu64 := Tryd.underlying64
  have hu66 := Tryd.underlying66
  have HR0 := Aside0.mk hr0
  have HC0 := Aside0.mk hc0
  clear hr0 hc0
  have HB := Aside0.mk (Below.refl w.heap.size w)
  have H : ((spec_l1New.f k l0).bind fun bt270 => ((spec_l5Any.f k bt270.1 bt270.2.1 bt270.2.2).bind fun bt274 => ((spec_l1Once.f bt270.1 bt274.2.1 bt274.2.2 3).bind fun bt279 => (if bt279.1 = true then ((spec_l5Any.f k bt270.1 bt279.2.1 bt279.2.2).bind fun bt282 => (some (bt274.1, bt282.1))) else ((spec_l1Below.f bt270.1 bt279.2.1 bt279.2.2 (wrap64 ((bt274.1.length : Int) + 1))).bind fun bt287 => (if 0 ≤ bt287.1 then (if bt287.1 ≤ (bt274.1.length : Int) then ((spec_l5Copy.f (bt274.1.take (bt287.1 : Int).toNat)).bind fun t294 => ((spec_l1Below.f bt270.1 bt287.2.1 bt287.2.2 3).bind fun bt297 => (spec_l5Two.l0 k bt274.1 t294 bt297.1 bt270.1 bt297.2.1 bt297.2.2))) else (none)) else (none))))))) = some (r1, r2) := h
  clear h
  replace H := Option.bind_eq_some_iff.mp H
  obtain ⟨⟨t270, t271, t272⟩, A20, H⟩ := H
  try dsimp only at H
  have A2 := Aside0.mk A20
  clear A20
  replace H := Option.bind_eq_some_iff.mp H
  obtain ⟨⟨t274, t277, t278⟩, A30, H⟩ := H
  try dsimp only at H
  have A3 := Aside0.mk A30
  clear A30
  replace H := Option.bind_eq_some_iff.mp H
  obtain ⟨⟨t279, t280, t281⟩, A40, H⟩ := H
  try dsimp only at H
  have A4 := Aside0.mk A40
  clear A40
  by_cases c5 : t279 = true
  · subst c5
    try rw [if_pos rfl] at H
    replace H := Option.bind_eq_some_iff.mp H
    obtain ⟨⟨t282, t285, t286⟩, A60, H⟩ := H
    try dsimp only at H
    have A6 := Aside0.mk A60
    clear A60
    simp only [Option.some.injEq, Prod.mk.injEq] at H
    obtain ⟨rfl, rfl⟩ := H
    go_enter Tryd.func42, Tryd.ntmps42
    go_wp2_with (first | ((with_reducible refine uE (f := 50) rfl ?_); refine uL (some 10) Tryd.func50 #[.slice A0 l0.length c0] ?_; (with_reducible refine (spec_l1New.calls k _ _ l0 t270 t271 t272 w _ ?side1 ?side2 ?side3 A2.out).mono ?_); (case side1 => exact q0); (case side2 => exact HR0.out); (case side3 => exact HC0.out); rintro e w7 ⟨g273, rfl, hi, hb, hb2⟩; refine ⟨_, rfl, ?_⟩; have HI273 := Aside0.mk (hi); replace HB := Aside0.mk (hb); (try clear hb); (try clear hb2); (try clear hk); (try clear hi)) | ((with_reducible refine uE (f := 51) rfl ?_); refine uL (some 12) Tryd.func51 #[.pointer (some ⟨g273, 0, none⟩)] ?_; (with_reducible refine (spec_l5Any.calls k g273 t270 t271 t272 t274 t277 t278 w _ ?side1 ?side2 A3.out).mono ?_); (case side1 => exact q19); (case side2 => exact q13); rintro e w8 ⟨v275, rfl, ho0, hi, hb, hk⟩; refine ⟨_, rfl, ?_⟩; have HO276 := Aside0.mk (Kd.uX ho0 (uU q13)); replace HB := Aside0.mk (hb); replace HI273 := Aside0.mk (hi); (try clear hb); (try clear hb2); (try clear hk); (try clear hi); (try clear ho0)) | ((with_reducible refine uE (f := 53) rfl ?_); refine uL (some 14) Tryd.func53 #[.pointer (some ⟨g273, 0, none⟩), .int .i64 3] ?_; (with_reducible refine (spec_l1Once.calls g273 t270 t277 t278 3 true t280 t281 w _ ?side1 ?side2 A4.out).mono ?_); (case side1 => exact q19); (case side2 => exact q13); rintro e w9 ⟨rfl, hi, hb, hk⟩; refine ⟨_, rfl, ?_⟩; replace HO276 := Aside0.mk (Kd.uV (Kd.R_keep (IsS110.apart (show IsS110 w _ g273 t270 t277 t278 from by repeat (first | (with_reducible first | exact HI273.out | apply IsS110.alloc | apply IsS110.drewN | apply IsS110.drew | apply IsS110.set_1 | apply IsS110.set_2) | exact HI273.out)) (rSR HO276.out) (by decide)) hk (fun _ h => h.2)) (fun _ h => h.1)); replace HB := Aside0.mk (hb); replace HI273 := Aside0.mk (hi); (try clear hb); (try clear hb2); (try clear hk); (try clear hi)) | ((with_reducible refine uE (f := 51) rfl ?_); refine uL (some 17) Tryd.func51 #[.pointer (some ⟨g273, 0, none⟩)] ?_; (with_reducible refine (spec_l5Any.calls k g273 t270 t280 t281 t282 t285 t286 w _ ?side1 ?side2 A6.out).mono ?_); (case side1 => exact q19); (case side2 => exact q13); rintro e w10 ⟨v283, rfl, ho0, hi, hb, hk⟩; refine ⟨_, rfl, ?_⟩; have HO284 := Aside0.mk (Kd.uX (Kd.R_new' ho0 (Kd.R_lt (rSR HO276.out))) (uU q13)); replace HO276 := Aside0.mk (Kd.uV (Kd.R_told (Kd.R_oldK (IsS110.apart (show IsS110 w _ g273 t270 t280 t281 from by repeat (first | (with_reducible first | exact HI273.out | apply IsS110.alloc | apply IsS110.drewN | apply IsS110.drew | apply IsS110.set_1 | apply IsS110.set_2) | exact HI273.out)) (rSR HO276.out) (by decide)) hk) (Kd.R_base ho0)) (fun _ h_ => h_.1)); replace HB := Aside0.mk (hb); replace HI273 := Aside0.mk (hi); (try clear hb); (try clear hb2); (try clear hk); (try clear hi); (try clear ho0)))
    go_ret2
    exact ⟨_, _, q2, by (with_reducible repeat (first | apply Kd.uT | apply Kd.uS | apply Kd.uW)); exact Kd.uV HO276.out (fun _ hk => hk.2), by (with_reducible repeat (first | apply Kd.uT | apply Kd.uS | apply Kd.uW)); exact Kd.uV HO284.out (fun _ hk => hk.2), q13⟩
  replace c5 := Bool.eq_false_iff.mpr c5
  subst c5
  try rw [if_neg (show ¬ (false = true) by decide)] at H
  replace H := Option.bind_eq_some_iff.mp H
  obtain ⟨⟨t287, t288, t289⟩, A110, H⟩ := H
  try dsimp only at H
  have A11 := Aside0.mk A110
  clear A110
  by_cases c12 : 0 ≤ t287
  rotate_left
  · rw [if_neg c12] at H
    exact absurd H (by simp)
  rw [if_pos c12] at H
  have c12b0 := eq_true c12
  have c12b1 : decide (0 ≤ t287) = true := decide_eq_true c12
  clear c12
  by_cases c13 : t287 ≤ (t274.length : Int)
  rotate_left
  · rw [if_neg c13] at H
    exact absurd H (by simp)
  rw [if_pos c13] at H
  have c13b0 := eq_true c13
  have c13b1 : decide (t287 ≤ (t274.length : Int)) = true := decide_eq_true c13
  clear c13
  obtain ⟨y290, hy290⟩ : ∃ y_ : List (S66), y_ = (t274.take (t287 : Int).toNat) := ⟨_, rfl⟩
  replace H : ((spec_l5Copy.f y290).bind fun t294 => ((spec_l1Below.f t270 t288 t289 3).bind fun bt297 => (spec_l5Two.l0 k t274 t294 bt297.1 t270 bt297.2.1 bt297.2.2))) = some (r1, r2) := by first | (rw [hy290]; with_reducible exact H) | (have H2_ := (Option.bind_some _ _).symm.trans H; rw [hy290]; with_reducible exact H2_) | (have H2_ := (Option.bind_some _ _).symm.trans H; with_reducible exact H2_) | with_reducible exact H | (rw [hy290]; exact H) | exact H | rfl
  have Ny290 := Aside0.mk hy290
  clear hy290
  replace H := Option.bind_eq_some_iff.mp H
  obtain ⟨t294, A140, H⟩ := H
  try dsimp only at H
  have A14 := Aside0.mk A140
  clear A140
  replace H := Option.bind_eq_some_iff.mp H
  obtain ⟨⟨t297, t298, t299⟩, A150, H⟩ := H
  try dsimp only at H
  have A15 := Aside0.mk A150
  clear A150
  have H' := Aside0.mk H
  clear H
  go_enter Tryd.func42, Tryd.ntmps42
  go_wp2_with (first | ((with_reducible refine uE (f := 50) rfl ?_); refine uL (some 10) Tryd.func50 #[.slice A0 l0.length c0] ?_; (with_reducible refine (spec_l1New.calls k _ _ l0 t270 t271 t272 w _ ?side1 ?side2 ?side3 A2.out).mono ?_); (case side1 => exact q0); (case side2 => exact HR0.out); (case side3 => exact HC0.out); rintro e w16 ⟨g273, rfl, hi, hb, hb2⟩; refine ⟨_, rfl, ?_⟩; have HI273 := Aside0.mk (hi); replace HB := Aside0.mk (hb); (try clear hb); (try clear hb2); (try clear hk); (try clear hi)) | ((with_reducible refine uE (f := 51) rfl ?_); refine uL (some 12) Tryd.func51 #[.pointer (some ⟨g273, 0, none⟩)] ?_; (with_reducible refine (spec_l5Any.calls k g273 t270 t271 t272 t274 t277 t278 w _ ?side1 ?side2 A3.out).mono ?_); (case side1 => exact q19); (case side2 => exact q13); rintro e w17 ⟨v275, rfl, ho0, hi, hb, hk⟩; refine ⟨_, rfl, ?_⟩; have HO276 := Aside0.mk (Kd.uX ho0 (uU q13)); replace HB := Aside0.mk (hb); replace HI273 := Aside0.mk (hi); (try clear hb); (try clear hb2); (try clear hk); (try clear hi); (try clear ho0)) | ((with_reducible refine uE (f := 53) rfl ?_); refine uL (some 14) Tryd.func53 #[.pointer (some ⟨g273, 0, none⟩), .int .i64 3] ?_; (with_reducible refine (spec_l1Once.calls g273 t270 t277 t278 3 false t280 t281 w _ ?side1 ?side2 A4.out).mono ?_); (case side1 => exact q19); (case side2 => exact q13); rintro e w18 ⟨rfl, hi, hb, hk⟩; refine ⟨_, rfl, ?_⟩; replace HO276 := Aside0.mk (Kd.uV (Kd.R_keep (IsS110.apart (show IsS110 w _ g273 t270 t277 t278 from by repeat (first | (with_reducible first | exact HI273.out | apply IsS110.alloc | apply IsS110.drewN | apply IsS110.drew | apply IsS110.set_1 | apply IsS110.set_2) | exact HI273.out)) (rSR HO276.out) (by decide)) hk (fun _ h => h.2)) (fun _ h => h.1)); replace HB := Aside0.mk (hb); replace HI273 := Aside0.mk (hi); (try clear hb); (try clear hb2); (try clear hk); (try clear hi); obtain ⟨Ao19, co19, eo19⟩ := Kd.R_slice HO276.out; subst eo19) | ((with_reducible refine uE (f := 52) rfl ?_); refine uL (some 23) Tryd.func52 #[.pointer (some ⟨g273, 0, none⟩), .int .i64 (wrap64 ((t274.length : Int) + 1))] ?_; (with_reducible refine (spec_l1Below.calls g273 t270 t280 t281 (wrap64 ((t274.length : Int) + 1)) t287 t288 t289 w _ ?side1 ?side2 A11.out).mono ?_); (case side1 => exact q19); (case side2 => exact q13); rintro e w20 ⟨rfl, hi, hb, hk⟩; refine ⟨_, rfl, ?_⟩; replace HO276 := Aside0.mk (Kd.uV (Kd.R_keep (IsS110.apart (show IsS110 w _ g273 t270 t280 t281 from by repeat (first | (with_reducible first | exact HI273.out | apply IsS110.alloc | apply IsS110.drewN | apply IsS110.drew | apply IsS110.set_1 | apply IsS110.set_2) | exact HI273.out)) (rSR HO276.out) (by decide)) hk (fun _ h => h.2)) (fun _ h => h.1)); replace HB := Aside0.mk (hb); replace HI273 := Aside0.mk (hi); (try clear hb); (try clear hb2); (try clear hk); (try clear hi); have q21 : (t287 : Int) ≤ ((t274.length : Int) : Int) := of_decide_eq_true q9; obtain ⟨i021, hi021, _, hsz21, _⟩ := info_parts info66; have hroom21 : t274.length ≤ co19 := (Kd.uM HO276.out).2.1; have hC21 : Kd.C k66 _ Ao19 t274.length t274 := (Kd.uM HO276.out).2.2; have hcut21 := cut_to (P := Tryd.prog) 24 66 .i64 Tryd.underlying24 hi021 Ao19 t274.length co19 t287 (of_decide_eq_true q9) q21 hroom21; have hr21 := Kd.C_take (m := (t287 : Int).toNat) hC21 (by omega); have hy21 : y290.length = (t287 : Int).toNat := (by rw [Ny290.out, List.length_take]; omega); rw [← Ny290.out] at hr21; rw [← hy21] at hcut21; have HR293 := Aside0.mk hr21; have HC293 := Aside0.mk (show y290.length ≤ co19 from by omega); clear hr21 hC21 hroom21 hi021 hsz21; have KY21 := Aside0.mk hy21; clear hy21; have KL21 := Aside0.mk (show (t287 : Int).toNat ≤ t274.length from by omega); replace q21 := eq_true q21) | ((with_reducible refine uE (f := 84) rfl ?_); refine uL (some 25) Tryd.func84 #[.slice Ao19 y290.length co19] ?_; (with_reducible refine (spec_l5Copy.calls _ _ y290 t294 _ ?side1 ?side2 A14.out).mono ?_); (case side1 => repeat (first | exact (by repeat (first | (with_reducible exact HR293.out) | (with_reducible refine Kd.C_alloc ?_ _) | (with_reducible refine Kd.C_drewN ?_ _) | (with_reducible refine Kd.C_drew ?_) | exact HR293.out)) | (with_reducible refine Kd.C_alloc ?_ _) | (with_reducible refine Kd.C_drewN ?_ _) | (with_reducible refine Kd.C_drew ?_))); (case side2 => exact HC293.out); rintro e w22 ⟨v295, rfl, ho0, hb⟩; refine ⟨_, rfl, ?_⟩; have HO296 := Aside0.mk (Kd.uX (Kd.R_new' ho0 (Kd.R_lt (rSR HO276.out))) (uU q13)); replace HO276 := Aside0.mk (Kd.R_elder' (rSR HO276.out) (Kd.R_base ho0) hb); replace HI273 := Aside0.mk (IsS110.below q19 hb); replace HR293 := Aside0.mk (Kd.C_below (by repeat (first | (with_reducible exact HR293.out) | (with_reducible refine Kd.C_alloc ?_ _) | (with_reducible refine Kd.C_drewN ?_ _) | (with_reducible refine Kd.C_drew ?_) | exact HR293.out)) hb); replace HB := tBel3 HB hb; (try clear hb); (try clear hb2); (try clear hk); (try clear hi); (try clear ho0)) | ((with_reducible refine uE (f := 52) rfl ?_); refine uL (some 27) Tryd.func52 #[.pointer (some ⟨g273, 0, none⟩), .int .i64 3] ?_; (with_reducible refine (spec_l1Below.calls g273 t270 t288 t289 3 t297 t298 t299 w _ ?side1 ?side2 A15.out).mono ?_); (case side1 => exact q19); (case side2 => exact q13); rintro e w23 ⟨rfl, hi, hb, hk⟩; refine ⟨_, rfl, ?_⟩; replace HO276 := Aside0.mk (Kd.uV (Kd.R_keep (IsS110.apart (show IsS110 w _ g273 t270 t288 t289 from by repeat (first | (with_reducible first | exact HI273.out | apply IsS110.alloc | apply IsS110.drewN | apply IsS110.drew | apply IsS110.set_1 | apply IsS110.set_2) | exact HI273.out)) (rSR HO276.out) (by decide)) hk (fun _ h => h.2)) (fun _ h => h.1)); replace HO296 := Aside0.mk (Kd.uV (Kd.R_keep (IsS110.apart (show IsS110 w _ g273 t270 t288 t289 from by repeat (first | (with_reducible first | exact HI273.out | apply IsS110.alloc | apply IsS110.drewN | apply IsS110.drew | apply IsS110.set_1 | apply IsS110.set_2) | exact HI273.out)) (rSR HO296.out) (by decide)) hk (fun _ h => h.2)) (fun _ h => h.1)); replace HB := Aside0.mk (hb); replace HI273 := Aside0.mk (hi); (try clear hb); (try clear hb2); (try clear hk); (try clear hi)))
  go_loopg [6, 7] k (fun kq v6 v7 w' => ∃ (x6_1 : List (S66)) (x7_1 : Int) (x274001_1 : Int) (x274002_1 : Int), v7 = .int .i64 x7_1 ∧ Aside0 (spec_l5Two.l0 kq t274 x6_1 x7_1 t270 x274001_1 x274002_1 = some (r1, r2)) ∧ Aside0 (kq ≤ k) ∧ Aside0 (Kd.R k66 66 w' w.heap.size (fun k_ => some k_ ≠ (v6 : Value).ownBlock) (.slice Ao19 t274.length co19) t274) ∧ Aside0 (Kd.R k66 66 w' w.heap.size (fun k_ => some k_ ≠ ((.slice Ao19 t274.length co19) : Value).ownBlock) v6 x6_1) ∧ Aside0 (IsS110 w w' g273 t270 x274001_1 x274002_1) ∧ Aside0 (Below w.heap.size w w'))
  case atStart => exact ⟨(t294), (t297), (t298), (t299), q10, H', ⟨Nat.le_refl _⟩, ⟨by (with_reducible repeat (first | apply Kd.uT | apply Kd.uS | apply Kd.uW)); exact Kd.uV HO276.out (fun _ hk => hk.2)⟩, ⟨by (with_reducible repeat (first | apply Kd.uT | apply Kd.uS | apply Kd.uW)); exact Kd.uV HO296.out (fun _ hk => hk.2)⟩, ⟨q19⟩, ⟨q13⟩⟩
  case round =>
    clear H'
    try clear c1
    try clear p2
    try clear q2
    try clear c4
    try clear c5
    try clear p6
    try clear c8
    try clear c12
    try clear c12b0
    try clear c12b1
    try clear c13
    try clear c13b0
    try clear c13b1
    try clear q21
    try clear q21
    obtain ⟨x6_1, x7_1, x274001_1, x274002_1, rfl, HA, HK1, HO_5, HO_6, HI273, HB⟩ := hrel
    cases gk with
    | zero => exact absurd HA.out (by simp [spec_l5Two.l0])
    | succ k1 =>
      have H := HA.out
      clear HA
      simp only [spec_l5Two.l0] at H
      by_cases c24 : x7_1 > 0
      rotate_left
      · rw [if_neg c24] at H
        have c24b0 : decide (0 < x7_1) = false := decide_eq_false c24
        clear c24
        simp only [Option.some.injEq, Prod.mk.injEq] at H
        obtain ⟨rfl, rfl⟩ := H
        go_wp2
        go_ret2
        exact ⟨_, _, q2, by (with_reducible repeat (first | apply Kd.uT | apply Kd.uS | apply Kd.uW)); exact HO_5.out, by (with_reducible repeat (first | apply Kd.uT | apply Kd.uS | apply Kd.uW)); exact HO_6.out, q13⟩
      rw [if_pos c24] at H
      have c24b0 : decide (0 < x7_1) = true := decide_eq_true c24
      clear c24
      replace H := Option.bind_eq_some_iff.mp H
      obtain ⟨⟨t300, t301, t302, t303, t304, t305, t306, t307⟩, A250, H⟩ := H
      try dsimp only at H
      have A25 := Aside0.mk A250
      clear A250
      by_cases c26 : x6_1.length < 2513169434916
      rotate_left
      · rw [if_neg c26] at H
        exact absurd H (by simp)
      rw [if_pos c26] at H
      have LMc26 := Aside0.mk c26
      clear c26
      obtain ⟨y309, hy309⟩ : ∃ y_ : List (S66), y_ = (x6_1 ++ [(⟨9, (⟨t300, t301, t302, t303, t304, t305⟩ : S64)⟩ : S66)]) := ⟨_, rfl⟩
      replace H : (spec_l5Two.l0 k1 t274 y309 (wrap64 (x7_1 - 1)) t270 t306 t307) = some (r1, r2) := by first | (rw [hy309]; with_reducible exact H) | (have H2_ := (Option.bind_some _ _).symm.trans H; rw [hy309]; with_reducible exact H2_) | (have H2_ := (Option.bind_some _ _).symm.trans H; with_reducible exact H2_) | with_reducible exact H | (rw [hy309]; exact H) | exact H | rfl
      have Ny309 := Aside0.mk hy309
      clear hy309
      have H' := Aside0.mk H
      clear H
      go_wp2_with (first | ((with_reducible refine uE (f := 85) rfl ?_); refine uL (some 33) Tryd.func85 #[.pointer (some ⟨g273, 0, none⟩)] ?_; (with_reducible refine (spec_l3Op.calls g273 t270 x274001_1 x274002_1 t300 t301 t302 t303 t304 t305 t306 t307 w _ ?side1 ?side2 A25.out).mono ?_); (case side1 => exact q19); (case side2 => exact q13); rintro e w27 ⟨rfl, hi, hb, hk⟩; refine ⟨_, rfl, ?_⟩; replace HO_5 := Aside0.mk (Kd.uV (Kd.R_keep (IsS110.apart (show IsS110 w _ g273 t270 x274001_1 x274002_1 from by repeat (first | (with_reducible first | exact HI273.out | apply IsS110.alloc | apply IsS110.drewN | apply IsS110.drew | apply IsS110.set_1 | apply IsS110.set_2) | exact HI273.out)) (rSR HO_5.out) (by decide)) hk (fun _ h => h.2)) (fun _ h => h.1)); replace HO_6 := Aside0.mk (Kd.uV (Kd.R_keep (IsS110.apart (show IsS110 w _ g273 t270 x274001_1 x274002_1 from by repeat (first | (with_reducible first | exact HI273.out | apply IsS110.alloc | apply IsS110.drewN | apply IsS110.drew | apply IsS110.set_1 | apply IsS110.set_2) | exact HI273.out)) (rSR HO_6.out) (by decide)) hk (fun _ h => h.2)) (fun _ h => h.1)); replace HB := Aside0.mk (hb); replace HI273 := Aside0.mk (hi); (try clear hb); (try clear hb2); (try clear hk); (try clear hi)) | ((with_reducible refine uR (N := 8) rfl ?_); refine bxe 8 #[.int .i64 0, .int .i64 0, .int .i64 0, .int .i64 0, .int .i64 0, .int .i64 0] 64 ?_; intro gb308 hg w28 hbox hb; have BK308 := Aside0.mk (hbox); have GW308 := tGe4 HB hg; have GE308 := tGe4 HB hg; have NB273_308 := Aside0.mk ((by rw [hg]; exact Nat.ne_of_lt (IsS110.lt (show IsS110 w _ g273 t270 t306 t307 from by repeat (first | (with_reducible first | exact HI273.out | apply IsS110.alloc | apply IsS110.drewN | apply IsS110.drew | apply IsS110.set_1 | apply IsS110.set_2) | exact HI273.out))) : g273 ≠ gb308)); have NB308_273 := Aside0.mk ((by rw [hg]; exact Nat.ne_of_gt (IsS110.lt (show IsS110 w _ g273 t270 t306 t307 from by repeat (first | (with_reducible first | exact HI273.out | apply IsS110.alloc | apply IsS110.drewN | apply IsS110.drew | apply IsS110.set_1 | apply IsS110.set_2) | exact HI273.out))) : gb308 ≠ g273)); replace HO_5 := Kd.tR HO_5 hb; replace HO_6 := Kd.tR HO_6 hb; replace HI273 := Aside0.mk (IsS110.below q19 hb); replace HB := tBel3 HB hb; clear hb hbox hg; have hnb29 := NB308_273.out; have hnc29 := NB273_308.out; obtain ⟨hcz30_0, hcz30_1, hcz30_2, hcz30_3, hcz30_4, hcz30_5, hfz30_0, hfz30_1, hfz30_2, hfz30_3, hfz30_4, hfz30_5⟩ := cz6 BK308) | ((with_reducible refine gate_builtin (b := .append) (xs := #[.tmp 34, .tmp 37]) rfl ?_); at_builtin; refine Kd.R_append k66 (w0 := w) w.heap.size rfl (.tmp 34) (.tmp 37) 24 66 (.agg #[(.int .i64 0), (.int .i64 0), (.int .i64 0), (.int .i64 0), (.int .i64 0), (.int .i64 0), (.int .i64 0)]) 56 rfl Tryd.underlying24 info66 rfl (by decide) (by omega) u6 x6_1 (⟨9, (⟨t300, t301, t302, t303, t304, t305⟩ : S64)⟩ : S66) [.int .i64 9, .int .i64 t300, .int .i64 t301, .int .i64 t302, .int .i64 t303, .int .i64 t304, .int .i64 t305] (fun k_ => some k_ ≠ (.slice Ao19 t274.length co19 : Value).ownBlock) (fun _ => False) rfl (by first | (go_simp; done) | (go_simp; rfl)) ?aP (fun _ hk => hk.elim) ?aF ?aO ?aB ?aS ?aL ?_; (case aP => exact k66_mkM _ _ _ (⟨9, (⟨t300, t301, t302, t303, t304, t305⟩ : S64)⟩ : S66)); (case aB => exact q38); (case aF => exact (fun k_ hk => Kd.fresh' (Kd.R_lt (by (with_reducible repeat (first | apply Kd.uT | apply Kd.uS | apply Kd.uW)); exact (Kd.uV (Kd.R_far (p := ⟨gb308, 5, none⟩) (Kd.R_far (p := ⟨gb308, 4, none⟩) (Kd.R_far (p := ⟨gb308, 3, none⟩) (Kd.R_far (p := ⟨gb308, 2, none⟩) (Kd.R_far (p := ⟨gb308, 1, none⟩) (Kd.R_far (p := ⟨gb308, 0, none⟩) (Kd.R_types HO_5.out BK308.out (by decide)) (fun _ hk => hk.2) (.int .i64 t300)) (fun _ hk => hk.2) (.int .i64 t301)) (fun _ hk => hk.2) (.int .i64 t302)) (fun _ hk => hk.2) (.int .i64 t303)) (fun _ hk => hk.2) (.int .i64 t304)) (fun _ hk => hk.2) (.int .i64 t305)) (fun _ h_ => h_.1)))) k_ hk)); (case aO => exact (by (with_reducible repeat (first | apply Kd.uT | apply Kd.uS | apply Kd.uW)); exact Kd.uV (Kd.R_far (p := ⟨gb308, 5, none⟩) (Kd.R_far (p := ⟨gb308, 4, none⟩) (Kd.R_far (p := ⟨gb308, 3, none⟩) (Kd.R_far (p := ⟨gb308, 2, none⟩) (Kd.R_far (p := ⟨gb308, 1, none⟩) (Kd.R_far (p := ⟨gb308, 0, none⟩) (Kd.R_types HO_6.out BK308.out (by decide)) (fun _ hk => hk.2) (.int .i64 t300)) (fun _ hk => hk.2) (.int .i64 t301)) (fun _ hk => hk.2) (.int .i64 t302)) (fun _ hk => hk.2) (.int .i64 t303)) (fun _ hk => hk.2) (.int .i64 t304)) (fun _ hk => hk.2) (.int .i64 t305)) (fun _ hk => hk.1))); (case aS => exact (uU q38)); (case aL => have := LMc26.out; omega); intro v310 w31 ho hb hg hat; rw [← Ny309.out] at ho; have n0_ := Aside0.mk (Kd.R_after (ok := (fun _ => True)) (by (with_reducible repeat (first | apply Kd.uT | apply Kd.uS | apply Kd.uW)); exact Kd.uV (Kd.R_far (p := ⟨gb308, 5, none⟩) (Kd.R_far (p := ⟨gb308, 4, none⟩) (Kd.R_far (p := ⟨gb308, 3, none⟩) (Kd.R_far (p := ⟨gb308, 2, none⟩) (Kd.R_far (p := ⟨gb308, 1, none⟩) (Kd.R_far (p := ⟨gb308, 0, none⟩) (Kd.R_types HO_5.out BK308.out (by decide)) (fun _ hk => hk.2) (.int .i64 t300)) (fun _ hk => hk.2) (.int .i64 t301)) (fun _ hk => hk.2) (.int .i64 t302)) (fun _ hk => hk.2) (.int .i64 t303)) (fun _ hk => hk.2) (.int .i64 t304)) (fun _ hk => hk.2) (.int .i64 t305)) (fun _ hk => ⟨trivial, hk.1⟩)) hg hat); have n1_ := IsS110.tgr HI273 hg (IsS110.own_ne HI273.out HO_6.out (by decide)); have n2_ := tGrP BK308 #[.int .i64 t300, .int .i64 t301, .int .i64 t302, .int .i64 t303, .int .i64 t304, .int .i64 t305] hg (Kd.R_ne HO_6.out BK308.out (by decide)); have n3_ := Aside0.mk (hb); have n4_ := Aside0.mk (ho); clear HO_5; clear HI273; clear BK308; clear HB; clear HO_6; have HO_5 := n0_; have HI273 := n1_; have BK308 := n2_; have HB := n3_; have HO311 := n4_; clear n0_ n1_ n2_ n3_ n4_; clear ho hb hg hat))
      go_roundg k1
      case measure => have := HK1.out; omega
      case rel => exact ⟨(y309), (wrap64 (x7_1 - 1)), (t306), (t307), q10, H', ⟨by have := HK1.out; omega⟩, ⟨by (with_reducible repeat (first | apply Kd.uT | apply Kd.uS | apply Kd.uW)); exact Kd.uV HO_5.out (fun _ hk => hk.2)⟩, ⟨by (with_reducible repeat (first | apply Kd.uT | apply Kd.uS | apply Kd.uW)); exact HO311.out⟩, ⟨by repeat (first | (with_reducible first | exact HI273.out | apply IsS110.alloc | apply IsS110.drewN | apply IsS110.drew | apply IsS110.set_1 | apply IsS110.set_2 | refine IsS110.far ?_ NB273_308.out _) | exact HI273.out)⟩, ⟨q38⟩⟩

/-! ### spec_DrawCommonPrefix: function 8 -/
def spec_DrawCommonPrefix.f (k : Nat) (l0 : List Int) : Option ((List (S66)) × (List (S66))) := (spec_l5Two.f k l0).bind fun bt312 => (some (bt312.1, bt312.2))
theorem spec_DrawCommonPrefix.mono : ∀ a0 k, uF (spec_DrawCommonPrefix.f k a0) (spec_DrawCommonPrefix.f (k + 1) a0) := by
  intro a0 k
  unfold spec_DrawCommonPrefix.f
  repeat' first
      | (with_reducible exact spec_l5Two.mono _ _)
      | (with_reducible exact uF.refl _)
      | (with_reducible exact uF.none _)
      | (with_reducible refine uF.ite ?_ ?_)
      | (with_reducible refine uF.bind ?_ (fun _ => ?_))
      | exact spec_l5Two.mono _ _
      | exact uF.none _
      | refine uF.ite ?_ ?_
      | refine uF.bind ?_ (fun _ => ?_)
set_option maxHeartbeats 8000000 in
set_option maxRecDepth 100000 in
theorem spec_DrawCommonPrefix.calls (k : Nat) (A0 : Option Addr) (c0 : Nat) (l0 : List Int) (r1 : List (S66)) (r2 : List (S66)) (w : World) (hr0 : Kd.C (Kd.int .u8) w A0 l0.length l0) (hc0 : l0.length ≤ c0) (h : spec_DrawCommonPrefix.f k l0 = some (r1, r2)) :
    Calls Tryd.prog 8 #[.slice A0 l0.length c0] w fun e w' => ∃ v0_ v1_ : Value, e = .returned (.tuple #[v0_, v1_]) ∧ Kd.R k66 66 w' w.heap.size (fun k_ => some k_ ≠ (v1_ : Value).ownBlock) v0_ r1 ∧ Kd.R k66 66 w' w.heap.size (fun k_ => some k_ ≠ (v0_ : Value).ownBlock) v1_ r2 ∧ Below w.heap.size w w' := by
  have HR0 := Aside0.mk hr0
  have HC0 := Aside0.mk hc0
  clear hr0 hc0
  have HB := Aside0.mk (Below.refl w.heap.size w)
  have H : ((spec_l5Two.f k l0).bind fun bt312 => (some (bt312.1, bt312.2))) = some (r1, r2) := h
  clear h
  replace H := Option.bind_eq_some_iff.mp H
  obtain ⟨⟨t312, t313⟩, A20, H⟩ := H
  try dsimp only at H
  have A2 := Aside0.mk A20
  clear A20
  simp only [Option.some.injEq, Prod.mk.injEq] at H
  obtain ⟨rfl, rfl⟩ := H
  go_enter Tryd.func8, Tryd.ntmps8
  go_wp2_with (first | ((with_reducible refine uE (f := 42) rfl ?_); refine uL (some 8) Tryd.func42 #[.slice A0 l0.length c0] ?_; (with_reducible refine (spec_l5Two.calls k _ _ l0 t312 t313 _ ?side1 ?side2 A2.out).mono ?_); (case side1 => exact q14); (case side2 => exact HC0.out); rintro e w3 ⟨v314, v316, rfl, ho0, ho1, hb⟩; refine ⟨_, rfl, ?_⟩; have HO315 := Aside0.mk (Kd.uX ho0 (uU q0)); have HO317 := Aside0.mk (Kd.uX ho1 (uU q0)); replace HB := uQ HB hb; (try clear hb); (try clear hb2); (try clear hk); (try clear hi); (try clear ho0); (try clear ho1)))
  go_ret2
  exact ⟨_, _, q2, by (with_reducible repeat (first | apply Kd.uT | apply Kd.uS | apply Kd.uW)); exact HO315.out, by (with_reducible repeat (first | apply Kd.uT | apply Kd.uS | apply Kd.uW)); exact HO317.out, q0⟩

/-! ### impl_within: function 55 -/
def impl_within.f (a0 : Int) (a1 : Int) (a2 : Int) : Option (Bool) := if a1 ≤ a0 then (some (decide (a0 ≤ a2))) else (some false)
set_option maxHeartbeats 8000000 in
set_option maxRecDepth 100000 in
theorem impl_within.calls (a0 : Int) (a1 : Int) (a2 : Int) (r : Bool) (w : World) (h : impl_within.f a0 a1 a2 = some r) :
    Calls Tryd.prog 55 #[.int .i64 a0, .int .i64 a1, .int .i64 a2] w fun e w' => e = .returned (.bool r) ∧ Drawn0 w w' := by
  have H : (if a1 ≤ a0 then (some (decide (a0 ≤ a2))) else (some false)) = some r := h
  clear h
  by_cases c4 : a1 ≤ a0
  · rw [if_pos c4] at H
    have c4b0 : decide (a1 ≤ a0) = true := decide_eq_true c4
    clear c4
    obtain rfl := Option.some.inj H
    go_enter Tryd.func55, Tryd.ntmps55
    go_wp2
    go_ret
    exact ⟨q10, q33⟩
  rw [if_neg c4] at H
  have c4b0 : decide (a1 ≤ a0) = false := decide_eq_false c4
  clear c4
  obtain rfl := Option.some.inj H
  go_enter Tryd.func55, Tryd.ntmps55
  go_wp2
  go_ret
  exact ⟨q10, q33⟩

/-! ### impl_IsValidOp: function 86 -/
def impl_IsValidOp.f (a0_0 : Int) (a0_1 : Int) (a0_2 : Int) (a0_3 : Int) (a0_4 : Int) (a0_5 : Int) : Option (Bool) := (impl_within.f a0_0 0 2).bind fun t319 => (if t319 = true then ((impl_within.f a0_1 1 99).bind fun t320 => (if t320 = true then ((impl_within.f a0_3 0 2).bind fun t321 => (if t321 = true then ((impl_within.f a0_5 0 9).bind fun t322 => (if t322 = true then (if a0_2 = 1 then (if a0_4 = 0 then (some true) else (if a0_2 = 2 then ((impl_within.f a0_4 0 9).bind fun t323 => (some t323)) else (some false))) else (if a0_2 = 2 then ((impl_within.f a0_4 0 9).bind fun t324 => (some t324)) else (some false))) else (some false))) else (some false))) else (some false))) else (some false))
set_option maxHeartbeats 8000000 in
set_option maxRecDepth 100000 in
theorem impl_IsValidOp.calls (a0_0 : Int) (a0_1 : Int) (a0_2 : Int) (a0_3 : Int) (a0_4 : Int) (a0_5 : Int) (r : Bool) (w : World) (h : impl_IsValidOp.f a0_0 a0_1 a0_2 a0_3 a0_4 a0_5 = some r) :
    Calls Tryd.prog 86 #[.agg #[.int .i64 a0_0, .int .i64 a0_1, .int .i64 a0_2, .int .i64 a0_3, .int .i64 a0_4, .int .i64 a0_5]] w fun e w' => e = .returned (.bool r) ∧ Below w.heap.size w w' := by
  have hu64 := Tryd.underlying64
  have HB := Aside0.mk (Below.refl w.heap.size w)
  have H : ((impl_within.f a0_0 0 2).bind fun t319 => (if t319 = true then ((impl_within.f a0_1 1 99).bind fun t320 => (if t320 = true then ((impl_within.f a0_3 0 2).bind fun t321 => (if t321 = true then ((impl_within.f a0_5 0 9).bind fun t322 => (if t322 = true then (if a0_2 = 1 then (if a0_4 = 0 then (some true) else (if a0_2 = 2 then ((impl_within.f a0_4 0 9).bind fun t323 => (some t323)) else (some false))) else (if a0_2 = 2 then ((impl_within.f a0_4 0 9).bind fun t324 => (some t324)) else (some false))) else (some false))) else (some false))) else (some false))) else (some false))) = some r := h
  clear h
  replace H := Option.bind_eq_some_iff.mp H
  obtain ⟨t319, A20, H⟩ := H
  try dsimp only at H
  have A2 := Aside0.mk A20
  clear A20
  go_enter Tryd.func86, Tryd.ntmps86
  go_wp2_with (first | ((with_reducible refine uR (N := 1) rfl ?_); refine bxe 1 #[.int .i64 a0_0, .int .i64 a0_1, .int .i64 a0_2, .int .i64 a0_3, .int .i64 a0_4, .int .i64 a0_5] 64 ?_; intro gb318 hg w32 hbox hb; have BK318 := Aside0.mk (hbox); have GW318 := tGe HB hg; have GE318 := tGe HB hg; replace HB := uQ HB hb; clear hb hbox hg; obtain ⟨hcz33_0, hcz33_1, hcz33_2, hcz33_3, hcz33_4, hcz33_5, hfz33_0, hfz33_1, hfz33_2, hfz33_3, hfz33_4, hfz33_5⟩ := cz6 BK318; refine ?roundEnd))
  case roundEnd =>
  by_cases c3 : t319 = true
  rotate_left
  · replace c3 := Bool.eq_false_iff.mpr c3
    subst c3
    try rw [if_neg (show ¬ (false = true) by decide)] at H
    obtain rfl := Option.some.inj H
    go_wp2_with (first | ((with_reducible refine uE (f := 55) rfl ?_); refine uL (some 5) Tryd.func55 #[.int .i64 a0_0, .int .i64 0, .int .i64 2] ?_; (with_reducible refine (impl_within.calls a0_0 0 2 false _ A2.out).mono ?_); rintro e w' ⟨rfl, ⟨nd, rfl⟩⟩; refine ⟨_, rfl, ?_⟩))
    go_ret
    exact ⟨q2, q3⟩
  subst c3
  try rw [if_pos rfl] at H
  replace H := Option.bind_eq_some_iff.mp H
  obtain ⟨t320, A40, H⟩ := H
  try dsimp only at H
  have A4 := Aside0.mk A40
  clear A40
  go_wp2_with (first | ((with_reducible refine uE (f := 55) rfl ?_); refine uL (some 5) Tryd.func55 #[.int .i64 a0_0, .int .i64 0, .int .i64 2] ?_; (with_reducible refine (impl_within.calls a0_0 0 2 true _ A2.out).mono ?_); rintro e w' ⟨rfl, ⟨nd, rfl⟩⟩; refine ⟨_, rfl, ?_⟩; refine ?roundEnd))
  case roundEnd =>
  by_cases c5 : t320 = true
  rotate_left
  · replace c5 := Bool.eq_false_iff.mpr c5
    subst c5
    try rw [if_neg (show ¬ (false = true) by decide)] at H
    obtain rfl := Option.some.inj H
    go_wp2_with (first | (go_at_call 55; (with_reducible refine (impl_within.calls a0_1 1 99 false _ A4.out).mono ?_); rintro e w' ⟨rfl, ⟨nd, rfl⟩⟩))
    go_ret
    exact ⟨q2, q3⟩
  subst c5
  try rw [if_pos rfl] at H
  replace H := Option.bind_eq_some_iff.mp H
  obtain ⟨t321, A60, H⟩ := H
  try dsimp only at H
  have A6 := Aside0.mk A60
  clear A60
  go_wp2_with (first | (go_at_call 55; (with_reducible refine (impl_within.calls a0_1 1 99 true _ A4.out).mono ?_); rintro e w' ⟨rfl, ⟨nd, rfl⟩⟩; refine ?roundEnd))
  case roundEnd =>
  by_cases c7 : t321 = true
  rotate_left
  · replace c7 := Bool.eq_false_iff.mpr c7
    subst c7
    try rw [if_neg (show ¬ (false = true) by decide)] at H
    obtain rfl := Option.some.inj H
    go_wp2_with (first | (go_at_call 55; (with_reducible refine (impl_within.calls a0_3 0 2 false _ A6.out).mono ?_); rintro e w' ⟨rfl, ⟨nd, rfl⟩⟩))
    go_ret
    exact ⟨q2, q3⟩
  subst c7
  try rw [if_pos rfl] at H
  replace H := Option.bind_eq_some_iff.mp H
  obtain ⟨t322, A80, H⟩ := H
  try dsimp only at H
  have A8 := Aside0.mk A80
  clear A80
  go_wp2_with (first | (go_at_call 55; (with_reducible refine (impl_within.calls a0_3 0 2 true _ A6.out).mono ?_); rintro e w' ⟨rfl, ⟨nd, rfl⟩⟩; refine ?roundEnd))
  case roundEnd =>
  by_cases c9 : t322 = true
  rotate_left
  · replace c9 := Bool.eq_false_iff.mpr c9
    subst c9
    try rw [if_neg (show ¬ (false = true) by decide)] at H
    obtain rfl := Option.some.inj H
    go_wp2_with (first | (go_at_call 55; (with_reducible refine (impl_within.calls a0_5 0 9 false _ A8.out).mono ?_); rintro e w' ⟨rfl, ⟨nd, rfl⟩⟩))
    go_ret
    exact ⟨q2, q3⟩
  subst c9
  try rw [if_pos rfl] at H
  go_wp2_with (first | (go_at_call 55; (with_reducible refine (impl_within.calls a0_5 0 9 true _ A8.out).mono ?_); rintro e w' ⟨rfl, ⟨nd, rfl⟩⟩; refine ?roundEnd))
  case roundEnd =>
  by_cases c10 : a0_2 = 1
  rotate_left
  · rw [if_neg c10] at H
    have c10b0 : (a0_2 == 1) = false := beq_eq_false_iff_ne.mpr c10
    have c10b1 : (a0_2 != 1) = true := bne_iff_ne.mpr c10
    by_cases c20 : a0_2 = 2
    rotate_left
    · rw [if_neg c20] at H
      have c20b0 : (a0_2 == 2) = false := beq_eq_false_iff_ne.mpr c20
      have c20b1 : (a0_2 != 2) = true := bne_iff_ne.mpr c20
      obtain rfl := Option.some.inj H
      go_wp2
      go_ret
      exact ⟨q2, q3⟩
    rw [if_pos c20] at H
    have c20b0 : (a0_2 == 2) = true := beq_iff_eq.mpr c20
    have c20b1 : (a0_2 != 2) = false := bne_eq_false_iff_eq.mpr c20
    clear c20
    replace H := Option.bind_eq_some_iff.mp H
    obtain ⟨t324, A210, H⟩ := H
    try dsimp only at H
    have A21 := Aside0.mk A210
    clear A210
    obtain rfl := Option.some.inj H
    go_wp2_with (first | (go_at_call 55; (with_reducible refine (impl_within.calls a0_4 0 9 t324 _ A21.out).mono ?_); rintro e w' ⟨rfl, ⟨nd, rfl⟩⟩))
    go_ret
    exact ⟨q2, q3⟩
  rw [if_pos c10] at H
  have c10b0 : (a0_2 == 1) = true := beq_iff_eq.mpr c10
  have c10b1 : (a0_2 != 1) = false := bne_eq_false_iff_eq.mpr c10
  clear c10
  by_cases c11 : a0_4 = 0
  · rw [if_pos c11] at H
    have c11b0 : (a0_4 == 0) = true := beq_iff_eq.mpr c11
    have c11b1 : (a0_4 != 0) = false := bne_eq_false_iff_eq.mpr c11
    clear c11
    obtain rfl := Option.some.inj H
    go_wp2
    go_ret
    exact ⟨q2, q3⟩
  rw [if_neg c11] at H
  have c11b0 : (a0_4 == 0) = false := beq_eq_false_iff_ne.mpr c11
  have c11b1 : (a0_4 != 0) = true := bne_iff_ne.mpr c11
  by_cases c14 : a0_2 = 2
  rotate_left
  · rw [if_neg c14] at H
    have c14b0 : (a0_2 == 2) = false := beq_eq_false_iff_ne.mpr c14
    have c14b1 : (a0_2 != 2) = true := bne_iff_ne.mpr c14
    obtain rfl := Option.some.inj H
    go_wp2
    go_ret
    exact ⟨q2, q3⟩
  rw [if_pos c14] at H
  have c14b0 : (a0_2 == 2) = true := beq_iff_eq.mpr c14
  have c14b1 : (a0_2 != 2) = false := bne_eq_false_iff_eq.mpr c14
  clear c14
  replace H := Option.bind_eq_some_iff.mp H
  obtain ⟨t323, A150, H⟩ := H
  try dsimp only at H
  have A15 := Aside0.mk A150
  clear A150
  obtain rfl := Option.some.inj H
  go_wp2_with (first | (go_at_call 55; (with_reducible refine (impl_within.calls a0_4 0 9 t323 _ A15.out).mono ?_); rintro e w' ⟨rfl, ⟨nd, rfl⟩⟩))
  go_ret
  exact ⟨q2, q3⟩

end Go.Proofs.YtcikahnmiiichaaDoor.G
