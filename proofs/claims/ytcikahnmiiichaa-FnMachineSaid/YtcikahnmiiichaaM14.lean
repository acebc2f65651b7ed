/- Go functions as Lean functions, and the proof that the code comes to them: written by a program of this session out of the translation. -/
import Derived.Test.YtcikahnmiiichaaM0
import Derived.Test.YtcikahnmiiichaaM1
import Derived.Test.YtcikahnmiiichaaM4
import Derived.Test.YtcikahnmiiichaaM6
import Derived.Test.YtcikahnmiiichaaM8
import Derived.Test.YtcikahnmiiichaaM9
import Derived.Test.YtcikahnmiiichaaM10
import Derived.Test.YtcikahnmiiichaaM13
namespace Go.Proofs.Ytcikahnmiiichaa.M
open List renaming setIfInBounds_toArray → vO, set_cons_zero → vP, set_cons_succ → vQ, map_toArray → vR
open Go.World renaming block_lt_of_cell? → vU
open Go.RowKit Go.Proofs.YtcikahnmiiichaaW.PrintWords Go.Proofs.YtcikahnmiiichaaW.PrintLast Go.Proofs.YtcikahnmiiichaaW.PrintMore
attribute [local go_sem] max2_int min2_int max_two min_two max_three min_three max_four min_four   -- for this text's walks alone
set_option linter.unusedVariables false
set_option linter.unusedSimpArgs false

attribute [local go_sem high] eqA33
/-! ### laws_FnMachine: function 4 -/
def laws_FnMachine.j0 : Nat → Bool → Bool → List Int → List (S49) → Int → Int → Int → Int → Int → Int → List Int → List (S49) → Bool → Int → List Int → List (S49) → Option (Bool)
  | 0, _, _, _, _, _, _, _, _, _, _, _, _, _, _, _, _ => none
  | k + 1, x7, x61, x364000, x364001, x365000, x365001, x365002, x365003, x365004, x365005, x375000, x375001, x376000, x376001, x386000, x386001 => if x61 = true then (some false) else (if x7 = true then ((impl_ApplyOp.f k x375000 x375001 x365000 x365001 x365002 x365003 x365004 x365005).bind fun bt391 => ((impl_SessionOf.f k x375000 x375001 x365000).bind fun bt402 => ((impl_ReadObject.f k x375000 x375001 x365003).bind fun bt408 => ((spec_ReadObject.f k x386000 x386001 x365003).bind fun bt410 => (if bt391.2.2.2.2 = true then (if (bt391.2.2.1 == x376000 && (bt391.2.2.2.1 == x376001)) = true then ((impl_EqualMachines.f k bt391.1 bt391.2.1 x375000 x375001).bind fun t412 => (if t412 = true then (if bt402.2.2.2.2 = true then (if bt402.2.1 = x365001 then (if (bt402.2.2.1 == x376000 && (bt402.2.2.2.1 == x376001)) = true then (if bt408.2 = true then (if bt408.1 = bt410.1 then ((impl_IsValidMachine.f k x375000 x375001).bind fun t413 => (some t413)) else (some false)) else (some false)) else (some false)) else (some false)) else (some false)) else (some false))) else (some false)) else (some false)))))) else ((impl_EqualMachines.f k x375000 x375001 x364000 x364001).bind fun t390 => (some t390)))
def laws_FnMachine.f (k : Nat) (l0 : List Int) : Option (Bool) := (laws_big.f l0).bind fun t350 => (if t350 = true then (some true) else ((spec_DrawApplyOp.f k l0).bind fun bt351 => ((impl_ApplyOp.f k bt351.1 bt351.2.1 bt351.2.2.1 bt351.2.2.2.1 bt351.2.2.2.2.1 bt351.2.2.2.2.2.1 bt351.2.2.2.2.2.2.1 bt351.2.2.2.2.2.2.2).bind fun bt365 => ((spec_ApplyOp.f k bt351.1 bt351.2.1 bt351.2.2.1 bt351.2.2.2.1 bt351.2.2.2.2.1 bt351.2.2.2.2.2.1 bt351.2.2.2.2.2.2.1 bt351.2.2.2.2.2.2.2).bind fun bt376 => (if (bt365.2.2.2.2 != bt376.2.2.2.2) = true then (laws_FnMachine.j0 k bt365.2.2.2.2 true bt351.1 bt351.2.1 bt351.2.2.1 bt351.2.2.2.1 bt351.2.2.2.2.1 bt351.2.2.2.2.2.1 bt351.2.2.2.2.2.2.1 bt351.2.2.2.2.2.2.2 bt365.1 bt365.2.1 bt365.2.2.1 bt365.2.2.2.1 bt376.1 bt376.2.1) else (if (!(bt365.2.2.1 == bt376.2.2.1) || (!(bt365.2.2.2.1 == bt376.2.2.2.1))) = true then (laws_FnMachine.j0 k bt365.2.2.2.2 true bt351.1 bt351.2.1 bt351.2.2.1 bt351.2.2.2.1 bt351.2.2.2.2.1 bt351.2.2.2.2.2.1 bt351.2.2.2.2.2.2.1 bt351.2.2.2.2.2.2.2 bt365.1 bt365.2.1 bt365.2.2.1 bt365.2.2.2.1 bt376.1 bt376.2.1) else ((impl_EqualMachines.f k bt365.1 bt365.2.1 bt376.1 bt376.2.1).bind fun t387 => (if t387 = true then ((impl_IsValidMachine.f k bt351.1 bt351.2.1).bind fun t388 => ((spec_IsValidMachine.f k bt351.1 bt351.2.1).bind fun t389 => (laws_FnMachine.j0 k bt365.2.2.2.2 (t388 != t389) bt351.1 bt351.2.1 bt351.2.2.1 bt351.2.2.2.1 bt351.2.2.2.2.1 bt351.2.2.2.2.2.1 bt351.2.2.2.2.2.2.1 bt351.2.2.2.2.2.2.2 bt365.1 bt365.2.1 bt365.2.2.1 bt365.2.2.2.1 bt376.1 bt376.2.1))) else (laws_FnMachine.j0 k bt365.2.2.2.2 true bt351.1 bt351.2.1 bt351.2.2.1 bt351.2.2.2.1 bt351.2.2.2.2.1 bt351.2.2.2.2.2.1 bt351.2.2.2.2.2.2.1 bt351.2.2.2.2.2.2.2 bt365.1 bt365.2.1 bt365.2.2.1 bt365.2.2.2.1 bt376.1 bt376.2.1)))))))))
theorem laws_FnMachine.mono_l : ∀ k, (∀ y0 y1 y2 y3 y4 y5 y6 y7 y8 y9 y10 y11 y12 y13 y14 y15, uN (laws_FnMachine.j0 k y0 y1 y2 y3 y4 y5 y6 y7 y8 y9 y10 y11 y12 y13 y14 y15) (laws_FnMachine.j0 (k + 1) y0 y1 y2 y3 y4 y5 y6 y7 y8 y9 y10 y11 y12 y13 y14 y15))
  | 0 => fun _ _ _ _ _ _ _ _ _ _ _ _ _ _ _ _ r h => by simp [laws_FnMachine.j0] at h
  | k + 1 => by
    have ih0 := laws_FnMachine.mono_l k
    intro y0 y1 y2 y3 y4 y5 y6 y7 y8 y9 y10 y11 y12 y13 y14 y15
    unfold laws_FnMachine.j0
    repeat' first
    | (with_reducible exact ih0 _ _ _ _ _ _ _ _ _ _ _ _ _ _ _ _)
    | (with_reducible exact impl_ApplyOp.mono _ _ _ _ _ _ _ _ _)
    | (with_reducible exact impl_EqualMachines.mono _ _ _ _ _)
    | (with_reducible exact impl_IsValidMachine.mono _ _ _)
    | (with_reducible exact impl_ReadObject.mono _ _ _ _)
    | (with_reducible exact impl_SessionOf.mono _ _ _ _)
    | (with_reducible exact spec_ApplyOp.mono _ _ _ _ _ _ _ _ _)
    | (with_reducible exact spec_DrawApplyOp.mono _ _)
    | (with_reducible exact spec_IsValidMachine.mono _ _ _)
    | (with_reducible exact spec_ReadObject.mono _ _ _ _)
    | (with_reducible exact uN.refl _)
    | (with_reducible exact uN.none _)
    | (with_reducible refine uN.ite ?_ ?_)
    | (with_reducible refine uN.bind ?_ (fun _ => ?_))
    | exact ih0 _ _ _ _ _ _ _ _ _ _ _ _ _ _ _ _
    | exact impl_ApplyOp.mono _ _ _ _ _ _ _ _ _
    | exact impl_EqualMachines.mono _ _ _ _ _
    | exact impl_IsValidMachine.mono _ _ _
    | exact impl_ReadObject.mono _ _ _ _
    | exact impl_SessionOf.mono _ _ _ _
    | exact spec_ApplyOp.mono _ _ _ _ _ _ _ _ _
    | exact spec_DrawApplyOp.mono _ _
    | exact spec_IsValidMachine.mono _ _ _
    | exact spec_ReadObject.mono _ _ _ _
    | exact uN.none _
    | refine uN.ite ?_ ?_
    | refine uN.bind ?_ (fun _ => ?_)
theorem laws_FnMachine.mono : ∀ a0 k, uN (laws_FnMachine.f k a0) (laws_FnMachine.f (k + 1) a0) := by
  intro a0 k
  have ih0 := laws_FnMachine.mono_l k
  unfold laws_FnMachine.f
  repeat' first
      | (with_reducible exact ih0 _ _ _ _ _ _ _ _ _ _ _ _ _ _ _ _)
      | (with_reducible exact impl_ApplyOp.mono _ _ _ _ _ _ _ _ _)
      | (with_reducible exact impl_EqualMachines.mono _ _ _ _ _)
      | (with_reducible exact impl_IsValidMachine.mono _ _ _)
      | (with_reducible exact impl_ReadObject.mono _ _ _ _)
      | (with_reducible exact impl_SessionOf.mono _ _ _ _)
      | (with_reducible exact spec_ApplyOp.mono _ _ _ _ _ _ _ _ _)
      | (with_reducible exact spec_DrawApplyOp.mono _ _)
      | (with_reducible exact spec_IsValidMachine.mono _ _ _)
      | (with_reducible exact spec_ReadObject.mono _ _ _ _)
      | (with_reducible exact uN.refl _)
      | (with_reducible exact uN.none _)
      | (with_reducible refine uN.ite ?_ ?_)
      | (with_reducible refine uN.bind ?_ (fun _ => ?_))
      | exact ih0 _ _ _ _ _ _ _ _ _ _ _ _ _ _ _ _
      | exact impl_ApplyOp.mono _ _ _ _ _ _ _ _ _
      | exact impl_EqualMachines.mono _ _ _ _ _
      | exact impl_IsValidMachine.mono _ _ _
      | exact impl_ReadObject.mono _ _ _ _
      | exact impl_SessionOf.mono _ _ _ _
      | exact spec_ApplyOp.mono _ _ _ _ _ _ _ _ _
      | exact spec_DrawApplyOp.mono _ _
      | exact spec_IsValidMachine.mono _ _ _
      | exact spec_ReadObject.mono _ _ _ _
      | exact uN.none _
      | refine uN.ite ?_ ?_
      | refine uN.bind ?_ (fun _ => ?_)
def laws_FnMachine.T6 : Bool × List (List Nat × List Nat) := (true, [([], []), ([], []), ([0, 1], [0, 1]), ([2], [2]), ([3], [3]), ([3], [3]), ([4, 5, 3], [3, 4, 5]), ([3, 6], [3, 6]), ([7, 3], [7]), ([8], [8]), ([8], [8]), ([9, 10, 8, 8], [8, 9, 10]), ([11, 8], [8, 11]), ([8, 12], [8, 12]), ([13, 11], [13]), ([14], [14]), ([15, 14, 14], [14, 15]), ([14], [14]), ([17, 16, 14], [14, 17]), ([16, 18, 14], [14, 16, 18]), ([14, 19], [14, 19])])
def laws_FnMachine.B6 : List Nat := [0, 0, 3, 7, 15, 15, 63, 127, 255, 511, 511, 2047, 4095, 8191, 16383, 32767, 65535, 32767, 262143, 524287, 1048575]
theorem laws_FnMachine.tab6 : rtab .any (opsOf Try.f4 6) = laws_FnMachine.T6 := by kernel_rfl
theorem laws_FnMachine.bits6 : waitsOk laws_FnMachine.T6.2 laws_FnMachine.B6 = true := by kernel_rfl
set_option maxHeartbeats 8000000 in
set_option maxRecDepth 100000 in
theorem laws_FnMachine.calls (k : Nat) (A0 : Option Addr) (c0 : Nat) (l0 : List Int) (w : World) (hr0 : Kd.C (Kd.int .u8) w A0 l0.length l0) (hc0 : l0.length ≤ c0) (h : laws_FnMachine.f k l0 = some true) :
    Calls Try.prog 4 #[.slice A0 l0.length c0] w fun e w' => e = .returned (.bool true) ∧ Below w.heap.size w w' := by
  have hu31 := Try.underlying31
  have hu37 := Try.underlying37
  have hu33 := Try.underlying33
  have hu49 := Try.underlying49
  have HR0 := Aside0.mk hr0
  have HC0 := Aside0.mk hc0
  clear hr0 hc0
  have HB := Aside0.mk (Below.refl w.heap.size w)
  have H : ((laws_big.f l0).bind fun t350 => (if t350 = true then (some true) else ((spec_DrawApplyOp.f k l0).bind fun bt351 => ((impl_ApplyOp.f k bt351.1 bt351.2.1 bt351.2.2.1 bt351.2.2.2.1 bt351.2.2.2.2.1 bt351.2.2.2.2.2.1 bt351.2.2.2.2.2.2.1 bt351.2.2.2.2.2.2.2).bind fun bt365 => ((spec_ApplyOp.f k bt351.1 bt351.2.1 bt351.2.2.1 bt351.2.2.2.1 bt351.2.2.2.2.1 bt351.2.2.2.2.2.1 bt351.2.2.2.2.2.2.1 bt351.2.2.2.2.2.2.2).bind fun bt376 => (if (bt365.2.2.2.2 != bt376.2.2.2.2) = true then (laws_FnMachine.j0 k bt365.2.2.2.2 true bt351.1 bt351.2.1 bt351.2.2.1 bt351.2.2.2.1 bt351.2.2.2.2.1 bt351.2.2.2.2.2.1 bt351.2.2.2.2.2.2.1 bt351.2.2.2.2.2.2.2 bt365.1 bt365.2.1 bt365.2.2.1 bt365.2.2.2.1 bt376.1 bt376.2.1) else (if (!(bt365.2.2.1 == bt376.2.2.1) || (!(bt365.2.2.2.1 == bt376.2.2.2.1))) = true then (laws_FnMachine.j0 k bt365.2.2.2.2 true bt351.1 bt351.2.1 bt351.2.2.1 bt351.2.2.2.1 bt351.2.2.2.2.1 bt351.2.2.2.2.2.1 bt351.2.2.2.2.2.2.1 bt351.2.2.2.2.2.2.2 bt365.1 bt365.2.1 bt365.2.2.1 bt365.2.2.2.1 bt376.1 bt376.2.1) else ((impl_EqualMachines.f k bt365.1 bt365.2.1 bt376.1 bt376.2.1).bind fun t387 => (if t387 = true then ((impl_IsValidMachine.f k bt351.1 bt351.2.1).bind fun t388 => ((spec_IsValidMachine.f k bt351.1 bt351.2.1).bind fun t389 => (laws_FnMachine.j0 k bt365.2.2.2.2 (t388 != t389) bt351.1 bt351.2.1 bt351.2.2.1 bt351.2.2.2.1 bt351.2.2.2.2.1 bt351.2.2.2.2.2.1 bt351.2.2.2.2.2.2.1 bt351.2.2.2.2.2.2.2 bt365.1 bt365.2.1 bt365.2.2.1 bt365.2.2.2.1 bt376.1 bt376.2.1))) else (laws_FnMachine.j0 k bt365.2.2.2.2 true bt351.1 bt351.2.1 bt351.2.2.1 bt351.2.2.2.1 bt351.2.2.2.2.1 bt351.2.2.2.2.2.1 bt351.2.2.2.2.2.2.1 bt351.2.2.2.2.2.2.2 bt365.1 bt365.2.1 bt365.2.2.1 bt365.2.2.2.1 bt376.1 bt376.2.1)))))))))) = some true := h
  clear h
  replace H := Option.bind_eq_some_iff.mp H
  obtain ⟨t350, A20, H⟩ := H
  try dsimp only at H
  have A2 := Aside0.mk A20
  clear A20
  by_cases c3 : t350 = true
  · subst c3
    try rw [if_pos rfl] at H
    go_enter Try.func4, Try.ntmps4
    go_wp2_with (first | ((with_reducible refine uH (f := 17) rfl ?_); refine vC (some 21) Try.func17 #[.slice A0 l0.length c0] ?_; (with_reducible refine (laws_big.calls _ _ l0 true _ ?side1 ?side2 A2.out).mono ?_); (case side1 => exact q107); (case side2 => exact HC0.out); rintro e w' ⟨rfl, ⟨nd, rfl⟩⟩; refine ⟨_, rfl, ?_⟩))
    go_ret
    exact ⟨q5, q28⟩
  replace c3 := Bool.eq_false_iff.mpr c3
  subst c3
  try rw [if_neg (show ¬ (false = true) by decide)] at H
  replace H := Option.bind_eq_some_iff.mp H
  obtain ⟨⟨t351, t354, t357, t358, t359, t360, t361, t362⟩, A40, H⟩ := H
  try dsimp only at H
  have A4 := Aside0.mk A40
  clear A40
  replace H := Option.bind_eq_some_iff.mp H
  obtain ⟨⟨t365, t368, t371, t372, t373⟩, A50, H⟩ := H
  try dsimp only at H
  have A5 := Aside0.mk A50
  clear A50
  replace H := Option.bind_eq_some_iff.mp H
  obtain ⟨⟨t376, t379, t382, t383, t384⟩, A60, H⟩ := H
  try dsimp only at H
  have A6 := Aside0.mk A60
  clear A60
  have HC7 := Aside0.mk H
  clear H
  go_enter Try.func4, Try.ntmps4
  go_upto_region 6 with (first | ((with_reducible refine uH (f := 17) rfl ?_); refine vC (some 21) Try.func17 #[.slice A0 l0.length c0] ?_; (with_reducible refine (laws_big.calls _ _ l0 false _ ?side1 ?side2 A2.out).mono ?_); (case side1 => exact q107); (case side2 => exact HC0.out); rintro e w' ⟨rfl, ⟨nd, rfl⟩⟩; refine ⟨_, rfl, ?_⟩) | ((with_reducible refine uH (f := 18) rfl ?_); refine vC (some 24) Try.func18 #[.slice A0 l0.length c0] ?_; (with_reducible refine (spec_DrawApplyOp.calls k _ _ l0 t351 t354 t357 t358 t359 t360 t361 t362 _ ?side1 ?side2 A4.out).mono ?_); (case side1 => exact q107); (case side2 => exact HC0.out); rintro e w8 ⟨v352, v355, rfl, ho0, ho1, hb⟩; refine ⟨_, rfl, ?_⟩; have HO353 := Aside0.mk (Kd.Q_lower ho0 (vL q28)); have HO356 := Aside0.mk (Kd.vG ho1 (vL q28)); replace HB := tBel HB hb; (try clear hb); (try clear hb2); (try clear hk); (try clear hi); (try clear ho0); (try clear ho1)) | ((with_reducible refine uI (N := 3) rfl ?_); refine bxe 3 #[.slice none 0 0, .slice none 0 0] 31 ?_; intro gb363 hg w9 hbox hb; have BK363 := Aside0.mk (hbox); have GW363 := tGe HB hg; have GE363 := tGe HB hg; replace HO353 := Kd.tQ HO353 hb; replace HO356 := Kd.tR HO356 hb; replace HB := tBel HB hb; clear hb hbox hg) | ((with_reducible refine uI (N := 4) rfl ?_); refine bxe 4 #[.int .i64 0, .int .i64 0, .int .i64 0, .int .i64 0, .int .i64 0, .int .i64 0] 37 ?_; intro gb364 hg w10 hbox hb; have BK364 := Aside0.mk (hbox); have GW364 := tGe HB hg; have GE364 := tGe HB hg; have NB363_364 := tNl BK363 hg; have NB364_363 := tNg BK363 hg; replace HO353 := Kd.tQ HO353 hb; replace HO356 := Kd.tR HO356 hb; replace BK363 := uL BK363 hb; replace HB := tBel HB hb; clear hb hbox hg; obtain ⟨Ao11, co11, eo11, _⟩ := Kd.Q_slice HO353.out; subst eo11; have hnb12 := NB363_364.out; have hnc12 := NB364_363.out; obtain ⟨hcz13_0, hcz13_1, hfz13_0, hfz13_1⟩ := cz2 BK363; obtain ⟨Ao14, co14, eo14⟩ := Kd.uW HO356.out; subst eo14; obtain ⟨hcz15_0, hcz15_1, hcz15_2, hcz15_3, hcz15_4, hcz15_5, hfz15_0, hfz15_1, hfz15_2, hfz15_3, hfz15_4, hfz15_5⟩ := cz6 BK364) | ((with_reducible refine uH (f := 12) rfl ?_); refine vC (some 30) Try.func12 #[.agg #[.slice Ao11 t351.length co11, .slice Ao14 t354.length co14], .agg #[.int .i64 t357, .int .i64 t358, .int .i64 t359, .int .i64 t360, .int .i64 t361, .int .i64 t362]] ?_; (with_reducible refine (impl_ApplyOp.calls k _ _ t351 _ _ t354 t357 t358 t359 t360 t361 t362 t365 t368 t371 t372 t373 _ ?side1 ?side2 ?side3 ?side4 A5.out).mono ?_); (case side1 => refine (Kd.Q_reads' (e := 3) (base := w.heap.size) (ok := fun k_ => True) (n := t351.length) (c := co11) ?_).2.2; exact q14); (case side2 => exact (Kd.Q_reads' HO353.out).2.1); (case side3 => refine (Kd.uP (e := 49) (base := w.heap.size) (ok := fun k_ => True) (n := t354.length) (c := co14) ?_).2.2; exact q15); (case side4 => exact (Kd.uP HO356.out).2.1); rintro e w16 ⟨v366, v369, rfl, ho0, ho1, hb⟩; refine ⟨_, rfl, ?_⟩; have HO367 := Aside0.mk (Kd.vG (Kd.R_new' ho0 (Kd.Q_lt q14)) (vL q1)); have HO370 := Aside0.mk (Kd.vG (Kd.R_new' ho1 (Kd.R_lt q15)) (vL q1)); replace HO353 := Aside0.mk (Kd.Q_elder' q14 (Kd.R_base ho0) hb); replace HO356 := Aside0.mk (Kd.R_elder' q15 (Kd.R_base ho1) hb); replace BK363 := tBlkP BK363 #[.slice Ao11 t351.length co11, .slice Ao14 t354.length co14] hb; replace BK364 := tBlkP BK364 #[.int .i64 t357, .int .i64 t358, .int .i64 t359, .int .i64 t360, .int .i64 t361, .int .i64 t362] hb; replace HB := tBel HB hb; (try clear hb); (try clear hb2); (try clear hk); (try clear hi); (try clear ho0); (try clear ho1)) | ((with_reducible refine uI (N := 5) rfl ?_); refine bxe 5 #[.slice none 0 0, .slice none 0 0] 31 ?_; intro gb374 hg w17 hbox hb; have BK374 := Aside0.mk (hbox); have GW374 := tGe HB hg; have GE374 := tGe HB hg; have NB363_374 := tNl BK363 hg; have NB374_363 := tNg BK363 hg; have NB364_374 := tNl BK364 hg; have NB374_364 := tNg BK364 hg; replace HO353 := Kd.tQ HO353 hb; replace HO356 := Kd.tR HO356 hb; replace HO367 := Kd.tR HO367 hb; replace HO370 := Kd.tR HO370 hb; replace BK363 := uL BK363 hb; replace BK364 := uL BK364 hb; replace HB := tBel HB hb; clear hb hbox hg) | ((with_reducible refine uI (N := 6) rfl ?_); refine bxe 6 #[.bool false, .int .i64 0] 33 ?_; intro gb375 hg w18 hbox hb; have BK375 := Aside0.mk (hbox); have GW375 := tGe HB hg; have GE375 := tGe HB hg; have NB363_375 := tNl BK363 hg; have NB375_363 := tNg BK363 hg; have NB364_375 := tNl BK364 hg; have NB375_364 := tNg BK364 hg; have NB374_375 := tNl BK374 hg; have NB375_374 := tNg BK374 hg; replace HO353 := Kd.tQ HO353 hb; replace HO356 := Kd.tR HO356 hb; replace HO367 := Kd.tR HO367 hb; replace HO370 := Kd.tR HO370 hb; replace BK363 := uL BK363 hb; replace BK364 := uL BK364 hb; replace BK374 := uL BK374 hb; replace HB := tBel HB hb; clear hb hbox hg; obtain ⟨Ao19, co19, eo19⟩ := Kd.uW HO367.out; subst eo19; have hnb20 := NB374_363.out; have hnc20 := NB363_374.out; have hnb21 := NB374_364.out; have hnc21 := NB364_374.out; have hnb22 := NB374_375.out; have hnc22 := NB375_374.out; obtain ⟨hcz23_0, hcz23_1, hfz23_0, hfz23_1⟩ := cz2 BK374; obtain ⟨Ao24, co24, eo24⟩ := Kd.uW HO370.out; subst eo24; have hnb25 := NB375_363.out; have hnc25 := NB363_375.out; have hnb26 := NB375_364.out; have hnc26 := NB364_375.out; obtain ⟨hcz27_0, hcz27_1, hfz27_0, hfz27_1⟩ := cz2 BK375; obtain ⟨hcz28_0, hcz28_1, hfz28_0, hfz28_1⟩ := cz2 BK363; obtain ⟨hcz29_0, hcz29_1, hcz29_2, hcz29_3, hcz29_4, hcz29_5, hfz29_0, hfz29_1, hfz29_2, hfz29_3, hfz29_4, hfz29_5⟩ := cz6 BK364) | ((with_reducible refine uH (f := 9) rfl ?_); refine vC (some 37) Try.func9 #[.agg #[.slice Ao11 t351.length co11, .slice Ao14 t354.length co14], .agg #[.int .i64 t357, .int .i64 t358, .int .i64 t359, .int .i64 t360, .int .i64 t361, .int .i64 t362]] ?_; (with_reducible refine (spec_ApplyOp.calls k _ _ t351 _ _ t354 t357 t358 t359 t360 t361 t362 t376 t379 t382 t383 t384 _ ?side1 ?side2 ?side3 ?side4 A6.out).mono ?_); (case side1 => refine (Kd.Q_reads' (e := 3) (base := w.heap.size) (ok := fun k_ => (True ∧ some k_ ≠ (.slice Ao19 t365.length co19 : Value).ownBlock)) (n := t351.length) (c := co11) ?_).2.2; exact q31); (case side2 => exact (Kd.Q_reads' HO353.out).2.1); (case side3 => refine (Kd.uP (e := 49) (base := w.heap.size) (ok := fun k_ => (True ∧ some k_ ≠ (.slice Ao24 t368.length co24 : Value).ownBlock)) (n := t354.length) (c := co14) ?_).2.2; exact q32); (case side4 => exact (Kd.uP HO356.out).2.1); rintro e w30 ⟨v377, v380, rfl, ho0, ho1, hb⟩; refine ⟨_, rfl, ?_⟩; have HO378 := Aside0.mk (Kd.vG (Kd.R_new' (Kd.R_new' ho0 (Kd.Q_lt q31)) (Kd.R_lt (by (with_reducible repeat (first | apply Kd.vA | apply Kd.vB | apply Kd.uR)); exact (Kd.uJ (Kd.uJ (Kd.uM (p := ⟨gb375, 1, none⟩) (Kd.uM (p := ⟨gb375, 0, none⟩) (Kd.uM (p := ⟨gb374, 1, none⟩) (Kd.uM (p := ⟨gb374, 0, none⟩) (Kd.uY (Kd.uY HO367.out BK374.out (by decide)) BK375.out (by decide)) (fun _ hk => hk.1.2) (.slice Ao19 t365.length co19)) (fun _ hk => hk.1.2) (.slice Ao24 t368.length co24)) (fun _ hk => hk.2) (.bool t371)) (fun _ hk => hk.2) (.int .i64 t372)) (fun _ h_ => h_.1)) (fun _ h_ => h_.1))))) (vL q1)); have HO381 := Aside0.mk (Kd.vG (Kd.R_new' (Kd.R_new' ho1 (Kd.R_lt q32)) (Kd.R_lt (by (with_reducible repeat (first | apply Kd.vA | apply Kd.vB | apply Kd.uR)); exact (Kd.uJ (Kd.uJ (Kd.uM (p := ⟨gb375, 1, none⟩) (Kd.uM (p := ⟨gb375, 0, none⟩) (Kd.uM (p := ⟨gb374, 1, none⟩) (Kd.uM (p := ⟨gb374, 0, none⟩) (Kd.uY (Kd.uY HO370.out BK374.out (by decide)) BK375.out (by decide)) (fun _ hk => hk.1.2) (.slice Ao19 t365.length co19)) (fun _ hk => hk.1.2) (.slice Ao24 t368.length co24)) (fun _ hk => hk.2) (.bool t371)) (fun _ hk => hk.2) (.int .i64 t372)) (fun _ h_ => h_.1)) (fun _ h_ => h_.1))))) (vL q1)); replace HO353 := Aside0.mk (Kd.Q_elder' q31 (Kd.R_base ho0) hb); replace HO356 := Aside0.mk (Kd.R_elder' q32 (Kd.R_base ho1) hb); replace HO367 := Aside0.mk (Kd.R_elder' (by (with_reducible repeat (first | apply Kd.vA | apply Kd.vB | apply Kd.uR)); exact (Kd.uJ (Kd.uJ (Kd.uM (p := ⟨gb375, 1, none⟩) (Kd.uM (p := ⟨gb375, 0, none⟩) (Kd.uM (p := ⟨gb374, 1, none⟩) (Kd.uM (p := ⟨gb374, 0, none⟩) (Kd.uY (Kd.uY HO367.out BK374.out (by decide)) BK375.out (by decide)) (fun _ hk => hk.1.2) (.slice Ao19 t365.length co19)) (fun _ hk => hk.1.2) (.slice Ao24 t368.length co24)) (fun _ hk => hk.2) (.bool t371)) (fun _ hk => hk.2) (.int .i64 t372)) (fun _ h_ => h_.1)) (fun _ h_ => h_.1))) (Kd.R_base ho0) hb); replace HO370 := Aside0.mk (Kd.R_elder' (by (with_reducible repeat (first | apply Kd.vA | apply Kd.vB | apply Kd.uR)); exact (Kd.uJ (Kd.uJ (Kd.uM (p := ⟨gb375, 1, none⟩) (Kd.uM (p := ⟨gb375, 0, none⟩) (Kd.uM (p := ⟨gb374, 1, none⟩) (Kd.uM (p := ⟨gb374, 0, none⟩) (Kd.uY (Kd.uY HO370.out BK374.out (by decide)) BK375.out (by decide)) (fun _ hk => hk.1.2) (.slice Ao19 t365.length co19)) (fun _ hk => hk.1.2) (.slice Ao24 t368.length co24)) (fun _ hk => hk.2) (.bool t371)) (fun _ hk => hk.2) (.int .i64 t372)) (fun _ h_ => h_.1)) (fun _ h_ => h_.1))) (Kd.R_base ho1) hb); replace BK363 := tBlkF BK363 hb; replace BK364 := tBlkF BK364 hb; replace BK374 := tBlkP BK374 #[.slice Ao19 t365.length co19, .slice Ao24 t368.length co24] hb; replace BK375 := tBlkP BK375 #[.bool t371, .int .i64 t372] hb; replace HB := tBel HB hb; (try clear hb); (try clear hb2); (try clear hk); (try clear hi); (try clear ho0); (try clear ho1)) | ((with_reducible refine uI (N := 8) rfl ?_); refine bxe 8 #[.slice none 0 0, .slice none 0 0] 31 ?_; intro gb385 hg w31 hbox hb; have BK385 := Aside0.mk (hbox); have GW385 := tGe HB hg; have GE385 := tGe HB hg; have NB363_385 := tNl BK363 hg; have NB385_363 := tNg BK363 hg; have NB364_385 := tNl BK364 hg; have NB385_364 := tNg BK364 hg; have NB374_385 := tNl BK374 hg; have NB385_374 := tNg BK374 hg; have NB375_385 := tNl BK375 hg; have NB385_375 := tNg BK375 hg; replace HO353 := Kd.tQ HO353 hb; replace HO356 := Kd.tR HO356 hb; replace HO367 := Kd.tR HO367 hb; replace HO370 := Kd.tR HO370 hb; replace HO378 := Kd.tR HO378 hb; replace HO381 := Kd.tR HO381 hb; replace BK363 := uL BK363 hb; replace BK364 := uL BK364 hb; replace BK374 := uL BK374 hb; replace BK375 := uL BK375 hb; replace HB := tBel HB hb; clear hb hbox hg) | ((with_reducible refine uI (N := 9) rfl ?_); refine bxe 9 #[.bool false, .int .i64 0] 33 ?_; intro gb386 hg w32 hbox hb; have BK386 := Aside0.mk (hbox); have GW386 := tGe HB hg; have GE386 := tGe HB hg; have NB363_386 := tNl BK363 hg; have NB386_363 := tNg BK363 hg; have NB364_386 := tNl BK364 hg; have NB386_364 := tNg BK364 hg; have NB374_386 := tNl BK374 hg; have NB386_374 := tNg BK374 hg; have NB375_386 := tNl BK375 hg; have NB386_375 := tNg BK375 hg; have NB385_386 := tNl BK385 hg; have NB386_385 := tNg BK385 hg; replace HO353 := Kd.tQ HO353 hb; replace HO356 := Kd.tR HO356 hb; replace HO367 := Kd.tR HO367 hb; replace HO370 := Kd.tR HO370 hb; replace HO378 := Kd.tR HO378 hb; replace HO381 := Kd.tR HO381 hb; replace BK363 := uL BK363 hb; replace BK364 := uL BK364 hb; replace BK374 := uL BK374 hb; replace BK375 := uL BK375 hb; replace BK385 := uL BK385 hb; replace HB := tBel HB hb; clear hb hbox hg; obtain ⟨Ao33, co33, eo33⟩ := Kd.uW HO378.out; subst eo33; have hnb34 := NB385_363.out; have hnc34 := NB363_385.out; have hnb35 := NB385_364.out; have hnc35 := NB364_385.out; have hnb36 := NB385_374.out; have hnc36 := NB374_385.out; have hnb37 := NB385_375.out; have hnc37 := NB375_385.out; have hnb38 := NB385_386.out; have hnc38 := NB386_385.out; obtain ⟨hcz39_0, hcz39_1, hfz39_0, hfz39_1⟩ := cz2 BK385; obtain ⟨Ao40, co40, eo40⟩ := Kd.uW HO381.out; subst eo40; have hnb41 := NB386_363.out; have hnc41 := NB363_386.out; have hnb42 := NB386_364.out; have hnc42 := NB364_386.out; have hnb43 := NB386_374.out; have hnc43 := NB374_386.out; have hnb44 := NB386_375.out; have hnc44 := NB375_386.out; obtain ⟨hcz45_0, hcz45_1, hfz45_0, hfz45_1⟩ := cz2 BK386))
  (try simp only [Act.put, vO, vP, vQ])
  go_cut [61] (fun v61 wc => ∃ (kq : Nat) (x61_6 : Bool), v61 = .bool x61_6 ∧ Aside0 (laws_FnMachine.j0 kq t373 x61_6 t351 t354 t357 t358 t359 t360 t361 t362 t365 t368 t371 t372 t376 t379 = some true) ∧ Aside0 (kq ≤ k) ∧ Aside0 (Kd.Q (Kd.int .i64) 3 wc w.heap.size (fun k_ => some k_ ≠ ((.slice Ao19 t365.length co19) : Value).ownBlock ∧ some k_ ≠ ((.slice Ao33 t376.length co33) : Value).ownBlock) (.slice Ao11 t351.length co11) t351) ∧ Aside0 (Kd.R k49 49 wc w.heap.size (fun k_ => some k_ ≠ ((.slice Ao24 t368.length co24) : Value).ownBlock ∧ some k_ ≠ ((.slice Ao40 t379.length co40) : Value).ownBlock) (.slice Ao14 t354.length co14) t354) ∧ Aside0 (Kd.Q (Kd.int .i64) 3 wc w.heap.size (fun k_ => some k_ ≠ ((.slice Ao11 t351.length co11) : Value).ownBlock ∧ some k_ ≠ ((.slice Ao33 t376.length co33) : Value).ownBlock) (.slice Ao19 t365.length co19) t365) ∧ Aside0 (Kd.R k49 49 wc w.heap.size (fun k_ => some k_ ≠ ((.slice Ao14 t354.length co14) : Value).ownBlock ∧ some k_ ≠ ((.slice Ao40 t379.length co40) : Value).ownBlock) (.slice Ao24 t368.length co24) t368) ∧ Aside0 (Kd.Q (Kd.int .i64) 3 wc w.heap.size (fun k_ => some k_ ≠ ((.slice Ao11 t351.length co11) : Value).ownBlock ∧ some k_ ≠ ((.slice Ao19 t365.length co19) : Value).ownBlock) (.slice Ao33 t376.length co33) t376) ∧ Aside0 (Kd.R k49 49 wc w.heap.size (fun k_ => some k_ ≠ ((.slice Ao14 t354.length co14) : Value).ownBlock ∧ some k_ ≠ ((.slice Ao24 t368.length co24) : Value).ownBlock) (.slice Ao40 t379.length co40) t379) ∧ Aside0 (wc.heap[gb363]? = some (.cells #[(.slice Ao11 t351.length co11), (.slice Ao14 t354.length co14)] 31 (0, 0))) ∧ Aside0 (wc.heap[gb364]? = some (.cells #[.int .i64 t357, .int .i64 t358, .int .i64 t359, .int .i64 t360, .int .i64 t361, .int .i64 t362] 37 (0, 0))) ∧ Aside0 (wc.heap[gb374]? = some (.cells #[(.slice Ao19 t365.length co19), (.slice Ao24 t368.length co24)] 31 (0, 0))) ∧ Aside0 (wc.heap[gb375]? = some (.cells #[.bool t371, .int .i64 t372] 33 (0, 0))) ∧ Aside0 (wc.heap[gb385]? = some (.cells #[(.slice Ao33 t376.length co33), (.slice Ao40 t379.length co40)] 31 (0, 0))) ∧ Aside0 (wc.heap[gb386]? = some (.cells #[.bool t382, .int .i64 t383] 33 (0, 0))) ∧ Aside0 (Below w.heap.size w wc))
  case first =>
    have H := HC7.out
    clear HC7
    by_cases c46 : (t373 != t384) = true
    · rw [if_pos c46] at H
      have c46b0 : (t373 != t384) = true := c46
      (try (have c46b1 : decide (t373 = t384) = false := by simpa using c46))
      (try (have c46b2 : (t373 == t384) = false := by simpa using c46))
      (try (have c46b3 : ¬ (t373 = t384) := by simpa using c46))
      clear c46
      (first | rw [c46b0] | (simp only [uC, uD]; rw [c46b0]) | skip)
      have H' := Aside0.mk H
      clear H
      try go_wp2
      have n0_ : Aside0 (Kd.Q (Kd.int .i64) 3 ((((w32.setCell ⟨gb385, 0, none⟩ (.slice Ao33 t376.length co33)).setCell ⟨gb385, 1, none⟩ (.slice Ao40 t379.length co40)).setCell ⟨gb386, 0, none⟩ (.bool t382)).setCell ⟨gb386, 1, none⟩ (.int .i64 t383)) w.heap.size (fun k_ => some k_ ≠ (.slice Ao19 t365.length co19 : Value).ownBlock ∧ some k_ ≠ (.slice Ao33 t376.length co33 : Value).ownBlock) (.slice Ao11 t351.length co11) t351) := ⟨q18⟩
      have n1_ : Aside0 (Kd.R k49 49 ((((w32.setCell ⟨gb385, 0, none⟩ (.slice Ao33 t376.length co33)).setCell ⟨gb385, 1, none⟩ (.slice Ao40 t379.length co40)).setCell ⟨gb386, 0, none⟩ (.bool t382)).setCell ⟨gb386, 1, none⟩ (.int .i64 t383)) w.heap.size (fun k_ => some k_ ≠ (.slice Ao24 t368.length co24 : Value).ownBlock ∧ some k_ ≠ (.slice Ao40 t379.length co40 : Value).ownBlock) (.slice Ao14 t354.length co14) t354) := ⟨q19⟩
      have n2_ : Aside0 (Kd.R (Kd.int .i64) 3 ((((w32.setCell ⟨gb385, 0, none⟩ (.slice Ao33 t376.length co33)).setCell ⟨gb385, 1, none⟩ (.slice Ao40 t379.length co40)).setCell ⟨gb386, 0, none⟩ (.bool t382)).setCell ⟨gb386, 1, none⟩ (.int .i64 t383)) w.heap.size (fun k_ => some k_ ≠ (.slice Ao11 t351.length co11 : Value).ownBlock ∧ some k_ ≠ (.slice Ao33 t376.length co33 : Value).ownBlock) (.slice Ao19 t365.length co19) t365) := ⟨q20⟩
      have n3_ : Aside0 (Kd.R k49 49 ((((w32.setCell ⟨gb385, 0, none⟩ (.slice Ao33 t376.length co33)).setCell ⟨gb385, 1, none⟩ (.slice Ao40 t379.length co40)).setCell ⟨gb386, 0, none⟩ (.bool t382)).setCell ⟨gb386, 1, none⟩ (.int .i64 t383)) w.heap.size (fun k_ => some k_ ≠ (.slice Ao14 t354.length co14 : Value).ownBlock ∧ some k_ ≠ (.slice Ao40 t379.length co40 : Value).ownBlock) (.slice Ao24 t368.length co24) t368) := ⟨q21⟩
      have n4_ : Aside0 (Kd.R (Kd.int .i64) 3 ((((w32.setCell ⟨gb385, 0, none⟩ (.slice Ao33 t376.length co33)).setCell ⟨gb385, 1, none⟩ (.slice Ao40 t379.length co40)).setCell ⟨gb386, 0, none⟩ (.bool t382)).setCell ⟨gb386, 1, none⟩ (.int .i64 t383)) w.heap.size (fun k_ => some k_ ≠ (.slice Ao11 t351.length co11 : Value).ownBlock ∧ some k_ ≠ (.slice Ao19 t365.length co19 : Value).ownBlock) (.slice Ao33 t376.length co33) t376) := ⟨q22⟩
      have n5_ : Aside0 (Kd.R k49 49 ((((w32.setCell ⟨gb385, 0, none⟩ (.slice Ao33 t376.length co33)).setCell ⟨gb385, 1, none⟩ (.slice Ao40 t379.length co40)).setCell ⟨gb386, 0, none⟩ (.bool t382)).setCell ⟨gb386, 1, none⟩ (.int .i64 t383)) w.heap.size (fun k_ => some k_ ≠ (.slice Ao14 t354.length co14 : Value).ownBlock ∧ some k_ ≠ (.slice Ao24 t368.length co24 : Value).ownBlock) (.slice Ao40 t379.length co40) t379) := ⟨q23⟩
      have n6_ : Aside0 (((((w32.setCell ⟨gb385, 0, none⟩ (.slice Ao33 t376.length co33)).setCell ⟨gb385, 1, none⟩ (.slice Ao40 t379.length co40)).setCell ⟨gb386, 0, none⟩ (.bool t382)).setCell ⟨gb386, 1, none⟩ (.int .i64 t383)).heap[gb363]? = some (.cells #[.slice Ao11 t351.length co11, .slice Ao14 t354.length co14] 31 (0, 0))) := ⟨q10⟩
      have n7_ : Aside0 (((((w32.setCell ⟨gb385, 0, none⟩ (.slice Ao33 t376.length co33)).setCell ⟨gb385, 1, none⟩ (.slice Ao40 t379.length co40)).setCell ⟨gb386, 0, none⟩ (.bool t382)).setCell ⟨gb386, 1, none⟩ (.int .i64 t383)).heap[gb364]? = some (.cells #[.int .i64 t357, .int .i64 t358, .int .i64 t359, .int .i64 t360, .int .i64 t361, .int .i64 t362] 37 (0, 0))) := ⟨q11⟩
      have n8_ : Aside0 (((((w32.setCell ⟨gb385, 0, none⟩ (.slice Ao33 t376.length co33)).setCell ⟨gb385, 1, none⟩ (.slice Ao40 t379.length co40)).setCell ⟨gb386, 0, none⟩ (.bool t382)).setCell ⟨gb386, 1, none⟩ (.int .i64 t383)).heap[gb374]? = some (.cells #[.slice Ao19 t365.length co19, .slice Ao24 t368.length co24] 31 (0, 0))) := ⟨q12⟩
      have n9_ : Aside0 (((((w32.setCell ⟨gb385, 0, none⟩ (.slice Ao33 t376.length co33)).setCell ⟨gb385, 1, none⟩ (.slice Ao40 t379.length co40)).setCell ⟨gb386, 0, none⟩ (.bool t382)).setCell ⟨gb386, 1, none⟩ (.int .i64 t383)).heap[gb375]? = some (.cells #[.bool t371, .int .i64 t372] 33 (0, 0))) := ⟨q13⟩
      have n10_ : Aside0 (((((w32.setCell ⟨gb385, 0, none⟩ (.slice Ao33 t376.length co33)).setCell ⟨gb385, 1, none⟩ (.slice Ao40 t379.length co40)).setCell ⟨gb386, 0, none⟩ (.bool t382)).setCell ⟨gb386, 1, none⟩ (.int .i64 t383)).heap[gb385]? = some (.cells #[.slice Ao33 t376.length co33, .slice Ao40 t379.length co40] 31 (0, 0))) := ⟨q7⟩
      have n11_ : Aside0 (((((w32.setCell ⟨gb385, 0, none⟩ (.slice Ao33 t376.length co33)).setCell ⟨gb385, 1, none⟩ (.slice Ao40 t379.length co40)).setCell ⟨gb386, 0, none⟩ (.bool t382)).setCell ⟨gb386, 1, none⟩ (.int .i64 t383)).heap[gb386]? = some (.cells #[.bool t382, .int .i64 t383] 33 (0, 0))) := ⟨q9⟩
      have n12_ : Aside0 (Below w.heap.size w ((((w32.setCell ⟨gb385, 0, none⟩ (.slice Ao33 t376.length co33)).setCell ⟨gb385, 1, none⟩ (.slice Ao40 t379.length co40)).setCell ⟨gb386, 0, none⟩ (.bool t382)).setCell ⟨gb386, 1, none⟩ (.int .i64 t383))) := ⟨q1⟩
      (try clear HO353)
      (try clear HO356)
      (try clear HO367)
      (try clear HO370)
      (try clear HO378)
      (try clear HO381)
      (try clear BK363)
      (try clear BK364)
      (try clear BK374)
      (try clear BK375)
      (try clear BK385)
      (try clear BK386)
      (try clear HB)
      generalize ((((w32.setCell ⟨gb385, 0, none⟩ (.slice Ao33 t376.length co33)).setCell ⟨gb385, 1, none⟩ (.slice Ao40 t379.length co40)).setCell ⟨gb386, 0, none⟩ (.bool t382)).setCell ⟨gb386, 1, none⟩ (.int .i64 t383)) = w47 at n0_ n1_ n2_ n3_ n4_ n5_ n6_ n7_ n8_ n9_ n10_ n11_ n12_ ⊢
      have HO353 := n0_
      have HO356 := n1_
      have HO367 := n2_
      have HO370 := n3_
      have HO378 := n4_
      have HO381 := n5_
      have BK363 := n6_
      have BK364 := n7_
      have BK374 := n8_
      have BK375 := n9_
      have BK385 := n10_
      have BK386 := n11_
      have HB := n12_
      clear n0_ n1_ n2_ n3_ n4_ n5_ n6_ n7_ n8_ n9_ n10_ n11_ n12_
      replace HO353 := Aside0.mk (Kd.Q_drew HO353.out)
      replace HO356 := Aside0.mk (Kd.uR HO356.out)
      replace HO367 := Aside0.mk (Kd.uR HO367.out)
      replace HO370 := Aside0.mk (Kd.uR HO370.out)
      replace HO378 := Aside0.mk (Kd.uR HO378.out)
      replace HO381 := Aside0.mk (Kd.uR HO381.out)
      replace BK363 := Aside0.mk (uB BK363.out)
      replace BK364 := Aside0.mk (uB BK364.out)
      replace BK374 := Aside0.mk (uB BK374.out)
      replace BK375 := Aside0.mk (uB BK375.out)
      replace BK385 := Aside0.mk (uB BK385.out)
      replace BK386 := Aside0.mk (uB BK386.out)
      replace HB := Aside0.mk (vD HB.out)
      refine start_ (n := 21) (S := fun w' => True) (ds := []) tb0 (by kernel_rfl) rfl rfl trivial (fun hHeld => ?_); refine with_tabW laws_FnMachine.tab6 laws_FnMachine.bits6 (fun HT_ HW_ => ?_)
      generalize w47.drew = w48 at HO353 HO356 HO367 HO370 HO378 HO381 BK363 BK364 BK374 BK375 BK385 BK386 HB hHeld ⊢
      refine uA (i := 0) (N := some 41) (v := ?_) (a' := ?_) tb1 rfl rfl (uQ HT_.out (by kernel_rfl)) (fun _ _ _ h => h) (Or.inl ⟨by rfl, ?_⟩) ?_ ?_
      rotate_left
      · intro w'
        go_simp
        with_reducible rfl
      rotate_left
      · simp only [Act.put, vO, vP, vQ, uC, uD]
        rfl
      refine uA (i := 1) (N := some 42) (v := ?_) (a' := ?_) tb2 rfl rfl (uQ HT_.out (by kernel_rfl)) (fun _ _ _ h => h) (Or.inl ⟨by rfl, ?_⟩) ?_ ?_
      rotate_left
      · intro w'
        go_simp
        with_reducible rfl
      rotate_left
      · simp only [Act.put, vO, vP, vQ, uC, uD]
        rfl
      refine uA (i := 2) (N := some 43) (v := ?_) (a' := ?_) tb3 rfl rfl (uQ HT_.out (by kernel_rfl)) (fun _ _ _ h => h) (Or.inl ⟨by rfl, ?_⟩) ?_ ?_
      rotate_left
      · intro w'
        go_simp
        with_reducible rfl
      rotate_left
      · simp only [Act.put, vO, vP, vQ, uC, uD]
        rfl
      refine uA (i := 3) (N := some 44) (v := ?_) (a' := ?_) tb4 rfl rfl (uQ HT_.out (by kernel_rfl)) (fun _ _ _ h => h) (Or.inl ⟨by rfl, ?_⟩) ?_ ?_
      rotate_left
      · intro w'
        go_simp
        with_reducible rfl
      rotate_left
      · simp only [Act.put, vO, vP, vQ, uC, uD]
        rfl
      refine uA (i := 4) (N := some 45) (v := undef) (a' := ?_) tb5 rfl rfl (uQ HT_.out (by kernel_rfl)) (fun _ _ _ h => h) (Or.inr ⟨by rfl, rfl⟩) ?_ ?_
      rotate_left
      · simp only [Act.put, vO, vP, vQ, uC, uD]
        rfl
      refine uA (i := 5) (N := some 46) (v := undef) (a' := ?_) tb6 rfl rfl (uQ HT_.out (by kernel_rfl)) (fun _ _ _ h => h) (Or.inr ⟨by rfl, rfl⟩) ?_ ?_
      rotate_left
      · simp only [Act.put, vO, vP, vQ, uC, uD]
        rfl
      refine uA (i := 6) (N := some 47) (v := undef) (a' := ?_) tb7 rfl rfl (uQ HT_.out (by kernel_rfl)) (fun _ _ _ h => h) (Or.inr ⟨by rfl, rfl⟩) ?_ ?_
      rotate_left
      · simp only [Act.put, vO, vP, vQ, uC, uD]
        rfl
      refine uA (i := 7) (N := some 48) (v := ?_) (a' := ?_) tb8 rfl rfl (uQ HT_.out (by kernel_rfl)) (fun _ _ _ h => h) (Or.inl ⟨by rfl, ?_⟩) ?_ ?_
      rotate_left
      · intro w'
        go_simp
        with_reducible rfl
      rotate_left
      · simp only [Act.put, vO, vP, vQ, uC, uD]
        rfl
      refine uA (i := 8) (N := some 49) (v := ?_) (a' := ?_) tb9 rfl rfl (uQ HT_.out (by kernel_rfl)) (fun _ _ _ h => h) (Or.inl ⟨by rfl, ?_⟩) ?_ ?_
      rotate_left
      · intro w'
        go_simp
        with_reducible rfl
      rotate_left
      · simp only [Act.put, vO, vP, vQ, uC, uD]
        rfl
      refine uA (i := 9) (N := some 50) (v := undef) (a' := ?_) tb10 rfl rfl (uQ HT_.out (by kernel_rfl)) (fun _ _ _ h => h) (Or.inr ⟨by rfl, rfl⟩) ?_ ?_
      rotate_left
      · simp only [Act.put, vO, vP, vQ, uC, uD]
        rfl
      refine uA (i := 10) (N := some 51) (v := undef) (a' := ?_) tb11 rfl rfl (uQ HT_.out (by kernel_rfl)) (fun _ _ _ h => h) (Or.inr ⟨by rfl, rfl⟩) ?_ ?_
      rotate_left
      · simp only [Act.put, vO, vP, vQ, uC, uD]
        rfl
      refine uA (i := 11) (N := some 52) (v := undef) (a' := ?_) tb12 rfl rfl (uQ HT_.out (by kernel_rfl)) (fun _ _ _ h => h) (Or.inr ⟨by rfl, rfl⟩) ?_ ?_
      rotate_left
      · simp only [Act.put, vO, vP, vQ, uC, uD]
        rfl
      refine uA (i := 12) (N := some 53) (v := undef) (a' := ?_) tb13 rfl rfl (uQ HT_.out (by kernel_rfl)) (fun _ _ _ h => h) (Or.inr ⟨by rfl, rfl⟩) ?_ ?_
      rotate_left
      · simp only [Act.put, vO, vP, vQ, uC, uD]
        rfl
      refine uA (i := 13) (N := some 54) (v := ?_) (a' := ?_) tb14 rfl rfl (uQ HT_.out (by kernel_rfl)) (fun _ _ _ h => h) (Or.inl ⟨by rfl, ?_⟩) ?_ ?_
      rotate_left
      · intro w'
        go_simp
        with_reducible rfl
      rotate_left
      · simp only [Act.put, vO, vP, vQ, uC, uD]
        rfl
      refine uA (i := 14) (N := some 55) (v := ?_) (a' := ?_) tb15 rfl rfl (uQ HT_.out (by kernel_rfl)) (fun _ _ _ h => h) (Or.inl ⟨by rfl, ?_⟩) ?_ ?_
      rotate_left
      · intro w'
        go_simp
        with_reducible rfl
      rotate_left
      · simp only [Act.put, vO, vP, vQ, uC, uD]
        rfl
      refine uA (i := 15) (N := some 56) (v := undef) (a' := ?_) tb16 rfl rfl (uQ HT_.out (by kernel_rfl)) (fun _ _ _ h => h) (Or.inr ⟨by rfl, rfl⟩) ?_ ?_
      rotate_left
      · simp only [Act.put, vO, vP, vQ, uC, uD]
        rfl
      refine uA (i := 16) (N := some 57) (v := undef) (a' := ?_) tb22 rfl rfl (uQ HT_.out (by kernel_rfl)) (fun _ _ _ h => h) (Or.inr ⟨by rfl, rfl⟩) ?_ ?_
      rotate_left
      · simp only [Act.put, vO, vP, vQ, uC, uD]
        rfl
      refine uA (i := 17) (N := some 58) (v := undef) (a' := ?_) tb17 rfl rfl (uQ HT_.out (by kernel_rfl)) (fun _ _ _ h => h) (Or.inr ⟨by rfl, rfl⟩) ?_ ?_
      rotate_left
      · simp only [Act.put, vO, vP, vQ, uC, uD]
        rfl
      refine uA (i := 18) (N := some 59) (v := undef) (a' := ?_) tb18 rfl rfl (uQ HT_.out (by kernel_rfl)) (fun _ _ _ h => h) (Or.inr ⟨by rfl, rfl⟩) ?_ ?_
      rotate_left
      · simp only [Act.put, vO, vP, vQ, uC, uD]
        rfl
      refine uA (i := 19) (N := some 60) (v := undef) (a' := ?_) tb19 rfl rfl (uQ HT_.out (by kernel_rfl)) (fun _ _ _ h => h) (Or.inr ⟨by rfl, rfl⟩) ?_ ?_
      rotate_left
      · simp only [Act.put, vO, vP, vQ, uC, uD]
        rfl
      refine uA (i := 20) (N := some 61) (v := ?_) (a' := ?_) tb20 rfl rfl (uQ HT_.out (by kernel_rfl)) (fun _ _ _ h => h) (Or.inl ⟨by rfl, ?_⟩) ?_ ?_
      rotate_left
      · intro w'
        go_simp
        with_reducible rfl
      rotate_left
      · simp only [Act.put, vO, vP, vQ, uC, uD]
        rfl
      refine done_ (done_of HT_.out (by kernel_rfl)) ?_
      try go_wp2
      go_meet
      case rel => exact ⟨_, (true), q43, H', ⟨by first | omega | exact Nat.le_refl _⟩, ⟨q112⟩, ⟨q113⟩, ⟨Kd.Q_of_R (rSR HO367.out)⟩, ⟨q114⟩, ⟨Kd.Q_of_R (rSR HO378.out)⟩, ⟨q115⟩, ⟨q97⟩, ⟨q98⟩, ⟨q99⟩, ⟨q100⟩, ⟨q101⟩, ⟨q102⟩, ⟨q1⟩⟩
    rw [if_neg c46] at H
    have c46b0 : (t373 != t384) = false := by simpa using c46
    (try (have c46b1 : decide (t373 = t384) = true := by simpa using c46))
    (try (have c46b2 : (t373 == t384) = true := by simpa using c46))
    clear c46
    (first | rw [c46b0] | (simp only [uC, uD]; rw [c46b0]) | skip)
    by_cases c49 : (!(t371 == t382) || (!(t372 == t383))) = true
    · rw [if_pos c49] at H
      have c49b0 : (!(t371 == t382) || (!(t372 == t383))) = true := c49
      clear c49
      have H' := Aside0.mk H
      clear H
      try go_wp2
      have n0_ : Aside0 (Kd.Q (Kd.int .i64) 3 ((((w32.setCell ⟨gb385, 0, none⟩ (.slice Ao33 t376.length co33)).setCell ⟨gb385, 1, none⟩ (.slice Ao40 t379.length co40)).setCell ⟨gb386, 0, none⟩ (.bool t382)).setCell ⟨gb386, 1, none⟩ (.int .i64 t383)) w.heap.size (fun k_ => some k_ ≠ (.slice Ao19 t365.length co19 : Value).ownBlock ∧ some k_ ≠ (.slice Ao33 t376.length co33 : Value).ownBlock) (.slice Ao11 t351.length co11) t351) := ⟨q18⟩
      have n1_ : Aside0 (Kd.R k49 49 ((((w32.setCell ⟨gb385, 0, none⟩ (.slice Ao33 t376.length co33)).setCell ⟨gb385, 1, none⟩ (.slice Ao40 t379.length co40)).setCell ⟨gb386, 0, none⟩ (.bool t382)).setCell ⟨gb386, 1, none⟩ (.int .i64 t383)) w.heap.size (fun k_ => some k_ ≠ (.slice Ao24 t368.length co24 : Value).ownBlock ∧ some k_ ≠ (.slice Ao40 t379.length co40 : Value).ownBlock) (.slice Ao14 t354.length co14) t354) := ⟨q19⟩
      have n2_ : Aside0 (Kd.R (Kd.int .i64) 3 ((((w32.setCell ⟨gb385, 0, none⟩ (.slice Ao33 t376.length co33)).setCell ⟨gb385, 1, none⟩ (.slice Ao40 t379.length co40)).setCell ⟨gb386, 0, none⟩ (.bool t382)).setCell ⟨gb386, 1, none⟩ (.int .i64 t383)) w.heap.size (fun k_ => some k_ ≠ (.slice Ao11 t351.length co11 : Value).ownBlock ∧ some k_ ≠ (.slice Ao33 t376.length co33 : Value).ownBlock) (.slice Ao19 t365.length co19) t365) := ⟨q20⟩
      have n3_ : Aside0 (Kd.R k49 49 ((((w32.setCell ⟨gb385, 0, none⟩ (.slice Ao33 t376.length co33)).setCell ⟨gb385, 1, none⟩ (.slice Ao40 t379.length co40)).setCell ⟨gb386, 0, none⟩ (.bool t382)).setCell ⟨gb386, 1, none⟩ (.int .i64 t383)) w.heap.size (fun k_ => some k_ ≠ (.slice Ao14 t354.length co14 : Value).ownBlock ∧ some k_ ≠ (.slice Ao40 t379.length co40 : Value).ownBlock) (.slice Ao24 t368.length co24) t368) := ⟨q21⟩
      have n4_ : Aside0 (Kd.R (Kd.int .i64) 3 ((((w32.setCell ⟨gb385, 0, none⟩ (.slice Ao33 t376.length co33)).setCell ⟨gb385, 1, none⟩ (.slice Ao40 t379.length co40)).setCell ⟨gb386, 0, none⟩ (.bool t382)).setCell ⟨gb386, 1, none⟩ (.int .i64 t383)) w.heap.size (fun k_ => some k_ ≠ (.slice Ao11 t351.length co11 : Value).ownBlock ∧ some k_ ≠ (.slice Ao19 t365.length co19 : Value).ownBlock) (.slice Ao33 t376.length co33) t376) := ⟨q22⟩
      have n5_ : Aside0 (Kd.R k49 49 ((((w32.setCell ⟨gb385, 0, none⟩ (.slice Ao33 t376.length co33)).setCell ⟨gb385, 1, none⟩ (.slice Ao40 t379.length co40)).setCell ⟨gb386, 0, none⟩ (.bool t382)).setCell ⟨gb386, 1, none⟩ (.int .i64 t383)) w.heap.size (fun k_ => some k_ ≠ (.slice Ao14 t354.length co14 : Value).ownBlock ∧ some k_ ≠ (.slice Ao24 t368.length co24 : Value).ownBlock) (.slice Ao40 t379.length co40) t379) := ⟨q23⟩
      have n6_ : Aside0 (((((w32.setCell ⟨gb385, 0, none⟩ (.slice Ao33 t376.length co33)).setCell ⟨gb385, 1, none⟩ (.slice Ao40 t379.length co40)).setCell ⟨gb386, 0, none⟩ (.bool t382)).setCell ⟨gb386, 1, none⟩ (.int .i64 t383)).heap[gb363]? = some (.cells #[.slice Ao11 t351.length co11, .slice Ao14 t354.length co14] 31 (0, 0))) := ⟨q10⟩
      have n7_ : Aside0 (((((w32.setCell ⟨gb385, 0, none⟩ (.slice Ao33 t376.length co33)).setCell ⟨gb385, 1, none⟩ (.slice Ao40 t379.length co40)).setCell ⟨gb386, 0, none⟩ (.bool t382)).setCell ⟨gb386, 1, none⟩ (.int .i64 t383)).heap[gb364]? = some (.cells #[.int .i64 t357, .int .i64 t358, .int .i64 t359, .int .i64 t360, .int .i64 t361, .int .i64 t362] 37 (0, 0))) := ⟨q11⟩
      have n8_ : Aside0 (((((w32.setCell ⟨gb385, 0, none⟩ (.slice Ao33 t376.length co33)).setCell ⟨gb385, 1, none⟩ (.slice Ao40 t379.length co40)).setCell ⟨gb386, 0, none⟩ (.bool t382)).setCell ⟨gb386, 1, none⟩ (.int .i64 t383)).heap[gb374]? = some (.cells #[.slice Ao19 t365.length co19, .slice Ao24 t368.length co24] 31 (0, 0))) := ⟨q12⟩
      have n9_ : Aside0 (((((w32.setCell ⟨gb385, 0, none⟩ (.slice Ao33 t376.length co33)).setCell ⟨gb385, 1, none⟩ (.slice Ao40 t379.length co40)).setCell ⟨gb386, 0, none⟩ (.bool t382)).setCell ⟨gb386, 1, none⟩ (.int .i64 t383)).heap[gb375]? = some (.cells #[.bool t371, .int .i64 t372] 33 (0, 0))) := ⟨q13⟩
      have n10_ : Aside0 (((((w32.setCell ⟨gb385, 0, none⟩ (.slice Ao33 t376.length co33)).setCell ⟨gb385, 1, none⟩ (.slice Ao40 t379.length co40)).setCell ⟨gb386, 0, none⟩ (.bool t382)).setCell ⟨gb386, 1, none⟩ (.int .i64 t383)).heap[gb385]? = some (.cells #[.slice Ao33 t376.length co33, .slice Ao40 t379.length co40] 31 (0, 0))) := ⟨q7⟩
      have n11_ : Aside0 (((((w32.setCell ⟨gb385, 0, none⟩ (.slice Ao33 t376.length co33)).setCell ⟨gb385, 1, none⟩ (.slice Ao40 t379.length co40)).setCell ⟨gb386, 0, none⟩ (.bool t382)).setCell ⟨gb386, 1, none⟩ (.int .i64 t383)).heap[gb386]? = some (.cells #[.bool t382, .int .i64 t383] 33 (0, 0))) := ⟨q9⟩
      have n12_ : Aside0 (Below w.heap.size w ((((w32.setCell ⟨gb385, 0, none⟩ (.slice Ao33 t376.length co33)).setCell ⟨gb385, 1, none⟩ (.slice Ao40 t379.length co40)).setCell ⟨gb386, 0, none⟩ (.bool t382)).setCell ⟨gb386, 1, none⟩ (.int .i64 t383))) := ⟨q1⟩
      (try clear HO353)
      (try clear HO356)
      (try clear HO367)
      (try clear HO370)
      (try clear HO378)
      (try clear HO381)
      (try clear BK363)
      (try clear BK364)
      (try clear BK374)
      (try clear BK375)
      (try clear BK385)
      (try clear BK386)
      (try clear HB)
      generalize ((((w32.setCell ⟨gb385, 0, none⟩ (.slice Ao33 t376.length co33)).setCell ⟨gb385, 1, none⟩ (.slice Ao40 t379.length co40)).setCell ⟨gb386, 0, none⟩ (.bool t382)).setCell ⟨gb386, 1, none⟩ (.int .i64 t383)) = w50 at n0_ n1_ n2_ n3_ n4_ n5_ n6_ n7_ n8_ n9_ n10_ n11_ n12_ ⊢
      have HO353 := n0_
      have HO356 := n1_
      have HO367 := n2_
      have HO370 := n3_
      have HO378 := n4_
      have HO381 := n5_
      have BK363 := n6_
      have BK364 := n7_
      have BK374 := n8_
      have BK375 := n9_
      have BK385 := n10_
      have BK386 := n11_
      have HB := n12_
      clear n0_ n1_ n2_ n3_ n4_ n5_ n6_ n7_ n8_ n9_ n10_ n11_ n12_
      replace HO353 := Aside0.mk (Kd.Q_drew HO353.out)
      replace HO356 := Aside0.mk (Kd.uR HO356.out)
      replace HO367 := Aside0.mk (Kd.uR HO367.out)
      replace HO370 := Aside0.mk (Kd.uR HO370.out)
      replace HO378 := Aside0.mk (Kd.uR HO378.out)
      replace HO381 := Aside0.mk (Kd.uR HO381.out)
      replace BK363 := Aside0.mk (uB BK363.out)
      replace BK364 := Aside0.mk (uB BK364.out)
      replace BK374 := Aside0.mk (uB BK374.out)
      replace BK375 := Aside0.mk (uB BK375.out)
      replace BK385 := Aside0.mk (uB BK385.out)
      replace BK386 := Aside0.mk (uB BK386.out)
      replace HB := Aside0.mk (vD HB.out)
      refine start_ (n := 21) (S := fun w' => w'.cell? ⟨gb375, 0, none⟩ = some (.bool t371) ∧ w'.cell? ⟨gb375, 1, none⟩ = some (.int .i64 t372) ∧ w'.cell? ⟨gb386, 0, none⟩ = some (.bool t382) ∧ w'.cell? ⟨gb386, 1, none⟩ = some (.int .i64 t383)) (ds := []) tb0 (by kernel_rfl) rfl rfl ⟨(uG BK375.out 0).trans rfl, (uG BK375.out 1).trans rfl, (uG BK386.out 0).trans rfl, (uG BK386.out 1).trans rfl⟩ (fun hHeld => ?_); refine with_tabW laws_FnMachine.tab6 laws_FnMachine.bits6 (fun HT_ HW_ => ?_)
      generalize w50.drew = w51 at HO353 HO356 HO367 HO370 HO378 HO381 BK363 BK364 BK374 BK375 BK385 BK386 HB hHeld ⊢
      refine uA (i := 0) (N := some 41) (v := ?_) (a' := ?_) tb1 rfl rfl (uQ HT_.out (by kernel_rfl)) (fun _ _ _ h => h) (Or.inl ⟨by rfl, ?_⟩) ?_ ?_
      rotate_left
      · intro w'
        go_simp
        with_reducible rfl
      rotate_left
      · simp only [Act.put, vO, vP, vQ, uC, uD]
        rfl
      refine uA (i := 1) (N := some 42) (v := ?_) (a' := ?_) tb2 rfl rfl (uQ HT_.out (by kernel_rfl)) (fun _ _ _ h => h) (Or.inl ⟨by rfl, ?_⟩) ?_ ?_
      rotate_left
      · intro w'
        go_simp
        with_reducible rfl
      rotate_left
      · simp only [Act.put, vO, vP, vQ, uC, uD]
        rfl
      refine uA (i := 2) (N := some 43) (v := ?_) (a' := ?_) tb3 rfl rfl (uQ HT_.out (by kernel_rfl)) (fun _ _ _ h => h) (Or.inl ⟨by rfl, ?_⟩) ?_ ?_
      rotate_left
      · intro w'
        go_simp
        with_reducible rfl
      rotate_left
      · simp only [Act.put, vO, vP, vQ, uC, uD]
        rfl
      refine uA (i := 3) (N := some 44) (v := ?_) (a' := ?_) tb4 rfl rfl (uQ HT_.out (by kernel_rfl)) (fun _ _ _ h => h) (Or.inl ⟨by rfl, ?_⟩) ?_ ?_
      rotate_left
      · intro w'
        go_simp
        with_reducible rfl
      rotate_left
      · simp only [Act.put, vO, vP, vQ, uC, uD]
        rfl
      refine take_ (i := 4) (N := some 45) (v := ?_) (a' := ?_) tb5 rfl rfl (take_ofW HT_.out HW_.out (by kernel_rfl)) (fun _ _ _ h => h) (Or.inl ⟨by rfl, ?_⟩) hHeld ?_ ?_
      rotate_left
      · rintro w' ⟨s0, s1, s2, s3⟩
        go_simp
        with_reducible rfl
      rotate_left
      · simp only [Act.put, vO, vP, vQ, uC, uD]
        rfl
      refine take_ (i := 5) (N := some 46) (v := ?_) (a' := ?_) tb6 rfl rfl (take_ofW HT_.out HW_.out (by kernel_rfl)) (fun _ _ _ h => h) (Or.inl ⟨by rfl, ?_⟩) hHeld ?_ ?_
      rotate_left
      · rintro w' ⟨s0, s1, s2, s3⟩
        go_simp
        with_reducible rfl
      rotate_left
      · simp only [Act.put, vO, vP, vQ, uC, uD]
        rfl
      refine uA (i := 6) (N := some 47) (v := ?_) (a' := ?_) tb7 rfl rfl (uQ HT_.out (by kernel_rfl)) (fun _ _ _ h => h) (Or.inl ⟨by rfl, ?_⟩) ?_ ?_
      rotate_left
      · intro w'
        go_simp
        with_reducible rfl
      rotate_left
      · simp only [Act.put, vO, vP, vQ, uC, uD]
        rfl
      refine uA (i := 7) (N := some 48) (v := ?_) (a' := ?_) tb8 rfl rfl (uQ HT_.out (by kernel_rfl)) (fun _ _ _ h => h) (Or.inl ⟨by rfl, ?_⟩) ?_ ?_
      rotate_left
      · intro w'
        go_simp
        with_reducible rfl
      rotate_left
      · simp only [Act.put, vO, vP, vQ, uC, uD]
        rfl
      refine uA (i := 8) (N := some 49) (v := ?_) (a' := ?_) tb9 rfl rfl (uQ HT_.out (by kernel_rfl)) (fun _ _ _ h => h) (Or.inl ⟨by rfl, ?_⟩) ?_ ?_
      rotate_left
      · intro w'
        go_simp
        with_reducible rfl
      rotate_left
      · simp only [Act.put, vO, vP, vQ, uC, uD]
        rfl
      refine uA (i := 9) (N := some 50) (v := undef) (a' := ?_) tb10 rfl rfl (uQ HT_.out (by kernel_rfl)) (fun _ _ _ h => h) (Or.inr ⟨by rfl, rfl⟩) ?_ ?_
      rotate_left
      · simp only [Act.put, vO, vP, vQ, uC, uD]
        rfl
      refine uA (i := 10) (N := some 51) (v := undef) (a' := ?_) tb11 rfl rfl (uQ HT_.out (by kernel_rfl)) (fun _ _ _ h => h) (Or.inr ⟨by rfl, rfl⟩) ?_ ?_
      rotate_left
      · simp only [Act.put, vO, vP, vQ, uC, uD]
        rfl
      refine uA (i := 11) (N := some 52) (v := undef) (a' := ?_) tb12 rfl rfl (uQ HT_.out (by kernel_rfl)) (fun _ _ _ h => h) (Or.inr ⟨by rfl, rfl⟩) ?_ ?_
      rotate_left
      · simp only [Act.put, vO, vP, vQ, uC, uD]
        rfl
      refine uA (i := 12) (N := some 53) (v := undef) (a' := ?_) tb13 rfl rfl (uQ HT_.out (by kernel_rfl)) (fun _ _ _ h => h) (Or.inr ⟨by rfl, rfl⟩) ?_ ?_
      rotate_left
      · simp only [Act.put, vO, vP, vQ, uC, uD]
        rfl
      refine uA (i := 13) (N := some 54) (v := ?_) (a' := ?_) tb14 rfl rfl (uQ HT_.out (by kernel_rfl)) (fun _ _ _ h => h) (Or.inl ⟨by rfl, ?_⟩) ?_ ?_
      rotate_left
      · intro w'
        go_simp
        with_reducible rfl
      rotate_left
      · simp only [Act.put, vO, vP, vQ, uC, uD]
        rfl
      refine uA (i := 14) (N := some 55) (v := ?_) (a' := ?_) tb15 rfl rfl (uQ HT_.out (by kernel_rfl)) (fun _ _ _ h => h) (Or.inl ⟨by rfl, ?_⟩) ?_ ?_
      rotate_left
      · intro w'
        go_simp
        with_reducible rfl
      rotate_left
      · simp only [Act.put, vO, vP, vQ, uC, uD]
        rfl
      refine uA (i := 15) (N := some 56) (v := undef) (a' := ?_) tb16 rfl rfl (uQ HT_.out (by kernel_rfl)) (fun _ _ _ h => h) (Or.inr ⟨by rfl, rfl⟩) ?_ ?_
      rotate_left
      · simp only [Act.put, vO, vP, vQ, uC, uD]
        rfl
      refine uA (i := 16) (N := some 57) (v := undef) (a' := ?_) tb22 rfl rfl (uQ HT_.out (by kernel_rfl)) (fun _ _ _ h => h) (Or.inr ⟨by rfl, rfl⟩) ?_ ?_
      rotate_left
      · simp only [Act.put, vO, vP, vQ, uC, uD]
        rfl
      refine uA (i := 17) (N := some 58) (v := undef) (a' := ?_) tb17 rfl rfl (uQ HT_.out (by kernel_rfl)) (fun _ _ _ h => h) (Or.inr ⟨by rfl, rfl⟩) ?_ ?_
      rotate_left
      · simp only [Act.put, vO, vP, vQ, uC, uD]
        rfl
      refine uA (i := 18) (N := some 59) (v := undef) (a' := ?_) tb18 rfl rfl (uQ HT_.out (by kernel_rfl)) (fun _ _ _ h => h) (Or.inr ⟨by rfl, rfl⟩) ?_ ?_
      rotate_left
      · simp only [Act.put, vO, vP, vQ, uC, uD]
        rfl
      refine uA (i := 19) (N := some 60) (v := undef) (a' := ?_) tb19 rfl rfl (uQ HT_.out (by kernel_rfl)) (fun _ _ _ h => h) (Or.inr ⟨by rfl, rfl⟩) ?_ ?_
      rotate_left
      · simp only [Act.put, vO, vP, vQ, uC, uD]
        rfl
      refine uA (i := 20) (N := some 61) (v := ?_) (a' := ?_) tb20 rfl rfl (uQ HT_.out (by kernel_rfl)) (fun _ _ _ h => h) (Or.inl ⟨by rfl, ?_⟩) ?_ ?_
      rotate_left
      · intro w'
        go_simp
        with_reducible rfl
      rotate_left
      · simp only [Act.put, vO, vP, vQ, uC, uD]
        rfl
      refine done_ (done_of HT_.out (by kernel_rfl)) ?_
      try go_wp2
      go_meet
      case rel => exact ⟨_, (true), q43, H', ⟨by first | omega | exact Nat.le_refl _⟩, ⟨q112⟩, ⟨q113⟩, ⟨Kd.Q_of_R (rSR HO367.out)⟩, ⟨q114⟩, ⟨Kd.Q_of_R (rSR HO378.out)⟩, ⟨q115⟩, ⟨q97⟩, ⟨q98⟩, ⟨q99⟩, ⟨q100⟩, ⟨q101⟩, ⟨q102⟩, ⟨q1⟩⟩
    rw [if_neg c49] at H
    have c49b0 : (!(t371 == t382) || (!(t372 == t383))) = false := by simpa using c49
    clear c49
    replace H := Option.bind_eq_some_iff.mp H
    obtain ⟨t387, A520, H⟩ := H
    try dsimp only at H
    have A52 := Aside0.mk A520
    clear A520
    by_cases c53 : t387 = true
    rotate_left
    · replace c53 := Bool.eq_false_iff.mpr c53
      subst c53
      try rw [if_neg (show ¬ (false = true) by decide)] at H
      have H' := Aside0.mk H
      clear H
      try go_wp2
      have n0_ : Aside0 (Kd.Q (Kd.int .i64) 3 ((((w32.setCell ⟨gb385, 0, none⟩ (.slice Ao33 t376.length co33)).setCell ⟨gb385, 1, none⟩ (.slice Ao40 t379.length co40)).setCell ⟨gb386, 0, none⟩ (.bool t382)).setCell ⟨gb386, 1, none⟩ (.int .i64 t383)) w.heap.size (fun k_ => some k_ ≠ (.slice Ao19 t365.length co19 : Value).ownBlock ∧ some k_ ≠ (.slice Ao33 t376.length co33 : Value).ownBlock) (.slice Ao11 t351.length co11) t351) := ⟨q18⟩
      have n1_ : Aside0 (Kd.R k49 49 ((((w32.setCell ⟨gb385, 0, none⟩ (.slice Ao33 t376.length co33)).setCell ⟨gb385, 1, none⟩ (.slice Ao40 t379.length co40)).setCell ⟨gb386, 0, none⟩ (.bool t382)).setCell ⟨gb386, 1, none⟩ (.int .i64 t383)) w.heap.size (fun k_ => some k_ ≠ (.slice Ao24 t368.length co24 : Value).ownBlock ∧ some k_ ≠ (.slice Ao40 t379.length co40 : Value).ownBlock) (.slice Ao14 t354.length co14) t354) := ⟨q19⟩
      have n2_ : Aside0 (Kd.R (Kd.int .i64) 3 ((((w32.setCell ⟨gb385, 0, none⟩ (.slice Ao33 t376.length co33)).setCell ⟨gb385, 1, none⟩ (.slice Ao40 t379.length co40)).setCell ⟨gb386, 0, none⟩ (.bool t382)).setCell ⟨gb386, 1, none⟩ (.int .i64 t383)) w.heap.size (fun k_ => some k_ ≠ (.slice Ao11 t351.length co11 : Value).ownBlock ∧ some k_ ≠ (.slice Ao33 t376.length co33 : Value).ownBlock) (.slice Ao19 t365.length co19) t365) := ⟨q20⟩
      have n3_ : Aside0 (Kd.R k49 49 ((((w32.setCell ⟨gb385, 0, none⟩ (.slice Ao33 t376.length co33)).setCell ⟨gb385, 1, none⟩ (.slice Ao40 t379.length co40)).setCell ⟨gb386, 0, none⟩ (.bool t382)).setCell ⟨gb386, 1, none⟩ (.int .i64 t383)) w.heap.size (fun k_ => some k_ ≠ (.slice Ao14 t354.length co14 : Value).ownBlock ∧ some k_ ≠ (.slice Ao40 t379.length co40 : Value).ownBlock) (.slice Ao24 t368.length co24) t368) := ⟨q21⟩
      have n4_ : Aside0 (Kd.R (Kd.int .i64) 3 ((((w32.setCell ⟨gb385, 0, none⟩ (.slice Ao33 t376.length co33)).setCell ⟨gb385, 1, none⟩ (.slice Ao40 t379.length co40)).setCell ⟨gb386, 0, none⟩ (.bool t382)).setCell ⟨gb386, 1, none⟩ (.int .i64 t383)) w.heap.size (fun k_ => some k_ ≠ (.slice Ao11 t351.length co11 : Value).ownBlock ∧ some k_ ≠ (.slice Ao19 t365.length co19 : Value).ownBlock) (.slice Ao33 t376.length co33) t376) := ⟨q22⟩
      have n5_ : Aside0 (Kd.R k49 49 ((((w32.setCell ⟨gb385, 0, none⟩ (.slice Ao33 t376.length co33)).setCell ⟨gb385, 1, none⟩ (.slice Ao40 t379.length co40)).setCell ⟨gb386, 0, none⟩ (.bool t382)).setCell ⟨gb386, 1, none⟩ (.int .i64 t383)) w.heap.size (fun k_ => some k_ ≠ (.slice Ao14 t354.length co14 : Value).ownBlock ∧ some k_ ≠ (.slice Ao24 t368.length co24 : Value).ownBlock) (.slice Ao40 t379.length co40) t379) := ⟨q23⟩
      have n6_ : Aside0 (((((w32.setCell ⟨gb385, 0, none⟩ (.slice Ao33 t376.length co33)).setCell ⟨gb385, 1, none⟩ (.slice Ao40 t379.length co40)).setCell ⟨gb386, 0, none⟩ (.bool t382)).setCell ⟨gb386, 1, none⟩ (.int .i64 t383)).heap[gb363]? = some (.cells #[.slice Ao11 t351.length co11, .slice Ao14 t354.length co14] 31 (0, 0))) := ⟨q10⟩
      have n7_ : Aside0 (((((w32.setCell ⟨gb385, 0, none⟩ (.slice Ao33 t376.length co33)).setCell ⟨gb385, 1, none⟩ (.slice Ao40 t379.length co40)).setCell ⟨gb386, 0, none⟩ (.bool t382)).setCell ⟨gb386, 1, none⟩ (.int .i64 t383)).heap[gb364]? = some (.cells #[.int .i64 t357, .int .i64 t358, .int .i64 t359, .int .i64 t360, .int .i64 t361, .int .i64 t362] 37 (0, 0))) := ⟨q11⟩
      have n8_ : Aside0 (((((w32.setCell ⟨gb385, 0, none⟩ (.slice Ao33 t376.length co33)).setCell ⟨gb385, 1, none⟩ (.slice Ao40 t379.length co40)).setCell ⟨gb386, 0, none⟩ (.bool t382)).setCell ⟨gb386, 1, none⟩ (.int .i64 t383)).heap[gb374]? = some (.cells #[.slice Ao19 t365.length co19, .slice Ao24 t368.length co24] 31 (0, 0))) := ⟨q12⟩
      have n9_ : Aside0 (((((w32.setCell ⟨gb385, 0, none⟩ (.slice Ao33 t376.length co33)).setCell ⟨gb385, 1, none⟩ (.slice Ao40 t379.length co40)).setCell ⟨gb386, 0, none⟩ (.bool t382)).setCell ⟨gb386, 1, none⟩ (.int .i64 t383)).heap[gb375]? = some (.cells #[.bool t371, .int .i64 t372] 33 (0, 0))) := ⟨q13⟩
      have n10_ : Aside0 (((((w32.setCell ⟨gb385, 0, none⟩ (.slice Ao33 t376.length co33)).setCell ⟨gb385, 1, none⟩ (.slice Ao40 t379.length co40)).setCell ⟨gb386, 0, none⟩ (.bool t382)).setCell ⟨gb386, 1, none⟩ (.int .i64 t383)).heap[gb385]? = some (.cells #[.slice Ao33 t376.length co33, .slice Ao40 t379.length co40] 31 (0, 0))) := ⟨q7⟩
      have n11_ : Aside0 (((((w32.setCell ⟨gb385, 0, none⟩ (.slice Ao33 t376.length co33)).setCell ⟨gb385, 1, none⟩ (.slice Ao40 t379.length co40)).setCell ⟨gb386, 0, none⟩ (.bool t382)).setCell ⟨gb386, 1, none⟩ (.int .i64 t383)).heap[gb386]? = some (.cells #[.bool t382, .int .i64 t383] 33 (0, 0))) := ⟨q9⟩
      have n12_ : Aside0 (Below w.heap.size w ((((w32.setCell ⟨gb385, 0, none⟩ (.slice Ao33 t376.length co33)).setCell ⟨gb385, 1, none⟩ (.slice Ao40 t379.length co40)).setCell ⟨gb386, 0, none⟩ (.bool t382)).setCell ⟨gb386, 1, none⟩ (.int .i64 t383))) := ⟨q1⟩
      (try clear HO353)
      (try clear HO356)
      (try clear HO367)
      (try clear HO370)
      (try clear HO378)
      (try clear HO381)
      (try clear BK363)
      (try clear BK364)
      (try clear BK374)
      (try clear BK375)
      (try clear BK385)
      (try clear BK386)
      (try clear HB)
      generalize ((((w32.setCell ⟨gb385, 0, none⟩ (.slice Ao33 t376.length co33)).setCell ⟨gb385, 1, none⟩ (.slice Ao40 t379.length co40)).setCell ⟨gb386, 0, none⟩ (.bool t382)).setCell ⟨gb386, 1, none⟩ (.int .i64 t383)) = w61 at n0_ n1_ n2_ n3_ n4_ n5_ n6_ n7_ n8_ n9_ n10_ n11_ n12_ ⊢
      have HO353 := n0_
      have HO356 := n1_
      have HO367 := n2_
      have HO370 := n3_
      have HO378 := n4_
      have HO381 := n5_
      have BK363 := n6_
      have BK364 := n7_
      have BK374 := n8_
      have BK375 := n9_
      have BK385 := n10_
      have BK386 := n11_
      have HB := n12_
      clear n0_ n1_ n2_ n3_ n4_ n5_ n6_ n7_ n8_ n9_ n10_ n11_ n12_
      replace HO353 := Aside0.mk (Kd.Q_drew HO353.out)
      replace HO356 := Aside0.mk (Kd.uR HO356.out)
      replace HO367 := Aside0.mk (Kd.uR HO367.out)
      replace HO370 := Aside0.mk (Kd.uR HO370.out)
      replace HO378 := Aside0.mk (Kd.uR HO378.out)
      replace HO381 := Aside0.mk (Kd.uR HO381.out)
      replace BK363 := Aside0.mk (uB BK363.out)
      replace BK364 := Aside0.mk (uB BK364.out)
      replace BK374 := Aside0.mk (uB BK374.out)
      replace BK375 := Aside0.mk (uB BK375.out)
      replace BK385 := Aside0.mk (uB BK385.out)
      replace BK386 := Aside0.mk (uB BK386.out)
      replace HB := Aside0.mk (vD HB.out)
      refine start_ (n := 21) (S := fun w' => w'.cell? ⟨gb375, 0, none⟩ = some (.bool t371) ∧ w'.cell? ⟨gb375, 1, none⟩ = some (.int .i64 t372) ∧ w'.cell? ⟨gb386, 0, none⟩ = some (.bool t382) ∧ w'.cell? ⟨gb386, 1, none⟩ = some (.int .i64 t383) ∧ w'.cell? ⟨gb374, 0, none⟩ = some (.slice Ao19 t365.length co19) ∧ w'.cell? ⟨gb374, 1, none⟩ = some (.slice Ao24 t368.length co24) ∧ w'.cell? ⟨gb385, 0, none⟩ = some (.slice Ao33 t376.length co33) ∧ w'.cell? ⟨gb385, 1, none⟩ = some (.slice Ao40 t379.length co40)) (ds := []) tb0 (by kernel_rfl) rfl rfl ⟨(uG BK375.out 0).trans rfl, (uG BK375.out 1).trans rfl, (uG BK386.out 0).trans rfl, (uG BK386.out 1).trans rfl, (uG BK374.out 0).trans rfl, (uG BK374.out 1).trans rfl, (uG BK385.out 0).trans rfl, (uG BK385.out 1).trans rfl⟩ (fun hHeld => ?_); refine with_tabW laws_FnMachine.tab6 laws_FnMachine.bits6 (fun HT_ HW_ => ?_)
      generalize w61.drew = w62 at HO353 HO356 HO367 HO370 HO378 HO381 BK363 BK364 BK374 BK375 BK385 BK386 HB hHeld ⊢
      refine uA (i := 0) (N := some 41) (v := ?_) (a' := ?_) tb1 rfl rfl (uQ HT_.out (by kernel_rfl)) (fun _ _ _ h => h) (Or.inl ⟨by rfl, ?_⟩) ?_ ?_
      rotate_left
      · intro w'
        go_simp
        with_reducible rfl
      rotate_left
      · simp only [Act.put, vO, vP, vQ, uC, uD]
        rfl
      refine uA (i := 1) (N := some 42) (v := ?_) (a' := ?_) tb2 rfl rfl (uQ HT_.out (by kernel_rfl)) (fun _ _ _ h => h) (Or.inl ⟨by rfl, ?_⟩) ?_ ?_
      rotate_left
      · intro w'
        go_simp
        with_reducible rfl
      rotate_left
      · simp only [Act.put, vO, vP, vQ, uC, uD]
        rfl
      refine uA (i := 2) (N := some 43) (v := ?_) (a' := ?_) tb3 rfl rfl (uQ HT_.out (by kernel_rfl)) (fun _ _ _ h => h) (Or.inl ⟨by rfl, ?_⟩) ?_ ?_
      rotate_left
      · intro w'
        go_simp
        with_reducible rfl
      rotate_left
      · simp only [Act.put, vO, vP, vQ, uC, uD]
        rfl
      refine uA (i := 3) (N := some 44) (v := ?_) (a' := ?_) tb4 rfl rfl (uQ HT_.out (by kernel_rfl)) (fun _ _ _ h => h) (Or.inl ⟨by rfl, ?_⟩) ?_ ?_
      rotate_left
      · intro w'
        go_simp
        with_reducible rfl
      rotate_left
      · simp only [Act.put, vO, vP, vQ, uC, uD]
        rfl
      refine take_ (i := 4) (N := some 45) (v := ?_) (a' := ?_) tb5 rfl rfl (take_ofW HT_.out HW_.out (by kernel_rfl)) (fun _ _ _ h => h) (Or.inl ⟨by rfl, ?_⟩) hHeld ?_ ?_
      rotate_left
      · rintro w' ⟨s0, s1, s2, s3, s4, s5, s6, s7⟩
        go_simp
        with_reducible rfl
      rotate_left
      · simp only [Act.put, vO, vP, vQ, uC, uD]
        rfl
      refine take_ (i := 5) (N := some 46) (v := ?_) (a' := ?_) tb6 rfl rfl (take_ofW HT_.out HW_.out (by kernel_rfl)) (fun _ _ _ h => h) (Or.inl ⟨by rfl, ?_⟩) hHeld ?_ ?_
      rotate_left
      · rintro w' ⟨s0, s1, s2, s3, s4, s5, s6, s7⟩
        go_simp
        with_reducible rfl
      rotate_left
      · simp only [Act.put, vO, vP, vQ, uC, uD]
        rfl
      refine uA (i := 6) (N := some 47) (v := ?_) (a' := ?_) tb7 rfl rfl (uQ HT_.out (by kernel_rfl)) (fun _ _ _ h => h) (Or.inl ⟨by rfl, ?_⟩) ?_ ?_
      rotate_left
      · intro w'
        go_simp
        with_reducible rfl
      rotate_left
      · simp only [Act.put, vO, vP, vQ, uC, uD]
        rfl
      refine uA (i := 7) (N := some 48) (v := ?_) (a' := ?_) tb8 rfl rfl (uQ HT_.out (by kernel_rfl)) (fun _ _ _ h => h) (Or.inl ⟨by rfl, ?_⟩) ?_ ?_
      rotate_left
      · intro w'
        go_simp
        with_reducible rfl
      rotate_left
      · simp only [Act.put, vO, vP, vQ, uC, uD]
        rfl
      refine uA (i := 8) (N := some 49) (v := ?_) (a' := ?_) tb9 rfl rfl (uQ HT_.out (by kernel_rfl)) (fun _ _ _ h => h) (Or.inl ⟨by rfl, ?_⟩) ?_ ?_
      rotate_left
      · intro w'
        go_simp
        with_reducible rfl
      rotate_left
      · simp only [Act.put, vO, vP, vQ, uC, uD]
        rfl
      refine take_ (i := 9) (N := some 50) (v := ?_) (a' := ?_) tb10 rfl rfl (take_ofW HT_.out HW_.out (by kernel_rfl)) (fun _ _ _ h => h) (Or.inl ⟨by rfl, ?_⟩) hHeld ?_ ?_
      rotate_left
      · rintro w' ⟨s0, s1, s2, s3, s4, s5, s6, s7⟩
        go_simp
        with_reducible rfl
      rotate_left
      · simp only [Act.put, vO, vP, vQ, uC, uD]
        rfl
      refine take_ (i := 10) (N := some 51) (v := ?_) (a' := ?_) tb11 rfl rfl (take_ofW HT_.out HW_.out (by kernel_rfl)) (fun _ _ _ h => h) (Or.inl ⟨by rfl, ?_⟩) hHeld ?_ ?_
      rotate_left
      · rintro w' ⟨s0, s1, s2, s3, s4, s5, s6, s7⟩
        go_simp
        with_reducible rfl
      rotate_left
      · simp only [Act.put, vO, vP, vQ, uC, uD]
        rfl
      refine one_ (i := 11) (N := some 52) tb12 rfl rfl (one_of HT_.out (by kernel_rfl)) (by decide) (fun K hK => ?_)
      refine goes_ Try.func19 (by kernel_rfl) rfl #[.agg #[.slice Ao19 t365.length co19, .slice Ao24 t368.length co24], .agg #[.slice Ao33 t376.length co33, .slice Ao40 t379.length co40]] (by rfl) rfl rfl q17 ?_
      with_reducible refine (impl_EqualMachines.calls k _ _ t365 _ _ t368 _ _ t376 _ _ t379 false _ ?side1 ?side2 ?side3 ?side4 ?side5 ?side6 ?side7 ?side8 A52.out).mono ?_
      (case side1 => repeat (first | exact (Kd.uP HO367.out).2.2 | (with_reducible refine Kd.vJ ?_ _) | (with_reducible refine Kd.vK ?_ _) | (with_reducible refine Kd.C_drew ?_)))
      (case side2 => exact (Kd.uP HO367.out).2.1)
      (case side3 => repeat (first | exact (Kd.uP HO370.out).2.2 | (with_reducible refine Kd.vJ ?_ _) | (with_reducible refine Kd.vK ?_ _) | (with_reducible refine Kd.C_drew ?_)))
      (case side4 => exact (Kd.uP HO370.out).2.1)
      (case side5 => repeat (first | exact (Kd.uP HO378.out).2.2 | (with_reducible refine Kd.vJ ?_ _) | (with_reducible refine Kd.vK ?_ _) | (with_reducible refine Kd.C_drew ?_)))
      (case side6 => exact (Kd.uP HO378.out).2.1)
      (case side7 => repeat (first | exact (Kd.uP HO381.out).2.2 | (with_reducible refine Kd.vJ ?_ _) | (with_reducible refine Kd.vK ?_ _) | (with_reducible refine Kd.C_drew ?_)))
      (case side8 => exact (Kd.uP HO381.out).2.1)
      rintro e w63 ⟨rfl, hb⟩
      refine ⟨_, rfl, ?_⟩
      replace HO353 := Kd.tQ HO353 hb
      replace HO356 := Kd.tR HO356 hb
      replace HO367 := Kd.tR HO367 hb
      replace HO370 := Kd.tR HO370 hb
      replace HO378 := Kd.tR HO378 hb
      replace HO381 := Kd.tR HO381 hb
      replace BK363 := uL BK363 hb
      replace BK364 := uL BK364 hb
      replace BK374 := uL BK374 hb
      replace BK375 := uL BK375 hb
      replace BK385 := uL BK385 hb
      replace BK386 := uL BK386 hb
      replace HB := tBel HB hb
      (try clear hb)
      (try clear hb2)
      (try clear hk)
      (try clear hi)
      refine hK.out _ _ ⟨(uG BK375.out 0).trans rfl, (uG BK375.out 1).trans rfl, (uG BK386.out 0).trans rfl, (uG BK386.out 1).trans rfl, (uG BK374.out 0).trans rfl, (uG BK374.out 1).trans rfl, (uG BK385.out 0).trans rfl, (uG BK385.out 1).trans rfl⟩ (fun hHeld => ?_)
      clear hK K
      refine uZ (a' := ?_) ?_ ?_
      rotate_left
      · show Act.put _ (some 52) _ = _
        simp only [Act.put, vO, vP, vQ, uC, uD]
        rfl
      refine uA (i := 12) (N := some 53) (v := ?_) (a' := ?_) tb13 rfl rfl (uQ HT_.out (by kernel_rfl)) (fun _ _ _ h => h) (Or.inl ⟨by rfl, ?_⟩) ?_ ?_
      rotate_left
      · intro w'
        go_simp
        with_reducible rfl
      rotate_left
      · simp only [Act.put, vO, vP, vQ, uC, uD]
        rfl
      refine uA (i := 13) (N := some 54) (v := ?_) (a' := ?_) tb14 rfl rfl (uQ HT_.out (by kernel_rfl)) (fun _ _ _ h => h) (Or.inl ⟨by rfl, ?_⟩) ?_ ?_
      rotate_left
      · intro w'
        go_simp
        with_reducible rfl
      rotate_left
      · simp only [Act.put, vO, vP, vQ, uC, uD]
        rfl
      refine uA (i := 14) (N := some 55) (v := ?_) (a' := ?_) tb15 rfl rfl (uQ HT_.out (by kernel_rfl)) (fun _ _ _ h => h) (Or.inl ⟨by rfl, ?_⟩) ?_ ?_
      rotate_left
      · intro w'
        go_simp
        with_reducible rfl
      rotate_left
      · simp only [Act.put, vO, vP, vQ, uC, uD]
        rfl
      refine uA (i := 15) (N := some 56) (v := undef) (a' := ?_) tb16 rfl rfl (uQ HT_.out (by kernel_rfl)) (fun _ _ _ h => h) (Or.inr ⟨by rfl, rfl⟩) ?_ ?_
      rotate_left
      · simp only [Act.put, vO, vP, vQ, uC, uD]
        rfl
      refine uA (i := 16) (N := some 57) (v := undef) (a' := ?_) tb22 rfl rfl (uQ HT_.out (by kernel_rfl)) (fun _ _ _ h => h) (Or.inr ⟨by rfl, rfl⟩) ?_ ?_
      rotate_left
      · simp only [Act.put, vO, vP, vQ, uC, uD]
        rfl
      refine uA (i := 17) (N := some 58) (v := undef) (a' := ?_) tb17 rfl rfl (uQ HT_.out (by kernel_rfl)) (fun _ _ _ h => h) (Or.inr ⟨by rfl, rfl⟩) ?_ ?_
      rotate_left
      · simp only [Act.put, vO, vP, vQ, uC, uD]
        rfl
      refine uA (i := 18) (N := some 59) (v := undef) (a' := ?_) tb18 rfl rfl (uQ HT_.out (by kernel_rfl)) (fun _ _ _ h => h) (Or.inr ⟨by rfl, rfl⟩) ?_ ?_
      rotate_left
      · simp only [Act.put, vO, vP, vQ, uC, uD]
        rfl
      refine uA (i := 19) (N := some 60) (v := undef) (a' := ?_) tb19 rfl rfl (uQ HT_.out (by kernel_rfl)) (fun _ _ _ h => h) (Or.inr ⟨by rfl, rfl⟩) ?_ ?_
      rotate_left
      · simp only [Act.put, vO, vP, vQ, uC, uD]
        rfl
      refine uA (i := 20) (N := some 61) (v := ?_) (a' := ?_) tb20 rfl rfl (uQ HT_.out (by kernel_rfl)) (fun _ _ _ h => h) (Or.inl ⟨by rfl, ?_⟩) ?_ ?_
      rotate_left
      · intro w'
        go_simp
        with_reducible rfl
      rotate_left
      · simp only [Act.put, vO, vP, vQ, uC, uD]
        rfl
      refine done_ (done_of HT_.out (by kernel_rfl)) ?_
      try go_wp2
      go_meet
      case rel => exact ⟨_, (true), q43, H', ⟨by first | omega | exact Nat.le_refl _⟩, ⟨q112⟩, ⟨q113⟩, ⟨Kd.Q_of_R (rSR HO367.out)⟩, ⟨q114⟩, ⟨Kd.Q_of_R (rSR HO378.out)⟩, ⟨q115⟩, ⟨q97⟩, ⟨q98⟩, ⟨q99⟩, ⟨q100⟩, ⟨q101⟩, ⟨q102⟩, ⟨q1⟩⟩
    subst c53
    try rw [if_pos rfl] at H
    replace H := Option.bind_eq_some_iff.mp H
    obtain ⟨t388, A540, H⟩ := H
    try dsimp only at H
    have A54 := Aside0.mk A540
    clear A540
    replace H := Option.bind_eq_some_iff.mp H
    obtain ⟨t389, A550, H⟩ := H
    try dsimp only at H
    have A55 := Aside0.mk A550
    clear A550
    have H' := Aside0.mk H
    clear H
    try go_wp2
    have n0_ : Aside0 (Kd.Q (Kd.int .i64) 3 ((((w32.setCell ⟨gb385, 0, none⟩ (.slice Ao33 t376.length co33)).setCell ⟨gb385, 1, none⟩ (.slice Ao40 t379.length co40)).setCell ⟨gb386, 0, none⟩ (.bool t382)).setCell ⟨gb386, 1, none⟩ (.int .i64 t383)) w.heap.size (fun k_ => some k_ ≠ (.slice Ao19 t365.length co19 : Value).ownBlock ∧ some k_ ≠ (.slice Ao33 t376.length co33 : Value).ownBlock) (.slice Ao11 t351.length co11) t351) := ⟨q18⟩
    have n1_ : Aside0 (Kd.R k49 49 ((((w32.setCell ⟨gb385, 0, none⟩ (.slice Ao33 t376.length co33)).setCell ⟨gb385, 1, none⟩ (.slice Ao40 t379.length co40)).setCell ⟨gb386, 0, none⟩ (.bool t382)).setCell ⟨gb386, 1, none⟩ (.int .i64 t383)) w.heap.size (fun k_ => some k_ ≠ (.slice Ao24 t368.length co24 : Value).ownBlock ∧ some k_ ≠ (.slice Ao40 t379.length co40 : Value).ownBlock) (.slice Ao14 t354.length co14) t354) := ⟨q19⟩
    have n2_ : Aside0 (Kd.R (Kd.int .i64) 3 ((((w32.setCell ⟨gb385, 0, none⟩ (.slice Ao33 t376.length co33)).setCell ⟨gb385, 1, none⟩ (.slice Ao40 t379.length co40)).setCell ⟨gb386, 0, none⟩ (.bool t382)).setCell ⟨gb386, 1, none⟩ (.int .i64 t383)) w.heap.size (fun k_ => some k_ ≠ (.slice Ao11 t351.length co11 : Value).ownBlock ∧ some k_ ≠ (.slice Ao33 t376.length co33 : Value).ownBlock) (.slice Ao19 t365.length co19) t365) := ⟨q20⟩
    have n3_ : Aside0 (Kd.R k49 49 ((((w32.setCell ⟨gb385, 0, none⟩ (.slice Ao33 t376.length co33)).setCell ⟨gb385, 1, none⟩ (.slice Ao40 t379.length co40)).setCell ⟨gb386, 0, none⟩ (.bool t382)).setCell ⟨gb386, 1, none⟩ (.int .i64 t383)) w.heap.size (fun k_ => some k_ ≠ (.slice Ao14 t354.length co14 : Value).ownBlock ∧ some k_ ≠ (.slice Ao40 t379.length co40 : Value).ownBlock) (.slice Ao24 t368.length co24) t368) := ⟨q21⟩
    have n4_ : Aside0 (Kd.R (Kd.int .i64) 3 ((((w32.setCell ⟨gb385, 0, none⟩ (.slice Ao33 t376.length co33)).setCell ⟨gb385, 1, none⟩ (.slice Ao40 t379.length co40)).setCell ⟨gb386, 0, none⟩ (.bool t382)).setCell ⟨gb386, 1, none⟩ (.int .i64 t383)) w.heap.size (fun k_ => some k_ ≠ (.slice Ao11 t351.length co11 : Value).ownBlock ∧ some k_ ≠ (.slice Ao19 t365.length co19 : Value).ownBlock) (.slice Ao33 t376.length co33) t376) := ⟨q22⟩
    have n5_ : Aside0 (Kd.R k49 49 ((((w32.setCell ⟨gb385, 0, none⟩ (.slice Ao33 t376.length co33)).setCell ⟨gb385, 1, none⟩ (.slice Ao40 t379.length co40)).setCell ⟨gb386, 0, none⟩ (.bool t382)).setCell ⟨gb386, 1, none⟩ (.int .i64 t383)) w.heap.size (fun k_ => some k_ ≠ (.slice Ao14 t354.length co14 : Value).ownBlock ∧ some k_ ≠ (.slice Ao24 t368.length co24 : Value).ownBlock) (.slice Ao40 t379.length co40) t379) := ⟨q23⟩
    have n6_ : Aside0 (((((w32.setCell ⟨gb385, 0, none⟩ (.slice Ao33 t376.length co33)).setCell ⟨gb385, 1, none⟩ (.slice Ao40 t379.length co40)).setCell ⟨gb386, 0, none⟩ (.bool t382)).setCell ⟨gb386, 1, none⟩ (.int .i64 t383)).heap[gb363]? = some (.cells #[.slice Ao11 t351.length co11, .slice Ao14 t354.length co14] 31 (0, 0))) := ⟨q10⟩
    have n7_ : Aside0 (((((w32.setCell ⟨gb385, 0, none⟩ (.slice Ao33 t376.length co33)).setCell ⟨gb385, 1, none⟩ (.slice Ao40 t379.length co40)).setCell ⟨gb386, 0, none⟩ (.bool t382)).setCell ⟨gb386, 1, none⟩ (.int .i64 t383)).heap[gb364]? = some (.cells #[.int .i64 t357, .int .i64 t358, .int .i64 t359, .int .i64 t360, .int .i64 t361, .int .i64 t362] 37 (0, 0))) := ⟨q11⟩
    have n8_ : Aside0 (((((w32.setCell ⟨gb385, 0, none⟩ (.slice Ao33 t376.length co33)).setCell ⟨gb385, 1, none⟩ (.slice Ao40 t379.length co40)).setCell ⟨gb386, 0, none⟩ (.bool t382)).setCell ⟨gb386, 1, none⟩ (.int .i64 t383)).heap[gb374]? = some (.cells #[.slice Ao19 t365.length co19, .slice Ao24 t368.length co24] 31 (0, 0))) := ⟨q12⟩
    have n9_ : Aside0 (((((w32.setCell ⟨gb385, 0, none⟩ (.slice Ao33 t376.length co33)).setCell ⟨gb385, 1, none⟩ (.slice Ao40 t379.length co40)).setCell ⟨gb386, 0, none⟩ (.bool t382)).setCell ⟨gb386, 1, none⟩ (.int .i64 t383)).heap[gb375]? = some (.cells #[.bool t371, .int .i64 t372] 33 (0, 0))) := ⟨q13⟩
    have n10_ : Aside0 (((((w32.setCell ⟨gb385, 0, none⟩ (.slice Ao33 t376.length co33)).setCell ⟨gb385, 1, none⟩ (.slice Ao40 t379.length co40)).setCell ⟨gb386, 0, none⟩ (.bool t382)).setCell ⟨gb386, 1, none⟩ (.int .i64 t383)).heap[gb385]? = some (.cells #[.slice Ao33 t376.length co33, .slice Ao40 t379.length co40] 31 (0, 0))) := ⟨q7⟩
    have n11_ : Aside0 (((((w32.setCell ⟨gb385, 0, none⟩ (.slice Ao33 t376.length co33)).setCell ⟨gb385, 1, none⟩ (.slice Ao40 t379.length co40)).setCell ⟨gb386, 0, none⟩ (.bool t382)).setCell ⟨gb386, 1, none⟩ (.int .i64 t383)).heap[gb386]? = some (.cells #[.bool t382, .int .i64 t383] 33 (0, 0))) := ⟨q9⟩
    have n12_ : Aside0 (Below w.heap.size w ((((w32.setCell ⟨gb385, 0, none⟩ (.slice Ao33 t376.length co33)).setCell ⟨gb385, 1, none⟩ (.slice Ao40 t379.length co40)).setCell ⟨gb386, 0, none⟩ (.bool t382)).setCell ⟨gb386, 1, none⟩ (.int .i64 t383))) := ⟨q1⟩
    (try clear HO353)
    (try clear HO356)
    (try clear HO367)
    (try clear HO370)
    (try clear HO378)
    (try clear HO381)
    (try clear BK363)
    (try clear BK364)
    (try clear BK374)
    (try clear BK375)
    (try clear BK385)
    (try clear BK386)
    (try clear HB)
    generalize ((((w32.setCell ⟨gb385, 0, none⟩ (.slice Ao33 t376.length co33)).setCell ⟨gb385, 1, none⟩ (.slice Ao40 t379.length co40)).setCell ⟨gb386, 0, none⟩ (.bool t382)).setCell ⟨gb386, 1, none⟩ (.int .i64 t383)) = w56 at n0_ n1_ n2_ n3_ n4_ n5_ n6_ n7_ n8_ n9_ n10_ n11_ n12_ ⊢
    have HO353 := n0_
    have HO356 := n1_
    have HO367 := n2_
    have HO370 := n3_
    have HO378 := n4_
    have HO381 := n5_
    have BK363 := n6_
    have BK364 := n7_
    have BK374 := n8_
    have BK375 := n9_
    have BK385 := n10_
    have BK386 := n11_
    have HB := n12_
    clear n0_ n1_ n2_ n3_ n4_ n5_ n6_ n7_ n8_ n9_ n10_ n11_ n12_
    replace HO353 := Aside0.mk (Kd.Q_drew HO353.out)
    replace HO356 := Aside0.mk (Kd.uR HO356.out)
    replace HO367 := Aside0.mk (Kd.uR HO367.out)
    replace HO370 := Aside0.mk (Kd.uR HO370.out)
    replace HO378 := Aside0.mk (Kd.uR HO378.out)
    replace HO381 := Aside0.mk (Kd.uR HO381.out)
    replace BK363 := Aside0.mk (uB BK363.out)
    replace BK364 := Aside0.mk (uB BK364.out)
    replace BK374 := Aside0.mk (uB BK374.out)
    replace BK375 := Aside0.mk (uB BK375.out)
    replace BK385 := Aside0.mk (uB BK385.out)
    replace BK386 := Aside0.mk (uB BK386.out)
    replace HB := Aside0.mk (vD HB.out)
    refine start_ (n := 21) (S := fun w' => w'.cell? ⟨gb375, 0, none⟩ = some (.bool t371) ∧ w'.cell? ⟨gb375, 1, none⟩ = some (.int .i64 t372) ∧ w'.cell? ⟨gb386, 0, none⟩ = some (.bool t382) ∧ w'.cell? ⟨gb386, 1, none⟩ = some (.int .i64 t383) ∧ w'.cell? ⟨gb374, 0, none⟩ = some (.slice Ao19 t365.length co19) ∧ w'.cell? ⟨gb374, 1, none⟩ = some (.slice Ao24 t368.length co24) ∧ w'.cell? ⟨gb385, 0, none⟩ = some (.slice Ao33 t376.length co33) ∧ w'.cell? ⟨gb385, 1, none⟩ = some (.slice Ao40 t379.length co40) ∧ w'.cell? ⟨gb363, 0, none⟩ = some (.slice Ao11 t351.length co11) ∧ w'.cell? ⟨gb363, 1, none⟩ = some (.slice Ao14 t354.length co14)) (ds := []) tb0 (by kernel_rfl) rfl rfl ⟨(uG BK375.out 0).trans rfl, (uG BK375.out 1).trans rfl, (uG BK386.out 0).trans rfl, (uG BK386.out 1).trans rfl, (uG BK374.out 0).trans rfl, (uG BK374.out 1).trans rfl, (uG BK385.out 0).trans rfl, (uG BK385.out 1).trans rfl, (uG BK363.out 0).trans rfl, (uG BK363.out 1).trans rfl⟩ (fun hHeld => ?_); refine with_tabW laws_FnMachine.tab6 laws_FnMachine.bits6 (fun HT_ HW_ => ?_)
    generalize w56.drew = w57 at HO353 HO356 HO367 HO370 HO378 HO381 BK363 BK364 BK374 BK375 BK385 BK386 HB hHeld ⊢
    refine uA (i := 0) (N := some 41) (v := ?_) (a' := ?_) tb1 rfl rfl (uQ HT_.out (by kernel_rfl)) (fun _ _ _ h => h) (Or.inl ⟨by rfl, ?_⟩) ?_ ?_
    rotate_left
    · intro w'
      go_simp
      with_reducible rfl
    rotate_left
    · simp only [Act.put, vO, vP, vQ, uC, uD]
      rfl
    refine uA (i := 1) (N := some 42) (v := ?_) (a' := ?_) tb2 rfl rfl (uQ HT_.out (by kernel_rfl)) (fun _ _ _ h => h) (Or.inl ⟨by rfl, ?_⟩) ?_ ?_
    rotate_left
    · intro w'
      go_simp
      with_reducible rfl
    rotate_left
    · simp only [Act.put, vO, vP, vQ, uC, uD]
      rfl
    refine uA (i := 2) (N := some 43) (v := ?_) (a' := ?_) tb3 rfl rfl (uQ HT_.out (by kernel_rfl)) (fun _ _ _ h => h) (Or.inl ⟨by rfl, ?_⟩) ?_ ?_
    rotate_left
    · intro w'
      go_simp
      with_reducible rfl
    rotate_left
    · simp only [Act.put, vO, vP, vQ, uC, uD]
      rfl
    refine uA (i := 3) (N := some 44) (v := ?_) (a' := ?_) tb4 rfl rfl (uQ HT_.out (by kernel_rfl)) (fun _ _ _ h => h) (Or.inl ⟨by rfl, ?_⟩) ?_ ?_
    rotate_left
    · intro w'
      go_simp
      with_reducible rfl
    rotate_left
    · simp only [Act.put, vO, vP, vQ, uC, uD]
      rfl
    refine take_ (i := 4) (N := some 45) (v := ?_) (a' := ?_) tb5 rfl rfl (take_ofW HT_.out HW_.out (by kernel_rfl)) (fun _ _ _ h => h) (Or.inl ⟨by rfl, ?_⟩) hHeld ?_ ?_
    rotate_left
    · rintro w' ⟨s0, s1, s2, s3, s4, s5, s6, s7, s8, s9⟩
      go_simp
      with_reducible rfl
    rotate_left
    · simp only [Act.put, vO, vP, vQ, uC, uD]
      rfl
    refine take_ (i := 5) (N := some 46) (v := ?_) (a' := ?_) tb6 rfl rfl (take_ofW HT_.out HW_.out (by kernel_rfl)) (fun _ _ _ h => h) (Or.inl ⟨by rfl, ?_⟩) hHeld ?_ ?_
    rotate_left
    · rintro w' ⟨s0, s1, s2, s3, s4, s5, s6, s7, s8, s9⟩
      go_simp
      with_reducible rfl
    rotate_left
    · simp only [Act.put, vO, vP, vQ, uC, uD]
      rfl
    refine uA (i := 6) (N := some 47) (v := ?_) (a' := ?_) tb7 rfl rfl (uQ HT_.out (by kernel_rfl)) (fun _ _ _ h => h) (Or.inl ⟨by rfl, ?_⟩) ?_ ?_
    rotate_left
    · intro w'
      go_simp
      with_reducible rfl
    rotate_left
    · simp only [Act.put, vO, vP, vQ, uC, uD]
      rfl
    refine uA (i := 7) (N := some 48) (v := ?_) (a' := ?_) tb8 rfl rfl (uQ HT_.out (by kernel_rfl)) (fun _ _ _ h => h) (Or.inl ⟨by rfl, ?_⟩) ?_ ?_
    rotate_left
    · intro w'
      go_simp
      with_reducible rfl
    rotate_left
    · simp only [Act.put, vO, vP, vQ, uC, uD]
      rfl
    refine uA (i := 8) (N := some 49) (v := ?_) (a' := ?_) tb9 rfl rfl (uQ HT_.out (by kernel_rfl)) (fun _ _ _ h => h) (Or.inl ⟨by rfl, ?_⟩) ?_ ?_
    rotate_left
    · intro w'
      go_simp
      with_reducible rfl
    rotate_left
    · simp only [Act.put, vO, vP, vQ, uC, uD]
      rfl
    refine take_ (i := 9) (N := some 50) (v := ?_) (a' := ?_) tb10 rfl rfl (take_ofW HT_.out HW_.out (by kernel_rfl)) (fun _ _ _ h => h) (Or.inl ⟨by rfl, ?_⟩) hHeld ?_ ?_
    rotate_left
    · rintro w' ⟨s0, s1, s2, s3, s4, s5, s6, s7, s8, s9⟩
      go_simp
      with_reducible rfl
    rotate_left
    · simp only [Act.put, vO, vP, vQ, uC, uD]
      rfl
    refine take_ (i := 10) (N := some 51) (v := ?_) (a' := ?_) tb11 rfl rfl (take_ofW HT_.out HW_.out (by kernel_rfl)) (fun _ _ _ h => h) (Or.inl ⟨by rfl, ?_⟩) hHeld ?_ ?_
    rotate_left
    · rintro w' ⟨s0, s1, s2, s3, s4, s5, s6, s7, s8, s9⟩
      go_simp
      with_reducible rfl
    rotate_left
    · simp only [Act.put, vO, vP, vQ, uC, uD]
      rfl
    refine one_ (i := 11) (N := some 52) tb12 rfl rfl (one_of HT_.out (by kernel_rfl)) (by decide) (fun K hK => ?_)
    refine goes_ Try.func19 (by kernel_rfl) rfl #[.agg #[.slice Ao19 t365.length co19, .slice Ao24 t368.length co24], .agg #[.slice Ao33 t376.length co33, .slice Ao40 t379.length co40]] (by rfl) rfl rfl q17 ?_
    with_reducible refine (impl_EqualMachines.calls k _ _ t365 _ _ t368 _ _ t376 _ _ t379 true _ ?side1 ?side2 ?side3 ?side4 ?side5 ?side6 ?side7 ?side8 A52.out).mono ?_
    (case side1 => repeat (first | exact (Kd.uP HO367.out).2.2 | (with_reducible refine Kd.vJ ?_ _) | (with_reducible refine Kd.vK ?_ _) | (with_reducible refine Kd.C_drew ?_)))
    (case side2 => exact (Kd.uP HO367.out).2.1)
    (case side3 => repeat (first | exact (Kd.uP HO370.out).2.2 | (with_reducible refine Kd.vJ ?_ _) | (with_reducible refine Kd.vK ?_ _) | (with_reducible refine Kd.C_drew ?_)))
    (case side4 => exact (Kd.uP HO370.out).2.1)
    (case side5 => repeat (first | exact (Kd.uP HO378.out).2.2 | (with_reducible refine Kd.vJ ?_ _) | (with_reducible refine Kd.vK ?_ _) | (with_reducible refine Kd.C_drew ?_)))
    (case side6 => exact (Kd.uP HO378.out).2.1)
    (case side7 => repeat (first | exact (Kd.uP HO381.out).2.2 | (with_reducible refine Kd.vJ ?_ _) | (with_reducible refine Kd.vK ?_ _) | (with_reducible refine Kd.C_drew ?_)))
    (case side8 => exact (Kd.uP HO381.out).2.1)
    rintro e w58 ⟨rfl, hb⟩
    refine ⟨_, rfl, ?_⟩
    replace HO353 := Kd.tQ HO353 hb
    replace HO356 := Kd.tR HO356 hb
    replace HO367 := Kd.tR HO367 hb
    replace HO370 := Kd.tR HO370 hb
    replace HO378 := Kd.tR HO378 hb
    replace HO381 := Kd.tR HO381 hb
    replace BK363 := uL BK363 hb
    replace BK364 := uL BK364 hb
    replace BK374 := uL BK374 hb
    replace BK375 := uL BK375 hb
    replace BK385 := uL BK385 hb
    replace BK386 := uL BK386 hb
    replace HB := tBel HB hb
    (try clear hb)
    (try clear hb2)
    (try clear hk)
    (try clear hi)
    refine hK.out _ _ ⟨(uG BK375.out 0).trans rfl, (uG BK375.out 1).trans rfl, (uG BK386.out 0).trans rfl, (uG BK386.out 1).trans rfl, (uG BK374.out 0).trans rfl, (uG BK374.out 1).trans rfl, (uG BK385.out 0).trans rfl, (uG BK385.out 1).trans rfl, (uG BK363.out 0).trans rfl, (uG BK363.out 1).trans rfl⟩ (fun hHeld => ?_)
    clear hK K
    refine uZ (a' := ?_) ?_ ?_
    rotate_left
    · show Act.put _ (some 52) _ = _
      simp only [Act.put, vO, vP, vQ, uC, uD]
      rfl
    refine uA (i := 12) (N := some 53) (v := ?_) (a' := ?_) tb13 rfl rfl (uQ HT_.out (by kernel_rfl)) (fun _ _ _ h => h) (Or.inl ⟨by rfl, ?_⟩) ?_ ?_
    rotate_left
    · intro w'
      go_simp
      with_reducible rfl
    rotate_left
    · simp only [Act.put, vO, vP, vQ, uC, uD]
      rfl
    refine uA (i := 13) (N := some 54) (v := ?_) (a' := ?_) tb14 rfl rfl (uQ HT_.out (by kernel_rfl)) (fun _ _ _ h => h) (Or.inl ⟨by rfl, ?_⟩) ?_ ?_
    rotate_left
    · intro w'
      go_simp
      with_reducible rfl
    rotate_left
    · simp only [Act.put, vO, vP, vQ, uC, uD]
      rfl
    refine uA (i := 14) (N := some 55) (v := ?_) (a' := ?_) tb15 rfl rfl (uQ HT_.out (by kernel_rfl)) (fun _ _ _ h => h) (Or.inl ⟨by rfl, ?_⟩) ?_ ?_
    rotate_left
    · intro w'
      go_simp
      with_reducible rfl
    rotate_left
    · simp only [Act.put, vO, vP, vQ, uC, uD]
      rfl
    refine take_ (i := 15) (N := some 56) (v := ?_) (a' := ?_) tb16 rfl rfl (take_ofW HT_.out HW_.out (by kernel_rfl)) (fun _ _ _ h => h) (Or.inl ⟨by rfl, ?_⟩) hHeld ?_ ?_
    rotate_left
    · rintro w' ⟨s0, s1, s2, s3, s4, s5, s6, s7, s8, s9⟩
      go_simp
      with_reducible rfl
    rotate_left
    · simp only [Act.put, vO, vP, vQ, uC, uD]
      rfl
    refine take_ (i := 17) (N := some 58) (v := ?_) (a' := ?_) #[true, true, true, true, true, true, true, true, true, true, true, true, true, true, true, true, false, true, false, false, false] rfl rfl (take_ofW HT_.out HW_.out (by kernel_rfl)) (fun _ _ _ h => h) (Or.inl ⟨by rfl, ?_⟩) hHeld ?_ ?_
    rotate_left
    · rintro w' ⟨s0, s1, s2, s3, s4, s5, s6, s7, s8, s9⟩
      go_simp
      with_reducible rfl
    rotate_left
    · simp only [Act.put, vO, vP, vQ, uC, uD]
      rfl
    refine one_ (i := 16) (N := some 57) tb17 rfl rfl (one_of HT_.out (by kernel_rfl)) (by decide) (fun K hK => ?_)
    refine goes_ Try.func20 (by kernel_rfl) rfl #[.agg #[.slice Ao11 t351.length co11, .slice Ao14 t354.length co14]] (by rfl) rfl rfl q17 ?_
    with_reducible refine (impl_IsValidMachine.calls k _ _ t351 _ _ t354 t388 _ ?side1 ?side2 ?side3 ?side4 A54.out).mono ?_
    (case side1 => repeat (first | exact (Kd.Q_reads' HO353.out).2.2 | (with_reducible refine Kd.vJ ?_ _) | (with_reducible refine Kd.vK ?_ _) | (with_reducible refine Kd.C_drew ?_)))
    (case side2 => exact (Kd.Q_reads' HO353.out).2.1)
    (case side3 => repeat (first | exact (Kd.uP HO356.out).2.2 | (with_reducible refine Kd.vJ ?_ _) | (with_reducible refine Kd.vK ?_ _) | (with_reducible refine Kd.C_drew ?_)))
    (case side4 => exact (Kd.uP HO356.out).2.1)
    rintro e w59 ⟨rfl, hb⟩
    refine ⟨_, rfl, ?_⟩
    replace HO353 := Kd.tQ HO353 hb
    replace HO356 := Kd.tR HO356 hb
    replace HO367 := Kd.tR HO367 hb
    replace HO370 := Kd.tR HO370 hb
    replace HO378 := Kd.tR HO378 hb
    replace HO381 := Kd.tR HO381 hb
    replace BK363 := uL BK363 hb
    replace BK364 := uL BK364 hb
    replace BK374 := uL BK374 hb
    replace BK375 := uL BK375 hb
    replace BK385 := uL BK385 hb
    replace BK386 := uL BK386 hb
    replace HB := tBel HB hb
    (try clear hb)
    (try clear hb2)
    (try clear hk)
    (try clear hi)
    refine hK.out _ _ ⟨(uG BK375.out 0).trans rfl, (uG BK375.out 1).trans rfl, (uG BK386.out 0).trans rfl, (uG BK386.out 1).trans rfl, (uG BK374.out 0).trans rfl, (uG BK374.out 1).trans rfl, (uG BK385.out 0).trans rfl, (uG BK385.out 1).trans rfl, (uG BK363.out 0).trans rfl, (uG BK363.out 1).trans rfl⟩ (fun hHeld => ?_)
    clear hK K
    refine uZ (a' := ?_) ?_ ?_
    rotate_left
    · show Act.put _ (some 57) _ = _
      simp only [Act.put, vO, vP, vQ, uC, uD]
      rfl
    refine one_ (i := 18) (N := some 59) tb18 rfl rfl (one_of HT_.out (by kernel_rfl)) (by decide) (fun K hK => ?_)
    refine goes_ Try.func21 (by kernel_rfl) rfl #[.agg #[.slice Ao11 t351.length co11, .slice Ao14 t354.length co14]] (by rfl) rfl rfl q17 ?_
    with_reducible refine (spec_IsValidMachine.calls k _ _ t351 _ _ t354 t389 _ ?side1 ?side2 ?side3 ?side4 A55.out).mono ?_
    (case side1 => repeat (first | exact (Kd.Q_reads' HO353.out).2.2 | (with_reducible refine Kd.vJ ?_ _) | (with_reducible refine Kd.vK ?_ _) | (with_reducible refine Kd.C_drew ?_)))
    (case side2 => exact (Kd.Q_reads' HO353.out).2.1)
    (case side3 => repeat (first | exact (Kd.uP HO356.out).2.2 | (with_reducible refine Kd.vJ ?_ _) | (with_reducible refine Kd.vK ?_ _) | (with_reducible refine Kd.C_drew ?_)))
    (case side4 => exact (Kd.uP HO356.out).2.1)
    rintro e w60 ⟨rfl, hb⟩
    refine ⟨_, rfl, ?_⟩
    replace HO353 := Kd.tQ HO353 hb
    replace HO356 := Kd.tR HO356 hb
    replace HO367 := Kd.tR HO367 hb
    replace HO370 := Kd.tR HO370 hb
    replace HO378 := Kd.tR HO378 hb
    replace HO381 := Kd.tR HO381 hb
    replace BK363 := uL BK363 hb
    replace BK364 := uL BK364 hb
    replace BK374 := uL BK374 hb
    replace BK375 := uL BK375 hb
    replace BK385 := uL BK385 hb
    replace BK386 := uL BK386 hb
    replace HB := tBel HB hb
    (try clear hb)
    (try clear hb2)
    (try clear hk)
    (try clear hi)
    refine hK.out _ _ ⟨(uG BK375.out 0).trans rfl, (uG BK375.out 1).trans rfl, (uG BK386.out 0).trans rfl, (uG BK386.out 1).trans rfl, (uG BK374.out 0).trans rfl, (uG BK374.out 1).trans rfl, (uG BK385.out 0).trans rfl, (uG BK385.out 1).trans rfl, (uG BK363.out 0).trans rfl, (uG BK363.out 1).trans rfl⟩ (fun hHeld => ?_)
    clear hK K
    refine uZ (a' := ?_) ?_ ?_
    rotate_left
    · show Act.put _ (some 59) _ = _
      simp only [Act.put, vO, vP, vQ, uC, uD]
      rfl
    refine uA (i := 19) (N := some 60) (v := ?_) (a' := ?_) tb19 rfl rfl (uQ HT_.out (by kernel_rfl)) (fun _ _ _ h => h) (Or.inl ⟨by rfl, ?_⟩) ?_ ?_
    rotate_left
    · intro w'
      go_simp
      with_reducible rfl
    rotate_left
    · simp only [Act.put, vO, vP, vQ, uC, uD]
      rfl
    refine uA (i := 20) (N := some 61) (v := ?_) (a' := ?_) tb20 rfl rfl (uQ HT_.out (by kernel_rfl)) (fun _ _ _ h => h) (Or.inl ⟨by rfl, ?_⟩) ?_ ?_
    rotate_left
    · intro w'
      go_simp
      with_reducible rfl
    rotate_left
    · simp only [Act.put, vO, vP, vQ, uC, uD]
      rfl
    refine done_ (done_of HT_.out (by kernel_rfl)) ?_
    try go_wp2
    go_meet
    case rel => exact ⟨_, ((t388 != t389)), q43, H', ⟨by first | omega | exact Nat.le_refl _⟩, ⟨q112⟩, ⟨q113⟩, ⟨Kd.Q_of_R (rSR HO367.out)⟩, ⟨q114⟩, ⟨Kd.Q_of_R (rSR HO378.out)⟩, ⟨q115⟩, ⟨q97⟩, ⟨q98⟩, ⟨q99⟩, ⟨q100⟩, ⟨q101⟩, ⟨q102⟩, ⟨q1⟩⟩
  case rest =>
    clear HC7
    try clear c1
    try clear c2
    try clear p2
    try clear c5
    try clear c19
    try clear c20
    try clear c21
    try clear c53
    obtain ⟨kq, x61_6, rfl, HA, HJ6, HO_364000, HO_364001, HO_375000, HO_375001, HO_386000, HO_386001, BK363, BK364, BK374, BK375, BK385, BK386, HB⟩ := hcut
    cases kq with
    | zero => exact absurd HA.out (by simp [laws_FnMachine.j0])
    | succ kj6 =>
      have H := HA.out
      clear HA
      simp only [laws_FnMachine.j0] at H
      by_cases c64 : x61_6 = true
      · subst c64
        try rw [if_pos rfl] at H
        exact absurd H (by simp)
      replace c64 := Bool.eq_false_iff.mpr c64
      subst c64
      try rw [if_neg (show ¬ (false = true) by decide)] at H
      by_cases c65 : t373 = true
      rotate_left
      · replace c65 := Bool.eq_false_iff.mpr c65
        subst c65
        try rw [if_neg (show ¬ (false = true) by decide)] at H
        replace H := Option.bind_eq_some_iff.mp H
        obtain ⟨t390, A1450, H⟩ := H
        try dsimp only at H
        have A145 := Aside0.mk A1450
        clear A1450
        have hX_ := Option.some.inj H
        have hnb146 := NB374_363.out
        have hnc146 := NB363_374.out
        have hnb147 := NB374_364.out
        have hnc147 := NB364_374.out
        have hnb148 := NB374_375.out
        have hnc148 := NB375_374.out
        have hnb149 := NB374_385.out
        have hnc149 := NB385_374.out
        have hnb150 := NB374_386.out
        have hnc150 := NB386_374.out
        obtain ⟨hcz151_0, hcz151_1, hfz151_0, hfz151_1⟩ := cz2 BK374
        have hnb152 := NB363_364.out
        have hnc152 := NB364_363.out
        have hnb153 := NB363_375.out
        have hnc153 := NB375_363.out
        have hnb154 := NB363_385.out
        have hnc154 := NB385_363.out
        have hnb155 := NB363_386.out
        have hnc155 := NB386_363.out
        obtain ⟨hcz156_0, hcz156_1, hfz156_0, hfz156_1⟩ := cz2 BK363
        go_wp2_with (first | ((with_reducible refine uH (f := 19) rfl ?_); refine vC (some 66) Try.func19 #[.agg #[.slice Ao19 t365.length co19, .slice Ao24 t368.length co24], .agg #[.slice Ao11 t351.length co11, .slice Ao14 t354.length co14]] ?_; (with_reducible refine (impl_EqualMachines.calls kj6 _ _ t365 _ _ t368 _ _ t351 _ _ t354 t390 _ ?side1 ?side2 ?side3 ?side4 ?side5 ?side6 ?side7 ?side8 A145.out).mono ?_); (case side1 => exact q72); (case side2 => exact (Kd.Q_reads' HO_375000.out).2.1); (case side3 => exact q73); (case side4 => exact (Kd.uP HO_375001.out).2.1); (case side5 => repeat (first | exact (Kd.Q_reads' HO_364000.out).2.2 | (with_reducible refine Kd.vJ ?_ _) | (with_reducible refine Kd.vK ?_ _) | (with_reducible refine Kd.C_drew ?_))); (case side6 => exact (Kd.Q_reads' HO_364000.out).2.1); (case side7 => repeat (first | exact (Kd.uP HO_364001.out).2.2 | (with_reducible refine Kd.vJ ?_ _) | (with_reducible refine Kd.vK ?_ _) | (with_reducible refine Kd.C_drew ?_))); (case side8 => exact (Kd.uP HO_364001.out).2.1); rintro e w157 ⟨rfl, hb⟩; refine ⟨_, rfl, ?_⟩; replace HO_364000 := Kd.tQ HO_364000 hb; replace HO_364001 := Kd.tR HO_364001 hb; replace HO_375000 := Kd.tQ HO_375000 hb; replace HO_375001 := Kd.tR HO_375001 hb; replace HO_386000 := Kd.tQ HO_386000 hb; replace HO_386001 := Kd.tR HO_386001 hb; replace BK363 := uL BK363 hb; replace BK364 := uL BK364 hb; replace BK374 := uL BK374 hb; replace BK375 := uL BK375 hb; replace BK385 := uL BK385 hb; replace BK386 := uL BK386 hb; replace HB := tBel HB hb; (try clear hb); (try clear hb2); (try clear hk); (try clear hi)))
        go_ret
        exact ⟨q5, q1⟩
      subst c65
      try rw [if_pos rfl] at H
      replace H := Option.bind_eq_some_iff.mp H
      obtain ⟨⟨t391, t394, t397, t398, t399⟩, A660, H⟩ := H
      try dsimp only at H
      have A66 := Aside0.mk A660
      clear A660
      replace H := Option.bind_eq_some_iff.mp H
      obtain ⟨⟨t402, t403, t404, t405, t406⟩, A670, H⟩ := H
      try dsimp only at H
      have A67 := Aside0.mk A670
      clear A670
      replace H := Option.bind_eq_some_iff.mp H
      obtain ⟨⟨t408, t409⟩, A680, H⟩ := H
      try dsimp only at H
      have A68 := Aside0.mk A680
      clear A680
      replace H := Option.bind_eq_some_iff.mp H
      obtain ⟨⟨t410, t411⟩, A690, H⟩ := H
      try dsimp only at H
      have A69 := Aside0.mk A690
      clear A690
      by_cases c70 : t399 = true
      rotate_left
      · replace c70 := Bool.eq_false_iff.mpr c70
        subst c70
        try rw [if_neg (show ¬ (false = true) by decide)] at H
        exact absurd H (by simp)
      subst c70
      try rw [if_pos rfl] at H
      by_cases c71 : (t397 == t371 && (t398 == t372)) = true
      rotate_left
      · rw [if_neg c71] at H
        have c71b0 : (t397 == t371 && (t398 == t372)) = false := by simpa using c71
        (try (have c71b1 : decide (t397 = t371 && (t398 == t372)) = false := by simpa using c71))
        (try (have c71b2 : (t397 == t371 && (t398 == t372)) = false := by simpa using c71))
        (try (have c71b3 : ¬ (t397 = t371 && (t398 == t372)) := by simpa using c71))
        clear c71
        exact absurd H (by simp)
      rw [if_pos c71] at H
      have c71b0 : (t397 == t371 && (t398 == t372)) = true := c71
      (try (have c71b1 : decide (t397 = t371 && (t398 == t372)) = true := by simpa using c71))
      (try (have c71b2 : (t397 == t371 && (t398 == t372)) = true := by simpa using c71))
      clear c71
      replace H := Option.bind_eq_some_iff.mp H
      obtain ⟨t412, A720, H⟩ := H
      try dsimp only at H
      have A72 := Aside0.mk A720
      clear A720
      by_cases c73 : t412 = true
      rotate_left
      · replace c73 := Bool.eq_false_iff.mpr c73
        subst c73
        try rw [if_neg (show ¬ (false = true) by decide)] at H
        exact absurd H (by simp)
      subst c73
      try rw [if_pos rfl] at H
      by_cases c74 : t406 = true
      rotate_left
      · replace c74 := Bool.eq_false_iff.mpr c74
        subst c74
        try rw [if_neg (show ¬ (false = true) by decide)] at H
        exact absurd H (by simp)
      subst c74
      try rw [if_pos rfl] at H
      by_cases c75 : t403 = t358
      rotate_left
      · rw [if_neg c75] at H
        have c75b0 : (t403 == t358) = false := beq_eq_false_iff_ne.mpr c75
        have c75b1 : (t403 != t358) = true := bne_iff_ne.mpr c75
        exact absurd H (by simp)
      rw [if_pos c75] at H
      have c75b0 : (t403 == t358) = true := beq_iff_eq.mpr c75
      have c75b1 : (t403 != t358) = false := bne_eq_false_iff_eq.mpr c75
      clear c75
      by_cases c76 : (t404 == t371 && (t405 == t372)) = true
      rotate_left
      · rw [if_neg c76] at H
        have c76b0 : (t404 == t371 && (t405 == t372)) = false := by simpa using c76
        (try (have c76b1 : decide (t404 = t371 && (t405 == t372)) = false := by simpa using c76))
        (try (have c76b2 : (t404 == t371 && (t405 == t372)) = false := by simpa using c76))
        (try (have c76b3 : ¬ (t404 = t371 && (t405 == t372)) := by simpa using c76))
        clear c76
        exact absurd H (by simp)
      rw [if_pos c76] at H
      have c76b0 : (t404 == t371 && (t405 == t372)) = true := c76
      (try (have c76b1 : decide (t404 = t371 && (t405 == t372)) = true := by simpa using c76))
      (try (have c76b2 : (t404 == t371 && (t405 == t372)) = true := by simpa using c76))
      clear c76
      by_cases c77 : t409 = true
      rotate_left
      · replace c77 := Bool.eq_false_iff.mpr c77
        subst c77
        try rw [if_neg (show ¬ (false = true) by decide)] at H
        exact absurd H (by simp)
      subst c77
      try rw [if_pos rfl] at H
      by_cases c78 : t408 = t410
      rotate_left
      · rw [if_neg c78] at H
        have c78b0 : (t408 == t410) = false := beq_eq_false_iff_ne.mpr c78
        have c78b1 : (t408 != t410) = true := bne_iff_ne.mpr c78
        exact absurd H (by simp)
      rw [if_pos c78] at H
      have c78b0 : (t408 == t410) = true := beq_iff_eq.mpr c78
      have c78b1 : (t408 != t410) = false := bne_eq_false_iff_eq.mpr c78
      clear c78
      replace H := Option.bind_eq_some_iff.mp H
      obtain ⟨t413, A790, H⟩ := H
      try dsimp only at H
      have A79 := Aside0.mk A790
      clear A790
      have hX_ := Option.some.inj H
      have hnb80 := NB374_363.out
      have hnc80 := NB363_374.out
      have hnb81 := NB374_364.out
      have hnc81 := NB364_374.out
      have hnb82 := NB374_375.out
      have hnc82 := NB375_374.out
      have hnb83 := NB374_385.out
      have hnc83 := NB385_374.out
      have hnb84 := NB374_386.out
      have hnc84 := NB386_374.out
      obtain ⟨hcz85_0, hcz85_1, hfz85_0, hfz85_1⟩ := cz2 BK374
      have hnb86 := NB364_363.out
      have hnc86 := NB363_364.out
      have hnb87 := NB364_375.out
      have hnc87 := NB375_364.out
      have hnb88 := NB364_385.out
      have hnc88 := NB385_364.out
      have hnb89 := NB364_386.out
      have hnc89 := NB386_364.out
      obtain ⟨hcz90_0, hcz90_1, hcz90_2, hcz90_3, hcz90_4, hcz90_5, hfz90_0, hfz90_1, hfz90_2, hfz90_3, hfz90_4, hfz90_5⟩ := cz6 BK364
      go_wp2_with (first | ((with_reducible refine uH (f := 12) rfl ?_); refine vC (some 70) Try.func12 #[.agg #[.slice Ao19 t365.length co19, .slice Ao24 t368.length co24], .agg #[.int .i64 t357, .int .i64 t358, .int .i64 t359, .int .i64 t360, .int .i64 t361, .int .i64 t362]] ?_; (with_reducible refine (impl_ApplyOp.calls kj6 _ _ t365 _ _ t368 t357 t358 t359 t360 t361 t362 t391 t394 t397 t398 true _ ?side1 ?side2 ?side3 ?side4 A66.out).mono ?_); (case side1 => exact q72); (case side2 => exact (Kd.Q_reads' HO_375000.out).2.1); (case side3 => exact q73); (case side4 => exact (Kd.uP HO_375001.out).2.1); rintro e w91 ⟨v392, v395, rfl, ho0, ho1, hb⟩; refine ⟨_, rfl, ?_⟩; have HO393 := Aside0.mk (Kd.vG (Kd.R_new' (Kd.R_new' (Kd.R_new' ho0 (Kd.Q_lt (rSQ HO_364000.out))) (Kd.Q_lt (rSQ HO_375000.out))) (Kd.Q_lt (rSQ HO_386000.out))) (vL q1)); have HO396 := Aside0.mk (Kd.vG (Kd.R_new' (Kd.R_new' (Kd.R_new' ho1 (Kd.R_lt (rSR HO_364001.out))) (Kd.R_lt (rSR HO_375001.out))) (Kd.R_lt (rSR HO_386001.out))) (vL q1)); replace HO_364000 := Aside0.mk (Kd.Q_elder' (rSQ HO_364000.out) (Kd.R_base ho0) hb); replace HO_364001 := Aside0.mk (Kd.R_elder' (rSR HO_364001.out) (Kd.R_base ho1) hb); replace HO_375000 := Aside0.mk (Kd.Q_elder' (rSQ HO_375000.out) (Kd.R_base ho0) hb); replace HO_375001 := Aside0.mk (Kd.R_elder' (rSR HO_375001.out) (Kd.R_base ho1) hb); replace HO_386000 := Aside0.mk (Kd.Q_elder' (rSQ HO_386000.out) (Kd.R_base ho0) hb); replace HO_386001 := Aside0.mk (Kd.R_elder' (rSR HO_386001.out) (Kd.R_base ho1) hb); replace BK363 := uL BK363 hb; replace BK364 := uL BK364 hb; replace BK374 := uL BK374 hb; replace BK375 := uL BK375 hb; replace BK385 := uL BK385 hb; replace BK386 := uL BK386 hb; replace HB := tBel HB hb; (try clear hb); (try clear hb2); (try clear hk); (try clear hi); (try clear ho0); (try clear ho1)) | ((with_reducible refine uI (N := 11) rfl ?_); refine bxe 11 #[.slice none 0 0, .slice none 0 0] 31 ?_; intro gb400 hg w92 hbox hb; have BK400 := Aside0.mk (hbox); have GW400 := tGe HB hg; have GE400 := tGe HB hg; have NB363_400 := tNl BK363 hg; have NB400_363 := tNg BK363 hg; have NB364_400 := tNl BK364 hg; have NB400_364 := tNg BK364 hg; have NB374_400 := tNl BK374 hg; have NB400_374 := tNg BK374 hg; have NB375_400 := tNl BK375 hg; have NB400_375 := tNg BK375 hg; have NB385_400 := tNl BK385 hg; have NB400_385 := tNg BK385 hg; have NB386_400 := tNl BK386 hg; have NB400_386 := tNg BK386 hg; replace HO_364000 := Kd.tQ HO_364000 hb; replace HO_364001 := Kd.tR HO_364001 hb; replace HO_375000 := Kd.tQ HO_375000 hb; replace HO_375001 := Kd.tR HO_375001 hb; replace HO_386000 := Kd.tQ HO_386000 hb; replace HO_386001 := Kd.tR HO_386001 hb; replace HO393 := Kd.tR HO393 hb; replace HO396 := Kd.tR HO396 hb; replace BK363 := uL BK363 hb; replace BK364 := uL BK364 hb; replace BK374 := uL BK374 hb; replace BK375 := uL BK375 hb; replace BK385 := uL BK385 hb; replace BK386 := uL BK386 hb; replace HB := tBel HB hb; clear hb hbox hg) | ((with_reducible refine uI (N := 12) rfl ?_); refine bxe 12 #[.bool false, .int .i64 0] 33 ?_; intro gb401 hg w93 hbox hb; have BK401 := Aside0.mk (hbox); have GW401 := tGe HB hg; have GE401 := tGe HB hg; have NB363_401 := tNl BK363 hg; have NB401_363 := tNg BK363 hg; have NB364_401 := tNl BK364 hg; have NB401_364 := tNg BK364 hg; have NB374_401 := tNl BK374 hg; have NB401_374 := tNg BK374 hg; have NB375_401 := tNl BK375 hg; have NB401_375 := tNg BK375 hg; have NB385_401 := tNl BK385 hg; have NB401_385 := tNg BK385 hg; have NB386_401 := tNl BK386 hg; have NB401_386 := tNg BK386 hg; have NB400_401 := tNl BK400 hg; have NB401_400 := tNg BK400 hg; replace HO_364000 := Kd.tQ HO_364000 hb; replace HO_364001 := Kd.tR HO_364001 hb; replace HO_375000 := Kd.tQ HO_375000 hb; replace HO_375001 := Kd.tR HO_375001 hb; replace HO_386000 := Kd.tQ HO_386000 hb; replace HO_386001 := Kd.tR HO_386001 hb; replace HO393 := Kd.tR HO393 hb; replace HO396 := Kd.tR HO396 hb; replace BK363 := uL BK363 hb; replace BK364 := uL BK364 hb; replace BK374 := uL BK374 hb; replace BK375 := uL BK375 hb; replace BK385 := uL BK385 hb; replace BK386 := uL BK386 hb; replace BK400 := uL BK400 hb; replace HB := tBel HB hb; clear hb hbox hg; obtain ⟨Ao94, co94, eo94⟩ := Kd.uW HO393.out; subst eo94; have hnb95 := NB400_363.out; have hnc95 := NB363_400.out; have hnb96 := NB400_364.out; have hnc96 := NB364_400.out; have hnb97 := NB400_374.out; have hnc97 := NB374_400.out; have hnb98 := NB400_375.out; have hnc98 := NB375_400.out; have hnb99 := NB400_385.out; have hnc99 := NB385_400.out; have hnb100 := NB400_386.out; have hnc100 := NB386_400.out; have hnb101 := NB400_401.out; have hnc101 := NB401_400.out; obtain ⟨hcz102_0, hcz102_1, hfz102_0, hfz102_1⟩ := cz2 BK400; obtain ⟨Ao103, co103, eo103⟩ := Kd.uW HO396.out; subst eo103; have hnb104 := NB401_363.out; have hnc104 := NB363_401.out; have hnb105 := NB401_364.out; have hnc105 := NB364_401.out; have hnb106 := NB401_374.out; have hnc106 := NB374_401.out; have hnb107 := NB401_375.out; have hnc107 := NB375_401.out; have hnb108 := NB401_385.out; have hnc108 := NB385_401.out; have hnb109 := NB401_386.out; have hnc109 := NB386_401.out; obtain ⟨hcz110_0, hcz110_1, hfz110_0, hfz110_1⟩ := cz2 BK401; obtain ⟨hcz111_0, hcz111_1, hfz111_0, hfz111_1⟩ := cz2 BK374; obtain ⟨hcz112_0, hcz112_1, hcz112_2, hcz112_3, hcz112_4, hcz112_5, hfz112_0, hfz112_1, hfz112_2, hfz112_3, hfz112_4, hfz112_5⟩ := cz6 BK364) | ((with_reducible refine uH (f := 22) rfl ?_); refine vC (some 78) Try.func22 #[.agg #[.slice Ao19 t365.length co19, .slice Ao24 t368.length co24], .int .i64 t357] ?_; (with_reducible refine (impl_SessionOf.calls kj6 _ _ t365 _ _ t368 t357 t402 t403 t404 t405 true _ ?side1 ?side2 ?side3 ?side4 A67.out).mono ?_); (case side1 => refine (Kd.Q_reads' (e := 3) (base := w.heap.size) (ok := fun k_ => ((some k_ ≠ (.slice Ao11 t351.length co11 : Value).ownBlock ∧ some k_ ≠ (.slice Ao33 t376.length co33 : Value).ownBlock) ∧ some k_ ≠ (.slice Ao94 t391.length co94 : Value).ownBlock)) (n := t365.length) (c := co19) ?_).2.2; exact (by (with_reducible repeat (first | apply Kd.Q_alloc | apply Kd.Q_drewN | apply Kd.Q_drew)); exact (Kd.Q_mono (Kd.Q_mono (Kd.Q_far (p := ⟨gb401, 1, none⟩) (Kd.Q_far (p := ⟨gb401, 0, none⟩) (Kd.Q_far (p := ⟨gb400, 1, none⟩) (Kd.Q_far (p := ⟨gb400, 0, none⟩) (Kd.Q_types (Kd.Q_types HO_375000.out BK400.out (by decide)) BK401.out (by decide)) (fun _ hk => hk.1.2) (.slice Ao94 t391.length co94)) (fun _ hk => hk.1.2) (.slice Ao103 t394.length co103)) (fun _ hk => hk.2) (.bool t397)) (fun _ hk => hk.2) (.int .i64 t398)) (fun _ h_ => h_.1)) (fun _ h_ => h_.1)))); (case side2 => exact (Kd.Q_reads' HO_375000.out).2.1); (case side3 => refine (Kd.uP (e := 49) (base := w.heap.size) (ok := fun k_ => ((some k_ ≠ (.slice Ao14 t354.length co14 : Value).ownBlock ∧ some k_ ≠ (.slice Ao40 t379.length co40 : Value).ownBlock) ∧ some k_ ≠ (.slice Ao103 t394.length co103 : Value).ownBlock)) (n := t368.length) (c := co24) ?_).2.2; exact (by (with_reducible repeat (first | apply Kd.vA | apply Kd.vB | apply Kd.uR)); exact (Kd.uJ (Kd.uJ (Kd.uM (p := ⟨gb401, 1, none⟩) (Kd.uM (p := ⟨gb401, 0, none⟩) (Kd.uM (p := ⟨gb400, 1, none⟩) (Kd.uM (p := ⟨gb400, 0, none⟩) (Kd.uY (Kd.uY HO_375001.out BK400.out (by decide)) BK401.out (by decide)) (fun _ hk => hk.1.2) (.slice Ao94 t391.length co94)) (fun _ hk => hk.1.2) (.slice Ao103 t394.length co103)) (fun _ hk => hk.2) (.bool t397)) (fun _ hk => hk.2) (.int .i64 t398)) (fun _ h_ => h_.1)) (fun _ h_ => h_.1)))); (case side4 => exact (Kd.uP HO_375001.out).2.1); rintro e w113 ⟨rfl, hb⟩; refine ⟨_, rfl, ?_⟩; replace HO_364000 := Aside0.mk (Kd.Q_below (by (with_reducible repeat (first | apply Kd.Q_alloc | apply Kd.Q_drewN | apply Kd.Q_drew)); exact (Kd.Q_mono (Kd.Q_mono (Kd.Q_far (p := ⟨gb401, 1, none⟩) (Kd.Q_far (p := ⟨gb401, 0, none⟩) (Kd.Q_far (p := ⟨gb400, 1, none⟩) (Kd.Q_far (p := ⟨gb400, 0, none⟩) (Kd.Q_types (Kd.Q_types HO_364000.out BK400.out (by decide)) BK401.out (by decide)) (fun _ hk => hk.1.2) (.slice Ao94 t391.length co94)) (fun _ hk => hk.1.2) (.slice Ao103 t394.length co103)) (fun _ hk => hk.2) (.bool t397)) (fun _ hk => hk.2) (.int .i64 t398)) (fun _ h_ => h_.1)) (fun _ h_ => h_.1))) hb); replace HO_364001 := Aside0.mk (Kd.R_below (by (with_reducible repeat (first | apply Kd.vA | apply Kd.vB | apply Kd.uR)); exact (Kd.uJ (Kd.uJ (Kd.uM (p := ⟨gb401, 1, none⟩) (Kd.uM (p := ⟨gb401, 0, none⟩) (Kd.uM (p := ⟨gb400, 1, none⟩) (Kd.uM (p := ⟨gb400, 0, none⟩) (Kd.uY (Kd.uY HO_364001.out BK400.out (by decide)) BK401.out (by decide)) (fun _ hk => hk.1.2) (.slice Ao94 t391.length co94)) (fun _ hk => hk.1.2) (.slice Ao103 t394.length co103)) (fun _ hk => hk.2) (.bool t397)) (fun _ hk => hk.2) (.int .i64 t398)) (fun _ h_ => h_.1)) (fun _ h_ => h_.1))) hb); replace HO_375000 := Aside0.mk (Kd.Q_below (by (with_reducible repeat (first | apply Kd.Q_alloc | apply Kd.Q_drewN | apply Kd.Q_drew)); exact (Kd.Q_mono (Kd.Q_mono (Kd.Q_far (p := ⟨gb401, 1, none⟩) (Kd.Q_far (p := ⟨gb401, 0, none⟩) (Kd.Q_far (p := ⟨gb400, 1, none⟩) (Kd.Q_far (p := ⟨gb400, 0, none⟩) (Kd.Q_types (Kd.Q_types HO_375000.out BK400.out (by decide)) BK401.out (by decide)) (fun _ hk => hk.1.2) (.slice Ao94 t391.length co94)) (fun _ hk => hk.1.2) (.slice Ao103 t394.length co103)) (fun _ hk => hk.2) (.bool t397)) (fun _ hk => hk.2) (.int .i64 t398)) (fun _ h_ => h_.1)) (fun _ h_ => h_.1))) hb); replace HO_375001 := Aside0.mk (Kd.R_below (by (with_reducible repeat (first | apply Kd.vA | apply Kd.vB | apply Kd.uR)); exact (Kd.uJ (Kd.uJ (Kd.uM (p := ⟨gb401, 1, none⟩) (Kd.uM (p := ⟨gb401, 0, none⟩) (Kd.uM (p := ⟨gb400, 1, none⟩) (Kd.uM (p := ⟨gb400, 0, none⟩) (Kd.uY (Kd.uY HO_375001.out BK400.out (by decide)) BK401.out (by decide)) (fun _ hk => hk.1.2) (.slice Ao94 t391.length co94)) (fun _ hk => hk.1.2) (.slice Ao103 t394.length co103)) (fun _ hk => hk.2) (.bool t397)) (fun _ hk => hk.2) (.int .i64 t398)) (fun _ h_ => h_.1)) (fun _ h_ => h_.1))) hb); replace HO_386000 := Aside0.mk (Kd.Q_below (by (with_reducible repeat (first | apply Kd.Q_alloc | apply Kd.Q_drewN | apply Kd.Q_drew)); exact (Kd.Q_mono (Kd.Q_mono (Kd.Q_far (p := ⟨gb401, 1, none⟩) (Kd.Q_far (p := ⟨gb401, 0, none⟩) (Kd.Q_far (p := ⟨gb400, 1, none⟩) (Kd.Q_far (p := ⟨gb400, 0, none⟩) (Kd.Q_types (Kd.Q_types HO_386000.out BK400.out (by decide)) BK401.out (by decide)) (fun _ hk => hk.1.2) (.slice Ao94 t391.length co94)) (fun _ hk => hk.1.2) (.slice Ao103 t394.length co103)) (fun _ hk => hk.2) (.bool t397)) (fun _ hk => hk.2) (.int .i64 t398)) (fun _ h_ => h_.1)) (fun _ h_ => h_.1))) hb); replace HO_386001 := Aside0.mk (Kd.R_below (by (with_reducible repeat (first | apply Kd.vA | apply Kd.vB | apply Kd.uR)); exact (Kd.uJ (Kd.uJ (Kd.uM (p := ⟨gb401, 1, none⟩) (Kd.uM (p := ⟨gb401, 0, none⟩) (Kd.uM (p := ⟨gb400, 1, none⟩) (Kd.uM (p := ⟨gb400, 0, none⟩) (Kd.uY (Kd.uY HO_386001.out BK400.out (by decide)) BK401.out (by decide)) (fun _ hk => hk.1.2) (.slice Ao94 t391.length co94)) (fun _ hk => hk.1.2) (.slice Ao103 t394.length co103)) (fun _ hk => hk.2) (.bool t397)) (fun _ hk => hk.2) (.int .i64 t398)) (fun _ h_ => h_.1)) (fun _ h_ => h_.1))) hb); replace HO393 := Aside0.mk (Kd.R_below (by (with_reducible repeat (first | apply Kd.vA | apply Kd.vB | apply Kd.uR)); exact (Kd.uJ (Kd.uJ (Kd.uM (p := ⟨gb401, 1, none⟩) (Kd.uM (p := ⟨gb401, 0, none⟩) (Kd.uM (p := ⟨gb400, 1, none⟩) (Kd.uM (p := ⟨gb400, 0, none⟩) (Kd.uY (Kd.uY HO393.out BK400.out (by decide)) BK401.out (by decide)) (fun _ hk => hk.1.2) (.slice Ao94 t391.length co94)) (fun _ hk => hk.1.2) (.slice Ao103 t394.length co103)) (fun _ hk => hk.2) (.bool t397)) (fun _ hk => hk.2) (.int .i64 t398)) (fun _ h_ => h_.1)) (fun _ h_ => h_.1))) hb); replace HO396 := Aside0.mk (Kd.R_below (by (with_reducible repeat (first | apply Kd.vA | apply Kd.vB | apply Kd.uR)); exact (Kd.uJ (Kd.uJ (Kd.uM (p := ⟨gb401, 1, none⟩) (Kd.uM (p := ⟨gb401, 0, none⟩) (Kd.uM (p := ⟨gb400, 1, none⟩) (Kd.uM (p := ⟨gb400, 0, none⟩) (Kd.uY (Kd.uY HO396.out BK400.out (by decide)) BK401.out (by decide)) (fun _ hk => hk.1.2) (.slice Ao94 t391.length co94)) (fun _ hk => hk.1.2) (.slice Ao103 t394.length co103)) (fun _ hk => hk.2) (.bool t397)) (fun _ hk => hk.2) (.int .i64 t398)) (fun _ h_ => h_.1)) (fun _ h_ => h_.1))) hb); replace BK363 := tBlkF BK363 hb; replace BK364 := tBlkF BK364 hb; replace BK374 := tBlkF BK374 hb; replace BK375 := tBlkF BK375 hb; replace BK385 := tBlkF BK385 hb; replace BK386 := tBlkF BK386 hb; replace BK400 := tBlkP BK400 #[.slice Ao94 t391.length co94, .slice Ao103 t394.length co103] hb; replace BK401 := tBlkP BK401 #[.bool t397, .int .i64 t398] hb; replace HB := tBel HB hb; (try clear hb); (try clear hb2); (try clear hk); (try clear hi)) | ((with_reducible refine uI (N := 14) rfl ?_); refine bxe 14 #[.int .i64 0, .int .i64 0, .bool false, .int .i64 0] 49 ?_; intro gb407 hg w114 hbox hb; have BK407 := Aside0.mk (hbox); have GW407 := tGe HB hg; have GE407 := tGe HB hg; have NB363_407 := tNl BK363 hg; have NB407_363 := tNg BK363 hg; have NB364_407 := tNl BK364 hg; have NB407_364 := tNg BK364 hg; have NB374_407 := tNl BK374 hg; have NB407_374 := tNg BK374 hg; have NB375_407 := tNl BK375 hg; have NB407_375 := tNg BK375 hg; have NB385_407 := tNl BK385 hg; have NB407_385 := tNg BK385 hg; have NB386_407 := tNl BK386 hg; have NB407_386 := tNg BK386 hg; have NB400_407 := tNl BK400 hg; have NB407_400 := tNg BK400 hg; have NB401_407 := tNl BK401 hg; have NB407_401 := tNg BK401 hg; replace HO_364000 := Kd.tQ HO_364000 hb; replace HO_364001 := Aside0.mk (Kd.R_below (Kd.R_elderB (rSR HO_364001.out) gb407 (Nat.le_of_eq hg.symm)) hb); replace HO_375000 := Kd.tQ HO_375000 hb; replace HO_375001 := Aside0.mk (Kd.R_below (Kd.R_elderB (rSR HO_375001.out) gb407 (Nat.le_of_eq hg.symm)) hb); replace HO_386000 := Kd.tQ HO_386000 hb; replace HO_386001 := Aside0.mk (Kd.R_below (Kd.R_elderB (rSR HO_386001.out) gb407 (Nat.le_of_eq hg.symm)) hb); replace HO393 := Kd.tR HO393 hb; replace HO396 := Aside0.mk (Kd.R_below (Kd.R_elderB (rSR HO396.out) gb407 (Nat.le_of_eq hg.symm)) hb); replace BK363 := uL BK363 hb; replace BK364 := uL BK364 hb; replace BK374 := uL BK374 hb; replace BK375 := uL BK375 hb; replace BK385 := uL BK385 hb; replace BK386 := uL BK386 hb; replace BK400 := uL BK400 hb; replace BK401 := uL BK401 hb; replace HB := tBel HB hb; clear hb hbox hg; have hnb115 := NB407_363.out; have hnc115 := NB363_407.out; have hnb116 := NB407_364.out; have hnc116 := NB364_407.out; have hnb117 := NB407_374.out; have hnc117 := NB374_407.out; have hnb118 := NB407_375.out; have hnc118 := NB375_407.out; have hnb119 := NB407_385.out; have hnc119 := NB385_407.out; have hnb120 := NB407_386.out; have hnc120 := NB386_407.out; have hnb121 := NB407_400.out; have hnc121 := NB400_407.out; have hnb122 := NB407_401.out; have hnc122 := NB401_407.out; obtain ⟨hcz123_0, hcz123_1, hcz123_2, hcz123_3, hfz123_0, hfz123_1, hfz123_2, hfz123_3⟩ := cz4 BK407; obtain ⟨hcz124_0, hcz124_1, hfz124_0, hfz124_1⟩ := cz2 BK374; obtain ⟨hcz125_0, hcz125_1, hcz125_2, hcz125_3, hcz125_4, hcz125_5, hfz125_0, hfz125_1, hfz125_2, hfz125_3, hfz125_4, hfz125_5⟩ := cz6 BK364) | ((with_reducible refine uH (f := 23) rfl ?_); refine vC (some 85) Try.func23 #[.agg #[.slice Ao19 t365.length co19, .slice Ao24 t368.length co24], .int .i64 t360] ?_; (with_reducible refine (impl_ReadObject.calls kj6 _ _ t365 _ _ t368 t360 t408 true _ ?side1 ?side2 ?side3 ?side4 A68.out).mono ?_); (case side1 => refine (Kd.Q_reads' (e := 3) (base := w.heap.size) (ok := fun k_ => ((some k_ ≠ (.slice Ao11 t351.length co11 : Value).ownBlock ∧ some k_ ≠ (.slice Ao33 t376.length co33 : Value).ownBlock) ∧ some k_ ≠ (.slice Ao94 t391.length co94 : Value).ownBlock)) (n := t365.length) (c := co19) ?_).2.2; exact (by (with_reducible repeat (first | apply Kd.Q_alloc | apply Kd.Q_drewN | apply Kd.Q_drew)); exact (Kd.Q_mono (Kd.Q_far (p := ⟨gb407, 3, none⟩) (Kd.Q_far (p := ⟨gb407, 2, none⟩) (Kd.Q_far (p := ⟨gb407, 1, none⟩) (Kd.Q_far (p := ⟨gb407, 0, none⟩) (Kd.Q_types HO_375000.out BK407.out (by decide)) (fun _ hk => hk.2) (.int .i64 t402)) (fun _ hk => hk.2) (.int .i64 t403)) (fun _ hk => hk.2) (.bool t404)) (fun _ hk => hk.2) (.int .i64 t405)) (fun _ h_ => h_.1)))); (case side2 => exact (Kd.Q_reads' HO_375000.out).2.1); (case side3 => refine (Kd.uP (e := 49) (base := w.heap.size) (ok := fun k_ => (((some k_ ≠ (.slice Ao14 t354.length co14 : Value).ownBlock ∧ some k_ ≠ (.slice Ao40 t379.length co40 : Value).ownBlock) ∧ some k_ ≠ (.slice Ao103 t394.length co103 : Value).ownBlock) ∧ k_ ≠ gb407)) (n := t368.length) (c := co24) ?_).2.2; exact (by (with_reducible repeat (first | apply Kd.vA | apply Kd.vB | apply Kd.uR)); exact (Kd.uJ (Kd.uM (p := ⟨gb407, 3, none⟩) (Kd.uM (p := ⟨gb407, 2, none⟩) (Kd.uM (p := ⟨gb407, 1, none⟩) (Kd.uM (p := ⟨gb407, 0, none⟩) (Kd.uJ HO_375001.out (fun k_ hk => (⟨hk, hk.2⟩ : _ ∧ k_ ≠ gb407))) (fun _ hk => hk.2) (.int .i64 t402)) (fun _ hk => hk.2) (.int .i64 t403)) (fun _ hk => hk.2) (.bool t404)) (fun _ hk => hk.2) (.int .i64 t405)) (fun _ h_ => h_.1)))); (case side4 => exact (Kd.uP HO_375001.out).2.1); rintro e w126 ⟨rfl, hb⟩; refine ⟨_, rfl, ?_⟩; replace HO_364000 := Aside0.mk (Kd.Q_below (by (with_reducible repeat (first | apply Kd.Q_alloc | apply Kd.Q_drewN | apply Kd.Q_drew)); exact (Kd.Q_mono (Kd.Q_far (p := ⟨gb407, 3, none⟩) (Kd.Q_far (p := ⟨gb407, 2, none⟩) (Kd.Q_far (p := ⟨gb407, 1, none⟩) (Kd.Q_far (p := ⟨gb407, 0, none⟩) (Kd.Q_types HO_364000.out BK407.out (by decide)) (fun _ hk => hk.2) (.int .i64 t402)) (fun _ hk => hk.2) (.int .i64 t403)) (fun _ hk => hk.2) (.bool t404)) (fun _ hk => hk.2) (.int .i64 t405)) (fun _ h_ => h_.1))) hb); replace HO_364001 := Aside0.mk (Kd.R_below (by (with_reducible repeat (first | apply Kd.vA | apply Kd.vB | apply Kd.uR)); exact (Kd.uJ (Kd.uM (p := ⟨gb407, 3, none⟩) (Kd.uM (p := ⟨gb407, 2, none⟩) (Kd.uM (p := ⟨gb407, 1, none⟩) (Kd.uM (p := ⟨gb407, 0, none⟩) (Kd.uJ HO_364001.out (fun k_ hk => (⟨hk, hk.2⟩ : _ ∧ k_ ≠ gb407))) (fun _ hk => hk.2) (.int .i64 t402)) (fun _ hk => hk.2) (.int .i64 t403)) (fun _ hk => hk.2) (.bool t404)) (fun _ hk => hk.2) (.int .i64 t405)) (fun _ h_ => h_.1))) hb); replace HO_375000 := Aside0.mk (Kd.Q_below (by (with_reducible repeat (first | apply Kd.Q_alloc | apply Kd.Q_drewN | apply Kd.Q_drew)); exact (Kd.Q_mono (Kd.Q_far (p := ⟨gb407, 3, none⟩) (Kd.Q_far (p := ⟨gb407, 2, none⟩) (Kd.Q_far (p := ⟨gb407, 1, none⟩) (Kd.Q_far (p := ⟨gb407, 0, none⟩) (Kd.Q_types HO_375000.out BK407.out (by decide)) (fun _ hk => hk.2) (.int .i64 t402)) (fun _ hk => hk.2) (.int .i64 t403)) (fun _ hk => hk.2) (.bool t404)) (fun _ hk => hk.2) (.int .i64 t405)) (fun _ h_ => h_.1))) hb); replace HO_375001 := Aside0.mk (Kd.R_below (by (with_reducible repeat (first | apply Kd.vA | apply Kd.vB | apply Kd.uR)); exact (Kd.uJ (Kd.uM (p := ⟨gb407, 3, none⟩) (Kd.uM (p := ⟨gb407, 2, none⟩) (Kd.uM (p := ⟨gb407, 1, none⟩) (Kd.uM (p := ⟨gb407, 0, none⟩) (Kd.uJ HO_375001.out (fun k_ hk => (⟨hk, hk.2⟩ : _ ∧ k_ ≠ gb407))) (fun _ hk => hk.2) (.int .i64 t402)) (fun _ hk => hk.2) (.int .i64 t403)) (fun _ hk => hk.2) (.bool t404)) (fun _ hk => hk.2) (.int .i64 t405)) (fun _ h_ => h_.1))) hb); replace HO_386000 := Aside0.mk (Kd.Q_below (by (with_reducible repeat (first | apply Kd.Q_alloc | apply Kd.Q_drewN | apply Kd.Q_drew)); exact (Kd.Q_mono (Kd.Q_far (p := ⟨gb407, 3, none⟩) (Kd.Q_far (p := ⟨gb407, 2, none⟩) (Kd.Q_far (p := ⟨gb407, 1, none⟩) (Kd.Q_far (p := ⟨gb407, 0, none⟩) (Kd.Q_types HO_386000.out BK407.out (by decide)) (fun _ hk => hk.2) (.int .i64 t402)) (fun _ hk => hk.2) (.int .i64 t403)) (fun _ hk => hk.2) (.bool t404)) (fun _ hk => hk.2) (.int .i64 t405)) (fun _ h_ => h_.1))) hb); replace HO_386001 := Aside0.mk (Kd.R_below (by (with_reducible repeat (first | apply Kd.vA | apply Kd.vB | apply Kd.uR)); exact (Kd.uJ (Kd.uM (p := ⟨gb407, 3, none⟩) (Kd.uM (p := ⟨gb407, 2, none⟩) (Kd.uM (p := ⟨gb407, 1, none⟩) (Kd.uM (p := ⟨gb407, 0, none⟩) (Kd.uJ HO_386001.out (fun k_ hk => (⟨hk, hk.2⟩ : _ ∧ k_ ≠ gb407))) (fun _ hk => hk.2) (.int .i64 t402)) (fun _ hk => hk.2) (.int .i64 t403)) (fun _ hk => hk.2) (.bool t404)) (fun _ hk => hk.2) (.int .i64 t405)) (fun _ h_ => h_.1))) hb); replace HO393 := Aside0.mk (Kd.R_below (by (with_reducible repeat (first | apply Kd.vA | apply Kd.vB | apply Kd.uR)); exact (Kd.uJ (Kd.uM (p := ⟨gb407, 3, none⟩) (Kd.uM (p := ⟨gb407, 2, none⟩) (Kd.uM (p := ⟨gb407, 1, none⟩) (Kd.uM (p := ⟨gb407, 0, none⟩) (Kd.uY HO393.out BK407.out (by decide)) (fun _ hk => hk.2) (.int .i64 t402)) (fun _ hk => hk.2) (.int .i64 t403)) (fun _ hk => hk.2) (.bool t404)) (fun _ hk => hk.2) (.int .i64 t405)) (fun _ h_ => h_.1))) hb); replace HO396 := Aside0.mk (Kd.R_below (by (with_reducible repeat (first | apply Kd.vA | apply Kd.vB | apply Kd.uR)); exact (Kd.uJ (Kd.uM (p := ⟨gb407, 3, none⟩) (Kd.uM (p := ⟨gb407, 2, none⟩) (Kd.uM (p := ⟨gb407, 1, none⟩) (Kd.uM (p := ⟨gb407, 0, none⟩) (Kd.uJ HO396.out (fun k_ hk => (⟨hk, hk.2⟩ : _ ∧ k_ ≠ gb407))) (fun _ hk => hk.2) (.int .i64 t402)) (fun _ hk => hk.2) (.int .i64 t403)) (fun _ hk => hk.2) (.bool t404)) (fun _ hk => hk.2) (.int .i64 t405)) (fun _ h_ => h_.1))) hb); replace BK363 := tBlkF BK363 hb; replace BK364 := tBlkF BK364 hb; replace BK374 := tBlkF BK374 hb; replace BK375 := tBlkF BK375 hb; replace BK385 := tBlkF BK385 hb; replace BK386 := tBlkF BK386 hb; replace BK400 := tBlkF BK400 hb; replace BK401 := tBlkF BK401 hb; replace BK407 := tBlkP BK407 #[.int .i64 t402, .int .i64 t403, .bool t404, .int .i64 t405] hb; replace HB := tBel HB hb; (try clear hb); (try clear hb2); (try clear hk); (try clear hi); have hnb127 := NB385_363.out; have hnc127 := NB363_385.out; have hnb128 := NB385_375.out; have hnc128 := NB375_385.out; have hnb129 := NB385_386.out; have hnc129 := NB386_385.out; obtain ⟨hcz130_0, hcz130_1, hfz130_0, hfz130_1⟩ := cz2 BK385; obtain ⟨hcz131_0, hcz131_1, hcz131_2, hcz131_3, hcz131_4, hcz131_5, hfz131_0, hfz131_1, hfz131_2, hfz131_3, hfz131_4, hfz131_5⟩ := cz6 BK364) | ((with_reducible refine uH (f := 24) rfl ?_); refine vC (some 92) Try.func24 #[.agg #[.slice Ao33 t376.length co33, .slice Ao40 t379.length co40], .int .i64 t360] ?_; (with_reducible refine (spec_ReadObject.calls kj6 _ _ t376 _ _ t379 t360 t410 t411 _ ?side1 ?side2 ?side3 ?side4 A69.out).mono ?_); (case side1 => repeat (first | exact (Kd.Q_reads' HO_386000.out).2.2 | (with_reducible refine Kd.vJ ?_ _) | (with_reducible refine Kd.vK ?_ _) | (with_reducible refine Kd.C_drew ?_))); (case side2 => exact (Kd.Q_reads' HO_386000.out).2.1); (case side3 => repeat (first | exact (Kd.uP HO_386001.out).2.2 | (with_reducible refine Kd.vJ ?_ _) | (with_reducible refine Kd.vK ?_ _) | (with_reducible refine Kd.C_drew ?_))); (case side4 => exact (Kd.uP HO_386001.out).2.1); rintro e w132 ⟨rfl, hb⟩; refine ⟨_, rfl, ?_⟩; replace HO_364000 := Kd.tQ HO_364000 hb; replace HO_364001 := Kd.tR HO_364001 hb; replace HO_375000 := Kd.tQ HO_375000 hb; replace HO_375001 := Kd.tR HO_375001 hb; replace HO_386000 := Kd.tQ HO_386000 hb; replace HO_386001 := Kd.tR HO_386001 hb; replace HO393 := Kd.tR HO393 hb; replace HO396 := Kd.tR HO396 hb; replace BK363 := uL BK363 hb; replace BK364 := uL BK364 hb; replace BK374 := uL BK374 hb; replace BK375 := uL BK375 hb; replace BK385 := uL BK385 hb; replace BK386 := uL BK386 hb; replace BK400 := uL BK400 hb; replace BK401 := uL BK401 hb; replace BK407 := uL BK407 hb; replace HB := tBel HB hb; (try clear hb); (try clear hb2); (try clear hk); (try clear hi); obtain ⟨hcz133_0, hcz133_1, hfz133_0, hfz133_1⟩ := cz2 BK401; have hnb134 := NB375_363.out; have hnc134 := NB363_375.out; have hnb135 := NB375_386.out; have hnc135 := NB386_375.out; obtain ⟨hcz136_0, hcz136_1, hfz136_0, hfz136_1⟩ := cz2 BK375; obtain ⟨hcz137_0, hcz137_1, hfz137_0, hfz137_1⟩ := cz2 BK400; obtain ⟨hcz138_0, hcz138_1, hfz138_0, hfz138_1⟩ := cz2 BK374) | (go_at_call 19; (with_reducible refine (impl_EqualMachines.calls kj6 _ _ t391 _ _ t394 _ _ t365 _ _ t368 true _ ?side1 ?side2 ?side3 ?side4 ?side5 ?side6 ?side7 ?side8 A72.out).mono ?_); (case side1 => repeat (first | exact (Kd.uP HO393.out).2.2 | (with_reducible refine Kd.vJ ?_ _) | (with_reducible refine Kd.vK ?_ _) | (with_reducible refine Kd.C_drew ?_))); (case side2 => exact (Kd.uP HO393.out).2.1); (case side3 => repeat (first | exact (Kd.uP HO396.out).2.2 | (with_reducible refine Kd.vJ ?_ _) | (with_reducible refine Kd.vK ?_ _) | (with_reducible refine Kd.C_drew ?_))); (case side4 => exact (Kd.uP HO396.out).2.1); (case side5 => exact q72); (case side6 => exact (Kd.Q_reads' HO_375000.out).2.1); (case side7 => exact q73); (case side8 => exact (Kd.uP HO_375001.out).2.1); rintro e w139 ⟨rfl, hb⟩; replace HO_364000 := Kd.tQ HO_364000 hb; replace HO_364001 := Kd.tR HO_364001 hb; replace HO_375000 := Kd.tQ HO_375000 hb; replace HO_375001 := Kd.tR HO_375001 hb; replace HO_386000 := Kd.tQ HO_386000 hb; replace HO_386001 := Kd.tR HO_386001 hb; replace HO393 := Kd.tR HO393 hb; replace HO396 := Kd.tR HO396 hb; replace BK363 := uL BK363 hb; replace BK364 := uL BK364 hb; replace BK374 := uL BK374 hb; replace BK375 := uL BK375 hb; replace BK385 := uL BK385 hb; replace BK386 := uL BK386 hb; replace BK400 := uL BK400 hb; replace BK401 := uL BK401 hb; replace BK407 := uL BK407 hb; replace HB := tBel HB hb; (try clear hb); (try clear hb2); (try clear hk); (try clear hi); obtain ⟨hcz140_0, hcz140_1, hcz140_2, hcz140_3, hfz140_0, hfz140_1, hfz140_2, hfz140_3⟩ := cz4 BK407; obtain ⟨hcz141_0, hcz141_1, hcz141_2, hcz141_3, hcz141_4, hcz141_5, hfz141_0, hfz141_1, hfz141_2, hfz141_3, hfz141_4, hfz141_5⟩ := cz6 BK364; obtain ⟨hcz142_0, hcz142_1, hfz142_0, hfz142_1⟩ := cz2 BK375; obtain ⟨hcz143_0, hcz143_1, hfz143_0, hfz143_1⟩ := cz2 BK374) | (go_at_call 20; (with_reducible refine (impl_IsValidMachine.calls kj6 _ _ t365 _ _ t368 t413 _ ?side1 ?side2 ?side3 ?side4 A79.out).mono ?_); (case side1 => exact q72); (case side2 => exact (Kd.Q_reads' HO_375000.out).2.1); (case side3 => exact q73); (case side4 => exact (Kd.uP HO_375001.out).2.1); rintro e w144 ⟨rfl, hb⟩; replace HO_364000 := Kd.tQ HO_364000 hb; replace HO_364001 := Kd.tR HO_364001 hb; replace HO_375000 := Kd.tQ HO_375000 hb; replace HO_375001 := Kd.tR HO_375001 hb; replace HO_386000 := Kd.tQ HO_386000 hb; replace HO_386001 := Kd.tR HO_386001 hb; replace HO393 := Kd.tR HO393 hb; replace HO396 := Kd.tR HO396 hb; replace BK363 := uL BK363 hb; replace BK364 := uL BK364 hb; replace BK374 := uL BK374 hb; replace BK375 := uL BK375 hb; replace BK385 := uL BK385 hb; replace BK386 := uL BK386 hb; replace BK400 := uL BK400 hb; replace BK401 := uL BK401 hb; replace BK407 := uL BK407 hb; replace HB := tBel HB hb; (try clear hb); (try clear hb2); (try clear hk); (try clear hi)))
      go_ret
      exact ⟨q5, q1⟩

end Go.Proofs.Ytcikahnmiiichaa.M
