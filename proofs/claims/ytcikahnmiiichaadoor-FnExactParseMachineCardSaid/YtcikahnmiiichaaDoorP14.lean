/- Go functions as Lean functions, and the proof that the code comes to them: written by a program of this session out of the translation. -/
import Derived.Test.YtcikahnmiiichaaDoorP0
import Derived.Test.YtcikahnmiiichaaDoorP6
import Derived.Test.YtcikahnmiiichaaDoorP11
import Derived.Test.YtcikahnmiiichaaDoorP12
import Derived.Test.YtcikahnmiiichaaDoorP13
namespace Go.Proofs.YtcikahnmiiichaaDoor.P
open List renaming setIfInBounds_toArray → uZ, set_cons_zero → vA, set_cons_succ → vB
open Go.World renaming block_lt_of_cell? → vF
open Go.Proofs.YtcikahnmiiichaaDoor.Given
open Go.RowKit Go.Proofs.YtcikahnmiiichaaDoorW.PrintWords Go.Proofs.YtcikahnmiiichaaDoorW.PrintLast Go.Proofs.YtcikahnmiiichaaDoorW.PrintMore
attribute [local go_sem] max2_int min2_int max_two min_two max_three min_three max_four min_four   -- for this text's walks alone
set_option linter.unusedVariables false
set_option linter.unusedSimpArgs false

/-! ### laws_FnExactParseMachine: function 6 -/
mutual
def laws_FnExactParseMachine.j0 : Nat → ByteArray → Bool → Bool → List Int → List (S97) → List Int → List (S97) → Option (Bool)
 | 0, _, _, _, _, _, _, _ => none
 | k + 1, x0, x4, x32, x259000, x259001, x267000, x267001 => if x32 = true then (some false) else ((laws_markMachine.f k x267000 x267001 1).bind fun bt268 => ((laws_heldMachine.f k bt268.2.1 bt268.2.2 1).bind fun t271 => (if t271 < 0 then (some false) else (if t271 = bt268.1 then ((impl_ParseMachine.f k x0).bind fun bt272 => ((laws_eqMachine.f k bt272.1 bt272.2.1 x259000 x259001).bind fun t280 => (if t280 = true then (laws_FnExactParseMachine.j1 k bt268.1 (bt272.2.2 != x4) bt268.2.1 bt268.2.2) else (laws_FnExactParseMachine.j1 k bt268.1 true bt268.2.1 bt268.2.2)))) else (some false)))))
def laws_FnExactParseMachine.j1 : Nat → Int → Bool → List Int → List (S97) → Option (Bool)
 | 0, _, _, _, _ => none
 | k + 1, x7, x57, x267000, x267001 => if x57 = true then (some false) else ((laws_heldMachine.f k x267000 x267001 1).bind fun t281 => (if t281 < 0 then (some false) else (if t281 = x7 then (some true) else (some false))))
end
def laws_FnExactParseMachine.f (k : Nat) (a0 : ByteArray) : Option (Bool) := if (a0.size : Int) > 1048576 then (some true) else ((spec_ParseMachine.f k a0).bind fun bt251 => ((impl_ParseMachine.f k a0).bind fun bt259 => ((laws_eqMachine.f k bt259.1 bt259.2.1 bt251.1 bt251.2.1).bind fun t267 => (if t267 = true then (laws_FnExactParseMachine.j0 k a0 bt251.2.2 (bt259.2.2 != bt251.2.2) bt251.1 bt251.2.1 bt259.1 bt259.2.1) else (laws_FnExactParseMachine.j0 k a0 bt251.2.2 true bt251.1 bt251.2.1 bt259.1 bt259.2.1)))))
theorem laws_FnExactParseMachine.mono_l : ∀ k, (∀ y0 y1 y2 y3 y4 y5 y6, uA (laws_FnExactParseMachine.j0 k y0 y1 y2 y3 y4 y5 y6) (laws_FnExactParseMachine.j0 (k + 1) y0 y1 y2 y3 y4 y5 y6)) ∧ (∀ y0 y1 y2 y3, uA (laws_FnExactParseMachine.j1 k y0 y1 y2 y3) (laws_FnExactParseMachine.j1 (k + 1) y0 y1 y2 y3))
 | 0 => ⟨fun _ _ _ _ _ _ _ r h => by simp [laws_FnExactParseMachine.j0] at h, fun _ _ _ _ r h => by simp [laws_FnExactParseMachine.j1] at h⟩
 | k + 1 => by
  obtain ⟨ih0, ih1⟩ := laws_FnExactParseMachine.mono_l k
  refine ⟨?_, ?_⟩
  ·intro y0 y1 y2 y3 y4 y5 y6
   unfold laws_FnExactParseMachine.j0
   repeat' first
   | (with_reducible exact ih0 _ _ _ _ _ _ _)
   | (with_reducible exact ih1 _ _ _ _)
   | (with_reducible exact impl_ParseMachine.mono _ _)
   | (with_reducible exact laws_eqMachine.mono _ _ _ _ _)
   | (with_reducible exact laws_heldMachine.mono _ _ _ _)
   | (with_reducible exact laws_markMachine.mono _ _ _ _)
   | (with_reducible exact spec_ParseMachine.mono _ _)
   | (with_reducible exact uA.refl _)
   | (with_reducible exact uA.none _)
   | (with_reducible refine uA.ite ?_ ?_)
   | (with_reducible refine uA.bind ?_ (fun _ => ?_))
   | exact ih0 _ _ _ _ _ _ _
   | exact ih1 _ _ _ _
   | exact uA.none _
   | refine uA.ite ?_ ?_
   | refine uA.bind ?_ (fun _ => ?_)
  intro y0 y1 y2 y3
  unfold laws_FnExactParseMachine.j1
  repeat' first
  | (with_reducible exact ih0 _ _ _ _ _ _ _)
  | (with_reducible exact ih1 _ _ _ _)
  | (with_reducible exact impl_ParseMachine.mono _ _)
  | (with_reducible exact laws_eqMachine.mono _ _ _ _ _)
  | (with_reducible exact laws_heldMachine.mono _ _ _ _)
  | (with_reducible exact laws_markMachine.mono _ _ _ _)
  | (with_reducible exact spec_ParseMachine.mono _ _)
  | (with_reducible exact uA.refl _)
  | (with_reducible exact uA.none _)
  | (with_reducible refine uA.ite ?_ ?_)
  | (with_reducible refine uA.bind ?_ (fun _ => ?_))
  | exact ih0 _ _ _ _ _ _ _
  | exact ih1 _ _ _ _
  | exact uA.none _
  | refine uA.ite ?_ ?_
  | refine uA.bind ?_ (fun _ => ?_)
theorem laws_FnExactParseMachine.mono : ∀ a0 k, uA (laws_FnExactParseMachine.f k a0) (laws_FnExactParseMachine.f (k + 1) a0) := by
 intro a0 k
 obtain ⟨ih0, ih1⟩ := laws_FnExactParseMachine.mono_l k
 unfold laws_FnExactParseMachine.f
 repeat' first
   | (with_reducible exact ih0 _ _ _ _ _ _ _)
   | (with_reducible exact ih1 _ _ _ _)
   | (with_reducible exact impl_ParseMachine.mono _ _)
   | (with_reducible exact laws_eqMachine.mono _ _ _ _ _)
   | (with_reducible exact laws_heldMachine.mono _ _ _ _)
   | (with_reducible exact laws_markMachine.mono _ _ _ _)
   | (with_reducible exact spec_ParseMachine.mono _ _)
   | (with_reducible exact uA.refl _)
   | (with_reducible exact uA.none _)
   | (with_reducible refine uA.ite ?_ ?_)
   | (with_reducible refine uA.bind ?_ (fun _ => ?_))
   | exact ih0 _ _ _ _ _ _ _
   | exact ih1 _ _ _ _
   | exact uA.none _
   | refine uA.ite ?_ ?_
   | refine uA.bind ?_ (fun _ => ?_)
set_option maxHeartbeats 8000000 in
set_option maxRecDepth 100000 in
theorem laws_FnExactParseMachine.calls (k : Nat) (a0 : ByteArray) (w : World) (hWF : WF w) (h : laws_FnExactParseMachine.f k a0 = some true) :
  Calls Tryd.prog 6 #[.string a0] w fun e w' => e = .returned (.bool true) ∧ Below w.heap.size w w' := by
 have hu56 := Tryd.underlying56
 have HB := Aside0.mk (Below.refl w.heap.size w)
 have H : (if (a0.size : Int) > 1048576 then (some true) else ((spec_ParseMachine.f k a0).bind fun bt251 => ((impl_ParseMachine.f k a0).bind fun bt259 => ((laws_eqMachine.f k bt259.1 bt259.2.1 bt251.1 bt251.2.1).bind fun t267 => (if t267 = true then (laws_FnExactParseMachine.j0 k a0 bt251.2.2 (bt259.2.2 != bt251.2.2) bt251.1 bt251.2.1 bt259.1 bt259.2.1) else (laws_FnExactParseMachine.j0 k a0 bt251.2.2 true bt251.1 bt251.2.1 bt259.1 bt259.2.1)))))) = some true := h
 clear h
 by_cases c2 : (a0.size : Int) > 1048576
 ·rw [if_pos c2] at H
  have c2b0 := decide_eq_true c2
  have c2b1 : decide (1048576 < a0.size) = true := decide_eq_true (by omega)
  clear c2
  go_enter Tryd.func6, Tryd.ntmps6
  go_wp2
  go_ret
  exact ⟨cq4, cq1⟩
 rw [if_neg c2] at H
 have c2b0 := decide_eq_false c2
 have c2b1 : decide (1048576 < a0.size) = false := decide_eq_false (by omega)
 clear c2
 replace H := Option.bind_eq_some_iff.mp H
 obtain ⟨⟨t251, t254, t257⟩, A30, H⟩ := H
 try dsimp only at H
 have A3 := Aside0.mk A30
 clear A30
 replace H := Option.bind_eq_some_iff.mp H
 obtain ⟨⟨t259, t262, t265⟩, A40, H⟩ := H
 try dsimp only at H
 have A4 := Aside0.mk A40
 clear A40
 have HC5 := Aside0.mk H
 clear H
 go_enter Tryd.func6, Tryd.ntmps6
 go_upto_region 5 with (first | ((with_reducible refine uI (f := 37) rfl ?_); refine goesM (some 16) Tryd.func37 #[.string a0] ?_; (with_reducible refine (spec_ParseMachine.calls k a0 t251 t254 t257 _ A3.out).mono ?_); rintro e w6 ⟨v252, v255, rfl, ho0, ho1, hb⟩; refine ⟨_, rfl, ?_⟩; have HO253 := Aside0.mk (Kd.R_lower ho0 (uY cq1)); have HO256 := Aside0.mk (Kd.R_lower ho1 (uY cq1)); replace HB := uP HB hb; (try clear hb); (try clear ho0); (try clear ho1)) | ((with_reducible refine uU (N := 3) rfl ?_); refine bxe 3 #[.slice none 0 0, .slice none 0 0] 56 ?_; intro gb258 hg w7 hbox hb; have BK258 := Aside0.mk (hbox); have GW258 := tGe HB hg; have GE258 := tGe HB hg; replace HO253 := Kd.tR HO253 hb; replace HO256 := Kd.tR HO256 hb; replace HB := uP HB hb; clear hb hbox hg; obtain ⟨Ao8, co8, eo8⟩ := Kd.R_slice HO253.out; subst eo8; obtain ⟨hcz9_0, hcz9_1, hfz9_0, hfz9_1⟩ := cz2 BK258; obtain ⟨Ao10, co10, eo10⟩ := Kd.R_slice HO256.out; subst eo10) | ((with_reducible refine uI (f := 38) rfl ?_); refine goesM (some 21) Tryd.func38 #[.string a0] ?_; (with_reducible refine (impl_ParseMachine.calls k a0 t259 t262 t265 _ ?side1 A4.out).mono ?_); (case side1 => exact cq7); rintro e w11 ⟨v260, v263, rfl, ho0, ho1, hb⟩; refine ⟨_, rfl, ?_⟩; have HO261 := Aside0.mk (Kd.R_lower (Kd.R_new' ho0 (Kd.R_lt (by (with_reducible repeat (first | apply Kd.uL | apply Kd.uK | apply Kd.uM)); exact (Kd.uS (Kd.uV (p := ⟨gb258, 1, none⟩) (Kd.uV (p := ⟨gb258, 0, none⟩) (Kd.R_types HO253.out BK258.out (by decide)) (fun _ hk => hk.2) (.slice Ao8 t251.length co8)) (fun _ hk => hk.2) (.slice Ao10 t254.length co10)) (fun _ h_ => h_.1))))) (uY cq0)); have HO264 := Aside0.mk (Kd.R_lower (Kd.R_new' ho1 (Kd.R_lt (by (with_reducible repeat (first | apply Kd.uL | apply Kd.uK | apply Kd.uM)); exact (Kd.uS (Kd.uV (p := ⟨gb258, 1, none⟩) (Kd.uV (p := ⟨gb258, 0, none⟩) (Kd.R_types HO256.out BK258.out (by decide)) (fun _ hk => hk.2) (.slice Ao8 t251.length co8)) (fun _ hk => hk.2) (.slice Ao10 t254.length co10)) (fun _ h_ => h_.1))))) (uY cq0)); replace HO253 := Aside0.mk (Kd.R_elder' (by (with_reducible repeat (first | apply Kd.uL | apply Kd.uK | apply Kd.uM)); exact (Kd.uS (Kd.uV (p := ⟨gb258, 1, none⟩) (Kd.uV (p := ⟨gb258, 0, none⟩) (Kd.R_types HO253.out BK258.out (by decide)) (fun _ hk => hk.2) (.slice Ao8 t251.length co8)) (fun _ hk => hk.2) (.slice Ao10 t254.length co10)) (fun _ h_ => h_.1))) (Kd.R_base ho0) hb); replace HO256 := Aside0.mk (Kd.R_elder' (by (with_reducible repeat (first | apply Kd.uL | apply Kd.uK | apply Kd.uM)); exact (Kd.uS (Kd.uV (p := ⟨gb258, 1, none⟩) (Kd.uV (p := ⟨gb258, 0, none⟩) (Kd.R_types HO256.out BK258.out (by decide)) (fun _ hk => hk.2) (.slice Ao8 t251.length co8)) (fun _ hk => hk.2) (.slice Ao10 t254.length co10)) (fun _ h_ => h_.1))) (Kd.R_base ho1) hb); replace BK258 := tBlkP BK258 #[.slice Ao8 t251.length co8, .slice Ao10 t254.length co10] hb; replace HB := uP HB hb; (try clear hb); (try clear ho0); (try clear ho1)) | ((with_reducible refine uU (N := 5) rfl ?_); refine bxe 5 #[.slice none 0 0, .slice none 0 0] 56 ?_; intro gb266 hg w12 hbox hb; have BK266 := Aside0.mk (hbox); have GW266 := tGe HB hg; have GE266 := tGe HB hg; have NB258_266 := tNl BK258 hg; have NB266_258 := tNg BK258 hg; replace HO253 := Kd.tR HO253 hb; replace HO256 := Kd.tR HO256 hb; replace HO261 := Kd.tR HO261 hb; replace HO264 := Kd.tR HO264 hb; replace BK258 := tBlk BK258 hb; replace HB := uP HB hb; clear hb hbox hg; obtain ⟨Ao13, co13, eo13⟩ := Kd.R_slice HO261.out; subst eo13; have hnb14 := NB266_258.out; have hnc14 := NB258_266.out; obtain ⟨hcz15_0, hcz15_1, hfz15_0, hfz15_1⟩ := cz2 BK266; obtain ⟨Ao16, co16, eo16⟩ := Kd.R_slice HO264.out; subst eo16))
 (try simp only [Act.put, uZ, vA, vB])
 go_cut [32] (fun v32 wc => ∃ (kq : Nat) (x32_4 : Bool), v32 = .bool x32_4 ∧ Aside0 (laws_FnExactParseMachine.j0 kq a0 t257 x32_4 t251 t254 t259 t262 = some true) ∧ Aside0 (kq ≤ k) ∧ Aside0 (Kd.R (Kd.int .i64) 3 wc w.heap.size (fun k_ => some k_ ≠ ((.slice Ao13 t259.length co13) : Value).ownBlock) (.slice Ao8 t251.length co8) t251) ∧ Aside0 (Kd.R k97 97 wc w.heap.size (fun k_ => some k_ ≠ ((.slice Ao16 t262.length co16) : Value).ownBlock) (.slice Ao10 t254.length co10) t254) ∧ Aside0 (Kd.R (Kd.int .i64) 3 wc w.heap.size (fun k_ => some k_ ≠ ((.slice Ao8 t251.length co8) : Value).ownBlock) (.slice Ao13 t259.length co13) t259) ∧ Aside0 (Kd.R k97 97 wc w.heap.size (fun k_ => some k_ ≠ ((.slice Ao10 t254.length co10) : Value).ownBlock) (.slice Ao16 t262.length co16) t262) ∧ Aside0 (wc.heap[gb258]? = some (.cells #[(.slice Ao8 t251.length co8), (.slice Ao10 t254.length co10)] 56 (0, 0))) ∧ Aside0 (wc.heap[gb266]? = some (.cells #[(.slice Ao13 t259.length co13), (.slice Ao16 t262.length co16)] 56 (0, 0))) ∧ Aside0 (Below w.heap.size w wc))
 case first =>
  have H := HC5.out
  clear HC5
  replace H := Option.bind_eq_some_iff.mp H
  obtain ⟨t267, A170, H⟩ := H
  try dsimp only at H
  have A17 := Aside0.mk A170
  clear A170
  by_cases c18 : t267 = true
  ·subst c18
   try rw [if_pos rfl] at H
   have H' := Aside0.mk H
   clear H
   have hnb19 := NB266_258.out
   have hnc19 := NB258_266.out
   obtain ⟨hcz20_0, hcz20_1, hfz20_0, hfz20_1⟩ := cz2 BK266
   obtain ⟨hcz21_0, hcz21_1, hfz21_0, hfz21_1⟩ := cz2 BK258
   go_wp2_with (first | ((with_reducible refine uI (f := 39) rfl ?_); refine goesM (some 26) Tryd.func39 #[.agg #[.slice Ao13 t259.length co13, .slice Ao16 t262.length co16], .agg #[.slice Ao8 t251.length co8, .slice Ao10 t254.length co10]] ?_; (with_reducible refine (laws_eqMachine.calls k _ _ t259 _ _ t262 _ _ t251 _ _ t254 true _ ?side1 ?side2 ?side3 ?side4 ?side5 ?side6 ?side7 ?side8 A17.out).mono ?_); (case side1 => refine (Kd.uH (e := 3) (base := w.heap.size) (ok := fun k_ => (True ∧ some k_ ≠ (.slice Ao8 t251.length co8 : Value).ownBlock)) (n := t259.length) (c := co13) ?_).2.2; exact cq12); (case side2 => exact (Kd.uH HO261.out).2.1); (case side3 => refine (Kd.uH (e := 97) (base := w.heap.size) (ok := fun k_ => (True ∧ some k_ ≠ (.slice Ao10 t254.length co10 : Value).ownBlock)) (n := t262.length) (c := co16) ?_).2.2; exact cq13); (case side4 => exact (Kd.uH HO264.out).2.1); (case side5 => refine (Kd.uH (e := 3) (base := w.heap.size) (ok := fun k_ => (True ∧ some k_ ≠ (.slice Ao13 t259.length co13 : Value).ownBlock)) (n := t251.length) (c := co8) ?_).2.2; exact cq14); (case side6 => exact (Kd.uH HO253.out).2.1); (case side7 => refine (Kd.uH (e := 97) (base := w.heap.size) (ok := fun k_ => (True ∧ some k_ ≠ (.slice Ao16 t262.length co16 : Value).ownBlock)) (n := t254.length) (c := co10) ?_).2.2; exact cq15); (case side8 => exact (Kd.uH HO256.out).2.1); rintro e w22 ⟨rfl, hb⟩; refine ⟨_, rfl, ?_⟩; replace HO253 := Aside0.mk (Kd.R_below cq14 hb); replace HO256 := Aside0.mk (Kd.R_below cq15 hb); replace HO261 := Aside0.mk (Kd.R_below cq12 hb); replace HO264 := Aside0.mk (Kd.R_below cq13 hb); replace BK258 := tBlkF BK258 hb; replace BK266 := tBlkP BK266 #[.slice Ao13 t259.length co13, .slice Ao16 t262.length co16] hb; replace HB := uP HB hb; (try clear hb)))
   go_meet
   case rel => exact ⟨_, ((t265 != t257)), cq3, H', ⟨by first | omega | exact Nat.le_refl _⟩, ⟨by (with_reducible repeat (first | apply Kd.uL | apply Kd.uK | apply Kd.uM)); exact Kd.uS HO253.out (fun _ hk => hk.2)⟩, ⟨by (with_reducible repeat (first | apply Kd.uL | apply Kd.uK | apply Kd.uM)); exact Kd.uS HO256.out (fun _ hk => hk.2)⟩, ⟨by (with_reducible repeat (first | apply Kd.uL | apply Kd.uK | apply Kd.uM)); exact Kd.uS HO261.out (fun _ hk => hk.2)⟩, ⟨by (with_reducible repeat (first | apply Kd.uL | apply Kd.uK | apply Kd.uM)); exact Kd.uS HO264.out (fun _ hk => hk.2)⟩, ⟨cq61⟩, ⟨cq62⟩, ⟨cq0⟩⟩
  replace c18 := Bool.eq_false_iff.mpr c18
  subst c18
  try rw [if_neg (show ¬ (false = true) by decide)] at H
  have H' := Aside0.mk H
  clear H
  have hnb23 := NB266_258.out
  have hnc23 := NB258_266.out
  obtain ⟨hcz24_0, hcz24_1, hfz24_0, hfz24_1⟩ := cz2 BK266
  obtain ⟨hcz25_0, hcz25_1, hfz25_0, hfz25_1⟩ := cz2 BK258
  go_wp2_with (first | ((with_reducible refine uI (f := 39) rfl ?_); refine goesM (some 26) Tryd.func39 #[.agg #[.slice Ao13 t259.length co13, .slice Ao16 t262.length co16], .agg #[.slice Ao8 t251.length co8, .slice Ao10 t254.length co10]] ?_; (with_reducible refine (laws_eqMachine.calls k _ _ t259 _ _ t262 _ _ t251 _ _ t254 false _ ?side1 ?side2 ?side3 ?side4 ?side5 ?side6 ?side7 ?side8 A17.out).mono ?_); (case side1 => refine (Kd.uH (e := 3) (base := w.heap.size) (ok := fun k_ => (True ∧ some k_ ≠ (.slice Ao8 t251.length co8 : Value).ownBlock)) (n := t259.length) (c := co13) ?_).2.2; exact cq12); (case side2 => exact (Kd.uH HO261.out).2.1); (case side3 => refine (Kd.uH (e := 97) (base := w.heap.size) (ok := fun k_ => (True ∧ some k_ ≠ (.slice Ao10 t254.length co10 : Value).ownBlock)) (n := t262.length) (c := co16) ?_).2.2; exact cq13); (case side4 => exact (Kd.uH HO264.out).2.1); (case side5 => refine (Kd.uH (e := 3) (base := w.heap.size) (ok := fun k_ => (True ∧ some k_ ≠ (.slice Ao13 t259.length co13 : Value).ownBlock)) (n := t251.length) (c := co8) ?_).2.2; exact cq14); (case side6 => exact (Kd.uH HO253.out).2.1); (case side7 => refine (Kd.uH (e := 97) (base := w.heap.size) (ok := fun k_ => (True ∧ some k_ ≠ (.slice Ao16 t262.length co16 : Value).ownBlock)) (n := t254.length) (c := co10) ?_).2.2; exact cq15); (case side8 => exact (Kd.uH HO256.out).2.1); rintro e w26 ⟨rfl, hb⟩; refine ⟨_, rfl, ?_⟩; replace HO253 := Aside0.mk (Kd.R_below cq14 hb); replace HO256 := Aside0.mk (Kd.R_below cq15 hb); replace HO261 := Aside0.mk (Kd.R_below cq12 hb); replace HO264 := Aside0.mk (Kd.R_below cq13 hb); replace BK258 := tBlkF BK258 hb; replace BK266 := tBlkP BK266 #[.slice Ao13 t259.length co13, .slice Ao16 t262.length co16] hb; replace HB := uP HB hb; (try clear hb)))
  go_meet
  case rel => exact ⟨_, (true), cq3, H', ⟨by first | omega | exact Nat.le_refl _⟩, ⟨by (with_reducible repeat (first | apply Kd.uL | apply Kd.uK | apply Kd.uM)); exact Kd.uS HO253.out (fun _ hk => hk.2)⟩, ⟨by (with_reducible repeat (first | apply Kd.uL | apply Kd.uK | apply Kd.uM)); exact Kd.uS HO256.out (fun _ hk => hk.2)⟩, ⟨by (with_reducible repeat (first | apply Kd.uL | apply Kd.uK | apply Kd.uM)); exact Kd.uS HO261.out (fun _ hk => hk.2)⟩, ⟨by (with_reducible repeat (first | apply Kd.uL | apply Kd.uK | apply Kd.uM)); exact Kd.uS HO264.out (fun _ hk => hk.2)⟩, ⟨cq61⟩, ⟨cq62⟩, ⟨cq0⟩⟩
 case rest =>
  clear HC5
  try clear c2
  try clear c2b0
  try clear c2b1
  try clear hcz15_0
  try clear hcz15_1
  try clear hcz9_0
  try clear hcz9_1
  try clear hfz15_0
  try clear hfz15_1
  try clear hfz9_0
  try clear hfz9_1
  obtain ⟨kq, x32_4, rfl, HA, HJ4, HO_259000, HO_259001, HO_267000, HO_267001, BK258, BK266, HB⟩ := hcut
  cases kq with
  | zero => exact absurd HA.out (by simp [laws_FnExactParseMachine.j0])
  | succ kj4 =>
   have H := HA.out
   clear HA
   simp only [laws_FnExactParseMachine.j0] at H
   by_cases c27 : x32_4 = true
   ·subst c27
    try rw [if_pos rfl] at H
    exact absurd H (by simp)
   replace c27 := Bool.eq_false_iff.mpr c27
   subst c27
   try rw [if_neg (show ¬ (false = true) by decide)] at H
   replace H := Option.bind_eq_some_iff.mp H
   obtain ⟨⟨t268, t269, t270⟩, A280, H⟩ := H
   try dsimp only at H
   have A28 := Aside0.mk A280
   clear A280
   replace H := Option.bind_eq_some_iff.mp H
   obtain ⟨t271, A290, H⟩ := H
   try dsimp only at H
   have A29 := Aside0.mk A290
   clear A290
   by_cases c30 : t271 < 0
   ·rw [if_pos c30] at H
    have c30b0 := decide_eq_true c30
    clear c30
    exact absurd H (by simp)
   rw [if_neg c30] at H
   have c30b0 := decide_eq_false c30
   clear c30
   by_cases c31 : t271 = t268
   rotate_left
   ·rw [if_neg c31] at H
    have c31b0 := beq_eq_false_iff_ne.mpr c31
    have c31b1 := bne_iff_ne.mpr c31
    exact absurd H (by simp)
   rw [if_pos c31] at H
   have c31b0 := beq_iff_eq.mpr c31
   have c31b1 := bne_eq_false_iff_eq.mpr c31
   clear c31
   replace H := Option.bind_eq_some_iff.mp H
   obtain ⟨⟨t272, t275, t278⟩, A320, H⟩ := H
   try dsimp only at H
   have A32 := Aside0.mk A320
   clear A320
   have HC33 := Aside0.mk H
   clear H
   have hnb34 := NB266_258.out
   have hnc34 := NB258_266.out
   obtain ⟨hcz35_0, hcz35_1, hfz35_0, hfz35_1⟩ := cz2 BK266
   go_upto_region 16 with (first | ((with_reducible refine uI (f := 40) rfl ?_); refine goesM (some 35) Tryd.func40 #[.agg #[.slice Ao13 t259.length co13, .slice Ao16 t262.length co16], .int .i64 1] ?_; (with_reducible refine (laws_markMachine.calls kj4 (fun k_ => some k_ = (.slice Ao13 t259.length co13 : Value).ownBlock) (.slice Ao13 t259.length co13) t259 (fun k_ => some k_ = (.slice Ao16 t262.length co16 : Value).ownBlock) (.slice Ao16 t262.length co16) t262 1 t268 t269 t270 w _ ?side1 ?side2 ?side3 A28.out).mono ?_); (case side1 => exact cq0); (case side2 => exact Kd.R_tight rfl HO_267000.out); (case side3 => exact Kd.R_tight rfl HO_267001.out); rintro e w36 ⟨rfl, hy0, hy1, hb, hkp⟩; refine ⟨_, rfl, ?_⟩; replace HO_259000 := Aside0.mk (Kd.uS (ok' := fun k_ => some k_ ≠ (.slice Ao13 t259.length co13 : Value).ownBlock) (Kd.R_keptB ((Kd.R_apart' HO_259000.out (Kd.R_typed HO_267001.out) (by decide))) hkp (fun k_ hk_ hs_ => Or.elim hs_ (fun e_ => (hk_.1) e_) (fun e_ => (hk_.2) e_))) (fun k_ hk_ => hk_.1.1)); replace HO_259001 := Aside0.mk (Kd.uS (ok' := fun k_ => some k_ ≠ (.slice Ao16 t262.length co16 : Value).ownBlock) (Kd.R_keptB ((Kd.R_apart' HO_259001.out (Kd.R_typed HO_267000.out) (by decide))) hkp (fun k_ hk_ hs_ => Or.elim hs_ (fun e_ => (hk_.2) e_) (fun e_ => (hk_.1) e_))) (fun k_ hk_ => hk_.1.1)); replace BK258 := Aside0.mk (blk_kept (rSB BK258.out) hkp (fun hs_ => Or.elim hs_ (fun e_ => (fun e_ => (Kd.R_ne HO_267000.out BK258.out (by decide)) e_) e_) (fun e_ => (fun e_ => (Kd.R_ne HO_267001.out BK258.out (by decide)) e_) e_))); replace BK266 := Aside0.mk (blk_kept (rSB BK266.out) hkp (fun hs_ => Or.elim hs_ (fun e_ => (fun e_ => (Kd.R_ne HO_267000.out BK266.out (by decide)) e_) e_) (fun e_ => (fun e_ => (Kd.R_ne HO_267001.out BK266.out (by decide)) e_) e_))); replace HO_267000 := Aside0.mk (Kd.R_reok rfl hy0 (fun k_ e_ => HO_267000.out.1 k_ e_)); replace HO_267001 := Aside0.mk (Kd.R_reok rfl hy1 (fun k_ e_ => HO_267001.out.1 k_ e_)); replace HB := Aside0.mk (hb); (try clear hb); obtain ⟨hcz37_0, hcz37_1, hfz37_0, hfz37_1⟩ := cz2 BK266) | ((with_reducible refine uI (f := 41) rfl ?_); refine goesL_ (some 38) rfl rfl Tryd.func41 (by kernel_rfl) rfl #[.agg #[.slice Ao13 t269.length co13, .slice Ao16 t270.length co16], .int .i64 1] rfl (by (try simp only [List.map_toArray, List.map_cons, List.map_nil]); first | done | (rw [show t269.length = t259.length from (Kd.uH HO_267000.out).1.symm, show t270.length = t262.length from (Kd.uH HO_267001.out).1.symm] <;> rfl) | rfl | (simp only [List.length_drop, List.length_take]; rfl)) ?_; (with_reducible refine (laws_heldMachine.calls kj4 _ _ t269 _ _ t270 1 t271 _ ?side1 ?side2 ?side3 ?side4 A29.out).mono ?_); (case side1 => repeat (first | exact (Kd.uH HO_267000.out).2.2 | (with_reducible refine Kd.C_alloc ?_ _) | (with_reducible refine Kd.C_drewN ?_ _) | (with_reducible refine Kd.C_drew ?_))); (case side2 => rw [show t269.length = t259.length from (Kd.uH HO_267000.out).1.symm]; exact (Kd.uH HO_267000.out).2.1); (case side3 => repeat (first | exact (Kd.uH HO_267001.out).2.2 | (with_reducible refine Kd.C_alloc ?_ _) | (with_reducible refine Kd.C_drewN ?_ _) | (with_reducible refine Kd.C_drew ?_))); (case side4 => rw [show t270.length = t262.length from (Kd.uH HO_267001.out).1.symm]; exact (Kd.uH HO_267001.out).2.1); rintro e w38 ⟨rfl, hb⟩; refine ⟨_, rfl, ?_⟩; replace HO_259000 := Kd.tR HO_259000 hb; replace HO_259001 := Kd.tR HO_259001 hb; replace HO_267000 := Kd.tR HO_267000 hb; replace HO_267001 := Kd.tR HO_267001 hb; replace BK258 := tBlk BK258 hb; replace BK266 := tBlk BK266 hb; replace HB := uP HB hb; (try clear hb)) | ((with_reducible refine uI (f := 38) rfl ?_); refine goesM (some 46) Tryd.func38 #[.string a0] ?_; (with_reducible refine (impl_ParseMachine.calls kj4 a0 t272 t275 t278 _ ?side1 A32.out).mono ?_); (case side1 => exact cq7); rintro e w39 ⟨v273, v276, rfl, ho0, ho1, hb⟩; refine ⟨_, rfl, ?_⟩; have HO274 := Aside0.mk (Kd.R_lower (Kd.R_new' (Kd.R_new' ho0 (Kd.R_lt (rSR HO_259000.out))) (Kd.R_lt (rSR HO_267000.out))) (uY cq0)); have HO277 := Aside0.mk (Kd.R_lower (Kd.R_new' (Kd.R_new' ho1 (Kd.R_lt (rSR HO_259001.out))) (Kd.R_lt (rSR HO_267001.out))) (uY cq0)); replace HO_259000 := Aside0.mk (Kd.R_elder' (rSR HO_259000.out) (Kd.R_base ho0) hb); replace HO_259001 := Aside0.mk (Kd.R_elder' (rSR HO_259001.out) (Kd.R_base ho1) hb); replace HO_267000 := Aside0.mk (Kd.R_elder' (rSR HO_267000.out) (Kd.R_base ho0) hb); replace HO_267001 := Aside0.mk (Kd.R_elder' (rSR HO_267001.out) (Kd.R_base ho1) hb); replace BK258 := tBlk BK258 hb; replace BK266 := tBlk BK266 hb; replace HB := uP HB hb; (try clear hb); (try clear ho0); (try clear ho1)) | ((with_reducible refine uU (N := 9) rfl ?_); refine bxe 9 #[.slice none 0 0, .slice none 0 0] 56 ?_; intro gb279 hg w40 hbox hb; have BK279 := Aside0.mk (hbox); have GW279 := tGe HB hg; have GE279 := tGe HB hg; have NB258_279 := tNl BK258 hg; have NB279_258 := tNg BK258 hg; have NB266_279 := tNl BK266 hg; have NB279_266 := tNg BK266 hg; replace HO_259000 := Kd.tR HO_259000 hb; replace HO_259001 := Kd.tR HO_259001 hb; replace HO_267000 := Kd.tR HO_267000 hb; replace HO_267001 := Kd.tR HO_267001 hb; replace HO274 := Kd.tR HO274 hb; replace HO277 := Kd.tR HO277 hb; replace BK258 := tBlk BK258 hb; replace BK266 := tBlk BK266 hb; replace HB := uP HB hb; clear hb hbox hg; obtain ⟨Ao41, co41, eo41⟩ := Kd.R_slice HO274.out; subst eo41; have hnb42 := NB279_258.out; have hnc42 := NB258_279.out; have hnb43 := NB279_266.out; have hnc43 := NB266_279.out; obtain ⟨hcz44_0, hcz44_1, hfz44_0, hfz44_1⟩ := cz2 BK279; obtain ⟨Ao45, co45, eo45⟩ := Kd.R_slice HO277.out; subst eo45))
   (try simp only [Act.put, uZ, vA, vB])
   go_cut [57] (fun v57 wc => ∃ (kq : Nat) (x57_32 : Bool), v57 = .bool x57_32 ∧ Aside0 (laws_FnExactParseMachine.j1 kq t268 x57_32 t269 t270 = some true) ∧ Aside0 (kq ≤ kj4) ∧ Aside0 (Kd.R (Kd.int .i64) 3 wc w.heap.size (fun k_ => some k_ ≠ ((.slice Ao13 t259.length co13) : Value).ownBlock ∧ some k_ ≠ ((.slice Ao41 t272.length co41) : Value).ownBlock) (.slice Ao8 t251.length co8) t251) ∧ Aside0 (Kd.R k97 97 wc w.heap.size (fun k_ => some k_ ≠ ((.slice Ao16 t262.length co16) : Value).ownBlock ∧ some k_ ≠ ((.slice Ao45 t275.length co45) : Value).ownBlock) (.slice Ao10 t254.length co10) t254) ∧ Aside0 (Kd.R (Kd.int .i64) 3 wc w.heap.size (fun k_ => some k_ ≠ ((.slice Ao8 t251.length co8) : Value).ownBlock ∧ some k_ ≠ ((.slice Ao41 t272.length co41) : Value).ownBlock) (.slice Ao13 t259.length co13) t269) ∧ Aside0 (Kd.R k97 97 wc w.heap.size (fun k_ => some k_ ≠ ((.slice Ao10 t254.length co10) : Value).ownBlock ∧ some k_ ≠ ((.slice Ao45 t275.length co45) : Value).ownBlock) (.slice Ao16 t262.length co16) t270) ∧ Aside0 (Kd.R (Kd.int .i64) 3 wc w.heap.size (fun k_ => some k_ ≠ ((.slice Ao8 t251.length co8) : Value).ownBlock ∧ some k_ ≠ ((.slice Ao13 t259.length co13) : Value).ownBlock) (.slice Ao41 t272.length co41) t272) ∧ Aside0 (Kd.R k97 97 wc w.heap.size (fun k_ => some k_ ≠ ((.slice Ao10 t254.length co10) : Value).ownBlock ∧ some k_ ≠ ((.slice Ao16 t262.length co16) : Value).ownBlock) (.slice Ao45 t275.length co45) t275) ∧ Aside0 (wc.heap[gb258]? = some (.cells #[(.slice Ao8 t251.length co8), (.slice Ao10 t254.length co10)] 56 (0, 0))) ∧ Aside0 (wc.heap[gb266]? = some (.cells #[(.slice Ao13 t259.length co13), (.slice Ao16 t262.length co16)] 56 (0, 0))) ∧ Aside0 (wc.heap[gb279]? = some (.cells #[(.slice Ao41 t272.length co41), (.slice Ao45 t275.length co45)] 56 (0, 0))) ∧ Aside0 (Below w.heap.size w wc))
   case first =>
    have H := HC33.out
    clear HC33
    replace H := Option.bind_eq_some_iff.mp H
    obtain ⟨t280, A460, H⟩ := H
    try dsimp only at H
    have A46 := Aside0.mk A460
    clear A460
    by_cases c47 : t280 = true
    ·subst c47
     try rw [if_pos rfl] at H
     have H' := Aside0.mk H
     clear H
     have hnb48 := NB279_258.out
     have hnc48 := NB258_279.out
     have hnb49 := NB279_266.out
     have hnc49 := NB266_279.out
     obtain ⟨hcz50_0, hcz50_1, hfz50_0, hfz50_1⟩ := cz2 BK279
     have hnb51 := NB258_266.out
     have hnc51 := NB266_258.out
     obtain ⟨hcz52_0, hcz52_1, hfz52_0, hfz52_1⟩ := cz2 BK258
     go_wp2_with (first | ((with_reducible refine uI (f := 39) rfl ?_); refine goesM (some 51) Tryd.func39 #[.agg #[.slice Ao41 t272.length co41, .slice Ao45 t275.length co45], .agg #[.slice Ao8 t251.length co8, .slice Ao10 t254.length co10]] ?_; (with_reducible refine (laws_eqMachine.calls kj4 _ _ t272 _ _ t275 _ _ t251 _ _ t254 true _ ?side1 ?side2 ?side3 ?side4 ?side5 ?side6 ?side7 ?side8 A46.out).mono ?_); (case side1 => refine (Kd.uH (e := 3) (base := w.heap.size) (ok := fun k_ => ((True ∧ some k_ ≠ (.slice Ao8 t251.length co8 : Value).ownBlock) ∧ some k_ ≠ (.slice Ao13 t259.length co13 : Value).ownBlock)) (n := t272.length) (c := co41) ?_).2.2; exact cq16); (case side2 => exact (Kd.uH HO274.out).2.1); (case side3 => refine (Kd.uH (e := 97) (base := w.heap.size) (ok := fun k_ => ((True ∧ some k_ ≠ (.slice Ao10 t254.length co10 : Value).ownBlock) ∧ some k_ ≠ (.slice Ao16 t262.length co16 : Value).ownBlock)) (n := t275.length) (c := co45) ?_).2.2; exact cq17); (case side4 => exact (Kd.uH HO277.out).2.1); (case side5 => refine (Kd.uH (e := 3) (base := w.heap.size) (ok := fun k_ => (some k_ ≠ (.slice Ao13 t259.length co13 : Value).ownBlock ∧ some k_ ≠ (.slice Ao41 t272.length co41 : Value).ownBlock)) (n := t251.length) (c := co8) ?_).2.2; exact cq10); (case side6 => exact (Kd.uH HO_259000.out).2.1); (case side7 => refine (Kd.uH (e := 97) (base := w.heap.size) (ok := fun k_ => (some k_ ≠ (.slice Ao16 t262.length co16 : Value).ownBlock ∧ some k_ ≠ (.slice Ao45 t275.length co45 : Value).ownBlock)) (n := t254.length) (c := co10) ?_).2.2; exact cq11); (case side8 => exact (Kd.uH HO_259001.out).2.1); rintro e w53 ⟨rfl, hb⟩; refine ⟨_, rfl, ?_⟩; replace HO_259000 := Aside0.mk (Kd.R_below cq10 hb); replace HO_259001 := Aside0.mk (Kd.R_below cq11 hb); replace HO_267000 := Aside0.mk (Kd.R_below (by (with_reducible repeat (first | apply Kd.uL | apply Kd.uK | apply Kd.uM)); exact (Kd.uS (Kd.uV (p := ⟨gb279, 1, none⟩) (Kd.uV (p := ⟨gb279, 0, none⟩) (Kd.R_types HO_267000.out BK279.out (by decide)) (fun _ hk => hk.2) (.slice Ao41 t272.length co41)) (fun _ hk => hk.2) (.slice Ao45 t275.length co45)) (fun _ h_ => h_.1))) hb); replace HO_267001 := Aside0.mk (Kd.R_below (by (with_reducible repeat (first | apply Kd.uL | apply Kd.uK | apply Kd.uM)); exact (Kd.uS (Kd.uV (p := ⟨gb279, 1, none⟩) (Kd.uV (p := ⟨gb279, 0, none⟩) (Kd.R_types HO_267001.out BK279.out (by decide)) (fun _ hk => hk.2) (.slice Ao41 t272.length co41)) (fun _ hk => hk.2) (.slice Ao45 t275.length co45)) (fun _ h_ => h_.1))) hb); replace HO274 := Aside0.mk (Kd.R_below cq16 hb); replace HO277 := Aside0.mk (Kd.R_below cq17 hb); replace BK258 := tBlkF BK258 hb; replace BK266 := tBlkF BK266 hb; replace BK279 := tBlkP BK279 #[.slice Ao41 t272.length co41, .slice Ao45 t275.length co45] hb; replace HB := uP HB hb; (try clear hb)))
     go_meet
     case rel => exact ⟨_, ((t278 != t257)), cq3, H', ⟨by have := HJ4.out; first | omega | exact Nat.le_refl _⟩, ⟨by (with_reducible repeat (first | apply Kd.uL | apply Kd.uK | apply Kd.uM)); exact HO_259000.out⟩, ⟨by (with_reducible repeat (first | apply Kd.uL | apply Kd.uK | apply Kd.uM)); exact HO_259001.out⟩, ⟨by (with_reducible repeat (first | apply Kd.uL | apply Kd.uK | apply Kd.uM)); exact HO_267000.out⟩, ⟨by (with_reducible repeat (first | apply Kd.uL | apply Kd.uK | apply Kd.uM)); exact HO_267001.out⟩, ⟨by (with_reducible repeat (first | apply Kd.uL | apply Kd.uK | apply Kd.uM)); exact Kd.uS HO274.out (fun _ hk => ⟨hk.1.2, hk.2⟩)⟩, ⟨by (with_reducible repeat (first | apply Kd.uL | apply Kd.uK | apply Kd.uM)); exact Kd.uS HO277.out (fun _ hk => ⟨hk.1.2, hk.2⟩)⟩, ⟨cq61⟩, ⟨cq62⟩, ⟨by (with_reducible repeat (first | refine uC ?_ _ | refine uD ?_ | refine uB ?_ _)); exact BK279.out⟩, ⟨cq0⟩⟩
    replace c47 := Bool.eq_false_iff.mpr c47
    subst c47
    try rw [if_neg (show ¬ (false = true) by decide)] at H
    have H' := Aside0.mk H
    clear H
    have hnb54 := NB279_258.out
    have hnc54 := NB258_279.out
    have hnb55 := NB279_266.out
    have hnc55 := NB266_279.out
    obtain ⟨hcz56_0, hcz56_1, hfz56_0, hfz56_1⟩ := cz2 BK279
    have hnb57 := NB258_266.out
    have hnc57 := NB266_258.out
    obtain ⟨hcz58_0, hcz58_1, hfz58_0, hfz58_1⟩ := cz2 BK258
    go_wp2_with (first | ((with_reducible refine uI (f := 39) rfl ?_); refine goesM (some 51) Tryd.func39 #[.agg #[.slice Ao41 t272.length co41, .slice Ao45 t275.length co45], .agg #[.slice Ao8 t251.length co8, .slice Ao10 t254.length co10]] ?_; (with_reducible refine (laws_eqMachine.calls kj4 _ _ t272 _ _ t275 _ _ t251 _ _ t254 false _ ?side1 ?side2 ?side3 ?side4 ?side5 ?side6 ?side7 ?side8 A46.out).mono ?_); (case side1 => refine (Kd.uH (e := 3) (base := w.heap.size) (ok := fun k_ => ((True ∧ some k_ ≠ (.slice Ao8 t251.length co8 : Value).ownBlock) ∧ some k_ ≠ (.slice Ao13 t259.length co13 : Value).ownBlock)) (n := t272.length) (c := co41) ?_).2.2; exact cq16); (case side2 => exact (Kd.uH HO274.out).2.1); (case side3 => refine (Kd.uH (e := 97) (base := w.heap.size) (ok := fun k_ => ((True ∧ some k_ ≠ (.slice Ao10 t254.length co10 : Value).ownBlock) ∧ some k_ ≠ (.slice Ao16 t262.length co16 : Value).ownBlock)) (n := t275.length) (c := co45) ?_).2.2; exact cq17); (case side4 => exact (Kd.uH HO277.out).2.1); (case side5 => refine (Kd.uH (e := 3) (base := w.heap.size) (ok := fun k_ => (some k_ ≠ (.slice Ao13 t259.length co13 : Value).ownBlock ∧ some k_ ≠ (.slice Ao41 t272.length co41 : Value).ownBlock)) (n := t251.length) (c := co8) ?_).2.2; exact cq10); (case side6 => exact (Kd.uH HO_259000.out).2.1); (case side7 => refine (Kd.uH (e := 97) (base := w.heap.size) (ok := fun k_ => (some k_ ≠ (.slice Ao16 t262.length co16 : Value).ownBlock ∧ some k_ ≠ (.slice Ao45 t275.length co45 : Value).ownBlock)) (n := t254.length) (c := co10) ?_).2.2; exact cq11); (case side8 => exact (Kd.uH HO_259001.out).2.1); rintro e w59 ⟨rfl, hb⟩; refine ⟨_, rfl, ?_⟩; replace HO_259000 := Aside0.mk (Kd.R_below cq10 hb); replace HO_259001 := Aside0.mk (Kd.R_below cq11 hb); replace HO_267000 := Aside0.mk (Kd.R_below (by (with_reducible repeat (first | apply Kd.uL | apply Kd.uK | apply Kd.uM)); exact (Kd.uS (Kd.uV (p := ⟨gb279, 1, none⟩) (Kd.uV (p := ⟨gb279, 0, none⟩) (Kd.R_types HO_267000.out BK279.out (by decide)) (fun _ hk => hk.2) (.slice Ao41 t272.length co41)) (fun _ hk => hk.2) (.slice Ao45 t275.length co45)) (fun _ h_ => h_.1))) hb); replace HO_267001 := Aside0.mk (Kd.R_below (by (with_reducible repeat (first | apply Kd.uL | apply Kd.uK | apply Kd.uM)); exact (Kd.uS (Kd.uV (p := ⟨gb279, 1, none⟩) (Kd.uV (p := ⟨gb279, 0, none⟩) (Kd.R_types HO_267001.out BK279.out (by decide)) (fun _ hk => hk.2) (.slice Ao41 t272.length co41)) (fun _ hk => hk.2) (.slice Ao45 t275.length co45)) (fun _ h_ => h_.1))) hb); replace HO274 := Aside0.mk (Kd.R_below cq16 hb); replace HO277 := Aside0.mk (Kd.R_below cq17 hb); replace BK258 := tBlkF BK258 hb; replace BK266 := tBlkF BK266 hb; replace BK279 := tBlkP BK279 #[.slice Ao41 t272.length co41, .slice Ao45 t275.length co45] hb; replace HB := uP HB hb; (try clear hb)))
    go_meet
    case rel => exact ⟨_, (true), cq3, H', ⟨by have := HJ4.out; first | omega | exact Nat.le_refl _⟩, ⟨by (with_reducible repeat (first | apply Kd.uL | apply Kd.uK | apply Kd.uM)); exact HO_259000.out⟩, ⟨by (with_reducible repeat (first | apply Kd.uL | apply Kd.uK | apply Kd.uM)); exact HO_259001.out⟩, ⟨by (with_reducible repeat (first | apply Kd.uL | apply Kd.uK | apply Kd.uM)); exact HO_267000.out⟩, ⟨by (with_reducible repeat (first | apply Kd.uL | apply Kd.uK | apply Kd.uM)); exact HO_267001.out⟩, ⟨by (with_reducible repeat (first | apply Kd.uL | apply Kd.uK | apply Kd.uM)); exact Kd.uS HO274.out (fun _ hk => ⟨hk.1.2, hk.2⟩)⟩, ⟨by (with_reducible repeat (first | apply Kd.uL | apply Kd.uK | apply Kd.uM)); exact Kd.uS HO277.out (fun _ hk => ⟨hk.1.2, hk.2⟩)⟩, ⟨cq61⟩, ⟨cq62⟩, ⟨by (with_reducible repeat (first | refine uC ?_ _ | refine uD ?_ | refine uB ?_ _)); exact BK279.out⟩, ⟨cq0⟩⟩
   case rest =>
    clear HC33
    try clear c2
    try clear c2b0
    try clear c2b1
    try clear c27
    try clear c30
    try clear c30b0
    try clear c31
    try clear c31b0
    try clear c31b1
    try clear hcz15_0
    try clear hcz15_1
    try clear hcz35_0
    try clear hcz35_1
    try clear hcz37_0
    try clear hcz37_1
    try clear hcz44_0
    try clear hcz44_1
    try clear hcz9_0
    try clear hcz9_1
    try clear hfz15_0
    try clear hfz15_1
    try clear hfz35_0
    try clear hfz35_1
    try clear hfz37_0
    try clear hfz37_1
    try clear hfz44_0
    try clear hfz44_1
    try clear hfz9_0
    try clear hfz9_1
    obtain ⟨kq, x57_32, rfl, HA, HJ32, HO_259000, HO_259001, HO_267000, HO_267001, HO_280000, HO_280001, BK258, BK266, BK279, HB⟩ := hcut
    have hl267000_32 := (Kd.uH HO_267000.out).1
    rw [hl267000_32] at HO_267000
    (try simp only [hl267000_32])
    (try simp only [hl267000_32] at BK258)
    (try simp only [hl267000_32] at BK266)
    (try simp only [hl267000_32] at BK279)
    (try simp only [hl267000_32] at HO_259000)
    (try simp only [hl267000_32] at HO_259001)
    (try simp only [hl267000_32] at HO_267001)
    (try simp only [hl267000_32] at HO_280000)
    (try simp only [hl267000_32] at HO_280001)
    have hl267001_32 := (Kd.uH HO_267001.out).1
    rw [hl267001_32] at HO_267001
    (try simp only [hl267001_32])
    (try simp only [hl267001_32] at BK258)
    (try simp only [hl267001_32] at BK266)
    (try simp only [hl267001_32] at BK279)
    (try simp only [hl267001_32] at HO_259000)
    (try simp only [hl267001_32] at HO_259001)
    (try simp only [hl267001_32] at HO_267000)
    (try simp only [hl267001_32] at HO_280000)
    (try simp only [hl267001_32] at HO_280001)
    cases kq with
    | zero => exact absurd HA.out (by simp [laws_FnExactParseMachine.j1])
    | succ kj32 =>
     have H := HA.out
     clear HA
     simp only [laws_FnExactParseMachine.j1] at H
     by_cases c60 : x57_32 = true
     ·subst c60
      try rw [if_pos rfl] at H
      exact absurd H (by simp)
     replace c60 := Bool.eq_false_iff.mpr c60
     subst c60
     try rw [if_neg (show ¬ (false = true) by decide)] at H
     replace H := Option.bind_eq_some_iff.mp H
     obtain ⟨t281, A610, H⟩ := H
     try dsimp only at H
     have A61 := Aside0.mk A610
     clear A610
     by_cases c62 : t281 < 0
     ·rw [if_pos c62] at H
      have c62b0 := decide_eq_true c62
      clear c62
      exact absurd H (by simp)
     rw [if_neg c62] at H
     have c62b0 := decide_eq_false c62
     clear c62
     by_cases c63 : t281 = t268
     rotate_left
     ·rw [if_neg c63] at H
      have c63b0 := beq_eq_false_iff_ne.mpr c63
      have c63b1 := bne_iff_ne.mpr c63
      exact absurd H (by simp)
     rw [if_pos c63] at H
     have c63b0 := beq_iff_eq.mpr c63
     have c63b1 := bne_eq_false_iff_eq.mpr c63
     clear c63
     have hnb64 := NB266_258.out
     have hnc64 := NB258_266.out
     have hnb65 := NB266_279.out
     have hnc65 := NB279_266.out
     obtain ⟨hcz66_0, hcz66_1, hfz66_0, hfz66_1⟩ := cz2 BK266
     go_wp2_with (first | ((with_reducible refine uI (f := 41) rfl ?_); refine goesM (some 60) Tryd.func41 #[.agg #[.slice Ao13 t269.length co13, .slice Ao16 t270.length co16], .int .i64 1] ?_; (with_reducible refine (laws_heldMachine.calls kj32 _ _ t269 _ _ t270 1 t281 _ ?side1 ?side2 ?side3 ?side4 A61.out).mono ?_); (case side1 => repeat (first | exact (Kd.uH HO_267000.out).2.2 | (with_reducible refine Kd.C_alloc ?_ _) | (with_reducible refine Kd.C_drewN ?_ _) | (with_reducible refine Kd.C_drew ?_))); (case side2 => exact (Kd.uH HO_267000.out).2.1); (case side3 => repeat (first | exact (Kd.uH HO_267001.out).2.2 | (with_reducible refine Kd.C_alloc ?_ _) | (with_reducible refine Kd.C_drewN ?_ _) | (with_reducible refine Kd.C_drew ?_))); (case side4 => exact (Kd.uH HO_267001.out).2.1); rintro e w67 ⟨rfl, hb⟩; refine ⟨_, rfl, ?_⟩; replace HO_259000 := Kd.tR HO_259000 hb; replace HO_259001 := Kd.tR HO_259001 hb; replace HO_267000 := Kd.tR HO_267000 hb; replace HO_267001 := Kd.tR HO_267001 hb; replace HO_280000 := Kd.tR HO_280000 hb; replace HO_280001 := Kd.tR HO_280001 hb; replace BK258 := tBlk BK258 hb; replace BK266 := tBlk BK266 hb; replace BK279 := tBlk BK279 hb; replace HB := uP HB hb; (try clear hb)))
     go_ret
     exact ⟨cq4, cq0⟩

end Go.Proofs.YtcikahnmiiichaaDoor.P
