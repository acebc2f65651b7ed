/- Go functions as Lean functions, and the proof that the code comes to them: written by a program of this session out of the translation. -/
import Derived.Test.YtcikahnmiiichaaDoorK0
import Derived.Test.YtcikahnmiiichaaDoorK1
import Derived.Test.YtcikahnmiiichaaDoorK7
import Derived.Test.YtcikahnmiiichaaDoorK11
import Derived.Test.YtcikahnmiiichaaDoorK12
namespace Go.Proofs.YtcikahnmiiichaaDoor.K
open List renaming setIfInBounds_toArray → vZ, set_cons_zero → yA, set_cons_succ → yB
open Go.World renaming block_lt_of_cell? → yF
open Go.Proofs.YtcikahnmiiichaaDoor.Given
open Go.RowKit Go.Proofs.YtcikahnmiiichaaDoorW.PrintWords Go.Proofs.YtcikahnmiiichaaDoorW.PrintLast Go.Proofs.YtcikahnmiiichaaDoorW.PrintMore
attribute [local go_sem] max2_int min2_int max_two min_two vW vV max_four min_four   -- for this text's walks alone
set_option linter.unusedVariables false
set_option linter.unusedSimpArgs false

/-! ### spec_l4Machine: function 118 -/
def spec_l4Machine.l0 : Nat → Int → List Int → Int → Int → List Int → List (S97) → Option (List Int × (List (S97)) × Int × Int)
 | 0, _, _, _, _, _, _ => none
 | k + 1, x4, x1000, x1001, x1002, x351000, x351001 => if x4 > 0 then ((spec_l3Op.f x1000 x1001 x1002).bind fun bt354 => ((spec_ApplyOp.f k x351000 x351001 bt354.1 bt354.2.1 bt354.2.2.1 bt354.2.2.2.1 bt354.2.2.2.2.1 bt354.2.2.2.2.2.1).bind fun bt362 => (spec_l4Machine.l0 k (wrap64 (x4 - 1)) x1000 bt354.2.2.2.2.2.2.1 bt354.2.2.2.2.2.2.2 bt362.1 bt362.2.1))) else (some (x351000, x351001, x1001, x1002))
def spec_l4Machine.f (k : Nat) (s0_0 : List Int) (s0_1 : Int) (s0_2 : Int) : Option (List Int × (List (S97)) × Int × Int) := (spec_NewMachine.f).bind fun bt344 => ((spec_l1Below.f s0_0 s0_1 s0_2 6).bind fun bt351 => (spec_l4Machine.l0 k bt351.1 s0_0 bt351.2.1 bt351.2.2 bt344.1 bt344.2))
theorem spec_l4Machine.mono_l : ∀ k, (∀ y0 y1 y2 y3 y4 y5, uA (spec_l4Machine.l0 k y0 y1 y2 y3 y4 y5) (spec_l4Machine.l0 (k + 1) y0 y1 y2 y3 y4 y5))
 | 0 => fun _ _ _ _ _ _ r h => by simp [spec_l4Machine.l0] at h
 | k + 1 => by
  have ih0 := spec_l4Machine.mono_l k
  intro y0 y1 y2 y3 y4 y5
  unfold spec_l4Machine.l0
  repeat' first
  | (with_reducible exact ih0 _ _ _ _ _ _)
  | (with_reducible exact spec_ApplyOp.mono _ _ _ _ _ _ _ _ _)
  | (with_reducible exact uA.refl _)
  | (with_reducible exact uA.none _)
  | (with_reducible refine uA.vA ?_ ?_)
  | (with_reducible refine uA.bind ?_ (fun _ => ?_))
  | exact ih0 _ _ _ _ _ _
  | exact uA.none _
  | refine uA.vA ?_ ?_
  | refine uA.bind ?_ (fun _ => ?_)
theorem spec_l4Machine.mono : ∀ a0 a1 a2 k, uA (spec_l4Machine.f k a0 a1 a2) (spec_l4Machine.f (k + 1) a0 a1 a2) := by
 intro a0 a1 a2 k
 have ih0 := spec_l4Machine.mono_l k
 unfold spec_l4Machine.f
 repeat' first
   | (with_reducible exact ih0 _ _ _ _ _ _)
   | (with_reducible exact spec_ApplyOp.mono _ _ _ _ _ _ _ _ _)
   | (with_reducible exact uA.refl _)
   | (with_reducible exact uA.none _)
   | (with_reducible refine uA.vA ?_ ?_)
   | (with_reducible refine uA.bind ?_ (fun _ => ?_))
   | exact ih0 _ _ _ _ _ _
   | exact uA.none _
   | refine uA.vA ?_ ?_
   | refine uA.bind ?_ (fun _ => ?_)
def spec_l4Machine.T5 : Bool × List (List Nat × List Nat) := (true, [([], []), ([], []), ([1], [1]), ([0, 2, 2], [0, 2]), ([3], [3]), ([4], [4]), ([4], [4]), ([4], [4]), ([5, 3, 0, 1, 2, 3, 4, 5], [5])])
def spec_l4Machine.B5 : List Nat := [0, 0, 2, 7, 15, 31, 31, 31, 63]
theorem spec_l4Machine.tab5 : rtab .any (opsOf Tryd.f118 5) = spec_l4Machine.T5 := by kernel_rfl
theorem spec_l4Machine.bits5 : waitsOk spec_l4Machine.T5.2 spec_l4Machine.B5 = true := by kernel_rfl
set_option maxHeartbeats 8000000 in
set_option maxRecDepth 100000 in
theorem spec_l4Machine.calls (k : Nat) (g : Nat) (s0_0 : List Int) (s0_1 : Int) (s0_2 : Int) (r1 : List Int) (r2 : List (S97)) (r3 : Int) (r4 : Int) (w0 w : World) (hI : IsS110 w0 w g s0_0 s0_1 s0_2) (hB : Below w0.heap.size w0 w) (h : spec_l4Machine.f k s0_0 s0_1 s0_2 = some (r1, r2, r3, r4)) :
  Calls Tryd.prog 118 #[.pointer (some ⟨g, 0, none⟩)] w fun e w' => ∃ v0_ v1_ : Value, e = .returned (.agg #[v0_, v1_]) ∧ Kd.R (Kd.int .i64) 3 w' w.heap.size (fun _ => True) v0_ r1 ∧ Kd.R k97 97 w' w.heap.size (fun _ => True) v1_ r2 ∧ IsS110 w0 w' g s0_0 r3 r4 ∧ Below w0.heap.size w0 w' ∧ uV w w' g none := by
 have hu56 := Tryd.underlying56
 have HI0 := Aside0.mk hI
 have HK := Aside0.mk (uV.refl w g none)
 have HL := Aside0.mk hB.size
 clear hI
 have HW0 := Aside0.mk hB.size
 have HB := Aside0.mk hB
 clear hB
 have H : ((spec_NewMachine.f).bind fun bt344 => ((spec_l1Below.f s0_0 s0_1 s0_2 6).bind fun bt351 => (spec_l4Machine.l0 k bt351.1 s0_0 bt351.2.1 bt351.2.2 bt344.1 bt344.2))) = some (r1, r2, r3, r4) := h
 clear h
 replace H := Option.bind_eq_some_iff.mp H
 obtain ⟨⟨t344, t347⟩, A20, H⟩ := H
 try dsimp only at H
 have A2 := Aside0.mk A20
 clear A20
 replace H := Option.bind_eq_some_iff.mp H
 obtain ⟨⟨t351, t352, t353⟩, A30, H⟩ := H
 try dsimp only at H
 have A3 := Aside0.mk A30
 clear A30
 have H' := Aside0.mk H
 clear H
 go_enter Tryd.func118, Tryd.ntmps118
 go_wp2_with (first | ((with_reducible refine uQ (N := 2) rfl ?_); refine bxe 2 #[.slice none 0 0, .slice none 0 0] 56 ?_; intro gb343 hg w4 hbox hb; have BK343 := Aside0.mk (hbox); have GW343 := tKGe HK hg; have GE343 := tKW HW0 HK hg; have NB0_343 := Aside0.mk ((by rw [hg]; exact Nat.ne_of_lt (IsS110.lt (show IsS110 w0 _ g s0_0 s0_1 s0_2 from by repeat (first | (with_reducible first | exact HI0.out | apply IsS110.alloc | apply IsS110.drewN | apply IsS110.drew | apply IsS110.set_1 | apply IsS110.set_2) | exact HI0.out))) : g ≠ gb343)); have NB343_0 := Aside0.mk ((by rw [hg]; exact Nat.ne_of_gt (IsS110.lt (show IsS110 w0 _ g s0_0 s0_1 s0_2 from by repeat (first | (with_reducible first | exact HI0.out | apply IsS110.alloc | apply IsS110.drewN | apply IsS110.drew | apply IsS110.set_1 | apply IsS110.set_2) | exact HI0.out))) : gb343 ≠ g)); replace HI0 := Aside0.mk (IsS110.below cq3 hb); replace HK := uX HK (uV.of_below hb g none); replace HB := tBel1 HB hb; clear hb hbox hg) | ((with_reducible refine uB (f := 133) rfl ?_); refine uL (some 5) Tryd.func133 #[] ?_; (with_reducible refine (spec_NewMachine.calls  t344 t347 _ A2.out).mono ?_); rintro e w5 ⟨v345, v348, rfl, ho0, ho1, hb⟩; refine ⟨_, rfl, ?_⟩; have HO346 := Aside0.mk (Kd.uN ho0 (vG (w := w) (g := g) (row := none) cq4)); have HO349 := Aside0.mk (Kd.uN ho1 (vG (w := w) (g := g) (row := none) cq4)); replace HI0 := Aside0.mk (IsS110.below (by repeat (first | (with_reducible first | exact HI0.out | apply IsS110.alloc | apply IsS110.drewN | apply IsS110.drew | apply IsS110.set_1 | apply IsS110.set_2 | refine IsS110.far ?_ NB0_343.out _) | exact HI0.out)) hb); replace BK343 := vI BK343 hb; replace HK := uX HK (uV.of_below hb g none); replace HB := tBel1 HB hb; (try clear hb); (try clear ho0); (try clear ho1)) | ((with_reducible refine uQ (N := 3) rfl ?_); refine bxe 3 #[.slice none 0 0, .slice none 0 0] 56 ?_; intro gb350 hg w6 hbox hb; have BK350 := Aside0.mk (hbox); have GW350 := tKGe HK hg; have GE350 := tKW HW0 HK hg; have NB343_350 := tNl BK343 hg; have NB350_343 := tNg BK343 hg; have NB0_350 := Aside0.mk ((by rw [hg]; exact Nat.ne_of_lt (IsS110.lt (show IsS110 w0 _ g s0_0 s0_1 s0_2 from by repeat (first | (with_reducible first | exact HI0.out | apply IsS110.alloc | apply IsS110.drewN | apply IsS110.drew | apply IsS110.set_1 | apply IsS110.set_2 | refine IsS110.far ?_ NB0_343.out _) | exact HI0.out))) : g ≠ gb350)); have NB350_0 := Aside0.mk ((by rw [hg]; exact Nat.ne_of_gt (IsS110.lt (show IsS110 w0 _ g s0_0 s0_1 s0_2 from by repeat (first | (with_reducible first | exact HI0.out | apply IsS110.alloc | apply IsS110.drewN | apply IsS110.drew | apply IsS110.set_1 | apply IsS110.set_2 | refine IsS110.far ?_ NB0_343.out _) | exact HI0.out))) : gb350 ≠ g)); replace HO346 := Kd.tR HO346 hb; replace HO349 := Kd.tR HO349 hb; replace HI0 := Aside0.mk (IsS110.below (by repeat (first | (with_reducible first | exact HI0.out | apply IsS110.alloc | apply IsS110.drewN | apply IsS110.drew | apply IsS110.set_1 | apply IsS110.set_2 | refine IsS110.far ?_ NB0_343.out _) | exact HI0.out)) hb); replace BK343 := vI BK343 hb; replace HK := uX HK (uV.of_below hb g none); replace HB := tBel1 HB hb; clear hb hbox hg; obtain ⟨Ao7, co7, eo7⟩ := Kd.uS HO346.out; subst eo7; have hnb8 := NB350_343.out; have hnc8 := NB343_350.out; have hnb9 := NB350_0.out; have hnc9 := NB0_350.out; obtain ⟨hcz10_0, hcz10_1, hfz10_0, hfz10_1⟩ := cz2 BK350; obtain ⟨Ao11, co11, eo11⟩ := Kd.uS HO349.out; subst eo11) | ((with_reducible refine uB (f := 52) rfl ?_); refine uL (some 7) Tryd.func52 #[.pointer (some ⟨g, 0, none⟩), .int .i64 6] ?_; (with_reducible refine (spec_l1Below.calls g s0_0 s0_1 s0_2 6 t351 t352 t353 w0 _ ?side1 ?side2 A3.out).mono ?_); (case side1 => exact cq23); (case side2 => exact cq1); rintro e w12 ⟨rfl, hi, hb, hk⟩; refine ⟨_, rfl, ?_⟩; replace BK343 := tKBlkF BK343 hk NB343_0; replace HO346 := Aside0.mk (Kd.uG (Kd.vB (IsS110.apart (show IsS110 w0 _ g s0_0 s0_1 s0_2 from by repeat (first | (with_reducible first | exact HI0.out | apply IsS110.alloc | apply IsS110.drewN | apply IsS110.drew | apply IsS110.set_1 | apply IsS110.set_2 | refine IsS110.far ?_ NB0_343.out _ | refine IsS110.far ?_ NB0_350.out _) | exact HI0.out)) (by (with_reducible repeat (first | apply Kd.uK | apply Kd.uJ | apply Kd.uO)); exact (Kd.uG (Kd.uI (p := ⟨gb350, 1, none⟩) (Kd.uI (p := ⟨gb350, 0, none⟩) (Kd.vE HO346.out BK350.out (by decide)) (fun _ hk => hk.2) (.slice Ao7 t344.length co7)) (fun _ hk => hk.2) (.slice Ao11 t347.length co11)) (fun _ h_ => h_.1))) (by decide)) hk (fun _ h => h.2)) (fun _ h => h.1)); replace HO349 := Aside0.mk (Kd.uG (Kd.vB (IsS110.apart (show IsS110 w0 _ g s0_0 s0_1 s0_2 from by repeat (first | (with_reducible first | exact HI0.out | apply IsS110.alloc | apply IsS110.drewN | apply IsS110.drew | apply IsS110.set_1 | apply IsS110.set_2 | refine IsS110.far ?_ NB0_343.out _ | refine IsS110.far ?_ NB0_350.out _) | exact HI0.out)) (by (with_reducible repeat (first | apply Kd.uK | apply Kd.uJ | apply Kd.uO)); exact (Kd.uG (Kd.uI (p := ⟨gb350, 1, none⟩) (Kd.uI (p := ⟨gb350, 0, none⟩) (Kd.vE HO349.out BK350.out (by decide)) (fun _ hk => hk.2) (.slice Ao7 t344.length co7)) (fun _ hk => hk.2) (.slice Ao11 t347.length co11)) (fun _ h_ => h_.1))) (by decide)) hk (fun _ h => h.2)) (fun _ h => h.1)); replace BK350 := tKBlkP BK350 #[.slice Ao7 t344.length co7, .slice Ao11 t347.length co11] hk NB350_0; replace HK := uX HK hk; replace HB := Aside0.mk (hb); replace HI0 := Aside0.mk (hi); (try clear hb); (try clear hk); (try clear hi)))
 go_loopg [4] k (fun kq v4 w' => ∃ (x4_1 : Int) (x1001_1 : Int) (x1002_1 : Int) (x351000_1 : List Int) (x351001_1 : List (S97)) (u351000 : Value) (u351001 : Value), v4 = .int .i64 x4_1 ∧ Aside0 (spec_l4Machine.l0 kq x4_1 s0_0 x1001_1 x1002_1 x351000_1 x351001_1 = some (r1, r2, r3, r4)) ∧ Aside0 (kq ≤ k) ∧ Aside0 (Kd.R (Kd.int .i64) 3 w' w.heap.size (fun _ => True) u351000 x351000_1) ∧ Aside0 (Kd.R k97 97 w' w.heap.size (fun _ => True) u351001 x351001_1) ∧ Aside0 (w'.heap[gb343]? = some (.cells #[(.slice none 0 0), (.slice none 0 0)] 56 (0, 0))) ∧ Aside0 (w'.heap[gb350]? = some (.cells #[u351000, u351001] 56 (0, 0))) ∧ Aside0 (IsS110 w0 w' g s0_0 x1001_1 x1002_1) ∧ Aside0 (uV w w' g none) ∧ Aside0 (Below w0.heap.size w0 w'))
 case atStart => exact ⟨(t351), (t352), (t353), (t344), (t347), (.slice Ao7 t344.length co7), (.slice Ao11 t347.length co11), vD, H', ⟨Nat.le_refl _⟩, ⟨by (with_reducible repeat (first | apply Kd.uK | apply Kd.uJ | apply Kd.uO)); exact HO346.out⟩, ⟨by (with_reducible repeat (first | apply Kd.uK | apply Kd.uJ | apply Kd.uO)); exact HO349.out⟩, ⟨by (with_reducible repeat (first | refine uF ?_ _ | refine uE ?_ | refine uD ?_ _)); exact BK343.out⟩, ⟨by (with_reducible repeat (first | refine uF ?_ _ | refine uE ?_ | refine uD ?_ _)); exact BK350.out⟩, ⟨cq23⟩, ⟨cq4⟩, ⟨cq1⟩⟩
 case round =>
  clear H'
  try clear hcz10_0
  try clear hcz10_1
  try clear hfz10_0
  try clear hfz10_1
  obtain ⟨x4_1, x1001_1, x1002_1, x351000_1, x351001_1, u351000, u351001, rfl, HA, HK1, HO_351000, HO_351001, BK343, BK350, HI0, HK, HB⟩ := hrel
  cases gk with
  | zero => exact absurd HA.out (by simp [spec_l4Machine.l0])
  | succ k1 =>
   have H := HA.out
   clear HA
   simp only [spec_l4Machine.l0] at H
   by_cases c13 : x4_1 > 0
   rotate_left
   ·rw [if_neg c13] at H
    have c13b0 := decide_eq_false c13
    clear c13
    simp only [Option.some.injEq, Prod.mk.injEq] at H
    obtain ⟨rfl, rfl, rfl, rfl⟩ := H
    have hnb25 := NB350_343.out
    have hnc25 := NB343_350.out
    have hnb26 := NB350_0.out
    have hnc26 := NB0_350.out
    obtain ⟨hcz27_0, hcz27_1, hfz27_0, hfz27_1⟩ := cz2 BK350
    obtain ⟨Ao28, co28, eo28⟩ := Kd.uS HO_351000.out
    subst eo28
    have hnb29 := NB343_0.out
    have hnc29 := NB0_343.out
    obtain ⟨hcz30_0, hcz30_1, hfz30_0, hfz30_1⟩ := cz2 BK343
    obtain ⟨Ao31, co31, eo31⟩ := Kd.uS HO_351001.out
    subst eo31
    go_wp2
    refine bodyPost_ret (results_cell_row rfl _ _ gb343 56 #[.slice Ao28 x351000_1.length co28, .slice Ao31 x351001_1.length co31] (0, 0) _ rfl (by (with_reducible repeat (first | refine uF ?_ _ | refine uE ?_ | refine uD ?_ _)); refine uZ (cs := #[.slice Ao28 x351000_1.length co28, .slice none 0 0]) ?_ 1 _ rfl; (with_reducible repeat (first | refine uF ?_ _ | refine uE ?_ | refine uD ?_ _)); refine uZ (cs := #[.slice none 0 0, .slice none 0 0]) ?_ 0 _ rfl; (with_reducible repeat (first | refine uF ?_ _ | refine uE ?_ | refine uD ?_ _)); exact BK343.out) Tryd.underlying56 rfl (by kernel_rfl)) rfl ?_
    exact ⟨_, _, cq5, by (with_reducible repeat (first | apply Kd.uK | apply Kd.uJ | apply Kd.uO)); exact Kd.uG (Kd.uI (p := ⟨gb343, 1, none⟩) (Kd.uI (p := ⟨gb343, 0, none⟩) (Kd.vE HO_351000.out BK343.out (by decide)) (fun _ hk => hk.2) (.slice Ao28 x351000_1.length co28)) (fun _ hk => hk.2) (.slice Ao31 x351001_1.length co31)) (fun _ hk => trivial), by (with_reducible repeat (first | apply Kd.uK | apply Kd.uJ | apply Kd.uO)); exact Kd.uG (Kd.uI (p := ⟨gb343, 1, none⟩) (Kd.uI (p := ⟨gb343, 0, none⟩) (Kd.vE HO_351001.out BK343.out (by decide)) (fun _ hk => hk.2) (.slice Ao28 x351000_1.length co28)) (fun _ hk => hk.2) (.slice Ao31 x351001_1.length co31)) (fun _ hk => trivial), cq23, cq1, cq4⟩
   rw [if_pos c13] at H
   have c13b0 := decide_eq_true c13
   clear c13
   replace H := Option.bind_eq_some_iff.mp H
   obtain ⟨⟨t354, t355, t356, t357, t358, t359, t360, t361⟩, A140, H⟩ := H
   try dsimp only at H
   have A14 := Aside0.mk A140
   clear A140
   replace H := Option.bind_eq_some_iff.mp H
   obtain ⟨⟨t362, t365, t368, t369, t370⟩, A150, H⟩ := H
   try dsimp only at H
   have A15 := Aside0.mk A150
   clear A150
   have H' := Aside0.mk H
   clear H
   try go_wp2
   replace HO_351000 := Aside0.mk (Kd.uO HO_351000.out)
   replace HO_351001 := Aside0.mk (Kd.uO HO_351001.out)
   replace BK343 := Aside0.mk (uE BK343.out)
   replace BK350 := Aside0.mk (uE BK350.out)
   replace HI0 := Aside0.mk (IsS110.drew HI0.out)
   replace HK := Aside0.mk (keep_drew HK.out)
   replace HB := Aside0.mk (vL HB.out)
   refine start_ (n := 9) (S := fun w' => w'.cell? ⟨gb350, 0, none⟩ = some (u351000) ∧ w'.cell? ⟨gb350, 1, none⟩ = some (u351001)) (ds := [8]) tb27 (by kernel_rfl) rfl rfl ⟨(uC BK350.out 0).trans rfl, (uC BK350.out 1).trans rfl⟩ (fun hHeld => ?_); refine with_tabW spec_l4Machine.tab5 spec_l4Machine.bits5 (fun HT_ HW_ => ?_)
   generalize wr.drew = w16 at HO_351000 HO_351001 BK343 BK350 HI0 HK HB hHeld ⊢
   refine uM 1 (some 14) #[false, true, false, false, false, false, false, false, false] ?_
   refine takeT 0 (some 13) tb87 ?_
   refine oneT 2 (some 15) tb92 (fun K hK => ?_)
   refine goesT Tryd.func85 #[.pointer (some ⟨g, 0, none⟩)] ?_
   with_reducible refine (spec_l3Op.calls g s0_0 x1001_1 x1002_1 t354 t355 t356 t357 t358 t359 t360 t361 w0 _ ?side1 ?side2 A14.out).mono ?_
   (case side1 => exact cq23)
   (case side2 => exact cq1)
   rintro e w17 ⟨rfl, hi, hb, hk⟩
   refine ⟨_, rfl, ?_⟩
   replace HO_351000 := Aside0.mk (Kd.uG (Kd.vB (IsS110.apart (show IsS110 w0 _ g s0_0 x1001_1 x1002_1 from by repeat (first | (with_reducible first | exact HI0.out | apply IsS110.alloc | apply IsS110.drewN | apply IsS110.drew | apply IsS110.set_1 | apply IsS110.set_2 | refine IsS110.far ?_ NB0_343.out _ | refine IsS110.far ?_ NB0_350.out _) | exact HI0.out)) (uT HO_351000.out) (by decide)) hk (fun _ h => h.2)) (fun _ h => h.1))
   replace HO_351001 := Aside0.mk (Kd.uG (Kd.vB (IsS110.apart (show IsS110 w0 _ g s0_0 x1001_1 x1002_1 from by repeat (first | (with_reducible first | exact HI0.out | apply IsS110.alloc | apply IsS110.drewN | apply IsS110.drew | apply IsS110.set_1 | apply IsS110.set_2 | refine IsS110.far ?_ NB0_343.out _ | refine IsS110.far ?_ NB0_350.out _) | exact HI0.out)) (uT HO_351001.out) (by decide)) hk (fun _ h => h.2)) (fun _ h => h.1))
   replace BK343 := tKBlk BK343 hk NB343_0
   replace BK350 := tKBlk BK350 hk NB350_0
   replace HK := uX HK hk
   replace HB := Aside0.mk (hb)
   replace HI0 := Aside0.mk (hi)
   (try clear hb)
   (try clear hk)
   (try clear hi)
   obtain ⟨Ao18, co18, eo18⟩ := Kd.uS HO_351000.out
   (first | subst eo18 | (injection eo18 with f1_ f2_ f3_; have f4_ := f1_.symm; have f5_ := f3_.symm; clear f1_ f2_ f3_; subst f4_; subst f5_))
   obtain ⟨Ao19, co19, eo19⟩ := Kd.uS HO_351001.out
   (first | subst eo19 | (injection eo19 with f1_ f2_ f3_; have f4_ := f1_.symm; have f5_ := f3_.symm; clear f1_ f2_ f3_; subst f4_; subst f5_))
   refine hK.out _ _ ⟨(uC BK350.out 0).trans rfl, (uC BK350.out 1).trans rfl⟩ (fun hHeld => ?_)
   clear hK K
   refine vH (some 15) ?_
   refine oneT 3 (some 16) tb97 (fun K hK => ?_)
   refine goesT Tryd.func134 #[.agg #[.slice Ao18 x351000_1.length co18, .slice Ao19 x351001_1.length co19], .agg #[.int .i64 t354, .int .i64 t355, .int .i64 t356, .int .i64 t357, .int .i64 t358, .int .i64 t359]] ?_
   with_reducible refine (spec_ApplyOp.calls k1 _ _ x351000_1 _ _ x351001_1 t354 t355 t356 t357 t358 t359 t362 t365 t368 t369 t370 _ ?side1 ?side2 ?side3 ?side4 A15.out).mono ?_
   (case side1 => repeat (first | exact (Kd.uY HO_351000.out).2.2 | (with_reducible refine Kd.C_alloc ?_ _) | (with_reducible refine Kd.C_drewN ?_ _) | (with_reducible refine Kd.C_drew ?_)))
   (case side2 => exact (Kd.uY HO_351000.out).2.1)
   (case side3 => repeat (first | exact (Kd.uY HO_351001.out).2.2 | (with_reducible refine Kd.C_alloc ?_ _) | (with_reducible refine Kd.C_drewN ?_ _) | (with_reducible refine Kd.C_drew ?_)))
   (case side4 => exact (Kd.uY HO_351001.out).2.1)
   rintro e w20 ⟨v363, v366, rfl, ho0, ho1, hb⟩
   refine ⟨_, rfl, ?_⟩
   have HO364 := Aside0.mk (Kd.uN (Kd.vJ ho0 (Kd.R_lt (uT HO_351000.out))) (vG (w := w) (g := g) (row := none) cq4))
   have HO367 := Aside0.mk (Kd.uN (Kd.vJ ho1 (Kd.R_lt (uT HO_351001.out))) (vG (w := w) (g := g) (row := none) cq4))
   replace HO_351000 := Aside0.mk (Kd.vF (uT HO_351000.out) (Kd.vK ho0) hb)
   replace HO_351001 := Aside0.mk (Kd.vF (uT HO_351001.out) (Kd.vK ho1) hb)
   replace BK343 := vI BK343 hb
   replace BK350 := vI BK350 hb
   replace HI0 := Aside0.mk (IsS110.below cq23 hb)
   replace HK := uX HK (uV.of_below hb g none)
   replace HB := tBel1 HB hb
   (try clear hb)
   (try clear ho0)
   (try clear ho1)
   obtain ⟨Ao21, co21, eo21⟩ := Kd.uS HO364.out
   (first | subst eo21 | (injection eo21 with f1_ f2_ f3_; have f4_ := f1_.symm; have f5_ := f3_.symm; clear f1_ f2_ f3_; subst f4_; subst f5_))
   obtain ⟨Ao23, co23, eo23⟩ := Kd.uS HO367.out
   (first | subst eo23 | (injection eo23 with f1_ f2_ f3_; have f4_ := f1_.symm; have f5_ := f3_.symm; clear f1_ f2_ f3_; subst f4_; subst f5_))
   refine hK.out _ _ ⟨(uC BK350.out 0).trans rfl, (uC BK350.out 1).trans rfl⟩ (fun hHeld => ?_)
   clear hK K
   refine vH (some 16) ?_
   refine uM 4 (some 12) tb31 ?_
   refine uM 5 (some 17) tb11 ?_
   refine uM 6 (some 18) tb34 ?_
   refine uM 7 (some 19) tb37 ?_
   refine last_ (i := 8) (N := none) tb38 rfl rfl (one_of HT_.out (by kernel_rfl)) (by decide) (fun K hK => ?_)
   have hs22 : w20.cell? ⟨gb350, 0, none⟩ = some (.slice Ao18 x351000_1.length co18) := (uC BK350.out 0).trans rfl
   have hfs22 := vQ BK350.out 0
   have hns22_0 := NB343_350.out
   have hms22_0 := NB350_343.out
   have hs24 : w20.cell? ⟨gb350, 1, none⟩ = some (.slice Ao19 x351001_1.length co19) := (uC BK350.out 1).trans rfl
   have hfs24 := vQ BK350.out 1
   have hns24_0 := NB343_350.out
   have hms24_0 := NB350_343.out
   refine skip_ (w1 := ?_) (by rfl) rfl ?_ ?_
   rotate_left
   ·go_simp
    rfl
   refine hK.out _ _ ?_
   clear hK K
   refine done_ (done_of HT_.out (by kernel_rfl)) ?_
   try go_wp2
   go_roundg k1
   case measure => have := HK1.out; omega
   case rel => exact ⟨(wrap64 (x4_1 - 1)), (t360), (t361), (t362), (t365), (.slice Ao21 t362.length co21), (.slice Ao23 t365.length co23), vD, H', ⟨by have := HK1.out; omega⟩, ⟨by (with_reducible repeat (first | apply Kd.uK | apply Kd.uJ | apply Kd.uO)); exact Kd.uG (Kd.uI (p := ⟨gb350, 1, none⟩) (Kd.uI (p := ⟨gb350, 0, none⟩) (Kd.vE HO364.out BK350.out (by decide)) (fun _ hk => hk.2) (.slice Ao21 t362.length co21)) (fun _ hk => hk.2) (.slice Ao23 t365.length co23)) (fun _ hk => trivial)⟩, ⟨by (with_reducible repeat (first | apply Kd.uK | apply Kd.uJ | apply Kd.uO)); exact Kd.uG (Kd.uI (p := ⟨gb350, 1, none⟩) (Kd.uI (p := ⟨gb350, 0, none⟩) (Kd.vE HO367.out BK350.out (by decide)) (fun _ hk => hk.2) (.slice Ao21 t362.length co21)) (fun _ hk => hk.2) (.slice Ao23 t365.length co23)) (fun _ hk => trivial)⟩, ⟨by (with_reducible repeat (first | refine uF ?_ _ | refine uE ?_ | refine uD ?_ _)); refine blk_far ?_ NB343_350.out _; (with_reducible repeat (first | refine uF ?_ _ | refine uE ?_ | refine uD ?_ _)); refine blk_far ?_ NB343_350.out _; (with_reducible repeat (first | refine uF ?_ _ | refine uE ?_ | refine uD ?_ _)); exact BK343.out⟩, ⟨by (with_reducible repeat (first | refine uF ?_ _ | refine uE ?_ | refine uD ?_ _)); refine uZ (cs := #[.slice Ao21 t362.length co21, .slice Ao19 x351001_1.length co19]) ?_ 1 _ rfl; (with_reducible repeat (first | refine uF ?_ _ | refine uE ?_ | refine uD ?_ _)); refine uZ (cs := #[.slice Ao18 x351000_1.length co18, .slice Ao19 x351001_1.length co19]) ?_ 0 _ rfl; (with_reducible repeat (first | refine uF ?_ _ | refine uE ?_ | refine uD ?_ _)); exact BK350.out⟩, ⟨cq23⟩, ⟨cq4⟩, ⟨cq1⟩⟩

end Go.Proofs.YtcikahnmiiichaaDoor.K
