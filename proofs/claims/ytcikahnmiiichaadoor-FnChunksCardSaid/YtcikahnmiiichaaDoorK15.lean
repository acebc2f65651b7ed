/- Go functions as Lean functions, and the proof that the code comes to them: written by a program of this session out of the translation. -/
import Derived.Test.YtcikahnmiiichaaDoorK0
import Derived.Test.YtcikahnmiiichaaDoorK1
import Derived.Test.YtcikahnmiiichaaDoorK7
import Derived.Test.YtcikahnmiiichaaDoorK14
namespace Go.Proofs.YtcikahnmiiichaaDoor.K
open List renaming setIfInBounds_toArray → vZ, set_cons_zero → yA, set_cons_succ → yB
open Go.World renaming block_lt_of_cell? → yF
open Go.Proofs.YtcikahnmiiichaaDoor.Given
open Go.RowKit Go.Proofs.YtcikahnmiiichaaDoorW.PrintWords Go.Proofs.YtcikahnmiiichaaDoorW.PrintLast Go.Proofs.YtcikahnmiiichaaDoorW.PrintMore
attribute [local go_sem] max2_int min2_int max_two min_two vW vV max_four min_four   -- for this text's walks alone
set_option linter.unusedVariables false
set_option linter.unusedSimpArgs false

/-! ### spec_l4Any: function 99 -/
def spec_l4Any.f (k : Nat) (s0_0 : List Int) (s0_1 : Int) (s0_2 : Int) : Option (List Int × (List (S97)) × Int × Int) := (spec_l4Machine.f k s0_0 s0_1 s0_2).bind fun bt372 => ((spec_l1Below.f s0_0 bt372.2.2.1 bt372.2.2.2 14).bind fun bt381 => (if bt381.1 = 0 then ((spec_l1Below.f s0_0 bt381.2.1 bt381.2.2 3).bind fun bt384 => ((spec_l1PickInt.f s0_0 bt384.2.1 bt384.2.2 (([(-1), 9, 10] : List Int))).bind fun bt390 => (if 0 ≤ bt384.1 then (if bt384.1 < (bt372.1.length : Int) then (some ((bt372.1.set (bt384.1 : Int).toNat bt390.1), bt372.2.1, bt390.2.1, bt390.2.2)) else (none)) else (none)))) else (if bt381.1 = 1 then (if 1 ≤ (bt372.1.length : Int) then (some ((bt372.1.drop (1 : Int).toNat), bt372.2.1, bt381.2.1, bt381.2.2)) else (none)) else (if bt381.1 = 2 then ((spec_l1Below.f s0_0 bt381.2.1 bt381.2.2 4).bind fun bt397 => ((spec_l1Below.f s0_0 bt397.2.1 bt397.2.2 3).bind fun bt400 => ((spec_l1PickInt.f s0_0 bt400.2.1 bt400.2.2 (([0, 10] : List Int))).bind fun bt406 => (if bt372.2.1.length < 4398046511104 then (some (bt372.1, (bt372.2.1 ++ [(⟨bt397.1, bt400.1, (⟨false, bt406.1⟩ : S95)⟩ : S97)]), bt406.2.1, bt406.2.2)) else (none))))) else (some (bt372.1, bt372.2.1, bt381.2.1, bt381.2.2))))))
theorem spec_l4Any.mono : ∀ a0 a1 a2 k, uA (spec_l4Any.f k a0 a1 a2) (spec_l4Any.f (k + 1) a0 a1 a2) := by
 intro a0 a1 a2 k
 unfold spec_l4Any.f
 repeat' first
   | (with_reducible exact spec_l4Machine.mono _ _ _ _)
   | (with_reducible exact uA.refl _)
   | (with_reducible exact uA.none _)
   | (with_reducible refine uA.vA ?_ ?_)
   | (with_reducible refine uA.bind ?_ (fun _ => ?_))
   | exact uA.none _
   | refine uA.vA ?_ ?_
   | refine uA.bind ?_ (fun _ => ?_)
def spec_l4Any.T4 : Bool × List (List Nat × List Nat) := (true, [([], []), ([0], [0]), ([], []), ([2], [2]), ([], []), ([], []), ([4, 5, 3], [4, 5]), ([1, 3, 0, 1, 2, 3, 4, 5, 6], [1, 3]), ([7, 6, 6, 0, 1, 2, 3, 4, 5, 6], [6, 7])])
def spec_l4Any.B4 : List Nat := [0, 1, 0, 4, 0, 0, 60, 127, 255]
theorem spec_l4Any.tab4 : rtab .any (opsOf Tryd.f99 4) = spec_l4Any.T4 := by kernel_rfl
theorem spec_l4Any.bits4 : waitsOk spec_l4Any.T4.2 spec_l4Any.B4 = true := by kernel_rfl
def spec_l4Any.T8 : Bool × List (List Nat × List Nat) := (true, [([], []), ([0], [0]), ([], []), ([2], [2]), ([], []), ([4, 3], [4]), ([], []), ([], []), ([6, 7, 5], [6, 7]), ([8], [8]), ([3, 5, 9], [3, 5, 9]), ([10], [10]), ([1, 11, 8], [1, 11]), ([0, 1, 2, 3, 4, 5, 6, 7, 8, 9, 10, 11, 12], []), ([13, 12, 12, 0, 1, 2, 3, 4, 5, 6, 7, 8, 9, 10, 11, 12], [12, 13])])
def spec_l4Any.B8 : List Nat := [0, 1, 0, 4, 0, 28, 0, 0, 252, 508, 1020, 2044, 4095, 8191, 16383]
theorem spec_l4Any.tab8 : rtab .any (opsOf Tryd.f99 8) = spec_l4Any.T8 := by kernel_rfl
theorem spec_l4Any.bits8 : waitsOk spec_l4Any.T8.2 spec_l4Any.B8 = true := by kernel_rfl
set_option maxHeartbeats 8000000 in
set_option maxRecDepth 100000 in
theorem spec_l4Any.calls (k : Nat) (g : Nat) (s0_0 : List Int) (s0_1 : Int) (s0_2 : Int) (r1 : List Int) (r2 : List (S97)) (r3 : Int) (r4 : Int) (w0 w : World) (hI : IsS110 w0 w g s0_0 s0_1 s0_2) (hB : Below w0.heap.size w0 w) (h : spec_l4Any.f k s0_0 s0_1 s0_2 = some (r1, r2, r3, r4)) :
  Calls Tryd.prog 99 #[.pointer (some ⟨g, 0, none⟩)] w fun e w' => ∃ v0_ v1_ : Value, e = .returned (.agg #[v0_, v1_]) ∧ Kd.Q (Kd.int .i64) 3 w' w.heap.size (fun _ => True) v0_ r1 ∧ Kd.R k97 97 w' w.heap.size (fun _ => True) v1_ r2 ∧ IsS110 w0 w' g s0_0 r3 r4 ∧ Below w0.heap.size w0 w' ∧ uV w w' g none := by
 have hu56 := Tryd.underlying56
 have hu95 := Tryd.underlying95
 have hu97 := Tryd.underlying97
 have HI0 := Aside0.mk hI
 have HK := Aside0.mk (uV.refl w g none)
 have HL := Aside0.mk hB.size
 clear hI
 have HW0 := Aside0.mk hB.size
 have HB := Aside0.mk hB
 clear hB
 have H : ((spec_l4Machine.f k s0_0 s0_1 s0_2).bind fun bt372 => ((spec_l1Below.f s0_0 bt372.2.2.1 bt372.2.2.2 14).bind fun bt381 => (if bt381.1 = 0 then ((spec_l1Below.f s0_0 bt381.2.1 bt381.2.2 3).bind fun bt384 => ((spec_l1PickInt.f s0_0 bt384.2.1 bt384.2.2 (([(-1), 9, 10] : List Int))).bind fun bt390 => (if 0 ≤ bt384.1 then (if bt384.1 < (bt372.1.length : Int) then (some ((bt372.1.set (bt384.1 : Int).toNat bt390.1), bt372.2.1, bt390.2.1, bt390.2.2)) else (none)) else (none)))) else (if bt381.1 = 1 then (if 1 ≤ (bt372.1.length : Int) then (some ((bt372.1.drop (1 : Int).toNat), bt372.2.1, bt381.2.1, bt381.2.2)) else (none)) else (if bt381.1 = 2 then ((spec_l1Below.f s0_0 bt381.2.1 bt381.2.2 4).bind fun bt397 => ((spec_l1Below.f s0_0 bt397.2.1 bt397.2.2 3).bind fun bt400 => ((spec_l1PickInt.f s0_0 bt400.2.1 bt400.2.2 (([0, 10] : List Int))).bind fun bt406 => (if bt372.2.1.length < 4398046511104 then (some (bt372.1, (bt372.2.1 ++ [(⟨bt397.1, bt400.1, (⟨false, bt406.1⟩ : S95)⟩ : S97)]), bt406.2.1, bt406.2.2)) else (none))))) else (some (bt372.1, bt372.2.1, bt381.2.1, bt381.2.2))))))) = some (r1, r2, r3, r4) := h
 clear h
 replace H := Option.bind_eq_some_iff.mp H
 obtain ⟨⟨t372, t375, t378, t379⟩, A20, H⟩ := H
 try dsimp only at H
 have A2 := Aside0.mk A20
 clear A20
 replace H := Option.bind_eq_some_iff.mp H
 obtain ⟨⟨t381, t382, t383⟩, A30, H⟩ := H
 try dsimp only at H
 have A3 := Aside0.mk A30
 clear A30
 go_enter Tryd.func99, Tryd.ntmps99
 go_wp2_with (first | ((with_reducible refine uQ (N := 2) rfl ?_); refine bxe 2 #[.slice none 0 0, .slice none 0 0] 56 ?_; intro gb371 hg w10 hbox hb; have BK371 := Aside0.mk (hbox); have GW371 := tKGe HK hg; have GE371 := tKW HW0 HK hg; have NB0_371 := Aside0.mk ((by rw [hg]; exact Nat.ne_of_lt (IsS110.lt (show IsS110 w0 _ g s0_0 s0_1 s0_2 from by repeat (first | (with_reducible first | exact HI0.out | apply IsS110.alloc | apply IsS110.drewN | apply IsS110.drew | apply IsS110.set_1 | apply IsS110.set_2) | exact HI0.out))) : g ≠ gb371)); have NB371_0 := Aside0.mk ((by rw [hg]; exact Nat.ne_of_gt (IsS110.lt (show IsS110 w0 _ g s0_0 s0_1 s0_2 from by repeat (first | (with_reducible first | exact HI0.out | apply IsS110.alloc | apply IsS110.drewN | apply IsS110.drew | apply IsS110.set_1 | apply IsS110.set_2) | exact HI0.out))) : gb371 ≠ g)); replace HI0 := Aside0.mk (IsS110.below cq3 hb); replace HK := uX HK (uV.of_below hb g none); replace HB := tBel1 HB hb; clear hb hbox hg; refine ?roundEnd))
 case roundEnd =>
 by_cases c4 : t381 = 0
 ·rw [if_pos c4] at H
  have c4b0 := beq_iff_eq.mpr c4
  have c4b1 := bne_eq_false_iff_eq.mpr c4
  clear c4
  replace H := Option.bind_eq_some_iff.mp H
  obtain ⟨⟨t384, t385, t386⟩, A50, H⟩ := H
  try dsimp only at H
  have A5 := Aside0.mk A50
  clear A50
  obtain ⟨y387, hy387⟩ : ∃ y_ : List Int, y_ = (([(-1), 9, 10] : List Int)) := ⟨_, rfl⟩
  replace H : ((spec_l1PickInt.f s0_0 t385 t386 y387).bind fun bt390 => (if 0 ≤ t384 then (if t384 < (t372.length : Int) then (some ((t372.set (t384 : Int).toNat bt390.1), t375, bt390.2.1, bt390.2.2)) else (none)) else (none))) = some (r1, r2, r3, r4) := rpl hy387 H
  have Ny387 := Aside0.mk hy387
  clear hy387
  replace H := Option.bind_eq_some_iff.mp H
  obtain ⟨⟨t390, t391, t392⟩, A60, H⟩ := H
  try dsimp only at H
  have A6 := Aside0.mk A60
  clear A60
  obtain ⟨c7b0, H⟩ := ifD H
  obtain ⟨c8b0, H⟩ := ifD H
  obtain ⟨y393, hy393⟩ : ∃ y_ : List Int, y_ = (t372.set (t384 : Int).toNat t390) := ⟨_, rfl⟩
  replace H : (some (y393, t375, t391, t392)) = some (r1, r2, r3, r4) := rpl hy393 H
  have Ny393 := Aside0.mk hy393
  clear hy393
  simp only [Option.some.injEq, Prod.mk.injEq] at H
  obtain ⟨rfl, rfl, rfl, rfl⟩ := H
  try go_wp2_with (first | ((with_reducible refine uB (f := 118) rfl ?_); refine uL (some 5) Tryd.func118 #[.pointer (some ⟨g, 0, none⟩)] ?_; (with_reducible refine (spec_l4Machine.calls k g s0_0 s0_1 s0_2 t372 t375 t378 t379 w0 _ ?side1 ?side2 A2.out).mono ?_); (case side1 => exact cq19); (case side2 => exact cq1); rintro e w11 ⟨v373, v376, rfl, ho0, ho1, hi, hb, hk⟩; refine ⟨_, rfl, ?_⟩; have HO374 := Aside0.mk (Kd.uN ho0 (vG (w := w) (g := g) (row := none) cq4)); have HO377 := Aside0.mk (Kd.uN ho1 (vG (w := w) (g := g) (row := none) cq4)); replace BK371 := tKBlk BK371 hk NB371_0; replace HK := uX HK hk; replace HB := Aside0.mk (hb); replace HI0 := Aside0.mk (hi); (try clear hb); (try clear hk); (try clear hi); (try clear ho0); (try clear ho1)) | ((with_reducible refine uQ (N := 3) rfl ?_); refine bxe 3 #[.slice none 0 0, .slice none 0 0] 56 ?_; intro gb380 hg w12 hbox hb; have BK380 := Aside0.mk (hbox); have GW380 := tKGe HK hg; have GE380 := tKW HW0 HK hg; have NB371_380 := tNl BK371 hg; have NB380_371 := tNg BK371 hg; have NB0_380 := Aside0.mk ((by rw [hg]; exact Nat.ne_of_lt (IsS110.lt (show IsS110 w0 _ g s0_0 t378 t379 from by repeat (first | (with_reducible first | exact HI0.out | apply IsS110.alloc | apply IsS110.drewN | apply IsS110.drew | apply IsS110.set_1 | apply IsS110.set_2 | refine IsS110.far ?_ NB0_371.out _) | exact HI0.out))) : g ≠ gb380)); have NB380_0 := Aside0.mk ((by rw [hg]; exact Nat.ne_of_gt (IsS110.lt (show IsS110 w0 _ g s0_0 t378 t379 from by repeat (first | (with_reducible first | exact HI0.out | apply IsS110.alloc | apply IsS110.drewN | apply IsS110.drew | apply IsS110.set_1 | apply IsS110.set_2 | refine IsS110.far ?_ NB0_371.out _) | exact HI0.out))) : gb380 ≠ g)); replace HO374 := Kd.tR HO374 hb; replace HO377 := Kd.tR HO377 hb; replace HI0 := Aside0.mk (IsS110.below cq19 hb); replace BK371 := vI BK371 hb; replace HK := uX HK (uV.of_below hb g none); replace HB := tBel1 HB hb; clear hb hbox hg; obtain ⟨Ao13, co13, eo13⟩ := Kd.uS HO374.out; subst eo13; have hnb14 := NB380_371.out; have hnc14 := NB371_380.out; have hnb15 := NB380_0.out; have hnc15 := NB0_380.out; obtain ⟨hcz16_0, hcz16_1, hfz16_0, hfz16_1⟩ := cz2 BK380; obtain ⟨Ao17, co17, eo17⟩ := Kd.uS HO377.out; subst eo17) | ((with_reducible refine uB (f := 52) rfl ?_); refine uL (some 7) Tryd.func52 #[.pointer (some ⟨g, 0, none⟩), .int .i64 14] ?_; (with_reducible refine (spec_l1Below.calls g s0_0 t378 t379 14 t381 t382 t383 w0 _ ?side1 ?side2 A3.out).mono ?_); (case side1 => exact cq10); (case side2 => exact cq1); rintro e w18 ⟨rfl, hi, hb, hk⟩; refine ⟨_, rfl, ?_⟩; replace BK371 := tKBlkF BK371 hk NB371_0; replace HO374 := Aside0.mk (Kd.uG (Kd.vB (IsS110.apart (show IsS110 w0 _ g s0_0 t378 t379 from by repeat (first | (with_reducible first | exact HI0.out | apply IsS110.alloc | apply IsS110.drewN | apply IsS110.drew | apply IsS110.set_1 | apply IsS110.set_2 | refine IsS110.far ?_ NB0_371.out _ | refine IsS110.far ?_ NB0_380.out _) | exact HI0.out)) (by (with_reducible repeat (first | apply Kd.uK | apply Kd.uJ | apply Kd.uO)); exact (Kd.uG (Kd.uI (p := ⟨gb380, 1, none⟩) (Kd.uI (p := ⟨gb380, 0, none⟩) (Kd.vE HO374.out BK380.out (by decide)) (fun _ hk => hk.2) (.slice Ao13 t372.length co13)) (fun _ hk => hk.2) (.slice Ao17 t375.length co17)) (fun _ h_ => h_.1))) (by decide)) hk (fun _ h => h.2)) (fun _ h => h.1)); replace HO377 := Aside0.mk (Kd.uG (Kd.vB (IsS110.apart (show IsS110 w0 _ g s0_0 t378 t379 from by repeat (first | (with_reducible first | exact HI0.out | apply IsS110.alloc | apply IsS110.drewN | apply IsS110.drew | apply IsS110.set_1 | apply IsS110.set_2 | refine IsS110.far ?_ NB0_371.out _ | refine IsS110.far ?_ NB0_380.out _) | exact HI0.out)) (by (with_reducible repeat (first | apply Kd.uK | apply Kd.uJ | apply Kd.uO)); exact (Kd.uG (Kd.uI (p := ⟨gb380, 1, none⟩) (Kd.uI (p := ⟨gb380, 0, none⟩) (Kd.vE HO377.out BK380.out (by decide)) (fun _ hk => hk.2) (.slice Ao13 t372.length co13)) (fun _ hk => hk.2) (.slice Ao17 t375.length co17)) (fun _ h_ => h_.1))) (by decide)) hk (fun _ h => h.2)) (fun _ h => h.1)); replace BK380 := tKBlkP BK380 #[.slice Ao13 t372.length co13, .slice Ao17 t375.length co17] hk NB380_0; replace HK := uX HK hk; replace HB := Aside0.mk (hb); replace HI0 := Aside0.mk (hi); (try clear hb); (try clear hk); (try clear hi)))
  replace HO374 := Aside0.mk (Kd.uO HO374.out)
  replace HO377 := Aside0.mk (Kd.uO HO377.out)
  replace BK371 := Aside0.mk (uE BK371.out)
  replace BK380 := Aside0.mk (uE BK380.out)
  replace HI0 := Aside0.mk (IsS110.drew HI0.out)
  replace HK := Aside0.mk (keep_drew HK.out)
  replace HB := Aside0.mk (vL HB.out)
  refine start_ (n := 9) (S := fun w' => w'.cell? ⟨gb380, 0, none⟩ = some (.slice Ao13 t372.length co13) ∧ w'.cell? ⟨gb380, 1, none⟩ = some (.slice Ao17 t375.length co17)) (ds := [8]) tb27 (by kernel_rfl) rfl rfl ⟨(uC BK380.out 0).trans rfl, (uC BK380.out 1).trans rfl⟩ (fun hHeld => ?_); refine with_tabW spec_l4Any.tab4 spec_l4Any.bits4 (fun HT_ HW_ => ?_)
  generalize w18.drew = w19 at HO374 HO377 BK371 BK380 HI0 HK HB hHeld ⊢
  refine uM 0 (some 10) tb82 ?_
  refine uM 2 (some 12) #[true, false, true, false, false, false, false, false, false] ?_
  refine uM 4 (some 14) #[true, false, true, false, true, false, false, false, false] ?_
  refine takeT 1 (some 11) #[true, true, true, false, true, false, false, false, false] ?_
  refine join_ (σ := Value) 3 tb11 (fun s_ => [(13, .int .i64 t384), (15, s_)]) (fun s_ w' => (w'.cell? ⟨gb380, 0, none⟩ = some (.slice Ao13 t372.length co13) ∧ w'.cell? ⟨gb380, 1, none⟩ = some (.slice Ao17 t375.length co17)) ∧ (Kd.R (Kd.int .i64) 3 w' w.heap.size (fun k_ => some k_ ≠ (s_ : Value).ownBlock) (.slice Ao13 t372.length co13) t372) ∧ (Kd.R k97 97 w' w.heap.size (fun _ => True) (.slice Ao17 t375.length co17) t375) ∧ (Kd.R (Kd.int .i64) 3 w' w.heap.size (fun k_ => some k_ ≠ (.slice Ao13 t372.length co13 : Value).ownBlock) s_ y387) ∧ (w'.heap[gb371]? = some (.cells #[.slice none 0 0, .slice none 0 0] 56 (0, 0))) ∧ (w'.heap[gb380]? = some (.cells #[.slice Ao13 t372.length co13, .slice Ao17 t375.length co17] 56 (0, 0))) ∧ (IsS110 w0 w' g s0_0 t385 t386) ∧ (uV w w' g none) ∧ (Below w0.heap.size w0 w')) ?_ ?_
  rotate_left
  ·intro hCont
   refine two_ (i := 3) (j := 5) (Ni := some 13) (Nj := some 15) tb31 #[true, true, true, false, true, true, false, false, false] rfl rfl rfl rfl (two_of HT_.out (by kernel_rfl)) (by decide) (by decide) (fun K hK => ?_) (fun K hK => ?_)
   ·skip
    refine goesT Tryd.func52 #[.pointer (some ⟨g, 0, none⟩), .int .i64 3] ?_
    with_reducible refine (spec_l1Below.calls g s0_0 t382 t383 3 t384 t385 t386 w0 _ ?side1 ?side2 A5.out).mono ?_
    (case side1 => exact cq10)
    (case side2 => exact cq1)
    rintro e w20 ⟨rfl, hi, hb, hk⟩
    refine ⟨_, rfl, ?_⟩
    replace BK371 := tKBlk BK371 hk NB371_0
    replace HO374 := Aside0.mk (Kd.uG (Kd.vB (IsS110.apart (show IsS110 w0 _ g s0_0 t382 t383 from by repeat (first | (with_reducible first | exact HI0.out | apply IsS110.alloc | apply IsS110.drewN | apply IsS110.drew | apply IsS110.set_1 | apply IsS110.set_2 | refine IsS110.far ?_ NB0_371.out _ | refine IsS110.far ?_ NB0_380.out _) | exact HI0.out)) (uT HO374.out) (by decide)) hk (fun _ h => h.2)) (fun _ h => h.1))
    replace HO377 := Aside0.mk (Kd.uG (Kd.vB (IsS110.apart (show IsS110 w0 _ g s0_0 t382 t383 from by repeat (first | (with_reducible first | exact HI0.out | apply IsS110.alloc | apply IsS110.drewN | apply IsS110.drew | apply IsS110.set_1 | apply IsS110.set_2 | refine IsS110.far ?_ NB0_371.out _ | refine IsS110.far ?_ NB0_380.out _) | exact HI0.out)) (uT HO377.out) (by decide)) hk (fun _ h => h.2)) (fun _ h => h.1))
    replace BK380 := tKBlk BK380 hk NB380_0
    replace HK := uX HK hk
    replace HB := Aside0.mk (hb)
    replace HI0 := Aside0.mk (hi)
    (try clear hb)
    (try clear hk)
    (try clear hi)
    refine hK.out _ _ ⟨(uC BK380.out 0).trans rfl, (uC BK380.out 1).trans rfl⟩ (fun hHeld => ?_)
    clear hK K
    refine vH (some 13) ?_
    refine oneT 5 (some 15) tb11 (fun K hK => ?_)
    refine Kd.R_lit_step (Kd.int .i64) _ 3 ?hg (N := 15) ?hd (xs := ([(-1), 9, 10] : List Int)) (inner := [.int .i64 (-1), .int .i64 9, .int .i64 10]) (ok := fun _ => True) (okp := fun _ => True) ?hr ?hp (fun _ hk => hk) trivial (Below.refl _ _) (Nat.le_refl _) (by simp) ?_; (case hd => rfl); (case hg => rfl); (case hr => first | (go_simp; done) | (go_simp; rfl)); (case hp => exact (Reps.one (show Kd.M (Kd.int .i64) _ _ _ (-1) [.int .i64 (-1)] from rfl) (Reps.one (show Kd.M (Kd.int .i64) _ _ _ 9 [.int .i64 9] from rfl) (Reps.one (show Kd.M (Kd.int .i64) _ _ _ 10 [.int .i64 10] from rfl) (Reps.none _ _)))))
    intro v388 w21 ho22 hb hg_ hnew_
    clear hg_ hnew_
    (first | rw [← Ny387.out] at ho22 | (simp only [Int.reduceToNat] at ho22; rw [← Ny387.out] at ho22))
    have HO389 := Aside0.mk (Kd.uN (Kd.vJ ho22 (Kd.R_lt (uT HO374.out))) (vG (w := w) (g := g) (row := none) cq4))
    replace HO374 := Aside0.mk (Kd.vF (uT HO374.out) (Kd.vK ho22) hb)
    replace HO377 := Kd.tR HO377 hb
    replace HI0 := Aside0.mk (IsS110.below cq10 hb)
    replace BK371 := vI BK371 hb
    replace BK380 := vI BK380 hb
    replace HK := uX HK (uV.of_below hb g none)
    replace HB := tBel1 HB hb
    clear hb ho22
    refine hK.out _ _ ⟨(uC BK380.out 0).trans rfl, (uC BK380.out 1).trans rfl⟩ (fun hHeld => ?_)
    clear hK K
    refine vH (some 15) ?_
    exact norm_ cq47 (hCont (v388) _ ⟨hHeld, cq56, (uT HO377.out), (by (with_reducible repeat (first | apply Kd.uK | apply Kd.uJ | apply Kd.uO)); exact Kd.uG HO389.out (fun _ hk => hk.2)), (rSB BK371.out), (rSB BK380.out), cq10, cq4, cq1⟩)
   skip
   refine Kd.R_lit_step (Kd.int .i64) _ 3 ?hg (N := 15) ?hd (xs := ([(-1), 9, 10] : List Int)) (inner := [.int .i64 (-1), .int .i64 9, .int .i64 10]) (ok := fun _ => True) (okp := fun _ => True) ?hr ?hp (fun _ hk => hk) trivial (Below.refl _ _) (Nat.le_refl _) (by simp) ?_; (case hd => rfl); (case hg => rfl); (case hr => first | (go_simp; done) | (go_simp; rfl)); (case hp => exact (Reps.one (show Kd.M (Kd.int .i64) _ _ _ (-1) [.int .i64 (-1)] from rfl) (Reps.one (show Kd.M (Kd.int .i64) _ _ _ 9 [.int .i64 9] from rfl) (Reps.one (show Kd.M (Kd.int .i64) _ _ _ 10 [.int .i64 10] from rfl) (Reps.none _ _)))))
   intro v388 w20 ho21 hb hg_ hnew_
   clear hg_ hnew_
   (first | rw [← Ny387.out] at ho21 | (simp only [Int.reduceToNat] at ho21; rw [← Ny387.out] at ho21))
   have HO389 := Aside0.mk (Kd.uN (Kd.vJ ho21 (Kd.R_lt (uT HO374.out))) (vG (w := w) (g := g) (row := none) cq4))
   replace HO374 := Aside0.mk (Kd.vF (uT HO374.out) (Kd.vK ho21) hb)
   replace HO377 := Kd.tR HO377 hb
   replace HI0 := Aside0.mk (IsS110.below cq10 hb)
   replace BK371 := vI BK371 hb
   replace BK380 := vI BK380 hb
   replace HK := uX HK (uV.of_below hb g none)
   replace HB := tBel1 HB hb
   clear hb ho21
   refine hK.out _ _ ⟨(uC BK380.out 0).trans rfl, (uC BK380.out 1).trans rfl⟩ (fun hHeld => ?_)
   clear hK K
   refine vH (some 15) ?_
   refine oneT 3 (some 13) tb11 (fun K hK => ?_)
   refine goesT Tryd.func52 #[.pointer (some ⟨g, 0, none⟩), .int .i64 3] ?_
   with_reducible refine (spec_l1Below.calls g s0_0 t382 t383 3 t384 t385 t386 w0 _ ?side1 ?side2 A5.out).mono ?_
   (case side1 => exact cq10)
   (case side2 => exact cq1)
   rintro e w22 ⟨rfl, hi, hb, hk⟩
   refine ⟨_, rfl, ?_⟩
   replace BK371 := tKBlk BK371 hk NB371_0
   replace HO374 := Aside0.mk (Kd.uG (Kd.vB (IsS110.apart (show IsS110 w0 _ g s0_0 t382 t383 from by repeat (first | (with_reducible first | exact HI0.out | apply IsS110.alloc | apply IsS110.drewN | apply IsS110.drew | apply IsS110.set_1 | apply IsS110.set_2 | refine IsS110.far ?_ NB0_371.out _ | refine IsS110.far ?_ NB0_380.out _) | exact HI0.out)) (uT HO374.out) (by decide)) hk (fun _ h => h.2)) (fun _ h => h.1))
   replace HO377 := Aside0.mk (Kd.uG (Kd.vB (IsS110.apart (show IsS110 w0 _ g s0_0 t382 t383 from by repeat (first | (with_reducible first | exact HI0.out | apply IsS110.alloc | apply IsS110.drewN | apply IsS110.drew | apply IsS110.set_1 | apply IsS110.set_2 | refine IsS110.far ?_ NB0_371.out _ | refine IsS110.far ?_ NB0_380.out _) | exact HI0.out)) (uT HO377.out) (by decide)) hk (fun _ h => h.2)) (fun _ h => h.1))
   replace BK380 := tKBlk BK380 hk NB380_0
   replace HO389 := Aside0.mk (Kd.uG (Kd.vB (IsS110.apart (show IsS110 w0 _ g s0_0 t382 t383 from by repeat (first | (with_reducible first | exact HI0.out | apply IsS110.alloc | apply IsS110.drewN | apply IsS110.drew | apply IsS110.set_1 | apply IsS110.set_2 | refine IsS110.far ?_ NB0_371.out _ | refine IsS110.far ?_ NB0_380.out _) | exact HI0.out)) (uT HO389.out) (by decide)) hk (fun _ h => h.2)) (fun _ h => h.1))
   replace HK := uX HK hk
   replace HB := Aside0.mk (hb)
   replace HI0 := Aside0.mk (hi)
   (try clear hb)
   (try clear hk)
   (try clear hi)
   refine hK.out _ _ ⟨(uC BK380.out 0).trans rfl, (uC BK380.out 1).trans rfl⟩ (fun hHeld => ?_)
   clear hK K
   refine vH (some 13) ?_
   exact norm_ cq47 (hCont (v388) _ ⟨hHeld, cq56, (uT HO377.out), (by (with_reducible repeat (first | apply Kd.uK | apply Kd.uJ | apply Kd.uO)); exact Kd.uG HO389.out (fun _ hk => hk.2)), (rSB BK371.out), (rSB BK380.out), cq10, cq4, cq1⟩)
  rintro v388 w23 ⟨hS_, h0_, h1_, h2_, h3_, h4_, h5_, h6_, h7_⟩
  have n0_ : Aside0 (Kd.R (Kd.int .i64) 3 w23 w.heap.size (fun k_ => some k_ ≠ (v388 : Value).ownBlock) (.slice Ao13 t372.length co13) t372) := ⟨h0_⟩
  have n1_ : Aside0 (Kd.R k97 97 w23 w.heap.size (fun _ => True) (.slice Ao17 t375.length co17) t375) := ⟨h1_⟩
  have n2_ : Aside0 (Kd.R (Kd.int .i64) 3 w23 w.heap.size (fun k_ => some k_ ≠ (.slice Ao13 t372.length co13 : Value).ownBlock) v388 y387) := ⟨h2_⟩
  have n3_ : Aside0 (w23.heap[gb371]? = some (.cells #[.slice none 0 0, .slice none 0 0] 56 (0, 0))) := ⟨h3_⟩
  have n4_ : Aside0 (w23.heap[gb380]? = some (.cells #[.slice Ao13 t372.length co13, .slice Ao17 t375.length co17] 56 (0, 0))) := ⟨h4_⟩
  have n5_ : Aside0 (IsS110 w0 w23 g s0_0 t385 t386) := ⟨h5_⟩
  have n6_ : Aside0 (uV w w23 g none) := ⟨h6_⟩
  have n7_ : Aside0 (Below w0.heap.size w0 w23) := ⟨h7_⟩
  clear HO374
  clear HO377
  clear BK371
  clear BK380
  clear HI0
  clear HK
  clear HB
  clear h0_ h1_ h2_ h3_ h4_ h5_ h6_ h7_
  have HO374 := n0_
  have HO377 := n1_
  have HO389 := n2_
  have BK371 := n3_
  have BK380 := n4_
  have HI0 := n5_
  have HK := n6_
  have HB := n7_
  clear n0_ n1_ n2_ n3_ n4_ n5_ n6_ n7_
  have hHeld : w23.cell? ⟨gb380, 0, none⟩ = some (.slice Ao13 t372.length co13) ∧ w23.cell? ⟨gb380, 1, none⟩ = some (.slice Ao17 t375.length co17) := hS_
  obtain ⟨Ao24, co24, eo24⟩ := Kd.uS HO389.out
  (first | subst eo24 | (injection eo24 with f1_ f2_ f3_; have f4_ := f1_.symm; have f5_ := f3_.symm; clear f1_ f2_ f3_; subst f4_; subst f5_))
  refine norm_ (a' := ?_) ?_ ?_
  rotate_left
  ·simp only [putAll, Act.put, vZ, yA, yB]
   rfl
  refine oneT 6 (some 16) tb34 (fun K hK => ?_)
  refine goesT Tryd.func54 #[.pointer (some ⟨g, 0, none⟩), .slice Ao24 y387.length co24] ?_
  with_reducible refine (spec_l1PickInt.calls g s0_0 t385 t386 _ _ y387 t390 t391 t392 w0 _ ?side1 ?side2 ?side3 ?side4 ?side5 A6.out).mono ?_
  (case side1 => exact cq10)
  (case side2 => exact cq1)
  (case side3 => repeat (first | exact (Kd.uY HO389.out).2.2 | (with_reducible refine Kd.C_alloc ?_ _) | (with_reducible refine Kd.C_drewN ?_ _) | (with_reducible refine Kd.C_drew ?_)))
  (case side4 => exact (Kd.uY HO389.out).2.1)
  (case side5 => exact far_slice (IsS110.own_ne HI0.out HO389.out (by decide)))
  rintro e w25 ⟨rfl, hi, hb, hk⟩
  refine ⟨_, rfl, ?_⟩
  replace BK371 := tKBlk BK371 hk NB371_0
  replace HO374 := Aside0.mk (Kd.uG (Kd.vB (IsS110.apart (show IsS110 w0 _ g s0_0 t385 t386 from by repeat (first | (with_reducible first | exact HI0.out | apply IsS110.alloc | apply IsS110.drewN | apply IsS110.drew | apply IsS110.set_1 | apply IsS110.set_2 | refine IsS110.far ?_ NB0_371.out _ | refine IsS110.far ?_ NB0_380.out _) | exact HI0.out)) (uT HO374.out) (by decide)) hk (fun _ h => h.2)) (fun _ h => h.1))
  replace HO377 := Aside0.mk (Kd.uG (Kd.vB (IsS110.apart (show IsS110 w0 _ g s0_0 t385 t386 from by repeat (first | (with_reducible first | exact HI0.out | apply IsS110.alloc | apply IsS110.drewN | apply IsS110.drew | apply IsS110.set_1 | apply IsS110.set_2 | refine IsS110.far ?_ NB0_371.out _ | refine IsS110.far ?_ NB0_380.out _) | exact HI0.out)) (uT HO377.out) (by decide)) hk (fun _ h => h.2)) (fun _ h => h.1))
  replace BK380 := tKBlk BK380 hk NB380_0
  replace HO389 := Aside0.mk (Kd.uG (Kd.vB (IsS110.apart (show IsS110 w0 _ g s0_0 t385 t386 from by repeat (first | (with_reducible first | exact HI0.out | apply IsS110.alloc | apply IsS110.drewN | apply IsS110.drew | apply IsS110.set_1 | apply IsS110.set_2 | refine IsS110.far ?_ NB0_371.out _ | refine IsS110.far ?_ NB0_380.out _) | exact HI0.out)) (uT HO389.out) (by decide)) hk (fun _ h => h.2)) (fun _ h => h.1))
  replace HK := uX HK hk
  replace HB := Aside0.mk (hb)
  replace HI0 := Aside0.mk (hi)
  (try clear hb)
  (try clear hk)
  (try clear hi)
  have p9 : 0 ≤ (t384 : Int) := of_decide_eq_true vC
  have q9 : (t384 : Int) < ((t372.length : Int) : Int) := of_decide_eq_true vC
  obtain ⟨go9, co9, eo9, gb9, gl9, cl9, HG9⟩ := Kd.R_form HO374.out (by omega)
  (first | cases eo9 | (injection eo9 with ea_ en_ ec_; (first | subst ea_ | (injection ea_ with ea_; subst ea_)); subst ec_; clear en_))
  have GB9 := Aside0.mk gb9
  have GG9 := Aside0.mk HG9
  clear gb9 gl9 HG9
  obtain ⟨hx9_0, hf9_0⟩ := Kd.R_celln 0 HO374.out (t384 : Int) p9 q9
  replace p9 := eq_true p9
  replace q9 := eq_true q9
  have HN0_go9 := Aside0.mk (show g ≠ go9 from by have h_ := IsS110.own_ne HI0.out HO374.out (by decide); intro e_; exact h_ (by rw [e_]; rfl))
  have HP26 := Kd.R_putn HO374.out (t384 : Int) t390
  rw [← Ny393.out] at HP26
  have HQ26 := Aside0.mk HP26
  clear HP26
  refine hK.out _ _ ⟨(uC BK380.out 0).trans rfl, (uC BK380.out 1).trans rfl⟩ (fun hHeld => ?_)
  clear hK K
  refine vH (some 16) ?_
  refine uM 7 (some 17) tb37 ?_
  refine last_ (i := 8) (N := none) tb38 rfl rfl (one_of HT_.out (by kernel_rfl)) (by decide) (fun K hK => ?_)
  refine skip_ (w1 := ?_) (by rfl) rfl ?_ ?_
  rotate_left
  ·go_simp
   rfl
  refine hK.out _ _ ?_
  clear hK K
  refine done_ (done_of HT_.out (by kernel_rfl)) ?_
  have n0_ : Aside0 (Kd.R (Kd.int .i64) 3 (w25.setCell ⟨go9, (t384 : Int).toNat, none⟩ (.int .i64 t390)) w.heap.size (fun k_ => some k_ ≠ (.slice Ao24 y387.length co24 : Value).ownBlock) (.slice (some ⟨go9, 0, none⟩) t372.length co13) y393) := ⟨by (with_reducible repeat (first | apply Kd.uK | apply Kd.uJ | apply Kd.uO)); exact HQ26.out⟩
  have n1_ : Aside0 (Kd.R k97 97 (w25.setCell ⟨go9, (t384 : Int).toNat, none⟩ (.int .i64 t390)) w.heap.size (fun _ => True) (.slice Ao17 t375.length co17) t375) := ⟨by (with_reducible repeat (first | apply Kd.uK | apply Kd.uJ | apply Kd.uO)); exact Kd.uG (Kd.uI (p := ⟨go9, (t384 : Int).toNat, none⟩) (Kd.vE HO377.out GG9.out (by decide)) (fun _ hk => hk.2) (.int .i64 t390)) (fun _ hk => trivial)⟩
  have n2_ : Aside0 (Kd.R (Kd.int .i64) 3 (w25.setCell ⟨go9, (t384 : Int).toNat, none⟩ (.int .i64 t390)) w.heap.size (fun k_ => some k_ ≠ (.slice (some ⟨go9, 0, none⟩) t372.length co13 : Value).ownBlock) (.slice Ao24 y387.length co24) y387) := ⟨by (with_reducible repeat (first | apply Kd.uK | apply Kd.uJ | apply Kd.uO)); exact Kd.uG (Kd.uI (p := ⟨go9, (t384 : Int).toNat, none⟩) (Kd.uG HO389.out (fun k_ hk => (⟨hk, fun e_ => hk (by rw [e_]; rfl)⟩ : _ ∧ k_ ≠ go9))) (fun _ hk => hk.2) (.int .i64 t390)) (fun _ hk => hk.1)⟩
  have n3_ : Aside0 ((w25.setCell ⟨go9, (t384 : Int).toNat, none⟩ (.int .i64 t390)).heap[gb371]? = some (.cells #[.slice none 0 0, .slice none 0 0] 56 (0, 0))) := ⟨by (with_reducible repeat (first | refine uF ?_ _ | refine uE ?_ | refine uD ?_ _)); refine blk_far ?_ (by have h_ := Kd.R_ne HO374.out BK371.out (by decide); intro e_; exact h_ (by rw [e_]; rfl)) _; (with_reducible repeat (first | refine uF ?_ _ | refine uE ?_ | refine uD ?_ _)); exact BK371.out⟩
  have n4_ : Aside0 ((w25.setCell ⟨go9, (t384 : Int).toNat, none⟩ (.int .i64 t390)).heap[gb380]? = some (.cells #[.slice (some ⟨go9, 0, none⟩) t372.length co13, .slice Ao17 t375.length co17] 56 (0, 0))) := ⟨by (with_reducible repeat (first | refine uF ?_ _ | refine uE ?_ | refine uD ?_ _)); refine blk_far ?_ (by have h_ := Kd.R_ne HO374.out BK380.out (by decide); intro e_; exact h_ (by rw [e_]; rfl)) _; (with_reducible repeat (first | refine uF ?_ _ | refine uE ?_ | refine uD ?_ _)); exact BK380.out⟩
  have n5_ : Aside0 (IsS110 w0 (w25.setCell ⟨go9, (t384 : Int).toNat, none⟩ (.int .i64 t390)) g s0_0 t391 t392) := ⟨by repeat (first | (with_reducible first | exact HI0.out | apply IsS110.alloc | apply IsS110.drewN | apply IsS110.drew | apply IsS110.set_1 | apply IsS110.set_2 | refine IsS110.far ?_ HN0_go9.out _ | refine IsS110.far ?_ NB0_371.out _ | refine IsS110.far ?_ NB0_380.out _) | exact HI0.out)⟩
  have n6_ : Aside0 (uV w (w25.setCell ⟨go9, (t384 : Int).toNat, none⟩ (.int .i64 t390)) g none) := ⟨by repeat (first | (with_reducible first | exact HK.out | apply uV.set_ | apply keep_drewN | apply keep_drew | apply keep_alloc | refine keep_far ?_ GB9.out _ | refine keep_far ?_ GW371.out _ | refine keep_far ?_ GW380.out _) | exact HK.out)⟩
  have n7_ : Aside0 (Below w0.heap.size w0 (w25.setCell ⟨go9, (t384 : Int).toNat, none⟩ (.int .i64 t390))) := ⟨by repeat (first | (with_reducible first | exact HB.out | apply below_alloc | apply vX | apply vL | refine below_set ?_ (Nat.le_trans HL.out GB9.out) | refine below_set ?_ (IsS110.ge HI0.out) | refine below_set ?_ GE371.out | refine below_set ?_ GE380.out) | exact HB.out)⟩
  generalize (w25.setCell ⟨go9, (t384 : Int).toNat, none⟩ (.int .i64 t390)) = w27 at n0_ n1_ n2_ n3_ n4_ n5_ n6_ n7_ ⊢
  have HO374 := n0_
  have HO377 := n1_
  have HO389 := n2_
  have BK371 := n3_
  have BK380 := n4_
  have HI0 := n5_
  have HK := n6_
  have HB := n7_
  clear n0_ n1_ n2_ n3_ n4_ n5_ n6_ n7_
  obtain ⟨hcz28_0, hcz28_1, hfz28_0, hfz28_1⟩ := cz2 BK380
  have hnb29 := NB371_0.out
  have hnc29 := NB0_371.out
  obtain ⟨hcz30_0, hcz30_1, hfz30_0, hfz30_1⟩ := cz2 BK371
  try go_wp2
  refine bodyPost_ret (results_cell_row rfl _ _ gb371 56 #[.slice (some ⟨go9, 0, none⟩) t372.length co13, .slice Ao17 t375.length co17] (0, 0) _ rfl (by (with_reducible repeat (first | refine uF ?_ _ | refine uE ?_ | refine uD ?_ _)); refine uZ (cs := #[.slice (some ⟨go9, 0, none⟩) t372.length co13, .slice none 0 0]) ?_ 1 _ rfl; (with_reducible repeat (first | refine uF ?_ _ | refine uE ?_ | refine uD ?_ _)); refine uZ (cs := #[.slice none 0 0, .slice none 0 0]) ?_ 0 _ rfl; (with_reducible repeat (first | refine uF ?_ _ | refine uE ?_ | refine uD ?_ _)); exact BK371.out) Tryd.underlying56 rfl (by kernel_rfl)) rfl ?_
  exact ⟨_, _, cq5, Kd.Q_of_R (by (with_reducible repeat (first | apply Kd.uK | apply Kd.uJ | apply Kd.uO)); exact Kd.uG (Kd.uI (p := ⟨gb371, 1, none⟩) (Kd.uI (p := ⟨gb371, 0, none⟩) (Kd.vE HO374.out BK371.out (by decide)) (fun _ hk => hk.2) (.slice (some ⟨go9, 0, none⟩) t372.length co13)) (fun _ hk => hk.2) (.slice Ao17 t375.length co17)) (fun _ hk => trivial)), by (with_reducible repeat (first | apply Kd.uK | apply Kd.uJ | apply Kd.uO)); exact Kd.uG (Kd.uI (p := ⟨gb371, 1, none⟩) (Kd.uI (p := ⟨gb371, 0, none⟩) (Kd.vE HO377.out BK371.out (by decide)) (fun _ hk => hk.2) (.slice (some ⟨go9, 0, none⟩) t372.length co13)) (fun _ hk => hk.2) (.slice Ao17 t375.length co17)) (fun _ hk => trivial), cq10, cq1, cq4⟩
 rw [if_neg c4] at H
 have c4b0 := beq_eq_false_iff_ne.mpr c4
 have c4b1 := bne_iff_ne.mpr c4
 by_cases c31 : t381 = 1
 ·rw [if_pos c31] at H
  have c31b0 := beq_iff_eq.mpr c31
  have c31b1 := bne_eq_false_iff_eq.mpr c31
  clear c31
  by_cases c32 : 1 ≤ (t372.length : Int)
  rotate_left
  ·rw [if_neg c32] at H
   exact absurd H (by simp)
  rw [if_pos c32] at H
  have c32b0 := eq_true c32
  have c32b1 := decide_eq_true c32
  clear c32
  obtain ⟨y394, hy394⟩ : ∃ y_ : List Int, y_ = (t372.drop (1 : Int).toNat) := ⟨_, rfl⟩
  replace H : (some (y394, t375, t382, t383)) = some (r1, r2, r3, r4) := rpl hy394 H
  have Ny394 := Aside0.mk hy394
  clear hy394
  simp only [Option.some.injEq, Prod.mk.injEq] at H
  obtain ⟨rfl, rfl, rfl, rfl⟩ := H
  go_wp2_with (first | ((with_reducible refine uB (f := 118) rfl ?_); refine uL (some 5) Tryd.func118 #[.pointer (some ⟨g, 0, none⟩)] ?_; (with_reducible refine (spec_l4Machine.calls k g s0_0 s0_1 s0_2 t372 t375 t378 t379 w0 _ ?side1 ?side2 A2.out).mono ?_); (case side1 => exact cq19); (case side2 => exact cq1); rintro e w34 ⟨v373, v376, rfl, ho0, ho1, hi, hb, hk⟩; refine ⟨_, rfl, ?_⟩; have HO374 := Aside0.mk (Kd.uN ho0 (vG (w := w) (g := g) (row := none) cq4)); have HO377 := Aside0.mk (Kd.uN ho1 (vG (w := w) (g := g) (row := none) cq4)); replace BK371 := tKBlk BK371 hk NB371_0; replace HK := uX HK hk; replace HB := Aside0.mk (hb); replace HI0 := Aside0.mk (hi); (try clear hb); (try clear hk); (try clear hi); (try clear ho0); (try clear ho1)) | ((with_reducible refine uQ (N := 3) rfl ?_); refine bxe 3 #[.slice none 0 0, .slice none 0 0] 56 ?_; intro gb380 hg w35 hbox hb; have BK380 := Aside0.mk (hbox); have GW380 := tKGe HK hg; have GE380 := tKW HW0 HK hg; have NB371_380 := tNl BK371 hg; have NB380_371 := tNg BK371 hg; have NB0_380 := Aside0.mk ((by rw [hg]; exact Nat.ne_of_lt (IsS110.lt (show IsS110 w0 _ g s0_0 t378 t379 from by repeat (first | (with_reducible first | exact HI0.out | apply IsS110.alloc | apply IsS110.drewN | apply IsS110.drew | apply IsS110.set_1 | apply IsS110.set_2 | refine IsS110.far ?_ NB0_371.out _) | exact HI0.out))) : g ≠ gb380)); have NB380_0 := Aside0.mk ((by rw [hg]; exact Nat.ne_of_gt (IsS110.lt (show IsS110 w0 _ g s0_0 t378 t379 from by repeat (first | (with_reducible first | exact HI0.out | apply IsS110.alloc | apply IsS110.drewN | apply IsS110.drew | apply IsS110.set_1 | apply IsS110.set_2 | refine IsS110.far ?_ NB0_371.out _) | exact HI0.out))) : gb380 ≠ g)); replace HO374 := Kd.tR HO374 hb; replace HO377 := Kd.tR HO377 hb; replace HI0 := Aside0.mk (IsS110.below cq19 hb); replace BK371 := vI BK371 hb; replace HK := uX HK (uV.of_below hb g none); replace HB := tBel1 HB hb; clear hb hbox hg; obtain ⟨Ao36, co36, eo36⟩ := Kd.uS HO374.out; subst eo36; have hnb37 := NB380_371.out; have hnc37 := NB371_380.out; have hnb38 := NB380_0.out; have hnc38 := NB0_380.out; obtain ⟨hcz39_0, hcz39_1, hfz39_0, hfz39_1⟩ := cz2 BK380; obtain ⟨Ao40, co40, eo40⟩ := Kd.uS HO377.out; subst eo40) | ((with_reducible refine uB (f := 52) rfl ?_); refine uL (some 7) Tryd.func52 #[.pointer (some ⟨g, 0, none⟩), .int .i64 14] ?_; (with_reducible refine (spec_l1Below.calls g s0_0 t378 t379 14 t381 t382 t383 w0 _ ?side1 ?side2 A3.out).mono ?_); (case side1 => exact cq10); (case side2 => exact cq1); rintro e w41 ⟨rfl, hi, hb, hk⟩; refine ⟨_, rfl, ?_⟩; replace BK371 := tKBlkF BK371 hk NB371_0; replace HO374 := Aside0.mk (Kd.uG (Kd.vB (IsS110.apart (show IsS110 w0 _ g s0_0 t378 t379 from by repeat (first | (with_reducible first | exact HI0.out | apply IsS110.alloc | apply IsS110.drewN | apply IsS110.drew | apply IsS110.set_1 | apply IsS110.set_2 | refine IsS110.far ?_ NB0_371.out _ | refine IsS110.far ?_ NB0_380.out _) | exact HI0.out)) (by (with_reducible repeat (first | apply Kd.uK | apply Kd.uJ | apply Kd.uO)); exact (Kd.uG (Kd.uI (p := ⟨gb380, 1, none⟩) (Kd.uI (p := ⟨gb380, 0, none⟩) (Kd.vE HO374.out BK380.out (by decide)) (fun _ hk => hk.2) (.slice Ao36 t372.length co36)) (fun _ hk => hk.2) (.slice Ao40 t375.length co40)) (fun _ h_ => h_.1))) (by decide)) hk (fun _ h => h.2)) (fun _ h => h.1)); replace HO377 := Aside0.mk (Kd.uG (Kd.vB (IsS110.apart (show IsS110 w0 _ g s0_0 t378 t379 from by repeat (first | (with_reducible first | exact HI0.out | apply IsS110.alloc | apply IsS110.drewN | apply IsS110.drew | apply IsS110.set_1 | apply IsS110.set_2 | refine IsS110.far ?_ NB0_371.out _ | refine IsS110.far ?_ NB0_380.out _) | exact HI0.out)) (by (with_reducible repeat (first | apply Kd.uK | apply Kd.uJ | apply Kd.uO)); exact (Kd.uG (Kd.uI (p := ⟨gb380, 1, none⟩) (Kd.uI (p := ⟨gb380, 0, none⟩) (Kd.vE HO377.out BK380.out (by decide)) (fun _ hk => hk.2) (.slice Ao36 t372.length co36)) (fun _ hk => hk.2) (.slice Ao40 t375.length co40)) (fun _ h_ => h_.1))) (by decide)) hk (fun _ h => h.2)) (fun _ h => h.1)); replace BK380 := tKBlkP BK380 #[.slice Ao36 t372.length co36, .slice Ao40 t375.length co40] hk NB380_0; replace HK := uX HK hk; replace HB := Aside0.mk (hb); replace HI0 := Aside0.mk (hi); (try clear hb); (try clear hk); (try clear hi); obtain ⟨hcz42_0, hcz42_1, hfz42_0, hfz42_1⟩ := cz2 BK380; have q43 : (1 : Int) ≤ ((t372.length : Int) : Int) := of_decide_eq_true vC; obtain ⟨i043, hi043, _, hsz43, _⟩ := info_parts info3; have hcut43 := cut_from (P := Tryd.prog) 27 3 .i64 Tryd.underlying27 hi043 1 hsz43 Ao36 t372.length co36 1 (by omega) q43; have hr43 := Kd.Q_drop (k := (1 : Int).toNat) (Kd.Q_of_R HO374.out) (by omega); obtain ⟨A43, hA43⟩ : ∃ A1, A1 = (if co36 = (1 : Int).toNat then Ao36 else (Ao36 : Option Addr).map (·.add ((1 : Int).toNat * 1))) := ⟨_, rfl⟩; obtain ⟨c43, hc43⟩ : ∃ c1, c1 = co36 - (1 : Int).toNat := ⟨_, rfl⟩; have hy43 : y394.length = t372.length - (1 : Int).toNat := (by rw [Ny394.out, List.length_drop]); rw [← Ny394.out] at hr43; rw [← hy43, ← hA43, ← hc43] at hcut43; replace hr43 : Kd.Q (Kd.int .i64) 3 w41 w.heap.size (fun _ => True) (.slice A43 y394.length c43) y394 := (by rw [hA43, hc43, hy43]; exact hr43); have HE43 : Aside0 ((Value.slice A43 y394.length c43).ownBlock = (.slice Ao36 t372.length co36 : Value).ownBlock) := ⟨by rw [hA43]; split <;> (cases (Ao36 : Option Addr) <;> rfl)⟩; clear hy43 hi043 hsz43 HO374 hA43 hc43; have HO396 := Aside0.mk hr43; clear hr43; replace q43 := eq_true q43; have hnb44 := NB371_0.out; have hnc44 := NB0_371.out; obtain ⟨hcz45_0, hcz45_1, hfz45_0, hfz45_1⟩ := cz2 BK371))
  refine bodyPost_ret (results_cell_row rfl _ _ gb371 56 #[.slice A43 y394.length c43, .slice Ao40 t375.length co40] (0, 0) _ rfl (by (with_reducible repeat (first | refine uF ?_ _ | refine uE ?_ | refine uD ?_ _)); refine uZ (cs := #[.slice A43 y394.length c43, .slice none 0 0]) ?_ 1 _ rfl; (with_reducible repeat (first | refine uF ?_ _ | refine uE ?_ | refine uD ?_ _)); refine uZ (cs := #[.slice none 0 0, .slice none 0 0]) ?_ 0 _ rfl; (with_reducible repeat (first | refine uF ?_ _ | refine uE ?_ | refine uD ?_ _)); refine blk_far ?_ NB371_380.out _; (with_reducible repeat (first | refine uF ?_ _ | refine uE ?_ | refine uD ?_ _)); exact BK371.out) Tryd.underlying56 rfl (by kernel_rfl)) rfl ?_
  exact ⟨_, _, cq5, by (with_reducible repeat (first | apply Kd.Q_alloc | apply Kd.Q_drewN | apply Kd.Q_drew)); exact Kd.Q_mono (Kd.Q_far (p := ⟨gb371, 1, none⟩) (Kd.Q_far (p := ⟨gb371, 0, none⟩) (Kd.Q_far (p := ⟨gb380, 0, none⟩) (Kd.Q_types (Kd.Q_types HO396.out BK380.out (by decide)) BK371.out (by decide)) (fun _ hk => hk.1.2) (.slice A43 y394.length c43)) (fun _ hk => hk.2) (.slice A43 y394.length c43)) (fun _ hk => hk.2) (.slice Ao40 t375.length co40)) (fun _ hk => trivial), by (with_reducible repeat (first | apply Kd.uK | apply Kd.uJ | apply Kd.uO)); exact Kd.uG (Kd.uI (p := ⟨gb371, 1, none⟩) (Kd.uI (p := ⟨gb371, 0, none⟩) (Kd.uI (p := ⟨gb380, 0, none⟩) (Kd.vE (Kd.vE HO377.out BK380.out (by decide)) BK371.out (by decide)) (fun _ hk => hk.1.2) (.slice A43 y394.length c43)) (fun _ hk => hk.2) (.slice A43 y394.length c43)) (fun _ hk => hk.2) (.slice Ao40 t375.length co40)) (fun _ hk => trivial), cq10, cq1, cq4⟩
 rw [if_neg c31] at H
 have c31b0 := beq_eq_false_iff_ne.mpr c31
 have c31b1 := bne_iff_ne.mpr c31
 by_cases c46 : t381 = 2
 rotate_left
 ·rw [if_neg c46] at H
  have c46b0 := beq_eq_false_iff_ne.mpr c46
  have c46b1 := bne_iff_ne.mpr c46
  simp only [Option.some.injEq, Prod.mk.injEq] at H
  obtain ⟨rfl, rfl, rfl, rfl⟩ := H
  go_wp2_with (first | ((with_reducible refine uB (f := 118) rfl ?_); refine uL (some 5) Tryd.func118 #[.pointer (some ⟨g, 0, none⟩)] ?_; (with_reducible refine (spec_l4Machine.calls k g s0_0 s0_1 s0_2 t372 t375 t378 t379 w0 _ ?side1 ?side2 A2.out).mono ?_); (case side1 => exact cq19); (case side2 => exact cq1); rintro e w75 ⟨v373, v376, rfl, ho0, ho1, hi, hb, hk⟩; refine ⟨_, rfl, ?_⟩; have HO374 := Aside0.mk (Kd.uN ho0 (vG (w := w) (g := g) (row := none) cq4)); have HO377 := Aside0.mk (Kd.uN ho1 (vG (w := w) (g := g) (row := none) cq4)); replace BK371 := tKBlk BK371 hk NB371_0; replace HK := uX HK hk; replace HB := Aside0.mk (hb); replace HI0 := Aside0.mk (hi); (try clear hb); (try clear hk); (try clear hi); (try clear ho0); (try clear ho1)) | ((with_reducible refine uQ (N := 3) rfl ?_); refine bxe 3 #[.slice none 0 0, .slice none 0 0] 56 ?_; intro gb380 hg w76 hbox hb; have BK380 := Aside0.mk (hbox); have GW380 := tKGe HK hg; have GE380 := tKW HW0 HK hg; have NB371_380 := tNl BK371 hg; have NB380_371 := tNg BK371 hg; have NB0_380 := Aside0.mk ((by rw [hg]; exact Nat.ne_of_lt (IsS110.lt (show IsS110 w0 _ g s0_0 t378 t379 from by repeat (first | (with_reducible first | exact HI0.out | apply IsS110.alloc | apply IsS110.drewN | apply IsS110.drew | apply IsS110.set_1 | apply IsS110.set_2 | refine IsS110.far ?_ NB0_371.out _) | exact HI0.out))) : g ≠ gb380)); have NB380_0 := Aside0.mk ((by rw [hg]; exact Nat.ne_of_gt (IsS110.lt (show IsS110 w0 _ g s0_0 t378 t379 from by repeat (first | (with_reducible first | exact HI0.out | apply IsS110.alloc | apply IsS110.drewN | apply IsS110.drew | apply IsS110.set_1 | apply IsS110.set_2 | refine IsS110.far ?_ NB0_371.out _) | exact HI0.out))) : gb380 ≠ g)); replace HO374 := Kd.tR HO374 hb; replace HO377 := Kd.tR HO377 hb; replace HI0 := Aside0.mk (IsS110.below cq19 hb); replace BK371 := vI BK371 hb; replace HK := uX HK (uV.of_below hb g none); replace HB := tBel1 HB hb; clear hb hbox hg; obtain ⟨Ao77, co77, eo77⟩ := Kd.uS HO374.out; subst eo77; have hnb78 := NB380_371.out; have hnc78 := NB371_380.out; have hnb79 := NB380_0.out; have hnc79 := NB0_380.out; obtain ⟨hcz80_0, hcz80_1, hfz80_0, hfz80_1⟩ := cz2 BK380; obtain ⟨Ao81, co81, eo81⟩ := Kd.uS HO377.out; subst eo81) | ((with_reducible refine uB (f := 52) rfl ?_); refine uL (some 7) Tryd.func52 #[.pointer (some ⟨g, 0, none⟩), .int .i64 14] ?_; (with_reducible refine (spec_l1Below.calls g s0_0 t378 t379 14 t381 t382 t383 w0 _ ?side1 ?side2 A3.out).mono ?_); (case side1 => exact cq10); (case side2 => exact cq1); rintro e w82 ⟨rfl, hi, hb, hk⟩; refine ⟨_, rfl, ?_⟩; replace BK371 := tKBlkF BK371 hk NB371_0; replace HO374 := Aside0.mk (Kd.uG (Kd.vB (IsS110.apart (show IsS110 w0 _ g s0_0 t378 t379 from by repeat (first | (with_reducible first | exact HI0.out | apply IsS110.alloc | apply IsS110.drewN | apply IsS110.drew | apply IsS110.set_1 | apply IsS110.set_2 | refine IsS110.far ?_ NB0_371.out _ | refine IsS110.far ?_ NB0_380.out _) | exact HI0.out)) (by (with_reducible repeat (first | apply Kd.uK | apply Kd.uJ | apply Kd.uO)); exact (Kd.uG (Kd.uI (p := ⟨gb380, 1, none⟩) (Kd.uI (p := ⟨gb380, 0, none⟩) (Kd.vE HO374.out BK380.out (by decide)) (fun _ hk => hk.2) (.slice Ao77 t372.length co77)) (fun _ hk => hk.2) (.slice Ao81 t375.length co81)) (fun _ h_ => h_.1))) (by decide)) hk (fun _ h => h.2)) (fun _ h => h.1)); replace HO377 := Aside0.mk (Kd.uG (Kd.vB (IsS110.apart (show IsS110 w0 _ g s0_0 t378 t379 from by repeat (first | (with_reducible first | exact HI0.out | apply IsS110.alloc | apply IsS110.drewN | apply IsS110.drew | apply IsS110.set_1 | apply IsS110.set_2 | refine IsS110.far ?_ NB0_371.out _ | refine IsS110.far ?_ NB0_380.out _) | exact HI0.out)) (by (with_reducible repeat (first | apply Kd.uK | apply Kd.uJ | apply Kd.uO)); exact (Kd.uG (Kd.uI (p := ⟨gb380, 1, none⟩) (Kd.uI (p := ⟨gb380, 0, none⟩) (Kd.vE HO377.out BK380.out (by decide)) (fun _ hk => hk.2) (.slice Ao77 t372.length co77)) (fun _ hk => hk.2) (.slice Ao81 t375.length co81)) (fun _ h_ => h_.1))) (by decide)) hk (fun _ h => h.2)) (fun _ h => h.1)); replace BK380 := tKBlkP BK380 #[.slice Ao77 t372.length co77, .slice Ao81 t375.length co81] hk NB380_0; replace HK := uX HK hk; replace HB := Aside0.mk (hb); replace HI0 := Aside0.mk (hi); (try clear hb); (try clear hk); (try clear hi); obtain ⟨hcz83_0, hcz83_1, hfz83_0, hfz83_1⟩ := cz2 BK380; have hnb84 := NB371_0.out; have hnc84 := NB0_371.out; obtain ⟨hcz85_0, hcz85_1, hfz85_0, hfz85_1⟩ := cz2 BK371))
  refine bodyPost_ret (results_cell_row rfl _ _ gb371 56 #[.slice Ao77 t372.length co77, .slice Ao81 t375.length co81] (0, 0) _ rfl (by (with_reducible repeat (first | refine uF ?_ _ | refine uE ?_ | refine uD ?_ _)); refine uZ (cs := #[.slice Ao77 t372.length co77, .slice none 0 0]) ?_ 1 _ rfl; (with_reducible repeat (first | refine uF ?_ _ | refine uE ?_ | refine uD ?_ _)); refine uZ (cs := #[.slice none 0 0, .slice none 0 0]) ?_ 0 _ rfl; (with_reducible repeat (first | refine uF ?_ _ | refine uE ?_ | refine uD ?_ _)); exact BK371.out) Tryd.underlying56 rfl (by kernel_rfl)) rfl ?_
  exact ⟨_, _, cq5, Kd.Q_of_R (by (with_reducible repeat (first | apply Kd.uK | apply Kd.uJ | apply Kd.uO)); exact Kd.uG (Kd.uI (p := ⟨gb371, 1, none⟩) (Kd.uI (p := ⟨gb371, 0, none⟩) (Kd.vE HO374.out BK371.out (by decide)) (fun _ hk => hk.2) (.slice Ao77 t372.length co77)) (fun _ hk => hk.2) (.slice Ao81 t375.length co81)) (fun _ hk => trivial)), by (with_reducible repeat (first | apply Kd.uK | apply Kd.uJ | apply Kd.uO)); exact Kd.uG (Kd.uI (p := ⟨gb371, 1, none⟩) (Kd.uI (p := ⟨gb371, 0, none⟩) (Kd.vE HO377.out BK371.out (by decide)) (fun _ hk => hk.2) (.slice Ao77 t372.length co77)) (fun _ hk => hk.2) (.slice Ao81 t375.length co81)) (fun _ hk => trivial), cq10, cq1, cq4⟩
 rw [if_pos c46] at H
 have c46b0 := beq_iff_eq.mpr c46
 have c46b1 := bne_eq_false_iff_eq.mpr c46
 clear c46
 replace H := Option.bind_eq_some_iff.mp H
 obtain ⟨⟨t397, t398, t399⟩, A470, H⟩ := H
 try dsimp only at H
 have A47 := Aside0.mk A470
 clear A470
 replace H := Option.bind_eq_some_iff.mp H
 obtain ⟨⟨t400, t401, t402⟩, A480, H⟩ := H
 try dsimp only at H
 have A48 := Aside0.mk A480
 clear A480
 obtain ⟨y403, hy403⟩ : ∃ y_ : List Int, y_ = (([0, 10] : List Int)) := ⟨_, rfl⟩
 replace H : ((spec_l1PickInt.f s0_0 t401 t402 y403).bind fun bt406 => (if t375.length < 4398046511104 then (some (t372, (t375 ++ [(⟨t397, t400, (⟨false, bt406.1⟩ : S95)⟩ : S97)]), bt406.2.1, bt406.2.2)) else (none))) = some (r1, r2, r3, r4) := rpl hy403 H
 have Ny403 := Aside0.mk hy403
 clear hy403
 replace H := Option.bind_eq_some_iff.mp H
 obtain ⟨⟨t406, t407, t408⟩, A490, H⟩ := H
 try dsimp only at H
 have A49 := Aside0.mk A490
 clear A490
 obtain ⟨LMc50, H⟩ := ifL H
 obtain ⟨y409, hy409⟩ : ∃ y_ : List (S97), y_ = (t375 ++ [(⟨t397, t400, (⟨false, t406⟩ : S95)⟩ : S97)]) := ⟨_, rfl⟩
 replace H : (some (t372, y409, t407, t408)) = some (r1, r2, r3, r4) := rpl hy409 H
 have Ny409 := Aside0.mk hy409
 clear hy409
 simp only [Option.some.injEq, Prod.mk.injEq] at H
 obtain ⟨rfl, rfl, rfl, rfl⟩ := H
 try go_wp2_with (first | ((with_reducible refine uB (f := 118) rfl ?_); refine uL (some 5) Tryd.func118 #[.pointer (some ⟨g, 0, none⟩)] ?_; (with_reducible refine (spec_l4Machine.calls k g s0_0 s0_1 s0_2 t372 t375 t378 t379 w0 _ ?side1 ?side2 A2.out).mono ?_); (case side1 => exact cq19); (case side2 => exact cq1); rintro e w52 ⟨v373, v376, rfl, ho0, ho1, hi, hb, hk⟩; refine ⟨_, rfl, ?_⟩; have HO374 := Aside0.mk (Kd.uN ho0 (vG (w := w) (g := g) (row := none) cq4)); have HO377 := Aside0.mk (Kd.uN ho1 (vG (w := w) (g := g) (row := none) cq4)); replace BK371 := tKBlk BK371 hk NB371_0; replace HK := uX HK hk; replace HB := Aside0.mk (hb); replace HI0 := Aside0.mk (hi); (try clear hb); (try clear hk); (try clear hi); (try clear ho0); (try clear ho1)) | ((with_reducible refine uQ (N := 3) rfl ?_); refine bxe 3 #[.slice none 0 0, .slice none 0 0] 56 ?_; intro gb380 hg w53 hbox hb; have BK380 := Aside0.mk (hbox); have GW380 := tKGe HK hg; have GE380 := tKW HW0 HK hg; have NB371_380 := tNl BK371 hg; have NB380_371 := tNg BK371 hg; have NB0_380 := Aside0.mk ((by rw [hg]; exact Nat.ne_of_lt (IsS110.lt (show IsS110 w0 _ g s0_0 t378 t379 from by repeat (first | (with_reducible first | exact HI0.out | apply IsS110.alloc | apply IsS110.drewN | apply IsS110.drew | apply IsS110.set_1 | apply IsS110.set_2 | refine IsS110.far ?_ NB0_371.out _) | exact HI0.out))) : g ≠ gb380)); have NB380_0 := Aside0.mk ((by rw [hg]; exact Nat.ne_of_gt (IsS110.lt (show IsS110 w0 _ g s0_0 t378 t379 from by repeat (first | (with_reducible first | exact HI0.out | apply IsS110.alloc | apply IsS110.drewN | apply IsS110.drew | apply IsS110.set_1 | apply IsS110.set_2 | refine IsS110.far ?_ NB0_371.out _) | exact HI0.out))) : gb380 ≠ g)); replace HO374 := Kd.tR HO374 hb; replace HO377 := Kd.tR HO377 hb; replace HI0 := Aside0.mk (IsS110.below cq19 hb); replace BK371 := vI BK371 hb; replace HK := uX HK (uV.of_below hb g none); replace HB := tBel1 HB hb; clear hb hbox hg; obtain ⟨Ao54, co54, eo54⟩ := Kd.uS HO374.out; subst eo54; have hnb55 := NB380_371.out; have hnc55 := NB371_380.out; have hnb56 := NB380_0.out; have hnc56 := NB0_380.out; obtain ⟨hcz57_0, hcz57_1, hfz57_0, hfz57_1⟩ := cz2 BK380; obtain ⟨Ao58, co58, eo58⟩ := Kd.uS HO377.out; subst eo58) | ((with_reducible refine uB (f := 52) rfl ?_); refine uL (some 7) Tryd.func52 #[.pointer (some ⟨g, 0, none⟩), .int .i64 14] ?_; (with_reducible refine (spec_l1Below.calls g s0_0 t378 t379 14 t381 t382 t383 w0 _ ?side1 ?side2 A3.out).mono ?_); (case side1 => exact cq10); (case side2 => exact cq1); rintro e w59 ⟨rfl, hi, hb, hk⟩; refine ⟨_, rfl, ?_⟩; replace BK371 := tKBlkF BK371 hk NB371_0; replace HO374 := Aside0.mk (Kd.uG (Kd.vB (IsS110.apart (show IsS110 w0 _ g s0_0 t378 t379 from by repeat (first | (with_reducible first | exact HI0.out | apply IsS110.alloc | apply IsS110.drewN | apply IsS110.drew | apply IsS110.set_1 | apply IsS110.set_2 | refine IsS110.far ?_ NB0_371.out _ | refine IsS110.far ?_ NB0_380.out _) | exact HI0.out)) (by (with_reducible repeat (first | apply Kd.uK | apply Kd.uJ | apply Kd.uO)); exact (Kd.uG (Kd.uI (p := ⟨gb380, 1, none⟩) (Kd.uI (p := ⟨gb380, 0, none⟩) (Kd.vE HO374.out BK380.out (by decide)) (fun _ hk => hk.2) (.slice Ao54 t372.length co54)) (fun _ hk => hk.2) (.slice Ao58 t375.length co58)) (fun _ h_ => h_.1))) (by decide)) hk (fun _ h => h.2)) (fun _ h => h.1)); replace HO377 := Aside0.mk (Kd.uG (Kd.vB (IsS110.apart (show IsS110 w0 _ g s0_0 t378 t379 from by repeat (first | (with_reducible first | exact HI0.out | apply IsS110.alloc | apply IsS110.drewN | apply IsS110.drew | apply IsS110.set_1 | apply IsS110.set_2 | refine IsS110.far ?_ NB0_371.out _ | refine IsS110.far ?_ NB0_380.out _) | exact HI0.out)) (by (with_reducible repeat (first | apply Kd.uK | apply Kd.uJ | apply Kd.uO)); exact (Kd.uG (Kd.uI (p := ⟨gb380, 1, none⟩) (Kd.uI (p := ⟨gb380, 0, none⟩) (Kd.vE HO377.out BK380.out (by decide)) (fun _ hk => hk.2) (.slice Ao54 t372.length co54)) (fun _ hk => hk.2) (.slice Ao58 t375.length co58)) (fun _ h_ => h_.1))) (by decide)) hk (fun _ h => h.2)) (fun _ h => h.1)); replace BK380 := tKBlkP BK380 #[.slice Ao54 t372.length co54, .slice Ao58 t375.length co58] hk NB380_0; replace HK := uX HK hk; replace HB := Aside0.mk (hb); replace HI0 := Aside0.mk (hi); (try clear hb); (try clear hk); (try clear hi)))
 replace HO374 := Aside0.mk (Kd.uO HO374.out)
 replace HO377 := Aside0.mk (Kd.uO HO377.out)
 replace BK371 := Aside0.mk (uE BK371.out)
 replace BK380 := Aside0.mk (uE BK380.out)
 replace HI0 := Aside0.mk (IsS110.drew HI0.out)
 replace HK := Aside0.mk (keep_drew HK.out)
 replace HB := Aside0.mk (vL HB.out)
 refine start_ (n := 15) (S := fun w' => w'.cell? ⟨gb380, 0, none⟩ = some (.slice Ao54 t372.length co54) ∧ w'.cell? ⟨gb380, 1, none⟩ = some (.slice Ao58 t375.length co58)) (ds := [14]) #[false, false, false, false, false, false, false, false, false, false, false, false, false, false, false] (by kernel_rfl) rfl rfl ⟨(uC BK380.out 0).trans rfl, (uC BK380.out 1).trans rfl⟩ (fun hHeld => ?_); refine with_tabW spec_l4Any.tab8 spec_l4Any.bits8 (fun HT_ HW_ => ?_)
 generalize w59.drew = w60 at HO374 HO377 BK371 BK380 HI0 HK HB hHeld ⊢
 refine uM 0 (some 26) #[true, false, false, false, false, false, false, false, false, false, false, false, false, false, false] ?_
 refine uM 2 (some 28) #[true, false, true, false, false, false, false, false, false, false, false, false, false, false, false] ?_
 refine uM 4 (some 30) #[true, false, true, false, true, false, false, false, false, false, false, false, false, false, false] ?_
 refine uM 6 (some 32) #[true, false, true, false, true, false, true, false, false, false, false, false, false, false, false] ?_
 refine takeT 1 (some 27) #[true, true, true, false, true, false, true, false, false, false, false, false, false, false, false] ?_
 refine join_ (σ := Value) 7 tb1 (fun s_ => [(29, .int .i64 t397), (31, .int .i64 t400), (33, s_)]) (fun s_ w' => (w'.cell? ⟨gb380, 0, none⟩ = some (.slice Ao54 t372.length co54) ∧ w'.cell? ⟨gb380, 1, none⟩ = some (.slice Ao58 t375.length co58)) ∧ (Kd.R (Kd.int .i64) 3 w' w.heap.size (fun k_ => some k_ ≠ (s_ : Value).ownBlock) (.slice Ao54 t372.length co54) t372) ∧ (Kd.R k97 97 w' w.heap.size (fun _ => True) (.slice Ao58 t375.length co58) t375) ∧ (Kd.R (Kd.int .i64) 3 w' w.heap.size (fun k_ => some k_ ≠ (.slice Ao54 t372.length co54 : Value).ownBlock) s_ y403) ∧ (w'.heap[gb371]? = some (.cells #[.slice none 0 0, .slice none 0 0] 56 (0, 0))) ∧ (w'.heap[gb380]? = some (.cells #[.slice Ao54 t372.length co54, .slice Ao58 t375.length co58] 56 (0, 0))) ∧ (IsS110 w0 w' g s0_0 t401 t402) ∧ (uV w w' g none) ∧ (Below w0.heap.size w0 w')) ?_ ?_
 rotate_left
 ·intro hCont
  refine two_ (i := 3) (j := 7) (Ni := some 29) (Nj := some 33) #[true, true, true, true, true, false, true, false, false, false, false, false, false, false, false] #[true, true, true, false, true, false, true, true, false, false, false, false, false, false, false] rfl rfl rfl rfl (two_of HT_.out (by kernel_rfl)) (by decide) (by decide) (fun K hK => ?_) (fun K hK => ?_)
  ·skip
   refine goesT Tryd.func52 #[.pointer (some ⟨g, 0, none⟩), .int .i64 4] ?_
   with_reducible refine (spec_l1Below.calls g s0_0 t382 t383 4 t397 t398 t399 w0 _ ?side1 ?side2 A47.out).mono ?_
   (case side1 => exact cq10)
   (case side2 => exact cq1)
   rintro e w61 ⟨rfl, hi, hb, hk⟩
   refine ⟨_, rfl, ?_⟩
   replace BK371 := tKBlk BK371 hk NB371_0
   replace HO374 := Aside0.mk (Kd.uG (Kd.vB (IsS110.apart (show IsS110 w0 _ g s0_0 t382 t383 from by repeat (first | (with_reducible first | exact HI0.out | apply IsS110.alloc | apply IsS110.drewN | apply IsS110.drew | apply IsS110.set_1 | apply IsS110.set_2 | refine IsS110.far ?_ NB0_371.out _ | refine IsS110.far ?_ NB0_380.out _) | exact HI0.out)) (uT HO374.out) (by decide)) hk (fun _ h => h.2)) (fun _ h => h.1))
   replace HO377 := Aside0.mk (Kd.uG (Kd.vB (IsS110.apart (show IsS110 w0 _ g s0_0 t382 t383 from by repeat (first | (with_reducible first | exact HI0.out | apply IsS110.alloc | apply IsS110.drewN | apply IsS110.drew | apply IsS110.set_1 | apply IsS110.set_2 | refine IsS110.far ?_ NB0_371.out _ | refine IsS110.far ?_ NB0_380.out _) | exact HI0.out)) (uT HO377.out) (by decide)) hk (fun _ h => h.2)) (fun _ h => h.1))
   replace BK380 := tKBlk BK380 hk NB380_0
   replace HK := uX HK hk
   replace HB := Aside0.mk (hb)
   replace HI0 := Aside0.mk (hi)
   (try clear hb)
   (try clear hk)
   (try clear hi)
   refine hK.out _ _ ⟨(uC BK380.out 0).trans rfl, (uC BK380.out 1).trans rfl⟩ (fun hHeld => ?_)
   clear hK K
   refine vH (some 29) ?_
   refine two_ (i := 5) (j := 7) (Ni := some 31) (Nj := some 33) #[true, true, true, true, true, true, true, false, false, false, false, false, false, false, false] tb24 rfl rfl rfl rfl (two_of HT_.out (by kernel_rfl)) (by decide) (by decide) (fun K hK => ?_) (fun K hK => ?_)
   ·skip
    refine goesT Tryd.func52 #[.pointer (some ⟨g, 0, none⟩), .int .i64 3] ?_
    with_reducible refine (spec_l1Below.calls g s0_0 t398 t399 3 t400 t401 t402 w0 _ ?side1 ?side2 A48.out).mono ?_
    (case side1 => exact cq10)
    (case side2 => exact cq1)
    rintro e w62 ⟨rfl, hi, hb, hk⟩
    refine ⟨_, rfl, ?_⟩
    replace BK371 := tKBlk BK371 hk NB371_0
    replace HO374 := Aside0.mk (Kd.uG (Kd.vB (IsS110.apart (show IsS110 w0 _ g s0_0 t398 t399 from by repeat (first | (with_reducible first | exact HI0.out | apply IsS110.alloc | apply IsS110.drewN | apply IsS110.drew | apply IsS110.set_1 | apply IsS110.set_2 | refine IsS110.far ?_ NB0_371.out _ | refine IsS110.far ?_ NB0_380.out _) | exact HI0.out)) (uT HO374.out) (by decide)) hk (fun _ h => h.2)) (fun _ h => h.1))
    replace HO377 := Aside0.mk (Kd.uG (Kd.vB (IsS110.apart (show IsS110 w0 _ g s0_0 t398 t399 from by repeat (first | (with_reducible first | exact HI0.out | apply IsS110.alloc | apply IsS110.drewN | apply IsS110.drew | apply IsS110.set_1 | apply IsS110.set_2 | refine IsS110.far ?_ NB0_371.out _ | refine IsS110.far ?_ NB0_380.out _) | exact HI0.out)) (uT HO377.out) (by decide)) hk (fun _ h => h.2)) (fun _ h => h.1))
    replace BK380 := tKBlk BK380 hk NB380_0
    replace HK := uX HK hk
    replace HB := Aside0.mk (hb)
    replace HI0 := Aside0.mk (hi)
    (try clear hb)
    (try clear hk)
    (try clear hi)
    refine hK.out _ _ ⟨(uC BK380.out 0).trans rfl, (uC BK380.out 1).trans rfl⟩ (fun hHeld => ?_)
    clear hK K
    refine vH (some 31) ?_
    refine oneT 7 (some 33) tb1 (fun K hK => ?_)
    refine Kd.R_lit_step (Kd.int .i64) _ 3 ?hg (N := 33) ?hd (xs := ([0, 10] : List Int)) (inner := [.int .i64 0, .int .i64 10]) (ok := fun _ => True) (okp := fun _ => True) ?hr ?hp (fun _ hk => hk) trivial (Below.refl _ _) (Nat.le_refl _) (by simp) ?_; (case hd => rfl); (case hg => rfl); (case hr => first | (go_simp; done) | (go_simp; rfl)); (case hp => exact (Reps.one (show Kd.M (Kd.int .i64) _ _ _ 0 [.int .i64 0] from rfl) (Reps.one (show Kd.M (Kd.int .i64) _ _ _ 10 [.int .i64 10] from rfl) (Reps.none _ _))))
    intro v404 w63 ho64 hb hg_ hnew_
    clear hg_ hnew_
    (first | rw [← Ny403.out] at ho64 | (simp only [Int.reduceToNat] at ho64; rw [← Ny403.out] at ho64))
    have HO405 := Aside0.mk (Kd.uN (Kd.vJ ho64 (Kd.R_lt (uT HO374.out))) (vG (w := w) (g := g) (row := none) cq4))
    replace HO374 := Aside0.mk (Kd.vF (uT HO374.out) (Kd.vK ho64) hb)
    replace HO377 := Kd.tR HO377 hb
    replace HI0 := Aside0.mk (IsS110.below cq10 hb)
    replace BK371 := vI BK371 hb
    replace BK380 := vI BK380 hb
    replace HK := uX HK (uV.of_below hb g none)
    replace HB := tBel1 HB hb
    clear hb ho64
    refine hK.out _ _ ⟨(uC BK380.out 0).trans rfl, (uC BK380.out 1).trans rfl⟩ (fun hHeld => ?_)
    clear hK K
    refine vH (some 33) ?_
    exact norm_ cq47 (hCont (v404) _ ⟨hHeld, cq56, (uT HO377.out), cq106, (rSB BK371.out), (rSB BK380.out), cq10, cq4, cq1⟩)
   skip
   refine Kd.R_lit_step (Kd.int .i64) _ 3 ?hg (N := 33) ?hd (xs := ([0, 10] : List Int)) (inner := [.int .i64 0, .int .i64 10]) (ok := fun _ => True) (okp := fun _ => True) ?hr ?hp (fun _ hk => hk) trivial (Below.refl _ _) (Nat.le_refl _) (by simp) ?_; (case hd => rfl); (case hg => rfl); (case hr => first | (go_simp; done) | (go_simp; rfl)); (case hp => exact (Reps.one (show Kd.M (Kd.int .i64) _ _ _ 0 [.int .i64 0] from rfl) (Reps.one (show Kd.M (Kd.int .i64) _ _ _ 10 [.int .i64 10] from rfl) (Reps.none _ _))))
   intro v404 w62 ho63 hb hg_ hnew_
   clear hg_ hnew_
   (first | rw [← Ny403.out] at ho63 | (simp only [Int.reduceToNat] at ho63; rw [← Ny403.out] at ho63))
   have HO405 := Aside0.mk (Kd.uN (Kd.vJ ho63 (Kd.R_lt (uT HO374.out))) (vG (w := w) (g := g) (row := none) cq4))
   replace HO374 := Aside0.mk (Kd.vF (uT HO374.out) (Kd.vK ho63) hb)
   replace HO377 := Kd.tR HO377 hb
   replace HI0 := Aside0.mk (IsS110.below cq10 hb)
   replace BK371 := vI BK371 hb
   replace BK380 := vI BK380 hb
   replace HK := uX HK (uV.of_below hb g none)
   replace HB := tBel1 HB hb
   clear hb ho63
   refine hK.out _ _ ⟨(uC BK380.out 0).trans rfl, (uC BK380.out 1).trans rfl⟩ (fun hHeld => ?_)
   clear hK K
   refine vH (some 33) ?_
   refine oneT 5 (some 31) tb1 (fun K hK => ?_)
   refine goesT Tryd.func52 #[.pointer (some ⟨g, 0, none⟩), .int .i64 3] ?_
   with_reducible refine (spec_l1Below.calls g s0_0 t398 t399 3 t400 t401 t402 w0 _ ?side1 ?side2 A48.out).mono ?_
   (case side1 => exact cq10)
   (case side2 => exact cq1)
   rintro e w64 ⟨rfl, hi, hb, hk⟩
   refine ⟨_, rfl, ?_⟩
   replace BK371 := tKBlk BK371 hk NB371_0
   replace HO374 := Aside0.mk (Kd.uG (Kd.vB (IsS110.apart (show IsS110 w0 _ g s0_0 t398 t399 from by repeat (first | (with_reducible first | exact HI0.out | apply IsS110.alloc | apply IsS110.drewN | apply IsS110.drew | apply IsS110.set_1 | apply IsS110.set_2 | refine IsS110.far ?_ NB0_371.out _ | refine IsS110.far ?_ NB0_380.out _) | exact HI0.out)) (uT HO374.out) (by decide)) hk (fun _ h => h.2)) (fun _ h => h.1))
   replace HO377 := Aside0.mk (Kd.uG (Kd.vB (IsS110.apart (show IsS110 w0 _ g s0_0 t398 t399 from by repeat (first | (with_reducible first | exact HI0.out | apply IsS110.alloc | apply IsS110.drewN | apply IsS110.drew | apply IsS110.set_1 | apply IsS110.set_2 | refine IsS110.far ?_ NB0_371.out _ | refine IsS110.far ?_ NB0_380.out _) | exact HI0.out)) (uT HO377.out) (by decide)) hk (fun _ h => h.2)) (fun _ h => h.1))
   replace BK380 := tKBlk BK380 hk NB380_0
   replace HO405 := Aside0.mk (Kd.uG (Kd.vB (IsS110.apart (show IsS110 w0 _ g s0_0 t398 t399 from by repeat (first | (with_reducible first | exact HI0.out | apply IsS110.alloc | apply IsS110.drewN | apply IsS110.drew | apply IsS110.set_1 | apply IsS110.set_2 | refine IsS110.far ?_ NB0_371.out _ | refine IsS110.far ?_ NB0_380.out _) | exact HI0.out)) (uT HO405.out) (by decide)) hk (fun _ h => h.2)) (fun _ h => h.1))
   replace HK := uX HK hk
   replace HB := Aside0.mk (hb)
   replace HI0 := Aside0.mk (hi)
   (try clear hb)
   (try clear hk)
   (try clear hi)
   refine hK.out _ _ ⟨(uC BK380.out 0).trans rfl, (uC BK380.out 1).trans rfl⟩ (fun hHeld => ?_)
   clear hK K
   refine vH (some 31) ?_
   exact norm_ cq47 (hCont (v404) _ ⟨hHeld, cq56, (uT HO377.out), cq106, (rSB BK371.out), (rSB BK380.out), cq10, cq4, cq1⟩)
  skip
  refine Kd.R_lit_step (Kd.int .i64) _ 3 ?hg (N := 33) ?hd (xs := ([0, 10] : List Int)) (inner := [.int .i64 0, .int .i64 10]) (ok := fun _ => True) (okp := fun _ => True) ?hr ?hp (fun _ hk => hk) trivial (Below.refl _ _) (Nat.le_refl _) (by simp) ?_; (case hd => rfl); (case hg => rfl); (case hr => first | (go_simp; done) | (go_simp; rfl)); (case hp => exact (Reps.one (show Kd.M (Kd.int .i64) _ _ _ 0 [.int .i64 0] from rfl) (Reps.one (show Kd.M (Kd.int .i64) _ _ _ 10 [.int .i64 10] from rfl) (Reps.none _ _))))
  intro v404 w61 ho62 hb hg_ hnew_
  clear hg_ hnew_
  (first | rw [← Ny403.out] at ho62 | (simp only [Int.reduceToNat] at ho62; rw [← Ny403.out] at ho62))
  have HO405 := Aside0.mk (Kd.uN (Kd.vJ ho62 (Kd.R_lt (uT HO374.out))) (vG (w := w) (g := g) (row := none) cq4))
  replace HO374 := Aside0.mk (Kd.vF (uT HO374.out) (Kd.vK ho62) hb)
  replace HO377 := Kd.tR HO377 hb
  replace HI0 := Aside0.mk (IsS110.below cq10 hb)
  replace BK371 := vI BK371 hb
  replace BK380 := vI BK380 hb
  replace HK := uX HK (uV.of_below hb g none)
  replace HB := tBel1 HB hb
  clear hb ho62
  refine hK.out _ _ ⟨(uC BK380.out 0).trans rfl, (uC BK380.out 1).trans rfl⟩ (fun hHeld => ?_)
  clear hK K
  refine vH (some 33) ?_
  refine oneT 3 (some 29) tb24 (fun K hK => ?_)
  refine goesT Tryd.func52 #[.pointer (some ⟨g, 0, none⟩), .int .i64 4] ?_
  with_reducible refine (spec_l1Below.calls g s0_0 t382 t383 4 t397 t398 t399 w0 _ ?side1 ?side2 A47.out).mono ?_
  (case side1 => exact cq10)
  (case side2 => exact cq1)
  rintro e w63 ⟨rfl, hi, hb, hk⟩
  refine ⟨_, rfl, ?_⟩
  replace BK371 := tKBlk BK371 hk NB371_0
  replace HO374 := Aside0.mk (Kd.uG (Kd.vB (IsS110.apart (show IsS110 w0 _ g s0_0 t382 t383 from by repeat (first | (with_reducible first | exact HI0.out | apply IsS110.alloc | apply IsS110.drewN | apply IsS110.drew | apply IsS110.set_1 | apply IsS110.set_2 | refine IsS110.far ?_ NB0_371.out _ | refine IsS110.far ?_ NB0_380.out _) | exact HI0.out)) (uT HO374.out) (by decide)) hk (fun _ h => h.2)) (fun _ h => h.1))
  replace HO377 := Aside0.mk (Kd.uG (Kd.vB (IsS110.apart (show IsS110 w0 _ g s0_0 t382 t383 from by repeat (first | (with_reducible first | exact HI0.out | apply IsS110.alloc | apply IsS110.drewN | apply IsS110.drew | apply IsS110.set_1 | apply IsS110.set_2 | refine IsS110.far ?_ NB0_371.out _ | refine IsS110.far ?_ NB0_380.out _) | exact HI0.out)) (uT HO377.out) (by decide)) hk (fun _ h => h.2)) (fun _ h => h.1))
  replace BK380 := tKBlk BK380 hk NB380_0
  replace HO405 := Aside0.mk (Kd.uG (Kd.vB (IsS110.apart (show IsS110 w0 _ g s0_0 t382 t383 from by repeat (first | (with_reducible first | exact HI0.out | apply IsS110.alloc | apply IsS110.drewN | apply IsS110.drew | apply IsS110.set_1 | apply IsS110.set_2 | refine IsS110.far ?_ NB0_371.out _ | refine IsS110.far ?_ NB0_380.out _) | exact HI0.out)) (uT HO405.out) (by decide)) hk (fun _ h => h.2)) (fun _ h => h.1))
  replace HK := uX HK hk
  replace HB := Aside0.mk (hb)
  replace HI0 := Aside0.mk (hi)
  (try clear hb)
  (try clear hk)
  (try clear hi)
  refine hK.out _ _ ⟨(uC BK380.out 0).trans rfl, (uC BK380.out 1).trans rfl⟩ (fun hHeld => ?_)
  clear hK K
  refine vH (some 29) ?_
  refine oneT 5 (some 31) tb1 (fun K hK => ?_)
  refine goesT Tryd.func52 #[.pointer (some ⟨g, 0, none⟩), .int .i64 3] ?_
  with_reducible refine (spec_l1Below.calls g s0_0 t398 t399 3 t400 t401 t402 w0 _ ?side1 ?side2 A48.out).mono ?_
  (case side1 => exact cq10)
  (case side2 => exact cq1)
  rintro e w64 ⟨rfl, hi, hb, hk⟩
  refine ⟨_, rfl, ?_⟩
  replace BK371 := tKBlk BK371 hk NB371_0
  replace HO374 := Aside0.mk (Kd.uG (Kd.vB (IsS110.apart (show IsS110 w0 _ g s0_0 t398 t399 from by repeat (first | (with_reducible first | exact HI0.out | apply IsS110.alloc | apply IsS110.drewN | apply IsS110.drew | apply IsS110.set_1 | apply IsS110.set_2 | refine IsS110.far ?_ NB0_371.out _ | refine IsS110.far ?_ NB0_380.out _) | exact HI0.out)) (uT HO374.out) (by decide)) hk (fun _ h => h.2)) (fun _ h => h.1))
  replace HO377 := Aside0.mk (Kd.uG (Kd.vB (IsS110.apart (show IsS110 w0 _ g s0_0 t398 t399 from by repeat (first | (with_reducible first | exact HI0.out | apply IsS110.alloc | apply IsS110.drewN | apply IsS110.drew | apply IsS110.set_1 | apply IsS110.set_2 | refine IsS110.far ?_ NB0_371.out _ | refine IsS110.far ?_ NB0_380.out _) | exact HI0.out)) (uT HO377.out) (by decide)) hk (fun _ h => h.2)) (fun _ h => h.1))
  replace BK380 := tKBlk BK380 hk NB380_0
  replace HO405 := Aside0.mk (Kd.uG (Kd.vB (IsS110.apart (show IsS110 w0 _ g s0_0 t398 t399 from by repeat (first | (with_reducible first | exact HI0.out | apply IsS110.alloc | apply IsS110.drewN | apply IsS110.drew | apply IsS110.set_1 | apply IsS110.set_2 | refine IsS110.far ?_ NB0_371.out _ | refine IsS110.far ?_ NB0_380.out _) | exact HI0.out)) (uT HO405.out) (by decide)) hk (fun _ h => h.2)) (fun _ h => h.1))
  replace HK := uX HK hk
  replace HB := Aside0.mk (hb)
  replace HI0 := Aside0.mk (hi)
  (try clear hb)
  (try clear hk)
  (try clear hi)
  refine hK.out _ _ ⟨(uC BK380.out 0).trans rfl, (uC BK380.out 1).trans rfl⟩ (fun hHeld => ?_)
  clear hK K
  refine vH (some 31) ?_
  exact norm_ cq47 (hCont (v404) _ ⟨hHeld, cq56, (uT HO377.out), cq106, (rSB BK371.out), (rSB BK380.out), cq10, cq4, cq1⟩)
 rintro v404 w65 ⟨hS_, h0_, h1_, h2_, h3_, h4_, h5_, h6_, h7_⟩
 have n0_ : Aside0 (Kd.R (Kd.int .i64) 3 w65 w.heap.size (fun k_ => some k_ ≠ (v404 : Value).ownBlock) (.slice Ao54 t372.length co54) t372) := ⟨h0_⟩
 have n1_ : Aside0 (Kd.R k97 97 w65 w.heap.size (fun _ => True) (.slice Ao58 t375.length co58) t375) := ⟨h1_⟩
 have n2_ : Aside0 (Kd.R (Kd.int .i64) 3 w65 w.heap.size (fun k_ => some k_ ≠ (.slice Ao54 t372.length co54 : Value).ownBlock) v404 y403) := ⟨h2_⟩
 have n3_ : Aside0 (w65.heap[gb371]? = some (.cells #[.slice none 0 0, .slice none 0 0] 56 (0, 0))) := ⟨h3_⟩
 have n4_ : Aside0 (w65.heap[gb380]? = some (.cells #[.slice Ao54 t372.length co54, .slice Ao58 t375.length co58] 56 (0, 0))) := ⟨h4_⟩
 have n5_ : Aside0 (IsS110 w0 w65 g s0_0 t401 t402) := ⟨h5_⟩
 have n6_ : Aside0 (uV w w65 g none) := ⟨h6_⟩
 have n7_ : Aside0 (Below w0.heap.size w0 w65) := ⟨h7_⟩
 clear HO374
 clear HO377
 clear BK371
 clear BK380
 clear HI0
 clear HK
 clear HB
 clear h0_ h1_ h2_ h3_ h4_ h5_ h6_ h7_
 have HO374 := n0_
 have HO377 := n1_
 have HO405 := n2_
 have BK371 := n3_
 have BK380 := n4_
 have HI0 := n5_
 have HK := n6_
 have HB := n7_
 clear n0_ n1_ n2_ n3_ n4_ n5_ n6_ n7_
 have hHeld : w65.cell? ⟨gb380, 0, none⟩ = some (.slice Ao54 t372.length co54) ∧ w65.cell? ⟨gb380, 1, none⟩ = some (.slice Ao58 t375.length co58) := hS_
 obtain ⟨Ao66, co66, eo66⟩ := Kd.uS HO405.out
 (first | subst eo66 | (injection eo66 with f1_ f2_ f3_; have f4_ := f1_.symm; have f5_ := f3_.symm; clear f1_ f2_ f3_; subst f4_; subst f5_))
 refine norm_ (a' := ?_) ?_ ?_
 rotate_left
 ·simp only [putAll, Act.put, vZ, yA, yB]
  rfl
 refine oneT 8 (some 34) #[true, true, true, true, true, true, true, true, true, false, false, false, false, false, false] (fun K hK => ?_)
 refine goesT Tryd.func54 #[.pointer (some ⟨g, 0, none⟩), .slice Ao66 y403.length co66] ?_
 with_reducible refine (spec_l1PickInt.calls g s0_0 t401 t402 _ _ y403 t406 t407 t408 w0 _ ?side1 ?side2 ?side3 ?side4 ?side5 A49.out).mono ?_
 (case side1 => exact cq10)
 (case side2 => exact cq1)
 (case side3 => repeat (first | exact (Kd.uY HO405.out).2.2 | (with_reducible refine Kd.C_alloc ?_ _) | (with_reducible refine Kd.C_drewN ?_ _) | (with_reducible refine Kd.C_drew ?_)))
 (case side4 => exact (Kd.uY HO405.out).2.1)
 (case side5 => exact far_slice (IsS110.own_ne HI0.out HO405.out (by decide)))
 rintro e w67 ⟨rfl, hi, hb, hk⟩
 refine ⟨_, rfl, ?_⟩
 replace BK371 := tKBlk BK371 hk NB371_0
 replace HO374 := Aside0.mk (Kd.uG (Kd.vB (IsS110.apart (show IsS110 w0 _ g s0_0 t401 t402 from by repeat (first | (with_reducible first | exact HI0.out | apply IsS110.alloc | apply IsS110.drewN | apply IsS110.drew | apply IsS110.set_1 | apply IsS110.set_2 | refine IsS110.far ?_ NB0_371.out _ | refine IsS110.far ?_ NB0_380.out _) | exact HI0.out)) (uT HO374.out) (by decide)) hk (fun _ h => h.2)) (fun _ h => h.1))
 replace HO377 := Aside0.mk (Kd.uG (Kd.vB (IsS110.apart (show IsS110 w0 _ g s0_0 t401 t402 from by repeat (first | (with_reducible first | exact HI0.out | apply IsS110.alloc | apply IsS110.drewN | apply IsS110.drew | apply IsS110.set_1 | apply IsS110.set_2 | refine IsS110.far ?_ NB0_371.out _ | refine IsS110.far ?_ NB0_380.out _) | exact HI0.out)) (uT HO377.out) (by decide)) hk (fun _ h => h.2)) (fun _ h => h.1))
 replace BK380 := tKBlk BK380 hk NB380_0
 replace HO405 := Aside0.mk (Kd.uG (Kd.vB (IsS110.apart (show IsS110 w0 _ g s0_0 t401 t402 from by repeat (first | (with_reducible first | exact HI0.out | apply IsS110.alloc | apply IsS110.drewN | apply IsS110.drew | apply IsS110.set_1 | apply IsS110.set_2 | refine IsS110.far ?_ NB0_371.out _ | refine IsS110.far ?_ NB0_380.out _) | exact HI0.out)) (uT HO405.out) (by decide)) hk (fun _ h => h.2)) (fun _ h => h.1))
 replace HK := uX HK hk
 replace HB := Aside0.mk (hb)
 replace HI0 := Aside0.mk (hi)
 (try clear hb)
 (try clear hk)
 (try clear hi)
 refine hK.out _ _ ⟨(uC BK380.out 0).trans rfl, (uC BK380.out 1).trans rfl⟩ (fun hHeld => ?_)
 clear hK K
 refine vH (some 34) ?_
 refine uM 9 (some 35) #[true, true, true, true, true, true, true, true, true, true, false, false, false, false, false] ?_
 refine uM 10 (some 36) #[true, true, true, true, true, true, true, true, true, true, true, false, false, false, false] ?_
 refine oneT 11 (some 37) #[true, true, true, true, true, true, true, true, true, true, true, true, false, false, false] (fun K hK => ?_)
 refine value_ (w1 := ?_) (v := ?_) (by rfl) rfl ?_ ?_
 rotate_left 2
 ·go_simp
  constructor
  ·rfl
  rfl
 refine hK.out _ _ ⟨(uC (uD BK380.out _) 0).trans rfl, (uC (uD BK380.out _) 1).trans rfl⟩ (fun hHeld => ?_)
 clear hK K
 refine vH (some 37) ?_
 refine oneT 12 (some 38) #[true, true, true, true, true, true, true, true, true, true, true, true, true, false, false] (fun K hK => ?_)
 refine Kd.R_append_step k97 w.heap.size (by rfl) (.tmp 27) (.tmp 37) 54 97 (.agg #[(.int .i64 0), (.int .i64 0), (.bool false), (.int .i64 0)]) 32 rfl Tryd.underlying54 info97 rfl (by decide) (by omega) (.slice Ao58 t375.length co58) t375 (⟨t397, t400, (⟨false, t406⟩ : S95)⟩ : S97) [.int .i64 t397, .int .i64 t400, .bool false, .int .i64 t406] (fun _ => True) (fun _ => False) rfl rfl ?aP (fun _ hk => hk.elim) ?aF ?aO (Below.refl _ _) ?aS ?aL ?_
 (case aP => exact k97_mkM _ _ _ (⟨t397, t400, (⟨false, t406⟩ : S95)⟩ : S97))
 (case aF => exact (fun _ _ => trivial))
 (case aO => exact (uT HO377.out))
 (case aS => exact cq48)
 (case aL => have := LMc50.out; omega)
 intro v410 w68 ho hb hg hat
 rw [← Ny409.out] at ho
 have n0_ := IsS110.tgr HI0 hg (IsS110.own_ne HI0.out HO377.out (by decide))
 have n1_ := tGr BK371 hg (Kd.R_ne HO377.out BK371.out (by decide))
 have n2_ := Aside0.mk (Kd.R_over' (uT HO374.out) (Kd.R_typed (uT HO377.out)) (by decide) hg)
 have n3_ := tGr BK380 hg (Kd.R_ne HO377.out BK380.out (by decide))
 have n4_ := Aside0.mk (Kd.R_over' (uT HO405.out) (Kd.R_typed (uT HO377.out)) (by decide) hg)
 have n5_ := Aside0.mk (below_weaken cq1 HL.out hb)
 have n6_ := Aside0.mk (uV.trans cq4 (uV.of_grown hg g) (Kd.R_base2 HO377.out))
 have n7_ := Aside0.mk (ho)
 clear HI0
 clear BK371
 clear HO374
 clear BK380
 clear HO405
 clear HB
 clear HK
 clear HO377
 have HI0 := n0_
 have BK371 := n1_
 have HO374 := n2_
 have BK380 := n3_
 have HO405 := n4_
 have HB := n5_
 have HK := n6_
 have HO411 := n7_
 clear n0_ n1_ n2_ n3_ n4_ n5_ n6_ n7_
 clear ho hb hg hat
 obtain ⟨Ao69, co69, eo69⟩ := Kd.uS HO411.out
 (first | subst eo69 | (injection eo69 with f1_ f2_ f3_; have f4_ := f1_.symm; have f5_ := f3_.symm; clear f1_ f2_ f3_; subst f4_; subst f5_))
 refine hK.out _ _ ⟨(uC BK380.out 0).trans rfl, (uC BK380.out 1).trans rfl⟩ (fun hHeld => ?_)
 clear hK K
 refine vH (some 38) ?_
 refine uM 13 (some 39) #[true, true, true, true, true, true, true, true, true, true, true, true, true, true, false] ?_
 refine last_ (i := 14) (N := none) #[true, true, true, true, true, true, true, true, true, true, true, true, true, true, true] rfl rfl (one_of HT_.out (by kernel_rfl)) (by decide) (fun K hK => ?_)
 have hs70 : w68.cell? ⟨gb380, 1, none⟩ = some (.slice Ao58 t375.length co58) := (uC BK380.out 1).trans rfl
 have hfs70 := vQ BK380.out 1
 have hns70_0 := NB371_380.out
 have hms70_0 := NB380_371.out
 refine skip_ (w1 := ?_) (by rfl) rfl ?_ ?_
 rotate_left
 ·go_simp
  rfl
 refine hK.out _ _ ?_
 clear hK K
 refine done_ (done_of HT_.out (by kernel_rfl)) ?_
 obtain ⟨hcz71_0, hcz71_1, hfz71_0, hfz71_1⟩ := cz2 BK380
 have hnb72 := NB371_0.out
 have hnc72 := NB0_371.out
 obtain ⟨hcz73_0, hcz73_1, hfz73_0, hfz73_1⟩ := cz2 BK371
 try go_wp2
 refine bodyPost_ret (results_cell_row rfl _ _ gb371 56 #[.slice Ao54 t372.length co54, .slice Ao69 y409.length co69] (0, 0) _ rfl (by (with_reducible repeat (first | refine uF ?_ _ | refine uE ?_ | refine uD ?_ _)); refine uZ (cs := #[.slice Ao54 t372.length co54, .slice none 0 0]) ?_ 1 _ rfl; (with_reducible repeat (first | refine uF ?_ _ | refine uE ?_ | refine uD ?_ _)); refine uZ (cs := #[.slice none 0 0, .slice none 0 0]) ?_ 0 _ rfl; (with_reducible repeat (first | refine uF ?_ _ | refine uE ?_ | refine uD ?_ _)); refine blk_far ?_ NB371_380.out _; (with_reducible repeat (first | refine uF ?_ _ | refine uE ?_ | refine uD ?_ _)); exact BK371.out) Tryd.underlying56 rfl (by kernel_rfl)) rfl ?_
 exact ⟨_, _, cq5, Kd.Q_of_R (by (with_reducible repeat (first | apply Kd.uK | apply Kd.uJ | apply Kd.uO)); exact Kd.uG (Kd.uI (p := ⟨gb371, 1, none⟩) (Kd.uI (p := ⟨gb371, 0, none⟩) (Kd.uI (p := ⟨gb380, 1, none⟩) (Kd.vE (Kd.vE HO374.out BK380.out (by decide)) BK371.out (by decide)) (fun _ hk => hk.1.2) (.slice Ao69 y409.length co69)) (fun _ hk => hk.2) (.slice Ao54 t372.length co54)) (fun _ hk => hk.2) (.slice Ao69 y409.length co69)) (fun _ hk => trivial)), by (with_reducible repeat (first | apply Kd.uK | apply Kd.uJ | apply Kd.uO)); exact Kd.uG (Kd.uI (p := ⟨gb371, 1, none⟩) (Kd.uI (p := ⟨gb371, 0, none⟩) (Kd.uI (p := ⟨gb380, 1, none⟩) (Kd.vE (Kd.vE HO411.out BK380.out (by decide)) BK371.out (by decide)) (fun _ hk => hk.1.2) (.slice Ao69 y409.length co69)) (fun _ hk => hk.2) (.slice Ao54 t372.length co54)) (fun _ hk => hk.2) (.slice Ao69 y409.length co69)) (fun _ hk => trivial), cq10, cq1, cq4⟩

end Go.Proofs.YtcikahnmiiichaaDoor.K
