/- Go functions as Lean functions, and the proof that the code comes to them: written by a program of this session out of the translation. -/
import Derived.Test.YtcikahnmiiichaaDoorK0
import Derived.Test.YtcikahnmiiichaaDoorK1
import Derived.Test.YtcikahnmiiichaaDoorK10
namespace Go.Proofs.YtcikahnmiiichaaDoor.K
open List renaming setIfInBounds_toArray → vZ, set_cons_zero → yA, set_cons_succ → yB
open Go.World renaming block_lt_of_cell? → yF
open Go.Proofs.YtcikahnmiiichaaDoor.Given
open Go.RowKit Go.Proofs.YtcikahnmiiichaaDoorW.PrintWords Go.Proofs.YtcikahnmiiichaaDoorW.PrintLast Go.Proofs.YtcikahnmiiichaaDoorW.PrintMore
attribute [local go_sem] max2_int min2_int max_two min_two vW vV max_four min_four   -- for this text's walks alone
set_option linter.unusedVariables false
set_option linter.unusedSimpArgs false

/-! ### spec_DigestOf: function 20 -/
def spec_DigestOf.f (k : Nat) (l0 : List (S66)) (a1 : Int) : Option (Int) := (spec_DigestList.f k l0).bind fun t281 => ((spec_l1In.f a1 0 (wrap64 ((t281.length : Int) - 1))).bind fun t284 => (if t284 = true then (if 0 ≤ a1 then (if a1 < (t281.length : Int) then (some (rd t281 a1)) else (none)) else (none)) else (some (-1))))
theorem spec_DigestOf.mono : ∀ a0 a1 k, uA (spec_DigestOf.f k a0 a1) (spec_DigestOf.f (k + 1) a0 a1) := by
 intro a0 a1 k
 unfold spec_DigestOf.f
 repeat' first
   | (with_reducible exact spec_DigestList.mono _ _)
   | (with_reducible exact uA.refl _)
   | (with_reducible exact uA.none _)
   | (with_reducible refine uA.vA ?_ ?_)
   | (with_reducible refine uA.bind ?_ (fun _ => ?_))
   | exact uA.none _
   | refine uA.vA ?_ ?_
   | refine uA.bind ?_ (fun _ => ?_)
set_option maxHeartbeats 8000000 in
set_option maxRecDepth 100000 in
theorem spec_DigestOf.calls (k : Nat) (A0 : Option Addr) (c0 : Nat) (l0 : List (S66)) (a1 : Int) (r : Int) (w : World) (hr0 : Kd.C k66 w A0 l0.length l0) (hc0 : l0.length ≤ c0) (h : spec_DigestOf.f k l0 a1 = some r) :
  Calls Tryd.prog 20 #[.slice A0 l0.length c0, .int .i64 a1] w fun e w' => e = .returned (.int .i64 r) ∧ Below w.heap.size w w' := by
 have HR0 := Aside0.mk hr0
 have HC0 := Aside0.mk hc0
 clear hr0 hc0
 have HB := Aside0.mk (Below.refl w.heap.size w)
 have H : ((spec_DigestList.f k l0).bind fun t281 => ((spec_l1In.f a1 0 (wrap64 ((t281.length : Int) - 1))).bind fun t284 => (if t284 = true then (if 0 ≤ a1 then (if a1 < (t281.length : Int) then (some (rd t281 a1)) else (none)) else (none)) else (some (-1))))) = some r := h
 clear h
 replace H := Option.bind_eq_some_iff.mp H
 obtain ⟨t281, A30, H⟩ := H
 try dsimp only at H
 have A3 := Aside0.mk A30
 clear A30
 replace H := Option.bind_eq_some_iff.mp H
 obtain ⟨t284, A40, H⟩ := H
 try dsimp only at H
 have A4 := Aside0.mk A40
 clear A40
 go_enter Tryd.func20, Tryd.ntmps20
 go_wp2_with (first | ((with_reducible refine uB (f := 11) rfl ?_); refine uL (some 7) Tryd.func11 #[.slice A0 l0.length c0] ?_; (with_reducible refine (spec_DigestList.calls k _ _ l0 t281 _ ?side1 ?side2 A3.out).mono ?_); (case side1 => exact cq16); (case side2 => exact HC0.out); rintro e w10 ⟨v282, rfl, ho0, hb⟩; refine ⟨_, rfl, ?_⟩; have HO283 := Aside0.mk (Kd.uN ho0 (uR uW)); replace HB := uH HB hb; (try clear hb); (try clear ho0); obtain ⟨Ao11, co11, eo11⟩ := Kd.uS HO283.out; subst eo11; refine ?roundEnd))
 case roundEnd =>
 by_cases c5 : t284 = true
 rotate_left
 ·replace c5 := Bool.eq_false_iff.mpr c5
  subst c5
  try rw [if_neg (show ¬ (false = true) by decide)] at H
  obtain rfl := Option.some.inj H
  go_wp2_with (first | ((with_reducible refine uB (f := 48) rfl ?_); refine uL (some 12) Tryd.func48 #[.int .i64 a1, .int .i64 0, .int .i64 (wrap64 ((t281.length : Int) - 1))] ?_; (with_reducible refine (spec_l1In.calls a1 0 (wrap64 ((t281.length : Int) - 1)) false _ A4.out).mono ?_); rintro e w' ⟨rfl, ⟨nd, rfl⟩⟩; refine ⟨_, rfl, ?_⟩))
  go_ret
  exact ⟨cq5, uW⟩
 subst c5
 try rw [if_pos rfl] at H
 obtain ⟨c6b0, H⟩ := ifD H
 obtain ⟨c7b0, H⟩ := ifD H
 obtain rfl := Option.some.inj H
 go_wp2_with (first | ((with_reducible refine uB (f := 48) rfl ?_); refine uL (some 12) Tryd.func48 #[.int .i64 a1, .int .i64 0, .int .i64 (wrap64 ((t281.length : Int) - 1))] ?_; (with_reducible refine (spec_l1In.calls a1 0 (wrap64 ((t281.length : Int) - 1)) true _ A4.out).mono ?_); rintro e w' ⟨rfl, ⟨nd, rfl⟩⟩; refine ⟨_, rfl, ?_⟩; have p285 : 0 ≤ (a1 : Int) := of_decide_eq_true vC; have q285 : a1 < (t281.length : Int) := of_decide_eq_true vC; obtain ⟨ad285, e285, hx285_0⟩ := Kd.at_int (Kd.uY HO283.out).2.2 a1 p285 q285; cases e285; replace p285 := eq_true p285; replace q285 := eq_true q285))
 go_ret
 exact ⟨cq5, uW⟩

/-! ### spec_NewMachine: function 133 -/
def spec_NewMachine.f  : Option (List Int × (List (S97))) := some ((([0, 0, 0] : List Int)), ([] : List (S97)))
set_option maxHeartbeats 8000000 in
set_option maxRecDepth 100000 in
theorem spec_NewMachine.calls  (r1 : List Int) (r2 : List (S97)) (w : World) (h : spec_NewMachine.f  = some (r1, r2)) :
  Calls Tryd.prog 133 #[] w fun e w' => ∃ v0_ v1_ : Value, e = .returned (.agg #[v0_, v1_]) ∧ Kd.R (Kd.int .i64) 3 w' w.heap.size (fun _ => True) v0_ r1 ∧ Kd.R k97 97 w' w.heap.size (fun _ => True) v1_ r2 ∧ Below w.heap.size w w' := by
 have hu56 := Tryd.underlying56
 have HB := Aside0.mk (Below.refl w.heap.size w)
 have H : (some ((([0, 0, 0] : List Int)), ([] : List (S97)))) = some (r1, r2) := h
 clear h
 obtain ⟨y287, hy287⟩ : ∃ y_ : List Int, y_ = (([0, 0, 0] : List Int)) := ⟨_, rfl⟩
 replace H : (some (y287, ([] : List (S97)))) = some (r1, r2) := rpl hy287 H
 have Ny287 := Aside0.mk hy287
 clear hy287
 simp only [Option.some.injEq, Prod.mk.injEq] at H
 obtain ⟨rfl, rfl⟩ := H
 go_enter Tryd.func133, Tryd.ntmps133
 go_wp2_with (first | ((with_reducible refine uQ (N := 0) rfl ?_); refine bxe 0 #[.slice none 0 0, .slice none 0 0] 56 ?_; intro gb286 hg w1 hbox hb; have BK286 := Aside0.mk (hbox); have GW286 := tGe HB hg; have GE286 := tGe HB hg; replace HB := uH HB hb; clear hb hbox hg) | ((with_reducible refine uQ (N := 1) rfl ?_); refine Kd.R_lit (Kd.int .i64) _ 3 ?hg (N := 1) ?hd (xs := ([0, 0, 0] : List Int)) (inner := [.int .i64 0, .int .i64 0, .int .i64 0]) (ok := fun _ => True) (okp := fun _ => True) ?hr ?hp (fun _ hk => hk) trivial (Below.refl _ _) (Nat.le_refl _) (by simp) ?_; (case hd => rfl); (case hg => rfl); (case hr => first | (go_simp; done) | (go_simp; rfl)); (case hp => exact (Reps.one (show Kd.M (Kd.int .i64) _ _ _ 0 [.int .i64 0] from rfl) (Reps.one (show Kd.M (Kd.int .i64) _ _ _ 0 [.int .i64 0] from rfl) (Reps.one (show Kd.M (Kd.int .i64) _ _ _ 0 [.int .i64 0] from rfl) (Reps.none _ _))))); intro v288 w2 ho3 hb hg_ hnew_; clear hg_ hnew_; (first | rw [← Ny287.out] at ho3 | (simp only [Int.reduceToNat] at ho3; rw [← Ny287.out] at ho3)); have HO289 := Aside0.mk (Kd.uN ho3 (uR cq2)); replace BK286 := vI BK286 hb; replace HB := uH HB hb; clear hb ho3; obtain ⟨Ao4, co4, eo4⟩ := Kd.uS HO289.out; subst eo4; obtain ⟨hcz5_0, hcz5_1, hfz5_0, hfz5_1⟩ := cz2 BK286))
 refine bodyPost_ret (results_cell_row rfl _ _ gb286 56 #[.slice Ao4 y287.length co4, .slice none 0 0] (0, 0) _ rfl (by (with_reducible repeat (first | refine uF ?_ _ | refine uE ?_ | refine uD ?_ _)); refine uZ (cs := #[.slice Ao4 y287.length co4, .slice none 0 0]) ?_ 1 _ rfl; (with_reducible repeat (first | refine uF ?_ _ | refine uE ?_ | refine uD ?_ _)); refine uZ (cs := #[.slice none 0 0, .slice none 0 0]) ?_ 0 _ rfl; (with_reducible repeat (first | refine uF ?_ _ | refine uE ?_ | refine uD ?_ _)); exact BK286.out) Tryd.underlying56 rfl (by kernel_rfl)) rfl ?_
 exact ⟨_, _, cq5, by (with_reducible repeat (first | apply Kd.uK | apply Kd.uJ | apply Kd.uO)); exact Kd.uG (Kd.uI (p := ⟨gb286, 1, none⟩) (Kd.uI (p := ⟨gb286, 0, none⟩) (Kd.vE HO289.out BK286.out (by decide)) (fun _ hk => hk.2) (.slice Ao4 y287.length co4)) (fun _ hk => hk.2) (.slice none 0 0)) (fun _ hk => trivial), cq50, cq2⟩

/-! ### spec_l4Copy: function 144 -/
def spec_l4Copy.f (l0_0 : List Int) (l0_1 : List (S97)) : Option (List Int × (List (S97))) := (some (([] : List Int) : List Int)).bind fun y292 => (if y292.length + l0_0.length < 17592186044416 then ((some (([] : List (S97)) : List (S97))).bind fun y298 => (if y298.length + l0_1.length < 4398046511104 then (some ((y292 ++ l0_0), (y298 ++ l0_1))) else (none))) else (none))
def spec_l4Copy.T1 : Bool × List (List Nat × List Nat) := (true, [([], []), ([], []), ([1], [1]), ([0, 2], [0, 2]), ([], []), ([], []), ([5], [5]), ([4, 6, 3], [4, 6]), ([3, 7], [3, 7]), ([8, 7, 0, 1, 2, 3, 4, 5, 6, 7, 8], [8])])
def spec_l4Copy.B1 : List Nat := [0, 0, 2, 7, 0, 0, 32, 127, 255, 511]
theorem spec_l4Copy.tab1 : rtab .any (opsOf Tryd.f144 1) = spec_l4Copy.T1 := by kernel_rfl
theorem spec_l4Copy.bits1 : waitsOk spec_l4Copy.T1.2 spec_l4Copy.B1 = true := by kernel_rfl
set_option maxHeartbeats 8000000 in
set_option maxRecDepth 100000 in
theorem spec_l4Copy.calls (A0_0 : Option Addr) (c0_0 : Nat) (l0_0 : List Int) (A0_1 : Option Addr) (c0_1 : Nat) (l0_1 : List (S97)) (r1 : List Int) (r2 : List (S97)) (w : World) (hr0_0 : Kd.C (Kd.int .i64) w A0_0 l0_0.length l0_0) (hc0_0 : l0_0.length ≤ c0_0) (hr0_1 : Kd.C k97 w A0_1 l0_1.length l0_1) (hc0_1 : l0_1.length ≤ c0_1) (h : spec_l4Copy.f l0_0 l0_1 = some (r1, r2)) :
  Calls Tryd.prog 144 #[.agg #[.slice A0_0 l0_0.length c0_0, .slice A0_1 l0_1.length c0_1]] w fun e w' => ∃ v0_ v1_ : Value, e = .returned (.agg #[v0_, v1_]) ∧ Kd.R (Kd.int .i64) 3 w' w.heap.size (fun _ => True) v0_ r1 ∧ Kd.R k97 97 w' w.heap.size (fun _ => True) v1_ r2 ∧ Below w.heap.size w w' := by
 have hu56 := Tryd.underlying56
 have HR0_0 := Aside0.mk hr0_0
 have HC0_0 := Aside0.mk hc0_0
 clear hr0_0 hc0_0
 have HR0_1 := Aside0.mk hr0_1
 have HC0_1 := Aside0.mk hc0_1
 clear hr0_1 hc0_1
 have HB := Aside0.mk (Below.refl w.heap.size w)
 have H : ((some (([] : List Int) : List Int)).bind fun y292 => (if y292.length + l0_0.length < 17592186044416 then ((some (([] : List (S97)) : List (S97))).bind fun y298 => (if y298.length + l0_1.length < 4398046511104 then (some ((y292 ++ l0_0), (y298 ++ l0_1))) else (none))) else (none))) = some (r1, r2) := h
 clear h
 obtain ⟨y292, hy292⟩ : ∃ y_ : List Int, y_ = (([] : List Int)) := ⟨_, rfl⟩
 replace H : (if y292.length + l0_0.length < 17592186044416 then ((some (([] : List (S97)) : List (S97))).bind fun y298 => (if y298.length + l0_1.length < 4398046511104 then (some ((y292 ++ l0_0), (y298 ++ l0_1))) else (none))) else (none)) = some (r1, r2) := rpl hy292 H
 have Ny292 := Aside0.mk hy292
 clear hy292
 obtain ⟨LMc2, H⟩ := ifL H
 obtain ⟨y295, hy295⟩ : ∃ y_ : List Int, y_ = (y292 ++ l0_0) := ⟨_, rfl⟩
 replace H : ((some (([] : List (S97)) : List (S97))).bind fun y298 => (if y298.length + l0_1.length < 4398046511104 then (some (y295, (y298 ++ l0_1))) else (none))) = some (r1, r2) := rpl hy295 H
 have Ny295 := Aside0.mk hy295
 clear hy295
 obtain ⟨y298, hy298⟩ : ∃ y_ : List (S97), y_ = (([] : List (S97))) := ⟨_, rfl⟩
 replace H : (if y298.length + l0_1.length < 4398046511104 then (some (y295, (y298 ++ l0_1))) else (none)) = some (r1, r2) := rpl hy298 H
 have Ny298 := Aside0.mk hy298
 clear hy298
 obtain ⟨LMc3, H⟩ := ifL H
 obtain ⟨y301, hy301⟩ : ∃ y_ : List (S97), y_ = (y298 ++ l0_1) := ⟨_, rfl⟩
 replace H : (some (y295, y301)) = some (r1, r2) := rpl hy301 H
 have Ny301 := Aside0.mk hy301
 clear hy301
 simp only [Option.some.injEq, Prod.mk.injEq] at H
 obtain ⟨rfl, rfl⟩ := H
 go_enter Tryd.func144, Tryd.ntmps144
 try go_wp2_with (first | ((with_reducible refine uQ (N := 1) rfl ?_); refine bxe 1 #[.slice A0_0 l0_0.length c0_0, .slice A0_1 l0_1.length c0_1] 56 ?_; intro gb290 hg w4 hbox hb; have BK290 := Aside0.mk (hbox); have GW290 := tGe HB hg; have GE290 := tGe HB hg; replace HB := uH HB hb; clear hb hbox hg) | ((with_reducible refine uQ (N := 2) rfl ?_); refine bxe 2 #[.slice none 0 0, .slice none 0 0] 56 ?_; intro gb291 hg w5 hbox hb; have BK291 := Aside0.mk (hbox); have GW291 := tGe HB hg; have GE291 := tGe HB hg; have NB290_291 := tNl BK290 hg; have NB291_290 := tNg BK290 hg; replace BK290 := vI BK290 hb; replace HB := uH HB hb; clear hb hbox hg))
 replace BK290 := Aside0.mk (uE BK290.out)
 replace BK291 := Aside0.mk (uE BK291.out)
 replace HB := Aside0.mk (vL HB.out)
 refine start_ (n := 10) (S := fun w' => w'.cell? ⟨gb290, 0, none⟩ = some (.slice A0_0 l0_0.length c0_0) ∧ w'.cell? ⟨gb290, 1, none⟩ = some (.slice A0_1 l0_1.length c0_1)) (ds := []) tb23 (by kernel_rfl) rfl rfl ⟨(uC BK290.out 0).trans rfl, (uC BK290.out 1).trans rfl⟩ (fun hHeld => ?_); refine with_tabW spec_l4Copy.tab1 spec_l4Copy.bits1 (fun HT_ HW_ => ?_)
 generalize w5.drew = w6 at BK290 BK291 HB hHeld ⊢
 refine uM 1 (some 4) #[false, true, false, false, false, false, false, false, false, false] ?_
 refine uM 5 (some 8) #[false, true, false, false, false, true, false, false, false, false] ?_
 refine takeT 2 (some 5) #[false, true, true, false, false, true, false, false, false, false] ?_
 refine takeT 6 (some 9) #[false, true, true, false, false, true, true, false, false, false] ?_
 refine join_ (σ := Value × Value × Value) 3 tb2 (fun s_ => [(3, s_.1), (6, s_.2.1), (7, s_.2.2)]) (fun s_ w' => (w'.cell? ⟨gb290, 0, none⟩ = some (.slice A0_0 l0_0.length c0_0) ∧ w'.cell? ⟨gb290, 1, none⟩ = some (.slice A0_1 l0_1.length c0_1)) ∧ (Kd.R (Kd.int .i64) 3 w' w.heap.size (fun _ => True) s_.2.1 y295) ∧ (Kd.R k97 97 w' w.heap.size (fun _ => True) s_.2.2 y298) ∧ (w'.heap[gb290]? = some (.cells #[.slice A0_0 l0_0.length c0_0, .slice A0_1 l0_1.length c0_1] 56 (0, 0))) ∧ (w'.heap[gb291]? = some (.cells #[.slice none 0 0, .slice none 0 0] 56 (0, 0))) ∧ (Below w.heap.size w w')) ?_ ?_
 rotate_left
 ·intro hCont
  refine two_ (i := 0) (j := 4) (Ni := some 3) (Nj := some 7) #[true, true, true, false, false, true, true, false, false, false] #[false, true, true, false, true, true, true, false, false, false] rfl rfl rfl rfl (two_of HT_.out (by kernel_rfl)) (by decide) (by decide) (fun K hK => ?_) (fun K hK => ?_)
  ·skip
   refine Kd.R_lit_step (Kd.int .i64) _ 3 ?hg (N := 3) ?hd (xs := ([] : List Int)) (inner := []) (ok := fun _ => True) (okp := fun _ => True) ?hr ?hp (fun _ hk => hk) trivial (Below.refl _ _) (Nat.le_refl _) (by simp) ?_; (case hd => rfl); (case hg => rfl); (case hr => first | (go_simp; done) | (go_simp; rfl)); (case hp => exact (Reps.none _ _))
   intro v293 w7 ho8 hb hg_ hnew_
   clear hg_ hnew_
   (first | rw [← Ny292.out] at ho8 | (simp only [Int.reduceToNat] at ho8; rw [← Ny292.out] at ho8))
   have HO294 := Aside0.mk (Kd.uN ho8 (uR cq2))
   replace BK290 := vI BK290 hb
   replace BK291 := vI BK291 hb
   replace HB := uH HB hb
   clear hb ho8
   refine hK.out _ _ ⟨(uC BK290.out 0).trans rfl, (uC BK290.out 1).trans rfl⟩ (fun hHeld => ?_)
   clear hK K
   refine vH (some 3) ?_
   refine two_ (i := 3) (j := 4) (Ni := some 6) (Nj := some 7) #[true, true, true, true, false, true, true, false, false, false] tb70 rfl rfl rfl rfl (two_of HT_.out (by kernel_rfl)) (by decide) (by decide) (fun K hK => ?_) (fun K hK => ?_)
   ·skip
    refine Kd.R_append_rows_step (Kd.int .i64) (w0 := w) w.heap.size (by rfl) (.tmp 3) (.tmp 5) 27 3 (.int .i64 0) 8 rfl Tryd.underlying27 info3 rfl (by decide) (by omega) v293 y292 l0_0 _ _ _ (fun _ => True) (fun _ => False) rfl rfl ?aO ?aR (fun _ _ h => h) (fun _ h => h.elim) ?aF ?aB ?aS ?aL ?_
    (case aR => exact cq43)
    (case aB => exact cq46)
    (case aF => exact (fun _ _ => trivial))
    (case aO => exact (uT HO294.out))
    (case aS => exact cq44)
    (case aL => have := LMc2.out; omega)
    intro v296 w9 ho hb hg hat
    rw [← Ny295.out] at ho
    have n0_ := tGr BK290 hg (Kd.R_ne HO294.out BK290.out (by decide))
    have n1_ := tGr BK291 hg (Kd.R_ne HO294.out BK291.out (by decide))
    have n2_ := Aside0.mk (hb)
    have n3_ := Aside0.mk (ho)
    clear BK290
    clear BK291
    clear HB
    clear HO294
    have BK290 := n0_
    have BK291 := n1_
    have HB := n2_
    have HO297 := n3_
    clear n0_ n1_ n2_ n3_
    clear ho hb hg hat
    refine hK.out _ _ ⟨(uC BK290.out 0).trans rfl, (uC BK290.out 1).trans rfl⟩ (fun hHeld => ?_)
    clear hK K
    refine vH (some 6) ?_
    refine oneT 4 (some 7) tb2 (fun K hK => ?_)
    refine Kd.R_lit_step k97 _ 97 ?hg (N := 7) ?hd (xs := ([] : List (S97))) (inner := []) (ok := fun _ => True) (okp := fun _ => True) ?hr ?hp (fun _ hk => hk) trivial (Below.refl _ _) (Nat.le_refl _) (by simp) ?_; (case hd => rfl); (case hg => rfl); (case hr => first | (go_simp; done) | (go_simp; rfl)); (case hp => exact (Reps.none _ _))
    intro v299 w10 ho11 hb hg_ hnew_
    clear hg_ hnew_
    (first | rw [← Ny298.out] at ho11 | (simp only [Int.reduceToNat] at ho11; rw [← Ny298.out] at ho11))
    have HO300 := Aside0.mk (Kd.uN ho11 (uR cq2))
    replace HO297 := Kd.tR HO297 hb
    replace BK290 := vI BK290 hb
    replace BK291 := vI BK291 hb
    replace HB := uH HB hb
    clear hb ho11
    refine hK.out _ _ ⟨(uC BK290.out 0).trans rfl, (uC BK290.out 1).trans rfl⟩ (fun hHeld => ?_)
    clear hK K
    refine vH (some 7) ?_
    exact norm_ cq47 (hCont (v293, v296, v299) _ ⟨hHeld, (uT HO297.out), (uT HO300.out), (rSB BK290.out), (rSB BK291.out), cq2⟩)
   skip
   refine Kd.R_lit_step k97 _ 97 ?hg (N := 7) ?hd (xs := ([] : List (S97))) (inner := []) (ok := fun _ => True) (okp := fun _ => True) ?hr ?hp (fun _ hk => hk) trivial (Below.refl _ _) (Nat.le_refl _) (by simp) ?_; (case hd => rfl); (case hg => rfl); (case hr => first | (go_simp; done) | (go_simp; rfl)); (case hp => exact (Reps.none _ _))
   intro v299 w9 ho10 hb hg_ hnew_
   clear hg_ hnew_
   (first | rw [← Ny298.out] at ho10 | (simp only [Int.reduceToNat] at ho10; rw [← Ny298.out] at ho10))
   have HO300 := Aside0.mk (Kd.uN ho10 (uR cq2))
   replace HO294 := Kd.tR HO294 hb
   replace BK290 := vI BK290 hb
   replace BK291 := vI BK291 hb
   replace HB := uH HB hb
   clear hb ho10
   refine hK.out _ _ ⟨(uC BK290.out 0).trans rfl, (uC BK290.out 1).trans rfl⟩ (fun hHeld => ?_)
   clear hK K
   refine vH (some 7) ?_
   refine oneT 3 (some 6) tb2 (fun K hK => ?_)
   refine Kd.R_append_rows_step (Kd.int .i64) (w0 := w) w.heap.size (by rfl) (.tmp 3) (.tmp 5) 27 3 (.int .i64 0) 8 rfl Tryd.underlying27 info3 rfl (by decide) (by omega) v293 y292 l0_0 _ _ _ (fun _ => True) (fun _ => False) rfl rfl ?aO ?aR (fun _ _ h => h) (fun _ h => h.elim) ?aF ?aB ?aS ?aL ?_
   (case aR => exact cq43)
   (case aB => exact cq46)
   (case aF => exact (fun _ _ => trivial))
   (case aO => exact (uT HO294.out))
   (case aS => exact cq44)
   (case aL => have := LMc2.out; omega)
   intro v296 w11 ho hb hg hat
   rw [← Ny295.out] at ho
   have n0_ := tGr BK290 hg (Kd.R_ne HO294.out BK290.out (by decide))
   have n1_ := tGr BK291 hg (Kd.R_ne HO294.out BK291.out (by decide))
   have n2_ := Aside0.mk (Kd.R_over' (uT HO300.out) (Kd.R_typed (uT HO294.out)) (by decide) hg)
   have n3_ := Aside0.mk (hb)
   have n4_ := Aside0.mk (ho)
   clear BK290
   clear BK291
   clear HO300
   clear HB
   clear HO294
   have BK290 := n0_
   have BK291 := n1_
   have HO300 := n2_
   have HB := n3_
   have HO297 := n4_
   clear n0_ n1_ n2_ n3_ n4_
   clear ho hb hg hat
   refine hK.out _ _ ⟨(uC BK290.out 0).trans rfl, (uC BK290.out 1).trans rfl⟩ (fun hHeld => ?_)
   clear hK K
   refine vH (some 6) ?_
   exact norm_ cq47 (hCont (v293, v296, v299) _ ⟨hHeld, (uT HO297.out), (uT HO300.out), (rSB BK290.out), (rSB BK291.out), cq2⟩)
  skip
  refine Kd.R_lit_step k97 _ 97 ?hg (N := 7) ?hd (xs := ([] : List (S97))) (inner := []) (ok := fun _ => True) (okp := fun _ => True) ?hr ?hp (fun _ hk => hk) trivial (Below.refl _ _) (Nat.le_refl _) (by simp) ?_; (case hd => rfl); (case hg => rfl); (case hr => first | (go_simp; done) | (go_simp; rfl)); (case hp => exact (Reps.none _ _))
  intro v299 w7 ho8 hb hg_ hnew_
  clear hg_ hnew_
  (first | rw [← Ny298.out] at ho8 | (simp only [Int.reduceToNat] at ho8; rw [← Ny298.out] at ho8))
  have HO300 := Aside0.mk (Kd.uN ho8 (uR cq2))
  replace BK290 := vI BK290 hb
  replace BK291 := vI BK291 hb
  replace HB := uH HB hb
  clear hb ho8
  refine hK.out _ _ ⟨(uC BK290.out 0).trans rfl, (uC BK290.out 1).trans rfl⟩ (fun hHeld => ?_)
  clear hK K
  refine vH (some 7) ?_
  refine oneT 0 (some 3) tb70 (fun K hK => ?_)
  refine Kd.R_lit_step (Kd.int .i64) _ 3 ?hg (N := 3) ?hd (xs := ([] : List Int)) (inner := []) (ok := fun _ => True) (okp := fun _ => True) ?hr ?hp (fun _ hk => hk) trivial (Below.refl _ _) (Nat.le_refl _) (by simp) ?_; (case hd => rfl); (case hg => rfl); (case hr => first | (go_simp; done) | (go_simp; rfl)); (case hp => exact (Reps.none _ _))
  intro v293 w9 ho10 hb hg_ hnew_
  clear hg_ hnew_
  (first | rw [← Ny292.out] at ho10 | (simp only [Int.reduceToNat] at ho10; rw [← Ny292.out] at ho10))
  have HO294 := Aside0.mk (Kd.uN ho10 (uR cq2))
  replace HO300 := Kd.tR HO300 hb
  replace BK290 := vI BK290 hb
  replace BK291 := vI BK291 hb
  replace HB := uH HB hb
  clear hb ho10
  refine hK.out _ _ ⟨(uC BK290.out 0).trans rfl, (uC BK290.out 1).trans rfl⟩ (fun hHeld => ?_)
  clear hK K
  refine vH (some 3) ?_
  refine oneT 3 (some 6) tb2 (fun K hK => ?_)
  refine Kd.R_append_rows_step (Kd.int .i64) (w0 := w) w.heap.size (by rfl) (.tmp 3) (.tmp 5) 27 3 (.int .i64 0) 8 rfl Tryd.underlying27 info3 rfl (by decide) (by omega) v293 y292 l0_0 _ _ _ (fun _ => True) (fun _ => False) rfl rfl ?aO ?aR (fun _ _ h => h) (fun _ h => h.elim) ?aF ?aB ?aS ?aL ?_
  (case aR => exact cq43)
  (case aB => exact cq46)
  (case aF => exact (fun _ _ => trivial))
  (case aO => exact (uT HO294.out))
  (case aS => exact cq44)
  (case aL => have := LMc2.out; omega)
  intro v296 w11 ho hb hg hat
  rw [← Ny295.out] at ho
  have n0_ := tGr BK290 hg (Kd.R_ne HO294.out BK290.out (by decide))
  have n1_ := tGr BK291 hg (Kd.R_ne HO294.out BK291.out (by decide))
  have n2_ := Aside0.mk (Kd.R_over' (uT HO300.out) (Kd.R_typed (uT HO294.out)) (by decide) hg)
  have n3_ := Aside0.mk (hb)
  have n4_ := Aside0.mk (ho)
  clear BK290
  clear BK291
  clear HO300
  clear HB
  clear HO294
  have BK290 := n0_
  have BK291 := n1_
  have HO300 := n2_
  have HB := n3_
  have HO297 := n4_
  clear n0_ n1_ n2_ n3_ n4_
  clear ho hb hg hat
  refine hK.out _ _ ⟨(uC BK290.out 0).trans rfl, (uC BK290.out 1).trans rfl⟩ (fun hHeld => ?_)
  clear hK K
  refine vH (some 6) ?_
  exact norm_ cq47 (hCont (v293, v296, v299) _ ⟨hHeld, (uT HO297.out), (uT HO300.out), (rSB BK290.out), (rSB BK291.out), cq2⟩)
 rintro ⟨v293, v296, v299⟩ w12 ⟨hS_, h0_, h1_, h2_, h3_, h4_⟩
 have n0_ : Aside0 (Kd.R (Kd.int .i64) 3 w12 w.heap.size (fun _ => True) v296 y295) := ⟨h0_⟩
 have n1_ : Aside0 (Kd.R k97 97 w12 w.heap.size (fun _ => True) v299 y298) := ⟨h1_⟩
 have n2_ : Aside0 (w12.heap[gb290]? = some (.cells #[.slice A0_0 l0_0.length c0_0, .slice A0_1 l0_1.length c0_1] 56 (0, 0))) := ⟨h2_⟩
 have n3_ : Aside0 (w12.heap[gb291]? = some (.cells #[.slice none 0 0, .slice none 0 0] 56 (0, 0))) := ⟨h3_⟩
 have n4_ : Aside0 (Below w.heap.size w w12) := ⟨h4_⟩
 clear BK290
 clear BK291
 clear HB
 clear h0_ h1_ h2_ h3_ h4_
 have HO297 := n0_
 have HO300 := n1_
 have BK290 := n2_
 have BK291 := n3_
 have HB := n4_
 clear n0_ n1_ n2_ n3_ n4_
 have hHeld : w12.cell? ⟨gb290, 0, none⟩ = some (.slice A0_0 l0_0.length c0_0) ∧ w12.cell? ⟨gb290, 1, none⟩ = some (.slice A0_1 l0_1.length c0_1) := hS_
 refine norm_ (a' := ?_) ?_ ?_
 rotate_left
 ·simp only [putAll, Act.put, vZ, yA, yB]
  rfl
 refine oneT 7 (some 10) tb28 (fun K hK => ?_)
 refine Kd.R_append_rows_step k97 (w0 := w) w.heap.size (by rfl) (.tmp 7) (.tmp 9) 54 97 (.agg #[(.int .i64 0), (.int .i64 0), (.bool false), (.int .i64 0)]) 32 rfl Tryd.underlying54 info97 rfl (by decide) (by omega) v299 y298 l0_1 _ _ _ (fun _ => True) (fun _ => False) rfl rfl ?aO ?aR (fun _ _ h => h) (fun _ h => h.elim) ?aF ?aB ?aS ?aL ?_
 (case aR => exact cq70)
 (case aB => exact cq46)
 (case aF => exact (fun _ _ => trivial))
 (case aO => exact (uT HO300.out))
 (case aS => exact cq44)
 (case aL => have := LMc3.out; omega)
 intro v302 w13 ho hb hg hat
 rw [← Ny301.out] at ho
 have n0_ := tGr BK290 hg (Kd.R_ne HO300.out BK290.out (by decide))
 have n1_ := tGr BK291 hg (Kd.R_ne HO300.out BK291.out (by decide))
 have n2_ := Aside0.mk (Kd.R_over' (uT HO297.out) (Kd.R_typed (uT HO300.out)) (by decide) hg)
 have n3_ := Aside0.mk (hb)
 have n4_ := Aside0.mk (ho)
 clear BK290
 clear BK291
 clear HO297
 clear HB
 clear HO300
 have BK290 := n0_
 have BK291 := n1_
 have HO297 := n2_
 have HB := n3_
 have HO303 := n4_
 clear n0_ n1_ n2_ n3_ n4_
 clear ho hb hg hat
 obtain ⟨Ao14, co14, eo14⟩ := Kd.uS HO303.out
 (first | subst eo14 | (injection eo14 with f1_ f2_ f3_; have f4_ := f1_.symm; have f5_ := f3_.symm; clear f1_ f2_ f3_; subst f4_; subst f5_))
 obtain ⟨Ao15, co15, eo15⟩ := Kd.uS HO297.out
 (first | subst eo15 | (injection eo15 with f1_ f2_ f3_; have f4_ := f1_.symm; have f5_ := f3_.symm; clear f1_ f2_ f3_; subst f4_; subst f5_))
 refine hK.out _ _ ⟨(uC BK290.out 0).trans rfl, (uC BK290.out 1).trans rfl⟩ (fun hHeld => ?_)
 clear hK K
 refine vH (some 10) ?_
 refine uM 8 (some 11) tb29 ?_
 refine one_ (i := 9) (N := none) tb30 rfl rfl (one_of HT_.out (by kernel_rfl)) (by decide) (fun K hK => ?_)
 have hs16 : w13.cell? ⟨gb291, 0, none⟩ = some (.slice none 0 0) := (uC BK291.out 0).trans rfl
 have hfs16 := vQ BK291.out 0
 have hns16_0 := NB290_291.out
 have hms16_0 := NB291_290.out
 have hs17 : w13.cell? ⟨gb291, 1, none⟩ = some (.slice none 0 0) := (uC BK291.out 1).trans rfl
 have hfs17 := vQ BK291.out 1
 have hns17_0 := NB290_291.out
 have hms17_0 := NB291_290.out
 refine skip_ (w1 := ?_) (by rfl) rfl ?_ ?_
 rotate_left
 ·go_simp
  rfl
 refine hK.out _ _ ⟨((cell_far (p := ⟨gb291, _, none⟩) NB290_291.out _).trans (((cell_far (p := ⟨gb291, _, none⟩) NB290_291.out _).trans (hHeld.1)))), ((cell_far (p := ⟨gb291, _, none⟩) NB290_291.out _).trans (((cell_far (p := ⟨gb291, _, none⟩) NB290_291.out _).trans (hHeld.2))))⟩ (fun hHeld => ?_)
 clear hK K
 refine done_ (done_of HT_.out (by kernel_rfl)) ?_
 try go_wp2
 refine bodyPost_ret (results_cell_row rfl _ _ gb291 56 #[.slice Ao15 y295.length co15, .slice Ao14 y301.length co14] (0, 0) _ rfl (by (with_reducible repeat (first | refine uF ?_ _ | refine uE ?_ | refine uD ?_ _)); refine uZ (cs := #[.slice Ao15 y295.length co15, .slice none 0 0]) ?_ 1 _ rfl; (with_reducible repeat (first | refine uF ?_ _ | refine uE ?_ | refine uD ?_ _)); refine uZ (cs := #[.slice none 0 0, .slice none 0 0]) ?_ 0 _ rfl; (with_reducible repeat (first | refine uF ?_ _ | refine uE ?_ | refine uD ?_ _)); exact BK291.out) Tryd.underlying56 rfl (by kernel_rfl)) rfl ?_
 exact ⟨_, _, cq5, by (with_reducible repeat (first | apply Kd.uK | apply Kd.uJ | apply Kd.uO)); exact Kd.uG (Kd.uI (p := ⟨gb291, 1, none⟩) (Kd.uI (p := ⟨gb291, 0, none⟩) (Kd.vE HO297.out BK291.out (by decide)) (fun _ hk => hk.2) (.slice Ao15 y295.length co15)) (fun _ hk => hk.2) (.slice Ao14 y301.length co14)) (fun _ hk => trivial), by (with_reducible repeat (first | apply Kd.uK | apply Kd.uJ | apply Kd.uO)); exact Kd.uG (Kd.uI (p := ⟨gb291, 1, none⟩) (Kd.uI (p := ⟨gb291, 0, none⟩) (Kd.vE HO303.out BK291.out (by decide)) (fun _ hk => hk.2) (.slice Ao15 y295.length co15)) (fun _ hk => hk.2) (.slice Ao14 y301.length co14)) (fun _ hk => trivial), cq2⟩

/-! ### spec_SessionOf: function 145 -/
def spec_SessionOf.l0 : Nat → Int → Int → List Int → List (S97) → Option (Int × Int × Bool × Int × Bool)
 | 0, _, _, _, _ => none
 | k + 1, x1, x6, x305000, x305001 => if x6 < (x305001.length : Int) then (if 0 ≤ x6 then (if ((rd_T97 x305001 x6).f0) = x1 then (some ((rd_T97 x305001 x6).f0, (rd_T97 x305001 x6).f1, (rd_T97 x305001 x6).f2.f0, (rd_T97 x305001 x6).f2.f1, true)) else (spec_SessionOf.l0 k x1 (wrap64 (x6 + 1)) x305000 x305001)) else (none)) else (some (0, 0, false, 0, false))
def spec_SessionOf.f (k : Nat) (l0_0 : List Int) (l0_1 : List (S97)) (a1 : Int) : Option (Int × Int × Bool × Int × Bool) := spec_SessionOf.l0 k a1 0 l0_0 l0_1
theorem spec_SessionOf.mono_l : ∀ k, (∀ y0 y1 y2 y3, uA (spec_SessionOf.l0 k y0 y1 y2 y3) (spec_SessionOf.l0 (k + 1) y0 y1 y2 y3))
 | 0 => fun _ _ _ _ r h => by simp [spec_SessionOf.l0] at h
 | k + 1 => by
  have ih0 := spec_SessionOf.mono_l k
  intro y0 y1 y2 y3
  unfold spec_SessionOf.l0
  repeat' first
  | (with_reducible exact ih0 _ _ _ _)
  | (with_reducible exact uA.refl _)
  | (with_reducible exact uA.none _)
  | (with_reducible refine uA.vA ?_ ?_)
  | (with_reducible refine uA.bind ?_ (fun _ => ?_))
  | exact ih0 _ _ _ _
  | exact uA.none _
  | refine uA.vA ?_ ?_
  | refine uA.bind ?_ (fun _ => ?_)
theorem spec_SessionOf.mono : ∀ a0 a1 a2 k, uA (spec_SessionOf.f k a0 a1 a2) (spec_SessionOf.f (k + 1) a0 a1 a2) := by
 intro a0 a1 a2 k
 have ih0 := spec_SessionOf.mono_l k
 unfold spec_SessionOf.f
 repeat' first
   | (with_reducible exact ih0 _ _ _ _)
   | (with_reducible exact uA.refl _)
   | (with_reducible exact uA.none _)
   | (with_reducible refine uA.vA ?_ ?_)
   | (with_reducible refine uA.bind ?_ (fun _ => ?_))
   | exact ih0 _ _ _ _
   | exact uA.none _
   | refine uA.vA ?_ ?_
   | refine uA.bind ?_ (fun _ => ?_)
set_option maxHeartbeats 8000000 in
set_option maxRecDepth 100000 in
theorem spec_SessionOf.calls (k : Nat) (A0_0 : Option Addr) (c0_0 : Nat) (l0_0 : List Int) (A0_1 : Option Addr) (c0_1 : Nat) (l0_1 : List (S97)) (a1 : Int) (r1 : Int) (r2 : Int) (r3 : Bool) (r4 : Int) (r5 : Bool) (w : World) (hr0_0 : Kd.C (Kd.int .i64) w A0_0 l0_0.length l0_0) (hc0_0 : l0_0.length ≤ c0_0) (hr0_1 : Kd.C k97 w A0_1 l0_1.length l0_1) (hc0_1 : l0_1.length ≤ c0_1) (h : spec_SessionOf.f k l0_0 l0_1 a1 = some (r1, r2, r3, r4, r5)) :
  Calls Tryd.prog 145 #[.agg #[.slice A0_0 l0_0.length c0_0, .slice A0_1 l0_1.length c0_1], .int .i64 a1] w fun e w' => e = .returned (.tuple #[.agg #[.int .i64 r1, .int .i64 r2, .bool r3, .int .i64 r4], .bool r5]) ∧ Below w.heap.size w w' := by
 have hu56 := Tryd.underlying56
 have hu97 := Tryd.underlying97
 have HR0_0 := Aside0.mk hr0_0
 have HC0_0 := Aside0.mk hc0_0
 clear hr0_0 hc0_0
 have HR0_1 := Aside0.mk hr0_1
 have HC0_1 := Aside0.mk hc0_1
 clear hr0_1 hc0_1
 have HB := Aside0.mk (Below.refl w.heap.size w)
 have H : (spec_SessionOf.l0 k a1 0 l0_0 l0_1) = some (r1, r2, r3, r4, r5) := h
 clear h
 have H' := Aside0.mk H
 clear H
 go_enter Tryd.func145, Tryd.ntmps145
 go_wp2_with (first | ((with_reducible refine uQ (N := 2) rfl ?_); refine bxe 2 #[.slice A0_0 l0_0.length c0_0, .slice A0_1 l0_1.length c0_1] 56 ?_; intro gb304 hg w3 hbox hb; have BK304 := Aside0.mk (hbox); have GW304 := tGe HB hg; have GE304 := tGe HB hg; replace HB := uH HB hb; clear hb hbox hg) | ((with_reducible refine uQ (N := 4) rfl ?_); refine bxe 4 #[.int .i64 0, .int .i64 0, .bool false, .int .i64 0] 97 ?_; intro gb305 hg w4 hbox hb; have BK305 := Aside0.mk (hbox); have GW305 := tGe HB hg; have GE305 := tGe HB hg; have NB304_305 := tNl BK304 hg; have NB305_304 := tNg BK304 hg; replace BK304 := vI BK304 hb; replace HB := uH HB hb; clear hb hbox hg))
 go_loopg [6] k (fun kq v6 w' => ∃ (x6_1 : Int) (x306000_1 : Int) (x306001_1 : Int) (x306002_1 : Bool) (x306003_1 : Int), v6 = .int .i64 x6_1 ∧ Aside0 (spec_SessionOf.l0 kq a1 x6_1 l0_0 l0_1 = some (r1, r2, r3, r4, r5)) ∧ Aside0 (kq ≤ k) ∧ Aside0 (w'.heap[gb304]? = some (.cells #[(.slice A0_0 l0_0.length c0_0), (.slice A0_1 l0_1.length c0_1)] 56 (0, 0))) ∧ Aside0 (w'.heap[gb305]? = some (.cells #[.int .i64 x306000_1, .int .i64 x306001_1, .bool x306002_1, .int .i64 x306003_1] 97 (0, 0))) ∧ Aside0 (Below w.heap.size w w'))
 case atStart => exact ⟨(0), (0), (0), (false), (0), vD, H', ⟨Nat.le_refl _⟩, ⟨by (with_reducible repeat (first | refine uF ?_ _ | refine uE ?_ | refine uD ?_ _)); exact BK304.out⟩, ⟨by (with_reducible repeat (first | refine uF ?_ _ | refine uE ?_ | refine uD ?_ _)); exact BK305.out⟩, ⟨cq2⟩⟩
 case round =>
  clear H'
  obtain ⟨x6_1, x306000_1, x306001_1, x306002_1, x306003_1, rfl, HA, HK1, BK304, BK305, HB⟩ := hrel
  cases gk with
  | zero => exact absurd HA.out (by simp [spec_SessionOf.l0])
  | succ k1 =>
   have H := HA.out
   clear HA
   simp only [spec_SessionOf.l0] at H
   by_cases c5 : x6_1 < (l0_1.length : Int)
   rotate_left
   ·rw [if_neg c5] at H
    have c5b0 := decide_eq_false c5
    clear c5
    simp only [Option.some.injEq, Prod.mk.injEq] at H
    obtain ⟨rfl, rfl, rfl, rfl, rfl⟩ := H
    have hnb13 := NB304_305.out
    have hnc13 := NB305_304.out
    obtain ⟨hcz14_0, hcz14_1, hfz14_0, hfz14_1⟩ := cz2 BK304
    obtain ⟨hcz15_0, hcz15_1, hcz15_2, hcz15_3, hfz15_0, hfz15_1, hfz15_2, hfz15_3⟩ := cz4 BK305
    go_wp2
    refine bodyPost_ret (results_ct rfl _ _ gb305 97 #[.int .i64 0, .int .i64 0, .bool false, .int .i64 0] (0, 0) _ rfl (by (with_reducible repeat (first | refine uF ?_ _ | refine uE ?_ | refine uD ?_ _)); refine uZ (cs := #[.int .i64 0, .int .i64 0, .bool false, .int .i64 x306003_1]) ?_ 3 _ rfl; (with_reducible repeat (first | refine uF ?_ _ | refine uE ?_ | refine uD ?_ _)); refine uZ (cs := #[.int .i64 0, .int .i64 0, .bool x306002_1, .int .i64 x306003_1]) ?_ 2 _ rfl; (with_reducible repeat (first | refine uF ?_ _ | refine uE ?_ | refine uD ?_ _)); refine uZ (cs := #[.int .i64 0, .int .i64 x306001_1, .bool x306002_1, .int .i64 x306003_1]) ?_ 1 _ rfl; (with_reducible repeat (first | refine uF ?_ _ | refine uE ?_ | refine uD ?_ _)); refine uZ (cs := #[.int .i64 x306000_1, .int .i64 x306001_1, .bool x306002_1, .int .i64 x306003_1]) ?_ 0 _ rfl; (with_reducible repeat (first | refine uF ?_ _ | refine uE ?_ | refine uD ?_ _)); exact BK305.out) Tryd.underlying97 rfl (by kernel_rfl)) rfl ?_
    exact ⟨cq5, cq2⟩
   rw [if_pos c5] at H
   have c5b0 := decide_eq_true c5
   clear c5
   obtain ⟨c6b0, H⟩ := ifD H
   by_cases c7 : ((rd_T97 l0_1 x6_1).f0) = a1
   rotate_left
   ·rw [if_neg c7] at H
    have c7b0 := beq_eq_false_iff_ne.mpr c7
    have c7b1 := bne_iff_ne.mpr c7
    have H' := Aside0.mk H
    clear H
    have hnb11 := NB304_305.out
    have hnc11 := NB305_304.out
    obtain ⟨hcz12_0, hcz12_1, hfz12_0, hfz12_1⟩ := cz2 BK304
    have p306 : 0 ≤ (x6_1 : Int) := of_decide_eq_true vC
    have q306 : x6_1 < (l0_1.length : Int) := of_decide_eq_true vC
    obtain ⟨ad306, e306, hx306_0, hx306_1, hx306_2, hx306_3⟩ := at_T97 HR0_1.out x6_1 p306 q306
    cases e306
    replace hx306_0 := (HB.out.cell (yF w _ hx306_0)).trans hx306_0
    replace hx306_1 := (HB.out.cell (yF w _ hx306_1)).trans hx306_1
    replace hx306_2 := (HB.out.cell (yF w _ hx306_2)).trans hx306_2
    replace hx306_3 := (HB.out.cell (yF w _ hx306_3)).trans hx306_3
    replace p306 := eq_true p306
    replace q306 := eq_true q306
    go_wp2
    go_roundg k1
    case measure => have := HK1.out; omega
    case rel => exact ⟨(wrap64 (x6_1 + 1)), (x306000_1), (x306001_1), (x306002_1), (x306003_1), vD, H', ⟨by have := HK1.out; omega⟩, ⟨by (with_reducible repeat (first | refine uF ?_ _ | refine uE ?_ | refine uD ?_ _)); exact BK304.out⟩, ⟨by (with_reducible repeat (first | refine uF ?_ _ | refine uE ?_ | refine uD ?_ _)); exact BK305.out⟩, ⟨cq2⟩⟩
   rw [if_pos c7] at H
   have c7b0 := beq_iff_eq.mpr c7
   have c7b1 := bne_eq_false_iff_eq.mpr c7
   clear c7
   simp only [Option.some.injEq, Prod.mk.injEq] at H
   obtain ⟨rfl, rfl, rfl, rfl, rfl⟩ := H
   have hnb8 := NB304_305.out
   have hnc8 := NB305_304.out
   obtain ⟨hcz9_0, hcz9_1, hfz9_0, hfz9_1⟩ := cz2 BK304
   have p306 : 0 ≤ (x6_1 : Int) := of_decide_eq_true vC
   have q306 : x6_1 < (l0_1.length : Int) := of_decide_eq_true vC
   obtain ⟨ad306, e306, hx306_0, hx306_1, hx306_2, hx306_3⟩ := at_T97 HR0_1.out x6_1 p306 q306
   cases e306
   replace hx306_0 := (HB.out.cell (yF w _ hx306_0)).trans hx306_0
   replace hx306_1 := (HB.out.cell (yF w _ hx306_1)).trans hx306_1
   replace hx306_2 := (HB.out.cell (yF w _ hx306_2)).trans hx306_2
   replace hx306_3 := (HB.out.cell (yF w _ hx306_3)).trans hx306_3
   replace p306 := eq_true p306
   replace q306 := eq_true q306
   have p307 : 0 ≤ (x6_1 : Int) := of_decide_eq_true vC
   have q307 : x6_1 < (l0_1.length : Int) := of_decide_eq_true vC
   obtain ⟨ad307, e307, hx307_0, hx307_1, hx307_2, hx307_3⟩ := at_T97 HR0_1.out x6_1 p307 q307
   obtain rfl : ad306 = ad307 := (by injection e307)
   replace hx307_0 := (HB.out.cell (yF w _ hx307_0)).trans hx307_0
   replace hx307_1 := (HB.out.cell (yF w _ hx307_1)).trans hx307_1
   replace hx307_2 := (HB.out.cell (yF w _ hx307_2)).trans hx307_2
   replace hx307_3 := (HB.out.cell (yF w _ hx307_3)).trans hx307_3
   replace p307 := eq_true p307
   replace q307 := eq_true q307
   obtain ⟨hcz10_0, hcz10_1, hcz10_2, hcz10_3, hfz10_0, hfz10_1, hfz10_2, hfz10_3⟩ := cz4 BK305
   go_wp2
   refine bodyPost_ret (results_ct rfl _ _ gb305 97 #[.int .i64 ((rd_T97 l0_1 x6_1).f0), .int .i64 ((rd_T97 l0_1 x6_1).f1), .bool ((rd_T97 l0_1 x6_1).f2.f0), .int .i64 ((rd_T97 l0_1 x6_1).f2.f1)] (0, 0) _ rfl (by (with_reducible repeat (first | refine uF ?_ _ | refine uE ?_ | refine uD ?_ _)); refine uZ (cs := #[.int .i64 ((rd_T97 l0_1 x6_1).f0), .int .i64 ((rd_T97 l0_1 x6_1).f1), .bool ((rd_T97 l0_1 x6_1).f2.f0), .int .i64 x306003_1]) ?_ 3 _ rfl; (with_reducible repeat (first | refine uF ?_ _ | refine uE ?_ | refine uD ?_ _)); refine uZ (cs := #[.int .i64 ((rd_T97 l0_1 x6_1).f0), .int .i64 ((rd_T97 l0_1 x6_1).f1), .bool x306002_1, .int .i64 x306003_1]) ?_ 2 _ rfl; (with_reducible repeat (first | refine uF ?_ _ | refine uE ?_ | refine uD ?_ _)); refine uZ (cs := #[.int .i64 ((rd_T97 l0_1 x6_1).f0), .int .i64 x306001_1, .bool x306002_1, .int .i64 x306003_1]) ?_ 1 _ rfl; (with_reducible repeat (first | refine uF ?_ _ | refine uE ?_ | refine uD ?_ _)); refine uZ (cs := #[.int .i64 x306000_1, .int .i64 x306001_1, .bool x306002_1, .int .i64 x306003_1]) ?_ 0 _ rfl; (with_reducible repeat (first | refine uF ?_ _ | refine uE ?_ | refine uD ?_ _)); exact BK305.out) Tryd.underlying97 rfl (by kernel_rfl)) rfl ?_
   exact ⟨cq5, cq2⟩

end Go.Proofs.YtcikahnmiiichaaDoor.K
