/- Go functions as Lean functions, and the proof that the code comes to them: written by a program of this session out of the translation. -/
import Derived.Test.YtcikahnmiiichaaDoorK0
import Derived.Test.YtcikahnmiiichaaDoorK1
import Derived.Test.YtcikahnmiiichaaDoorK3
import Derived.Test.YtcikahnmiiichaaDoorK16
import Derived.Test.YtcikahnmiiichaaDoorK19
namespace Go.Proofs.YtcikahnmiiichaaDoor.K
open List renaming setIfInBounds_toArray → vZ, set_cons_zero → yA, set_cons_succ → yB
open Go.World renaming block_lt_of_cell? → yF
open Go.Proofs.YtcikahnmiiichaaDoor.Given
open Go.RowKit Go.Proofs.YtcikahnmiiichaaDoorW.PrintWords Go.Proofs.YtcikahnmiiichaaDoorW.PrintLast Go.Proofs.YtcikahnmiiichaaDoorW.PrintMore
attribute [local go_sem] max2_int min2_int max_two min_two vW vV max_four min_four   -- for this text's walks alone
set_option linter.unusedVariables false
set_option linter.unusedSimpArgs false

/-! ### spec_DrawJoinChunks: function 27 -/
def spec_DrawJoinChunks.f (k : Nat) (l0 : List Int) : Option (List ByteArray × Int) := (spec_l1New.f k l0).bind fun bt638 => ((spec_l7Parts.f k bt638.1 bt638.2.1 bt638.2.2).bind fun bt642 => ((spec_l1Below.f bt638.1 bt642.2.2.1 bt642.2.2.2 4).bind fun bt650 => (if bt650.1 = 0 then (some (bt642.2.1, (bt642.1.length : Int))) else (if bt650.1 = 1 then (some (bt642.1, wrap64 ((bt642.1.length : Int) + 1))) else (some (bt642.1, (bt642.1.length : Int)))))))
theorem spec_DrawJoinChunks.mono : ∀ a0 k, uA (spec_DrawJoinChunks.f k a0) (spec_DrawJoinChunks.f (k + 1) a0) := by
 intro a0 k
 unfold spec_DrawJoinChunks.f
 repeat' first
   | (with_reducible exact spec_l1New.mono _ _)
   | (with_reducible exact spec_l7Parts.mono _ _ _ _)
   | (with_reducible exact uA.refl _)
   | (with_reducible exact uA.none _)
   | (with_reducible refine uA.vA ?_ ?_)
   | (with_reducible refine uA.bind ?_ (fun _ => ?_))
   | exact uA.none _
   | refine uA.vA ?_ ?_
   | refine uA.bind ?_ (fun _ => ?_)
set_option maxHeartbeats 8000000 in
set_option maxRecDepth 100000 in
theorem spec_DrawJoinChunks.calls (k : Nat) (A0 : Option Addr) (c0 : Nat) (l0 : List Int) (r1 : List ByteArray) (r2 : Int) (w : World) (hr0 : Kd.C (Kd.int .u8) w A0 l0.length l0) (hc0 : l0.length ≤ c0) (h : spec_DrawJoinChunks.f k l0 = some (r1, r2)) :
  Calls Tryd.prog 27 #[.slice A0 l0.length c0] w fun e w' => ∃ v0_ : Value, e = .returned (.tuple #[v0_, .int .i64 r2]) ∧ Kd.R Kd.string 9 w' w.heap.size (fun _ => True) v0_ r1 ∧ Below w.heap.size w w' := by
 have HR0 := Aside0.mk hr0
 have HC0 := Aside0.mk hc0
 clear hr0 hc0
 have HB := Aside0.mk (Below.refl w.heap.size w)
 have H : ((spec_l1New.f k l0).bind fun bt638 => ((spec_l7Parts.f k bt638.1 bt638.2.1 bt638.2.2).bind fun bt642 => ((spec_l1Below.f bt638.1 bt642.2.2.1 bt642.2.2.2 4).bind fun bt650 => (if bt650.1 = 0 then (some (bt642.2.1, (bt642.1.length : Int))) else (if bt650.1 = 1 then (some (bt642.1, wrap64 ((bt642.1.length : Int) + 1))) else (some (bt642.1, (bt642.1.length : Int)))))))) = some (r1, r2) := h
 clear h
 replace H := Option.bind_eq_some_iff.mp H
 obtain ⟨⟨t638, t639, t640⟩, A20, H⟩ := H
 try dsimp only at H
 have A2 := Aside0.mk A20
 clear A20
 replace H := Option.bind_eq_some_iff.mp H
 obtain ⟨⟨t642, t645, t648, t649⟩, A30, H⟩ := H
 try dsimp only at H
 have A3 := Aside0.mk A30
 clear A30
 replace H := Option.bind_eq_some_iff.mp H
 obtain ⟨⟨t650, t651, t652⟩, A40, H⟩ := H
 try dsimp only at H
 have A4 := Aside0.mk A40
 clear A40
 go_enter Tryd.func27, Tryd.ntmps27
 go_wp2_with (first | ((with_reducible refine uB (f := 50) rfl ?_); refine uL (some 8) Tryd.func50 #[.slice A0 l0.length c0] ?_; (with_reducible refine (spec_l1New.calls k _ _ l0 t638 t639 t640 w _ ?side1 ?side2 ?side3 A2.out).mono ?_); (case side1 => exact uW); (case side2 => exact HR0.out); (case side3 => exact HC0.out); rintro e w6 ⟨g641, rfl, hi, hb, hb2⟩; refine ⟨_, rfl, ?_⟩; have HI641 := Aside0.mk (hi); replace HB := Aside0.mk (hb); (try clear hb); (try clear hb2); (try clear hi)) | ((with_reducible refine uB (f := 56) rfl ?_); refine uL (some 11) Tryd.func56 #[.pointer (some ⟨g641, 0, none⟩)] ?_; (with_reducible refine (spec_l7Parts.calls k g641 t638 t639 t640 t642 t645 t648 t649 w _ ?side1 ?side2 A3.out).mono ?_); (case side1 => repeat (first | (with_reducible first | exact HI641.out | apply IsS110.alloc | apply IsS110.drewN | apply IsS110.drew | apply IsS110.set_1 | apply IsS110.set_2) | exact HI641.out)); (case side2 => exact cq28); rintro e w7 ⟨v643, v646, rfl, ho0, ho1, hi, hb, hk⟩; refine ⟨_, rfl, ?_⟩; have HO644 := Aside0.mk (Kd.uN ho0 (uR cq28)); have HO647 := Aside0.mk (Kd.uN ho1 (uR cq28)); replace HB := Aside0.mk (hb); replace HI641 := Aside0.mk (hi); (try clear hb); (try clear hk); (try clear hi); (try clear ho0); (try clear ho1)) | ((with_reducible refine uB (f := 52) rfl ?_); refine uL (some 15) Tryd.func52 #[.pointer (some ⟨g641, 0, none⟩), .int .i64 4] ?_; (with_reducible refine (spec_l1Below.calls g641 t638 t648 t649 4 t650 t651 t652 w _ ?side1 ?side2 A4.out).mono ?_); (case side1 => repeat (first | (with_reducible first | exact HI641.out | apply IsS110.alloc | apply IsS110.drewN | apply IsS110.drew | apply IsS110.set_1 | apply IsS110.set_2) | exact HI641.out)); (case side2 => exact cq28); rintro e w8 ⟨rfl, hi, hb, hk⟩; refine ⟨_, rfl, ?_⟩; replace HO644 := Aside0.mk (Kd.uG (Kd.vB (IsS110.apart (show IsS110 w _ g641 t638 t648 t649 from by repeat (first | (with_reducible first | exact HI641.out | apply IsS110.alloc | apply IsS110.drewN | apply IsS110.drew | apply IsS110.set_1 | apply IsS110.set_2) | exact HI641.out)) (uT HO644.out) (by decide)) hk (fun _ h => h.2)) (fun _ h => h.1)); replace HO647 := Aside0.mk (Kd.uG (Kd.vB (IsS110.apart (show IsS110 w _ g641 t638 t648 t649 from by repeat (first | (with_reducible first | exact HI641.out | apply IsS110.alloc | apply IsS110.drewN | apply IsS110.drew | apply IsS110.set_1 | apply IsS110.set_2) | exact HI641.out)) (uT HO647.out) (by decide)) hk (fun _ h => h.2)) (fun _ h => h.1)); replace HB := Aside0.mk (hb); replace HI641 := Aside0.mk (hi); (try clear hb); (try clear hk); (try clear hi); obtain ⟨Ao9, co9, eo9⟩ := Kd.uS HO644.out; subst eo9; refine ?roundEnd))
 case roundEnd =>
 by_cases c5 : t650 = 0
 ·rw [if_pos c5] at H
  have c5b0 := beq_iff_eq.mpr c5
  have c5b1 := bne_eq_false_iff_eq.mpr c5
  clear c5
  simp only [Option.some.injEq, Prod.mk.injEq] at H
  obtain ⟨rfl, rfl⟩ := H
  go_wp2
  go_ret2
  exact ⟨_, cq5, by (with_reducible repeat (first | apply Kd.uK | apply Kd.uJ | apply Kd.uO)); exact Kd.uG HO647.out (fun _ hk => trivial), cq28⟩
 rw [if_neg c5] at H
 have c5b0 := beq_eq_false_iff_ne.mpr c5
 have c5b1 := bne_iff_ne.mpr c5
 by_cases c10 : t650 = 1
 rotate_left
 ·rw [if_neg c10] at H
  have c10b0 := beq_eq_false_iff_ne.mpr c10
  have c10b1 := bne_iff_ne.mpr c10
  simp only [Option.some.injEq, Prod.mk.injEq] at H
  obtain ⟨rfl, rfl⟩ := H
  go_wp2
  go_ret2
  exact ⟨_, cq5, by (with_reducible repeat (first | apply Kd.uK | apply Kd.uJ | apply Kd.uO)); exact Kd.uG HO644.out (fun _ hk => trivial), cq28⟩
 rw [if_pos c10] at H
 have c10b0 := beq_iff_eq.mpr c10
 have c10b1 := bne_eq_false_iff_eq.mpr c10
 clear c10
 simp only [Option.some.injEq, Prod.mk.injEq] at H
 obtain ⟨rfl, rfl⟩ := H
 go_wp2
 go_ret2
 exact ⟨_, cq5, by (with_reducible repeat (first | apply Kd.uK | apply Kd.uJ | apply Kd.uO)); exact Kd.uG HO644.out (fun _ hk => trivial), cq28⟩

/-! ### impl_JoinChunks: function 28 -/
mutual
def impl_JoinChunks.j0 : Nat → List ByteArray → Int → Bool → Option (ByteArray × Bool)
 | 0, _, _, _ => none
 | k + 1, x0, x1, x20 => if x20 = true then (some ((⟨#[]⟩ : ByteArray), false)) else (impl_JoinChunks.l0 k x1 (⟨#[]⟩ : ByteArray) x0 (x0.length : Int) 0)
def impl_JoinChunks.l0 : Nat → Int → ByteArray → List ByteArray → Int → Int → Option (ByteArray × Bool)
 | 0, _, _, _, _, _ => none
 | k + 1, x1, x6, x21, x22, x23 => if x23 < x22 then (if 0 ≤ x23 then (if x23 < (x21.length : Int) then ((impl_readChunk.f k (rdOf ByteArray.empty x21 x23)).bind fun bt654 => (if bt654.2.2.2 = true then (if bt654.1 = x23 then (if bt654.2.1 = x1 then (if x6.size + bt654.2.2.1.size ≤ 9223372036854775807 then (impl_JoinChunks.l0 k x1 (x6 ++ bt654.2.2.1) x21 x22 (wrap64 (x23 + 1))) else (none)) else (some ((⟨#[]⟩ : ByteArray), false))) else (some ((⟨#[]⟩ : ByteArray), false))) else (some ((⟨#[]⟩ : ByteArray), false)))) else (none)) else (none)) else (some (x6, true))
end
def impl_JoinChunks.f (k : Nat) (l0 : List ByteArray) (a1 : Int) : Option (ByteArray × Bool) := if (l0.length : Int) = a1 then (impl_JoinChunks.j0 k l0 a1 (decide (a1 < 1))) else (impl_JoinChunks.j0 k l0 a1 true)
theorem impl_JoinChunks.mono_l : ∀ k, (∀ y0 y1 y2, uA (impl_JoinChunks.j0 k y0 y1 y2) (impl_JoinChunks.j0 (k + 1) y0 y1 y2)) ∧ (∀ y0 y1 y2 y3 y4, uA (impl_JoinChunks.l0 k y0 y1 y2 y3 y4) (impl_JoinChunks.l0 (k + 1) y0 y1 y2 y3 y4))
 | 0 => ⟨fun _ _ _ r h => by simp [impl_JoinChunks.j0] at h, fun _ _ _ _ _ r h => by simp [impl_JoinChunks.l0] at h⟩
 | k + 1 => by
  obtain ⟨ih0, ih1⟩ := impl_JoinChunks.mono_l k
  refine ⟨?_, ?_⟩
  ·intro y0 y1 y2
   unfold impl_JoinChunks.j0
   repeat' first
   | (with_reducible exact ih0 _ _ _)
   | (with_reducible exact ih1 _ _ _ _ _)
   | (with_reducible exact impl_readChunk.mono _ _)
   | (with_reducible exact uA.refl _)
   | (with_reducible exact uA.none _)
   | (with_reducible refine uA.vA ?_ ?_)
   | (with_reducible refine uA.bind ?_ (fun _ => ?_))
   | exact ih0 _ _ _
   | exact ih1 _ _ _ _ _
   | exact uA.none _
   | refine uA.vA ?_ ?_
   | refine uA.bind ?_ (fun _ => ?_)
  intro y0 y1 y2 y3 y4
  unfold impl_JoinChunks.l0
  repeat' first
  | (with_reducible exact ih0 _ _ _)
  | (with_reducible exact ih1 _ _ _ _ _)
  | (with_reducible exact impl_readChunk.mono _ _)
  | (with_reducible exact uA.refl _)
  | (with_reducible exact uA.none _)
  | (with_reducible refine uA.vA ?_ ?_)
  | (with_reducible refine uA.bind ?_ (fun _ => ?_))
  | exact ih0 _ _ _
  | exact ih1 _ _ _ _ _
  | exact uA.none _
  | refine uA.vA ?_ ?_
  | refine uA.bind ?_ (fun _ => ?_)
theorem impl_JoinChunks.mono : ∀ a0 a1 k, uA (impl_JoinChunks.f k a0 a1) (impl_JoinChunks.f (k + 1) a0 a1) := by
 intro a0 a1 k
 obtain ⟨ih0, ih1⟩ := impl_JoinChunks.mono_l k
 unfold impl_JoinChunks.f
 repeat' first
   | (with_reducible exact ih0 _ _ _)
   | (with_reducible exact ih1 _ _ _ _ _)
   | (with_reducible exact impl_readChunk.mono _ _)
   | (with_reducible exact uA.refl _)
   | (with_reducible exact uA.none _)
   | (with_reducible refine uA.vA ?_ ?_)
   | (with_reducible refine uA.bind ?_ (fun _ => ?_))
   | exact ih0 _ _ _
   | exact ih1 _ _ _ _ _
   | exact uA.none _
   | refine uA.vA ?_ ?_
   | refine uA.bind ?_ (fun _ => ?_)
set_option maxHeartbeats 8000000 in
set_option maxRecDepth 100000 in
theorem impl_JoinChunks.calls (k : Nat) (A0 : Option Addr) (c0 : Nat) (l0 : List ByteArray) (a1 : Int) (r1 : ByteArray) (r2 : Bool) (w : World) (hr0 : Kd.C Kd.string w A0 l0.length l0) (hc0 : l0.length ≤ c0) (hWF : WF w) (h : impl_JoinChunks.f k l0 a1 = some (r1, r2)) :
  Calls Tryd.prog 28 #[.slice A0 l0.length c0, .int .i64 a1] w fun e w' => e = .returned (.tuple #[.string r1, .bool r2]) ∧ Below w.heap.size w w' := by
 have HR0 := Aside0.mk hr0
 have HC0 := Aside0.mk hc0
 clear hr0 hc0
 have HB := Aside0.mk (Below.refl w.heap.size w)
 have H : (if (l0.length : Int) = a1 then (impl_JoinChunks.j0 k l0 a1 (decide (a1 < 1))) else (impl_JoinChunks.j0 k l0 a1 true)) = some (r1, r2) := h
 clear h
 have HC3 := Aside0.mk H
 clear H
 go_enter Tryd.func28, Tryd.ntmps28
 go_upto_region 1 with (fail)
 go_cut [20] (fun v20 wc => ∃ (kq : Nat) (x20_2 : Bool), v20 = .bool x20_2 ∧ Aside0 (impl_JoinChunks.j0 kq l0 a1 x20_2 = some (r1, r2)) ∧ Aside0 (kq ≤ k) ∧ Aside0 (Below w.heap.size w wc))
 case first =>
  have H := HC3.out
  clear HC3
  by_cases c4 : (l0.length : Int) = a1
  rotate_left
  ·rw [if_neg c4] at H
   have c4b0 := beq_eq_false_iff_ne.mpr c4
   have c4b1 := bne_iff_ne.mpr c4
   (first | rw [c4b0] | (simp only [vM, vO]; rw [c4b0]) | skip)
   have H' := Aside0.mk H
   clear H
   go_wp2
   go_meet
   case rel => exact ⟨_, (true), vD, H', ⟨by first | omega | exact Nat.le_refl _⟩, ⟨uW⟩⟩
  rw [if_pos c4] at H
  have c4b0 := beq_iff_eq.mpr c4
  have c4b1 := bne_eq_false_iff_eq.mpr c4
  clear c4
  (first | rw [c4b0] | (simp only [vM, vO]; rw [c4b0]) | skip)
  have H' := Aside0.mk H
  clear H
  go_wp2
  go_meet
  case rel => exact ⟨_, (decide (a1 < 1)), vD, H', ⟨by first | omega | exact Nat.le_refl _⟩, ⟨uW⟩⟩
 case rest =>
  clear HC3
  obtain ⟨kq, x20_2, rfl, HA, HJ2, HB⟩ := hcut
  cases kq with
  | zero => exact absurd HA.out (by simp [impl_JoinChunks.j0])
  | succ kj2 =>
   have H := HA.out
   clear HA
   simp only [impl_JoinChunks.j0] at H
   by_cases c5 : x20_2 = true
   ·subst c5
    try rw [if_pos rfl] at H
    simp only [Option.some.injEq, Prod.mk.injEq] at H
    obtain ⟨rfl, rfl⟩ := H
    go_wp2
    go_ret2
    exact ⟨cq5, uW⟩
   replace c5 := Bool.eq_false_iff.mpr c5
   subst c5
   try rw [if_neg (show ¬ (false = true) by decide)] at H
   have H' := Aside0.mk H
   clear H
   go_wp2
   go_loopg [6, 23] kj2 (fun kq v6 v23 w' => ∃ (x6_2 : ByteArray) (x23_2 : Int), v6 = .string x6_2 ∧ v23 = .int .i64 x23_2 ∧ Aside0 (impl_JoinChunks.l0 kq a1 x6_2 l0 (l0.length : Int) x23_2 = some (r1, r2)) ∧ Aside0 (kq ≤ kj2) ∧ Aside0 (Below w.heap.size w w'))
   case atStart => exact ⟨((⟨#[]⟩ : ByteArray)), (0), vD, vD, H', ⟨Nat.le_refl _⟩, ⟨uW⟩⟩
   case round =>
    clear H'
    try clear c5
    obtain ⟨x6_2, x23_2, rfl, rfl, HA, HK2, HB⟩ := hrel
    cases gk with
    | zero => exact absurd HA.out (by simp [impl_JoinChunks.l0])
    | succ k2 =>
     have H := HA.out
     clear HA
     simp only [impl_JoinChunks.l0] at H
     by_cases c6 : x23_2 < (l0.length : Int)
     rotate_left
     ·rw [if_neg c6] at H
      have c6b0 := decide_eq_false c6
      clear c6
      simp only [Option.some.injEq, Prod.mk.injEq] at H
      obtain ⟨rfl, rfl⟩ := H
      go_wp2
      go_ret2
      exact ⟨cq5, uW⟩
     rw [if_pos c6] at H
     have c6b0 := decide_eq_true c6
     clear c6
     obtain ⟨c7b0, H⟩ := ifD H
     obtain ⟨c8b0, H⟩ := ifD H
     replace H := Option.bind_eq_some_iff.mp H
     obtain ⟨⟨t654, t655, t656, t657⟩, A90, H⟩ := H
     try dsimp only at H
     have A9 := Aside0.mk A90
     clear A90
     by_cases c10 : t657 = true
     rotate_left
     ·replace c10 := Bool.eq_false_iff.mpr c10
      subst c10
      try rw [if_neg (show ¬ (false = true) by decide)] at H
      simp only [Option.some.injEq, Prod.mk.injEq] at H
      obtain ⟨rfl, rfl⟩ := H
      have p653 : 0 ≤ (x23_2 : Int) := of_decide_eq_true vC
      have q653 : x23_2 < (l0.length : Int) := of_decide_eq_true vC
      obtain ⟨ad653, e653, hx653_0⟩ := Kd.vS HR0.out x23_2 p653 q653
      cases e653
      replace hx653_0 := (HB.out.cell (yF w _ hx653_0)).trans hx653_0
      replace p653 := eq_true p653
      replace q653 := eq_true q653
      go_wp2_with (first | ((with_reducible refine uB (f := 59) rfl ?_); refine uL (some 30) Tryd.func59 #[.string (rdOf ByteArray.empty l0 x23_2)] ?_; (with_reducible refine (impl_readChunk.calls k2 (rdOf ByteArray.empty l0 x23_2) t654 t655 t656 false _ ?side1 A9.out).mono ?_); (case side1 => exact cq7); rintro e w17 ⟨rfl, hb⟩; refine ⟨_, rfl, ?_⟩; replace HB := uH HB hb; (try clear hb)))
      go_ret2
      exact ⟨cq5, uW⟩
     subst c10
     try rw [if_pos rfl] at H
     by_cases c11 : t654 = x23_2
     rotate_left
     ·rw [if_neg c11] at H
      have c11b0 := beq_eq_false_iff_ne.mpr c11
      have c11b1 := bne_iff_ne.mpr c11
      simp only [Option.some.injEq, Prod.mk.injEq] at H
      obtain ⟨rfl, rfl⟩ := H
      have p653 : 0 ≤ (x23_2 : Int) := of_decide_eq_true vC
      have q653 : x23_2 < (l0.length : Int) := of_decide_eq_true vC
      obtain ⟨ad653, e653, hx653_0⟩ := Kd.vS HR0.out x23_2 p653 q653
      cases e653
      replace hx653_0 := (HB.out.cell (yF w _ hx653_0)).trans hx653_0
      replace p653 := eq_true p653
      replace q653 := eq_true q653
      go_wp2_with (first | ((with_reducible refine uB (f := 59) rfl ?_); refine uL (some 30) Tryd.func59 #[.string (rdOf ByteArray.empty l0 x23_2)] ?_; (with_reducible refine (impl_readChunk.calls k2 (rdOf ByteArray.empty l0 x23_2) t654 t655 t656 true _ ?side1 A9.out).mono ?_); (case side1 => exact cq7); rintro e w16 ⟨rfl, hb⟩; refine ⟨_, rfl, ?_⟩; replace HB := uH HB hb; (try clear hb)))
      go_ret2
      exact ⟨cq5, uW⟩
     rw [if_pos c11] at H
     have c11b0 := beq_iff_eq.mpr c11
     have c11b1 := bne_eq_false_iff_eq.mpr c11
     clear c11
     by_cases c12 : t655 = a1
     rotate_left
     ·rw [if_neg c12] at H
      have c12b0 := beq_eq_false_iff_ne.mpr c12
      have c12b1 := bne_iff_ne.mpr c12
      simp only [Option.some.injEq, Prod.mk.injEq] at H
      obtain ⟨rfl, rfl⟩ := H
      have p653 : 0 ≤ (x23_2 : Int) := of_decide_eq_true vC
      have q653 : x23_2 < (l0.length : Int) := of_decide_eq_true vC
      obtain ⟨ad653, e653, hx653_0⟩ := Kd.vS HR0.out x23_2 p653 q653
      cases e653
      replace hx653_0 := (HB.out.cell (yF w _ hx653_0)).trans hx653_0
      replace p653 := eq_true p653
      replace q653 := eq_true q653
      go_wp2_with (first | ((with_reducible refine uB (f := 59) rfl ?_); refine uL (some 30) Tryd.func59 #[.string (rdOf ByteArray.empty l0 x23_2)] ?_; (with_reducible refine (impl_readChunk.calls k2 (rdOf ByteArray.empty l0 x23_2) t654 t655 t656 true _ ?side1 A9.out).mono ?_); (case side1 => exact cq7); rintro e w15 ⟨rfl, hb⟩; refine ⟨_, rfl, ?_⟩; replace HB := uH HB hb; (try clear hb)))
      go_ret2
      exact ⟨cq5, uW⟩
     rw [if_pos c12] at H
     have c12b0 := beq_iff_eq.mpr c12
     have c12b1 := bne_eq_false_iff_eq.mpr c12
     clear c12
     by_cases c13 : x6_2.size + t656.size ≤ 9223372036854775807
     rotate_left
     ·rw [if_neg c13] at H
      exact absurd H (by simp)
     rw [if_pos c13] at H
     have c13b0 := eq_true c13
     have c13b1 := decide_eq_true c13
     try have c13b2 : (9223372036854775807 < x6_2.size + t656.size) = False := eq_false (Nat.not_lt.2 c13)
     have H' := Aside0.mk H
     clear H
     have p653 : 0 ≤ (x23_2 : Int) := of_decide_eq_true vC
     have q653 : x23_2 < (l0.length : Int) := of_decide_eq_true vC
     obtain ⟨ad653, e653, hx653_0⟩ := Kd.vS HR0.out x23_2 p653 q653
     cases e653
     replace hx653_0 := (HB.out.cell (yF w _ hx653_0)).trans hx653_0
     replace p653 := eq_true p653
     replace q653 := eq_true q653
     go_wp2_with (first | ((with_reducible refine uB (f := 59) rfl ?_); refine uL (some 30) Tryd.func59 #[.string (rdOf ByteArray.empty l0 x23_2)] ?_; (with_reducible refine (impl_readChunk.calls k2 (rdOf ByteArray.empty l0 x23_2) t654 t655 t656 true _ ?side1 A9.out).mono ?_); (case side1 => exact cq7); rintro e w14 ⟨rfl, hb⟩; refine ⟨_, rfl, ?_⟩; replace HB := uH HB hb; (try clear hb)))
     go_roundg k2
     case measure => have := HJ2.out; have := HK2.out; omega
     case rel => exact ⟨(x6_2 ++ t656), (wrap64 (x23_2 + 1)), vD, vD, H', ⟨by have := HJ2.out; have := HK2.out; omega⟩, ⟨uW⟩⟩

/-! ### spec_JoinChunks: function 29 -/
def spec_JoinChunks.l0 : Nat → List ByteArray → Int → ByteArray → Int → Option (ByteArray × Bool)
 | 0, _, _, _, _ => none
 | k + 1, x0, x1, x6, x7 => if x7 < (x0.length : Int) then (if 0 ≤ x7 then ((spec_l7Read.f k (rdOf ByteArray.empty x0 x7)).bind fun bt659 => (if bt659.2.2.2 = true then (if bt659.1 = x7 then (if bt659.2.1 = x1 then (if x6.size + bt659.2.2.1.size ≤ 9223372036854775807 then (spec_JoinChunks.l0 k x0 x1 (x6 ++ bt659.2.2.1) (wrap64 (x7 + 1))) else (none)) else (some ((⟨#[]⟩ : ByteArray), false))) else (some ((⟨#[]⟩ : ByteArray), false))) else (some ((⟨#[]⟩ : ByteArray), false)))) else (none)) else (if (x0.length : Int) = x1 then (if x1 < 1 then (some ((⟨#[]⟩ : ByteArray), false)) else (some (x6, true))) else (some ((⟨#[]⟩ : ByteArray), false)))
def spec_JoinChunks.f (k : Nat) (l0 : List ByteArray) (a1 : Int) : Option (ByteArray × Bool) := spec_JoinChunks.l0 k l0 a1 (⟨#[]⟩ : ByteArray) 0
theorem spec_JoinChunks.mono_l : ∀ k, (∀ y0 y1 y2 y3, uA (spec_JoinChunks.l0 k y0 y1 y2 y3) (spec_JoinChunks.l0 (k + 1) y0 y1 y2 y3))
 | 0 => fun _ _ _ _ r h => by simp [spec_JoinChunks.l0] at h
 | k + 1 => by
  have ih0 := spec_JoinChunks.mono_l k
  intro y0 y1 y2 y3
  unfold spec_JoinChunks.l0
  repeat' first
  | (with_reducible exact ih0 _ _ _ _)
  | (with_reducible exact spec_l7Read.mono _ _)
  | (with_reducible exact uA.refl _)
  | (with_reducible exact uA.none _)
  | (with_reducible refine uA.vA ?_ ?_)
  | (with_reducible refine uA.bind ?_ (fun _ => ?_))
  | exact ih0 _ _ _ _
  | exact uA.none _
  | refine uA.vA ?_ ?_
  | refine uA.bind ?_ (fun _ => ?_)
theorem spec_JoinChunks.mono : ∀ a0 a1 k, uA (spec_JoinChunks.f k a0 a1) (spec_JoinChunks.f (k + 1) a0 a1) := by
 intro a0 a1 k
 have ih0 := spec_JoinChunks.mono_l k
 unfold spec_JoinChunks.f
 repeat' first
   | (with_reducible exact ih0 _ _ _ _)
   | (with_reducible exact spec_l7Read.mono _ _)
   | (with_reducible exact uA.refl _)
   | (with_reducible exact uA.none _)
   | (with_reducible refine uA.vA ?_ ?_)
   | (with_reducible refine uA.bind ?_ (fun _ => ?_))
   | exact ih0 _ _ _ _
   | exact uA.none _
   | refine uA.vA ?_ ?_
   | refine uA.bind ?_ (fun _ => ?_)
set_option maxHeartbeats 8000000 in
set_option maxRecDepth 100000 in
theorem spec_JoinChunks.calls (k : Nat) (A0 : Option Addr) (c0 : Nat) (l0 : List ByteArray) (a1 : Int) (r1 : ByteArray) (r2 : Bool) (w : World) (hr0 : Kd.C Kd.string w A0 l0.length l0) (hc0 : l0.length ≤ c0) (h : spec_JoinChunks.f k l0 a1 = some (r1, r2)) :
  Calls Tryd.prog 29 #[.slice A0 l0.length c0, .int .i64 a1] w fun e w' => e = .returned (.tuple #[.string r1, .bool r2]) ∧ Below w.heap.size w w' := by
 have HR0 := Aside0.mk hr0
 have HC0 := Aside0.mk hc0
 clear hr0 hc0
 have HB := Aside0.mk (Below.refl w.heap.size w)
 have H : (spec_JoinChunks.l0 k l0 a1 (⟨#[]⟩ : ByteArray) 0) = some (r1, r2) := h
 clear h
 have H' := Aside0.mk H
 clear H
 go_enter Tryd.func29, Tryd.ntmps29
 go_wp2
 go_loopg [6, 7] k (fun kq v6 v7 w' => ∃ (x6_1 : ByteArray) (x7_1 : Int), v6 = .string x6_1 ∧ v7 = .int .i64 x7_1 ∧ Aside0 (spec_JoinChunks.l0 kq l0 a1 x6_1 x7_1 = some (r1, r2)) ∧ Aside0 (kq ≤ k) ∧ Aside0 (Below w.heap.size w w'))
 case atStart => exact ⟨((⟨#[]⟩ : ByteArray)), (0), vD, vD, H', ⟨Nat.le_refl _⟩, ⟨uW⟩⟩
 case round =>
  clear H'
  obtain ⟨x6_1, x7_1, rfl, rfl, HA, HK1, HB⟩ := hrel
  cases gk with
  | zero => exact absurd HA.out (by simp [spec_JoinChunks.l0])
  | succ k1 =>
   have H := HA.out
   clear HA
   simp only [spec_JoinChunks.l0] at H
   by_cases c3 : x7_1 < (l0.length : Int)
   rotate_left
   ·rw [if_neg c3] at H
    have c3b0 := decide_eq_false c3
    clear c3
    by_cases c14 : (l0.length : Int) = a1
    rotate_left
    ·rw [if_neg c14] at H
     have c14b0 := beq_eq_false_iff_ne.mpr c14
     have c14b1 := bne_iff_ne.mpr c14
     simp only [Option.some.injEq, Prod.mk.injEq] at H
     obtain ⟨rfl, rfl⟩ := H
     go_wp2
     go_ret2
     exact ⟨cq5, uW⟩
    rw [if_pos c14] at H
    have c14b0 := beq_iff_eq.mpr c14
    have c14b1 := bne_eq_false_iff_eq.mpr c14
    clear c14
    by_cases c15 : a1 < 1
    ·rw [if_pos c15] at H
     have c15b0 := decide_eq_true c15
     clear c15
     simp only [Option.some.injEq, Prod.mk.injEq] at H
     obtain ⟨rfl, rfl⟩ := H
     go_wp2
     go_ret2
     exact ⟨cq5, uW⟩
    rw [if_neg c15] at H
    have c15b0 := decide_eq_false c15
    clear c15
    simp only [Option.some.injEq, Prod.mk.injEq] at H
    obtain ⟨rfl, rfl⟩ := H
    go_wp2
    go_ret2
    exact ⟨cq5, uW⟩
   rw [if_pos c3] at H
   have c3b0 := decide_eq_true c3
   clear c3
   obtain ⟨c4b0, H⟩ := ifD H
   replace H := Option.bind_eq_some_iff.mp H
   obtain ⟨⟨t659, t660, t661, t662⟩, A50, H⟩ := H
   try dsimp only at H
   have A5 := Aside0.mk A50
   clear A50
   by_cases c6 : t662 = true
   rotate_left
   ·replace c6 := Bool.eq_false_iff.mpr c6
    subst c6
    try rw [if_neg (show ¬ (false = true) by decide)] at H
    simp only [Option.some.injEq, Prod.mk.injEq] at H
    obtain ⟨rfl, rfl⟩ := H
    have p658 : 0 ≤ (x7_1 : Int) := of_decide_eq_true vC
    have q658 : x7_1 < (l0.length : Int) := of_decide_eq_true vC
    obtain ⟨ad658, e658, hx658_0⟩ := Kd.vS HR0.out x7_1 p658 q658
    cases e658
    replace hx658_0 := (HB.out.cell (yF w _ hx658_0)).trans hx658_0
    replace p658 := eq_true p658
    replace q658 := eq_true q658
    go_wp2_with (first | ((with_reducible refine uB (f := 60) rfl ?_); refine uL (some 23) Tryd.func60 #[.string (rdOf ByteArray.empty l0 x7_1)] ?_; (with_reducible refine (spec_l7Read.calls k1 (rdOf ByteArray.empty l0 x7_1) t659 t660 t661 false _ A5.out).mono ?_); rintro e w13 ⟨rfl, hb⟩; refine ⟨_, rfl, ?_⟩; replace HB := uH HB hb; (try clear hb)))
    go_ret2
    exact ⟨cq5, uW⟩
   subst c6
   try rw [if_pos rfl] at H
   by_cases c7 : t659 = x7_1
   rotate_left
   ·rw [if_neg c7] at H
    have c7b0 := beq_eq_false_iff_ne.mpr c7
    have c7b1 := bne_iff_ne.mpr c7
    simp only [Option.some.injEq, Prod.mk.injEq] at H
    obtain ⟨rfl, rfl⟩ := H
    have p658 : 0 ≤ (x7_1 : Int) := of_decide_eq_true vC
    have q658 : x7_1 < (l0.length : Int) := of_decide_eq_true vC
    obtain ⟨ad658, e658, hx658_0⟩ := Kd.vS HR0.out x7_1 p658 q658
    cases e658
    replace hx658_0 := (HB.out.cell (yF w _ hx658_0)).trans hx658_0
    replace p658 := eq_true p658
    replace q658 := eq_true q658
    go_wp2_with (first | ((with_reducible refine uB (f := 60) rfl ?_); refine uL (some 23) Tryd.func60 #[.string (rdOf ByteArray.empty l0 x7_1)] ?_; (with_reducible refine (spec_l7Read.calls k1 (rdOf ByteArray.empty l0 x7_1) t659 t660 t661 true _ A5.out).mono ?_); rintro e w12 ⟨rfl, hb⟩; refine ⟨_, rfl, ?_⟩; replace HB := uH HB hb; (try clear hb)))
    go_ret2
    exact ⟨cq5, uW⟩
   rw [if_pos c7] at H
   have c7b0 := beq_iff_eq.mpr c7
   have c7b1 := bne_eq_false_iff_eq.mpr c7
   clear c7
   by_cases c8 : t660 = a1
   rotate_left
   ·rw [if_neg c8] at H
    have c8b0 := beq_eq_false_iff_ne.mpr c8
    have c8b1 := bne_iff_ne.mpr c8
    simp only [Option.some.injEq, Prod.mk.injEq] at H
    obtain ⟨rfl, rfl⟩ := H
    have p658 : 0 ≤ (x7_1 : Int) := of_decide_eq_true vC
    have q658 : x7_1 < (l0.length : Int) := of_decide_eq_true vC
    obtain ⟨ad658, e658, hx658_0⟩ := Kd.vS HR0.out x7_1 p658 q658
    cases e658
    replace hx658_0 := (HB.out.cell (yF w _ hx658_0)).trans hx658_0
    replace p658 := eq_true p658
    replace q658 := eq_true q658
    go_wp2_with (first | ((with_reducible refine uB (f := 60) rfl ?_); refine uL (some 23) Tryd.func60 #[.string (rdOf ByteArray.empty l0 x7_1)] ?_; (with_reducible refine (spec_l7Read.calls k1 (rdOf ByteArray.empty l0 x7_1) t659 t660 t661 true _ A5.out).mono ?_); rintro e w11 ⟨rfl, hb⟩; refine ⟨_, rfl, ?_⟩; replace HB := uH HB hb; (try clear hb)))
    go_ret2
    exact ⟨cq5, uW⟩
   rw [if_pos c8] at H
   have c8b0 := beq_iff_eq.mpr c8
   have c8b1 := bne_eq_false_iff_eq.mpr c8
   clear c8
   by_cases c9 : x6_1.size + t661.size ≤ 9223372036854775807
   rotate_left
   ·rw [if_neg c9] at H
    exact absurd H (by simp)
   rw [if_pos c9] at H
   have c9b0 := eq_true c9
   have c9b1 := decide_eq_true c9
   try have c9b2 : (9223372036854775807 < x6_1.size + t661.size) = False := eq_false (Nat.not_lt.2 c9)
   have H' := Aside0.mk H
   clear H
   have p658 : 0 ≤ (x7_1 : Int) := of_decide_eq_true vC
   have q658 : x7_1 < (l0.length : Int) := of_decide_eq_true vC
   obtain ⟨ad658, e658, hx658_0⟩ := Kd.vS HR0.out x7_1 p658 q658
   cases e658
   replace hx658_0 := (HB.out.cell (yF w _ hx658_0)).trans hx658_0
   replace p658 := eq_true p658
   replace q658 := eq_true q658
   go_wp2_with (first | ((with_reducible refine uB (f := 60) rfl ?_); refine uL (some 23) Tryd.func60 #[.string (rdOf ByteArray.empty l0 x7_1)] ?_; (with_reducible refine (spec_l7Read.calls k1 (rdOf ByteArray.empty l0 x7_1) t659 t660 t661 true _ A5.out).mono ?_); rintro e w10 ⟨rfl, hb⟩; refine ⟨_, rfl, ?_⟩; replace HB := uH HB hb; (try clear hb)))
   go_roundg k1
   case measure => have := HK1.out; omega
   case rel => exact ⟨(x6_1 ++ t661), (wrap64 (x7_1 + 1)), vD, vD, H', ⟨by have := HK1.out; omega⟩, ⟨uW⟩⟩

/-! ### slices_Index_string_string: function 65 -/
def slices_Index_string_string.l0 : Nat → List ByteArray → ByteArray → Int → Int → Option (Int)
 | 0, _, _, _, _ => none
 | k + 1, x0, x1, x7, x8 => if x8 < x7 then (if 0 ≤ x8 then (if x8 < (x0.length : Int) then (if x1.toList = (rdOf ByteArray.empty x0 x8).toList then (some x8) else (slices_Index_string_string.l0 k x0 x1 x7 (wrap64 (x8 + 1)))) else (none)) else (none)) else (some (-1))
def slices_Index_string_string.f (k : Nat) (l0 : List ByteArray) (a1 : ByteArray) : Option (Int) := slices_Index_string_string.l0 k l0 a1 (l0.length : Int) 0
theorem slices_Index_string_string.mono_l : ∀ k, (∀ y0 y1 y2 y3, uA (slices_Index_string_string.l0 k y0 y1 y2 y3) (slices_Index_string_string.l0 (k + 1) y0 y1 y2 y3))
 | 0 => fun _ _ _ _ r h => by simp [slices_Index_string_string.l0] at h
 | k + 1 => by
  have ih0 := slices_Index_string_string.mono_l k
  intro y0 y1 y2 y3
  unfold slices_Index_string_string.l0
  repeat' first
  | (with_reducible exact ih0 _ _ _ _)
  | (with_reducible exact uA.refl _)
  | (with_reducible exact uA.none _)
  | (with_reducible refine uA.vA ?_ ?_)
  | (with_reducible refine uA.bind ?_ (fun _ => ?_))
  | exact ih0 _ _ _ _
  | exact uA.none _
  | refine uA.vA ?_ ?_
  | refine uA.bind ?_ (fun _ => ?_)
theorem slices_Index_string_string.mono : ∀ a0 a1 k, uA (slices_Index_string_string.f k a0 a1) (slices_Index_string_string.f (k + 1) a0 a1) := by
 intro a0 a1 k
 have ih0 := slices_Index_string_string.mono_l k
 unfold slices_Index_string_string.f
 repeat' first
   | (with_reducible exact ih0 _ _ _ _)
   | (with_reducible exact uA.refl _)
   | (with_reducible exact uA.none _)
   | (with_reducible refine uA.vA ?_ ?_)
   | (with_reducible refine uA.bind ?_ (fun _ => ?_))
   | exact ih0 _ _ _ _
   | exact uA.none _
   | refine uA.vA ?_ ?_
   | refine uA.bind ?_ (fun _ => ?_)
set_option maxHeartbeats 8000000 in
set_option maxRecDepth 100000 in
theorem slices_Index_string_string.calls (k : Nat) (A0 : Option Addr) (c0 : Nat) (l0 : List ByteArray) (a1 : ByteArray) (r : Int) (w : World) (hr0 : Kd.C Kd.string w A0 l0.length l0) (hc0 : l0.length ≤ c0) (h : slices_Index_string_string.f k l0 a1 = some r) :
  Calls Tryd.prog 65 #[.slice A0 l0.length c0, .string a1] w fun e w' => e = .returned (.int .i64 r) ∧ Drawn0 w w' := by
 have HR0 := Aside0.mk hr0
 have HC0 := Aside0.mk hc0
 clear hr0 hc0
 have H : (slices_Index_string_string.l0 k l0 a1 (l0.length : Int) 0) = some r := h
 clear h
 have H' := Aside0.mk H
 clear H
 go_enter Tryd.func65, Tryd.ntmps65
 go_wp2
 go_loopg [8] k (fun kq v8 w' => ∃ (x8_1 : Int), v8 = .int .i64 x8_1 ∧ Aside0 (slices_Index_string_string.l0 kq l0 a1 (l0.length : Int) x8_1 = some r) ∧ Aside0 (kq ≤ k) ∧ Drawn0 w w')
 case atStart => exact ⟨(0), vD, H', ⟨Nat.le_refl _⟩, cq21⟩
 case round =>
  clear H'
  obtain ⟨x8_1, rfl, HA, HK1, ⟨m1, rfl⟩⟩ := hrel
  cases gk with
  | zero => exact absurd HA.out (by simp [slices_Index_string_string.l0])
  | succ k1 =>
   have H := HA.out
   clear HA
   simp only [slices_Index_string_string.l0] at H
   by_cases c3 : x8_1 < (l0.length : Int)
   rotate_left
   ·rw [if_neg c3] at H
    have c3b0 := decide_eq_false c3
    clear c3
    obtain rfl := Option.some.inj H
    go_wp2
    go_ret
    exact ⟨vD, cq21⟩
   rw [if_pos c3] at H
   have c3b0 := decide_eq_true c3
   clear c3
   obtain ⟨c4b0, H⟩ := ifD H
   obtain ⟨c5b0, H⟩ := ifD H
   by_cases c6 : a1.toList = (rdOf ByteArray.empty l0 x8_1).toList
   ·rw [if_pos c6] at H
    have c6b0 : (a1.toList == (rdOf ByteArray.empty l0 x8_1).toList) = true := beq_iff_eq.mpr c6
    have c6b1 : (a1.toList != (rdOf ByteArray.empty l0 x8_1).toList) = false := bne_eq_false_iff_eq.mpr c6
    clear c6
    obtain rfl := Option.some.inj H
    have p663 : 0 ≤ (x8_1 : Int) := of_decide_eq_true vC
    have q663 : x8_1 < (l0.length : Int) := of_decide_eq_true vC
    obtain ⟨ad663, e663, hx663_0⟩ := Kd.vS HR0.out x8_1 p663 q663
    cases e663
    replace p663 := eq_true p663
    replace q663 := eq_true q663
    go_wp2
    go_ret
    exact ⟨vD, cq21⟩
   rw [if_neg c6] at H
   have c6b0 : (a1.toList == (rdOf ByteArray.empty l0 x8_1).toList) = false := beq_eq_false_iff_ne.mpr c6
   have c6b1 : (a1.toList != (rdOf ByteArray.empty l0 x8_1).toList) = true := bne_iff_ne.mpr c6
   have H' := Aside0.mk H
   clear H
   have p663 : 0 ≤ (x8_1 : Int) := of_decide_eq_true vC
   have q663 : x8_1 < (l0.length : Int) := of_decide_eq_true vC
   obtain ⟨ad663, e663, hx663_0⟩ := Kd.vS HR0.out x8_1 p663 q663
   cases e663
   replace p663 := eq_true p663
   replace q663 := eq_true q663
   go_wp2
   go_roundg k1
   case measure => have := HK1.out; omega
   case rel => exact ⟨(wrap64 (x8_1 + 1)), vD, H', ⟨by have := HK1.out; omega⟩, cq21⟩

/-! ### impl_MissingChunk: function 30 -/
def impl_MissingChunk.f (k : Nat) (l0 : List ByteArray) (a1 : Int) : Option (Int) := if (l0.length : Int) = 0 then (if a1 > 0 then (some 0) else ((slices_Index_string_string.f k l0 (⟨#[]⟩ : ByteArray)).bind fun t664 => (some t664))) else ((slices_Index_string_string.f k l0 (⟨#[]⟩ : ByteArray)).bind fun t665 => (some t665))
theorem impl_MissingChunk.mono : ∀ a0 a1 k, uA (impl_MissingChunk.f k a0 a1) (impl_MissingChunk.f (k + 1) a0 a1) := by
 intro a0 a1 k
 unfold impl_MissingChunk.f
 repeat' first
   | (with_reducible exact slices_Index_string_string.mono _ _ _)
   | (with_reducible exact uA.refl _)
   | (with_reducible exact uA.none _)
   | (with_reducible refine uA.vA ?_ ?_)
   | (with_reducible refine uA.bind ?_ (fun _ => ?_))
   | exact uA.none _
   | refine uA.vA ?_ ?_
   | refine uA.bind ?_ (fun _ => ?_)
set_option maxHeartbeats 8000000 in
set_option maxRecDepth 100000 in
theorem impl_MissingChunk.calls (k : Nat) (A0 : Option Addr) (c0 : Nat) (l0 : List ByteArray) (a1 : Int) (r : Int) (w : World) (hr0 : Kd.C Kd.string w A0 l0.length l0) (hc0 : l0.length ≤ c0) (h : impl_MissingChunk.f k l0 a1 = some r) :
  Calls Tryd.prog 30 #[.slice A0 l0.length c0, .int .i64 a1] w fun e w' => e = .returned (.int .i64 r) ∧ Drawn0 w w' := by
 have HR0 := Aside0.mk hr0
 have HC0 := Aside0.mk hc0
 clear hr0 hc0
 have H : (if (l0.length : Int) = 0 then (if a1 > 0 then (some 0) else ((slices_Index_string_string.f k l0 (⟨#[]⟩ : ByteArray)).bind fun t664 => (some t664))) else ((slices_Index_string_string.f k l0 (⟨#[]⟩ : ByteArray)).bind fun t665 => (some t665))) = some r := h
 clear h
 by_cases c3 : (l0.length : Int) = 0
 rotate_left
 ·rw [if_neg c3] at H
  have c3b0 := beq_eq_false_iff_ne.mpr c3
  have c3b1 := bne_iff_ne.mpr c3
  have c3b2 : ¬ (l0 = []) := fun h_ => c3 (by rw [h_]; rfl)
  replace H := Option.bind_eq_some_iff.mp H
  obtain ⟨t665, A60, H⟩ := H
  try dsimp only at H
  have A6 := Aside0.mk A60
  clear A60
  obtain rfl := Option.some.inj H
  go_enter Tryd.func30, Tryd.ntmps30
  go_wp2_with (first | ((with_reducible refine uB (f := 65) rfl ?_); refine uL (some 13) Tryd.func65 #[.slice A0 l0.length c0, .string (⟨#[]⟩ : ByteArray)] ?_; (with_reducible refine (slices_Index_string_string.calls k _ _ l0 (⟨#[]⟩ : ByteArray) t665 _ ?side1 ?side2 A6.out).mono ?_); (case side1 => exact cq16); (case side2 => exact HC0.out); rintro e w' ⟨rfl, ⟨nd, rfl⟩⟩; refine ⟨_, rfl, ?_⟩))
  go_ret
  exact ⟨vD, cq21⟩
 rw [if_pos c3] at H
 have c3b0 := beq_iff_eq.mpr c3
 have c3b1 := bne_eq_false_iff_eq.mpr c3
 clear c3
 by_cases c4 : a1 > 0
 ·rw [if_pos c4] at H
  have c4b0 := decide_eq_true c4
  clear c4
  obtain rfl := Option.some.inj H
  go_enter Tryd.func30, Tryd.ntmps30
  go_wp2
  go_ret
  exact ⟨vD, cq21⟩
 rw [if_neg c4] at H
 have c4b0 := decide_eq_false c4
 clear c4
 replace H := Option.bind_eq_some_iff.mp H
 obtain ⟨t664, A50, H⟩ := H
 try dsimp only at H
 have A5 := Aside0.mk A50
 clear A50
 obtain rfl := Option.some.inj H
 go_enter Tryd.func30, Tryd.ntmps30
 go_wp2_with (first | ((with_reducible refine uB (f := 65) rfl ?_); refine uL (some 13) Tryd.func65 #[.slice A0 l0.length c0, .string (⟨#[]⟩ : ByteArray)] ?_; (with_reducible refine (slices_Index_string_string.calls k _ _ l0 (⟨#[]⟩ : ByteArray) t664 _ ?side1 ?side2 A5.out).mono ?_); (case side1 => exact cq16); (case side2 => exact HC0.out); rintro e w' ⟨rfl, ⟨nd, rfl⟩⟩; refine ⟨_, rfl, ?_⟩))
 go_ret
 exact ⟨vD, cq21⟩

/-! ### spec_MissingChunk: function 31 -/
def spec_MissingChunk.l0 : Nat → List ByteArray → Int → Int → Option (Int)
 | 0, _, _, _ => none
 | k + 1, x0, x1, x5 => if x5 < (x0.length : Int) then (if 0 ≤ x5 then (if (rdOf ByteArray.empty x0 x5).toList = ([] : List UInt8) then (some x5) else (spec_MissingChunk.l0 k x0 x1 (wrap64 (x5 + 1)))) else (none)) else (if (x0.length : Int) = 0 then (if x1 > 0 then (some 0) else (some (-1))) else (some (-1)))
def spec_MissingChunk.f (k : Nat) (l0 : List ByteArray) (a1 : Int) : Option (Int) := spec_MissingChunk.l0 k l0 a1 0
theorem spec_MissingChunk.mono_l : ∀ k, (∀ y0 y1 y2, uA (spec_MissingChunk.l0 k y0 y1 y2) (spec_MissingChunk.l0 (k + 1) y0 y1 y2))
 | 0 => fun _ _ _ r h => by simp [spec_MissingChunk.l0] at h
 | k + 1 => by
  have ih0 := spec_MissingChunk.mono_l k
  intro y0 y1 y2
  unfold spec_MissingChunk.l0
  repeat' first
  | (with_reducible exact ih0 _ _ _)
  | (with_reducible exact uA.refl _)
  | (with_reducible exact uA.none _)
  | (with_reducible refine uA.vA ?_ ?_)
  | (with_reducible refine uA.bind ?_ (fun _ => ?_))
  | exact ih0 _ _ _
  | exact uA.none _
  | refine uA.vA ?_ ?_
  | refine uA.bind ?_ (fun _ => ?_)
theorem spec_MissingChunk.mono : ∀ a0 a1 k, uA (spec_MissingChunk.f k a0 a1) (spec_MissingChunk.f (k + 1) a0 a1) := by
 intro a0 a1 k
 have ih0 := spec_MissingChunk.mono_l k
 unfold spec_MissingChunk.f
 repeat' first
   | (with_reducible exact ih0 _ _ _)
   | (with_reducible exact uA.refl _)
   | (with_reducible exact uA.none _)
   | (with_reducible refine uA.vA ?_ ?_)
   | (with_reducible refine uA.bind ?_ (fun _ => ?_))
   | exact ih0 _ _ _
   | exact uA.none _
   | refine uA.vA ?_ ?_
   | refine uA.bind ?_ (fun _ => ?_)
set_option maxHeartbeats 8000000 in
set_option maxRecDepth 100000 in
theorem spec_MissingChunk.calls (k : Nat) (A0 : Option Addr) (c0 : Nat) (l0 : List ByteArray) (a1 : Int) (r : Int) (w : World) (hr0 : Kd.C Kd.string w A0 l0.length l0) (hc0 : l0.length ≤ c0) (h : spec_MissingChunk.f k l0 a1 = some r) :
  Calls Tryd.prog 31 #[.slice A0 l0.length c0, .int .i64 a1] w fun e w' => e = .returned (.int .i64 r) ∧ Drawn0 w w' := by
 have HR0 := Aside0.mk hr0
 have HC0 := Aside0.mk hc0
 clear hr0 hc0
 have H : (spec_MissingChunk.l0 k l0 a1 0) = some r := h
 clear h
 have H' := Aside0.mk H
 clear H
 go_enter Tryd.func31, Tryd.ntmps31
 go_wp2
 go_loopg [5] k (fun kq v5 w' => ∃ (x5_1 : Int), v5 = .int .i64 x5_1 ∧ Aside0 (spec_MissingChunk.l0 kq l0 a1 x5_1 = some r) ∧ Aside0 (kq ≤ k) ∧ Drawn0 w w')
 case atStart => exact ⟨(0), vD, H', ⟨Nat.le_refl _⟩, cq21⟩
 case round =>
  clear H'
  obtain ⟨x5_1, rfl, HA, HK1, ⟨m1, rfl⟩⟩ := hrel
  cases gk with
  | zero => exact absurd HA.out (by simp [spec_MissingChunk.l0])
  | succ k1 =>
   have H := HA.out
   clear HA
   simp only [spec_MissingChunk.l0] at H
   by_cases c3 : x5_1 < (l0.length : Int)
   rotate_left
   ·rw [if_neg c3] at H
    have c3b0 := decide_eq_false c3
    clear c3
    by_cases c6 : (l0.length : Int) = 0
    rotate_left
    ·rw [if_neg c6] at H
     have c6b0 := beq_eq_false_iff_ne.mpr c6
     have c6b1 := bne_iff_ne.mpr c6
     have c6b2 : ¬ (l0 = []) := fun h_ => c6 (by rw [h_]; rfl)
     obtain rfl := Option.some.inj H
     go_wp2
     go_ret
     exact ⟨vD, cq21⟩
    rw [if_pos c6] at H
    have c6b0 := beq_iff_eq.mpr c6
    have c6b1 := bne_eq_false_iff_eq.mpr c6
    clear c6
    by_cases c7 : a1 > 0
    ·rw [if_pos c7] at H
     have c7b0 := decide_eq_true c7
     clear c7
     obtain rfl := Option.some.inj H
     go_wp2
     go_ret
     exact ⟨vD, cq21⟩
    rw [if_neg c7] at H
    have c7b0 := decide_eq_false c7
    clear c7
    obtain rfl := Option.some.inj H
    go_wp2
    go_ret
    exact ⟨vD, cq21⟩
   rw [if_pos c3] at H
   have c3b0 := decide_eq_true c3
   clear c3
   obtain ⟨c4b0, H⟩ := ifD H
   by_cases c5 : (rdOf ByteArray.empty l0 x5_1).toList = ([] : List UInt8)
   ·rw [if_pos c5] at H
    have c5b0 : ((rdOf ByteArray.empty l0 x5_1).toList == ([] : List UInt8)) = true := beq_iff_eq.mpr c5
    have c5b1 : ((rdOf ByteArray.empty l0 x5_1).toList != ([] : List UInt8)) = false := bne_eq_false_iff_eq.mpr c5
    clear c5
    obtain rfl := Option.some.inj H
    have p666 : 0 ≤ (x5_1 : Int) := of_decide_eq_true vC
    have q666 : x5_1 < (l0.length : Int) := of_decide_eq_true vC
    obtain ⟨ad666, e666, hx666_0⟩ := Kd.vS HR0.out x5_1 p666 q666
    cases e666
    replace p666 := eq_true p666
    replace q666 := eq_true q666
    go_wp2
    go_ret
    exact ⟨vD, cq21⟩
   rw [if_neg c5] at H
   have c5b0 : ((rdOf ByteArray.empty l0 x5_1).toList == ([] : List UInt8)) = false := beq_eq_false_iff_ne.mpr c5
   have c5b1 : ((rdOf ByteArray.empty l0 x5_1).toList != ([] : List UInt8)) = true := bne_iff_ne.mpr c5
   have H' := Aside0.mk H
   clear H
   have p666 : 0 ≤ (x5_1 : Int) := of_decide_eq_true vC
   have q666 : x5_1 < (l0.length : Int) := of_decide_eq_true vC
   obtain ⟨ad666, e666, hx666_0⟩ := Kd.vS HR0.out x5_1 p666 q666
   cases e666
   replace p666 := eq_true p666
   replace q666 := eq_true q666
   go_wp2
   go_roundg k1
   case measure => have := HK1.out; omega
   case rel => exact ⟨(wrap64 (x5_1 + 1)), vD, H', ⟨by have := HK1.out; omega⟩, cq21⟩

end Go.Proofs.YtcikahnmiiichaaDoor.K
