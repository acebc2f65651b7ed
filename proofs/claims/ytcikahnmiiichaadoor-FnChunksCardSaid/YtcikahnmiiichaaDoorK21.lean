/- Go functions as Lean functions, and the proof that the code comes to them: written by a program of this session out of the translation. -/
import Derived.Test.YtcikahnmiiichaaDoorK0
import Derived.Test.YtcikahnmiiichaaDoorK1
import Derived.Test.YtcikahnmiiichaaDoorK4
import Derived.Test.YtcikahnmiiichaaDoorK17
import Derived.Test.YtcikahnmiiichaaDoorK19
import Derived.Test.YtcikahnmiiichaaDoorK20
namespace Go.Proofs.YtcikahnmiiichaaDoor.K
open List renaming setIfInBounds_toArray → vZ, set_cons_zero → yA, set_cons_succ → yB
open Go.World renaming block_lt_of_cell? → yF
open Go.Proofs.YtcikahnmiiichaaDoor.Given
open Go.RowKit Go.Proofs.YtcikahnmiiichaaDoorW.PrintWords Go.Proofs.YtcikahnmiiichaaDoorW.PrintLast Go.Proofs.YtcikahnmiiichaaDoorW.PrintMore
attribute [local go_sem] max2_int min2_int max_two min_two vW vV max_four min_four   -- for this text's walks alone
set_option linter.unusedVariables false
set_option linter.unusedSimpArgs false

/-! ### laws_FnChunks: function 4 -/
mutual
def laws_FnChunks.j0 : Nat → List Int → ByteArray → List ByteArray → Bool → List ByteArray → Bool → Option (Bool)
 | 0, _, _, _, _, _, _ => none
 | k + 1, x0, x4, x5, x6, x7, x51 => if x51 = true then (some false) else (laws_FnChunks.l0 k x0 x4 x5 x6 x7 0)
def laws_FnChunks.l0 : Nat → List Int → ByteArray → List ByteArray → Bool → List ByteArray → Int → Option (Bool)
 | 0, _, _, _, _, _, _ => none
 | k + 1, x0, x4, x5, x6, x7, x9 => if x9 < (x5.length : Int) then (if 0 ≤ x9 then (if x9 < (x7.length : Int) then (if (rdOf ByteArray.empty x5 x9).toList = (rdOf ByteArray.empty x7 x9).toList then (laws_FnChunks.l0 k x0 x4 x5 x6 x7 (wrap64 (x9 + 1))) else (some false)) else (none)) else (none)) else (if x6 = true then ((impl_ReceiveChunk.f k x5 x4).bind fun bt682 => (if bt682.2 = true then (some false) else (laws_FnChunks.j2 k x0))) else (laws_FnChunks.j2 k x0))
def laws_FnChunks.j2 : Nat → List Int → Option (Bool)
 | 0, _ => none
 | k + 1, x0 => (spec_DrawEncodeChunks.f k x0).bind fun bt686 => ((impl_EncodeChunks.f k bt686.1 bt686.2).bind fun t688 => ((spec_EncodeChunks.f k bt686.1 bt686.2).bind fun t691 => (if (t688.length : Int) = (t691.length : Int) then (laws_FnChunks.l1 k x0 t688 t691 0) else (some false))))
def laws_FnChunks.l1 : Nat → List Int → List ByteArray → List ByteArray → Int → Option (Bool)
 | 0, _, _, _, _ => none
 | k + 1, x0, x14, x15, x16 => if x16 < (x14.length : Int) then (if 0 ≤ x16 then (if x16 < (x15.length : Int) then (if (rdOf ByteArray.empty x14 x16).toList = (rdOf ByteArray.empty x15 x16).toList then (laws_FnChunks.l1 k x0 x14 x15 (wrap64 (x16 + 1))) else (some false)) else (none)) else (none)) else ((spec_DrawJoinChunks.f k x0).bind fun bt696 => ((impl_JoinChunks.f k bt696.1 bt696.2).bind fun bt700 => ((spec_JoinChunks.f k bt696.1 bt696.2).bind fun bt702 => (if (bt700.2 == bt702.2) = true then (if bt700.1.toList = bt702.1.toList then ((impl_MissingChunk.f k bt696.1 bt696.2).bind fun t704 => ((spec_MissingChunk.f k bt696.1 bt696.2).bind fun t705 => (some (t704 == t705)))) else (some false)) else (some false)))))
end
def laws_FnChunks.f (k : Nat) (l0 : List Int) : Option (Bool) := (laws_big.f l0).bind fun t667 => (if t667 = true then (some true) else ((spec_DrawReceiveChunk.f k l0).bind fun bt668 => ((impl_ReceiveChunk.f k bt668.1 bt668.2).bind fun bt672 => ((spec_ReceiveChunk.f k bt668.1 bt668.2).bind fun bt676 => (if (bt672.2 != bt676.2) = true then (laws_FnChunks.j0 k l0 bt668.2 bt672.1 bt672.2 bt676.1 true) else (laws_FnChunks.j0 k l0 bt668.2 bt672.1 bt672.2 bt676.1 ((bt672.1.length : Int) != (bt676.1.length : Int))))))))
theorem laws_FnChunks.mono_l : ∀ k, (∀ y0 y1 y2 y3 y4 y5, uA (laws_FnChunks.j0 k y0 y1 y2 y3 y4 y5) (laws_FnChunks.j0 (k + 1) y0 y1 y2 y3 y4 y5)) ∧ (∀ y0 y1 y2 y3 y4 y5, uA (laws_FnChunks.l0 k y0 y1 y2 y3 y4 y5) (laws_FnChunks.l0 (k + 1) y0 y1 y2 y3 y4 y5)) ∧ (∀ y0, uA (laws_FnChunks.j2 k y0) (laws_FnChunks.j2 (k + 1) y0)) ∧ (∀ y0 y1 y2 y3, uA (laws_FnChunks.l1 k y0 y1 y2 y3) (laws_FnChunks.l1 (k + 1) y0 y1 y2 y3))
 | 0 => ⟨fun _ _ _ _ _ _ r h => by simp [laws_FnChunks.j0] at h, fun _ _ _ _ _ _ r h => by simp [laws_FnChunks.l0] at h, fun _ r h => by simp [laws_FnChunks.j2] at h, fun _ _ _ _ r h => by simp [laws_FnChunks.l1] at h⟩
 | k + 1 => by
  obtain ⟨ih0, ih1, ih2, ih3⟩ := laws_FnChunks.mono_l k
  refine ⟨?_, ?_, ?_, ?_⟩
  ·intro y0 y1 y2 y3 y4 y5
   unfold laws_FnChunks.j0
   repeat' first
   | (with_reducible exact ih0 _ _ _ _ _ _)
   | (with_reducible exact ih1 _ _ _ _ _ _)
   | (with_reducible exact ih2 _)
   | (with_reducible exact ih3 _ _ _ _)
   | (with_reducible exact impl_EncodeChunks.mono _ _ _)
   | (with_reducible exact impl_JoinChunks.mono _ _ _)
   | (with_reducible exact impl_MissingChunk.mono _ _ _)
   | (with_reducible exact impl_ReceiveChunk.mono _ _ _)
   | (with_reducible exact spec_DrawEncodeChunks.mono _ _)
   | (with_reducible exact spec_DrawJoinChunks.mono _ _)
   | (with_reducible exact spec_DrawReceiveChunk.mono _ _)
   | (with_reducible exact spec_EncodeChunks.mono _ _ _)
   | (with_reducible exact spec_JoinChunks.mono _ _ _)
   | (with_reducible exact spec_MissingChunk.mono _ _ _)
   | (with_reducible exact spec_ReceiveChunk.mono _ _ _)
   | (with_reducible exact uA.refl _)
   | (with_reducible exact uA.none _)
   | (with_reducible refine uA.vA ?_ ?_)
   | (with_reducible refine uA.bind ?_ (fun _ => ?_))
   | exact ih0 _ _ _ _ _ _
   | exact ih1 _ _ _ _ _ _
   | exact ih2 _
   | exact ih3 _ _ _ _
   | exact uA.none _
   | refine uA.vA ?_ ?_
   | refine uA.bind ?_ (fun _ => ?_)
  ·intro y0 y1 y2 y3 y4 y5
   unfold laws_FnChunks.l0
   repeat' first
   | (with_reducible exact ih0 _ _ _ _ _ _)
   | (with_reducible exact ih1 _ _ _ _ _ _)
   | (with_reducible exact ih2 _)
   | (with_reducible exact ih3 _ _ _ _)
   | (with_reducible exact impl_EncodeChunks.mono _ _ _)
   | (with_reducible exact impl_JoinChunks.mono _ _ _)
   | (with_reducible exact impl_MissingChunk.mono _ _ _)
   | (with_reducible exact impl_ReceiveChunk.mono _ _ _)
   | (with_reducible exact spec_DrawEncodeChunks.mono _ _)
   | (with_reducible exact spec_DrawJoinChunks.mono _ _)
   | (with_reducible exact spec_DrawReceiveChunk.mono _ _)
   | (with_reducible exact spec_EncodeChunks.mono _ _ _)
   | (with_reducible exact spec_JoinChunks.mono _ _ _)
   | (with_reducible exact spec_MissingChunk.mono _ _ _)
   | (with_reducible exact spec_ReceiveChunk.mono _ _ _)
   | (with_reducible exact uA.refl _)
   | (with_reducible exact uA.none _)
   | (with_reducible refine uA.vA ?_ ?_)
   | (with_reducible refine uA.bind ?_ (fun _ => ?_))
   | exact ih0 _ _ _ _ _ _
   | exact ih1 _ _ _ _ _ _
   | exact ih2 _
   | exact ih3 _ _ _ _
   | exact uA.none _
   | refine uA.vA ?_ ?_
   | refine uA.bind ?_ (fun _ => ?_)
  ·intro y0
   unfold laws_FnChunks.j2
   repeat' first
   | (with_reducible exact ih0 _ _ _ _ _ _)
   | (with_reducible exact ih1 _ _ _ _ _ _)
   | (with_reducible exact ih2 _)
   | (with_reducible exact ih3 _ _ _ _)
   | (with_reducible exact impl_EncodeChunks.mono _ _ _)
   | (with_reducible exact impl_JoinChunks.mono _ _ _)
   | (with_reducible exact impl_MissingChunk.mono _ _ _)
   | (with_reducible exact impl_ReceiveChunk.mono _ _ _)
   | (with_reducible exact spec_DrawEncodeChunks.mono _ _)
   | (with_reducible exact spec_DrawJoinChunks.mono _ _)
   | (with_reducible exact spec_DrawReceiveChunk.mono _ _)
   | (with_reducible exact spec_EncodeChunks.mono _ _ _)
   | (with_reducible exact spec_JoinChunks.mono _ _ _)
   | (with_reducible exact spec_MissingChunk.mono _ _ _)
   | (with_reducible exact spec_ReceiveChunk.mono _ _ _)
   | (with_reducible exact uA.refl _)
   | (with_reducible exact uA.none _)
   | (with_reducible refine uA.vA ?_ ?_)
   | (with_reducible refine uA.bind ?_ (fun _ => ?_))
   | exact ih0 _ _ _ _ _ _
   | exact ih1 _ _ _ _ _ _
   | exact ih2 _
   | exact ih3 _ _ _ _
   | exact uA.none _
   | refine uA.vA ?_ ?_
   | refine uA.bind ?_ (fun _ => ?_)
  intro y0 y1 y2 y3
  unfold laws_FnChunks.l1
  repeat' first
  | (with_reducible exact ih0 _ _ _ _ _ _)
  | (with_reducible exact ih1 _ _ _ _ _ _)
  | (with_reducible exact ih2 _)
  | (with_reducible exact ih3 _ _ _ _)
  | (with_reducible exact impl_EncodeChunks.mono _ _ _)
  | (with_reducible exact impl_JoinChunks.mono _ _ _)
  | (with_reducible exact impl_MissingChunk.mono _ _ _)
  | (with_reducible exact impl_ReceiveChunk.mono _ _ _)
  | (with_reducible exact spec_DrawEncodeChunks.mono _ _)
  | (with_reducible exact spec_DrawJoinChunks.mono _ _)
  | (with_reducible exact spec_DrawReceiveChunk.mono _ _)
  | (with_reducible exact spec_EncodeChunks.mono _ _ _)
  | (with_reducible exact spec_JoinChunks.mono _ _ _)
  | (with_reducible exact spec_MissingChunk.mono _ _ _)
  | (with_reducible exact spec_ReceiveChunk.mono _ _ _)
  | (with_reducible exact uA.refl _)
  | (with_reducible exact uA.none _)
  | (with_reducible refine uA.vA ?_ ?_)
  | (with_reducible refine uA.bind ?_ (fun _ => ?_))
  | exact ih0 _ _ _ _ _ _
  | exact ih1 _ _ _ _ _ _
  | exact ih2 _
  | exact ih3 _ _ _ _
  | exact uA.none _
  | refine uA.vA ?_ ?_
  | refine uA.bind ?_ (fun _ => ?_)
theorem laws_FnChunks.mono : ∀ a0 k, uA (laws_FnChunks.f k a0) (laws_FnChunks.f (k + 1) a0) := by
 intro a0 k
 obtain ⟨ih0, ih1, ih2, ih3⟩ := laws_FnChunks.mono_l k
 unfold laws_FnChunks.f
 repeat' first
   | (with_reducible exact ih0 _ _ _ _ _ _)
   | (with_reducible exact ih1 _ _ _ _ _ _)
   | (with_reducible exact ih2 _)
   | (with_reducible exact ih3 _ _ _ _)
   | (with_reducible exact impl_EncodeChunks.mono _ _ _)
   | (with_reducible exact impl_JoinChunks.mono _ _ _)
   | (with_reducible exact impl_MissingChunk.mono _ _ _)
   | (with_reducible exact impl_ReceiveChunk.mono _ _ _)
   | (with_reducible exact spec_DrawEncodeChunks.mono _ _)
   | (with_reducible exact spec_DrawJoinChunks.mono _ _)
   | (with_reducible exact spec_DrawReceiveChunk.mono _ _)
   | (with_reducible exact spec_EncodeChunks.mono _ _ _)
   | (with_reducible exact spec_JoinChunks.mono _ _ _)
   | (with_reducible exact spec_MissingChunk.mono _ _ _)
   | (with_reducible exact spec_ReceiveChunk.mono _ _ _)
   | (with_reducible exact uA.refl _)
   | (with_reducible exact uA.none _)
   | (with_reducible refine uA.vA ?_ ?_)
   | (with_reducible refine uA.bind ?_ (fun _ => ?_))
   | exact ih0 _ _ _ _ _ _
   | exact ih1 _ _ _ _ _ _
   | exact ih2 _
   | exact ih3 _ _ _ _
   | exact uA.none _
   | refine uA.vA ?_ ?_
   | refine uA.bind ?_ (fun _ => ?_)
set_option maxHeartbeats 8000000 in
set_option maxRecDepth 100000 in
theorem laws_FnChunks.calls (k : Nat) (A0 : Option Addr) (c0 : Nat) (l0 : List Int) (w : World) (hr0 : Kd.C (Kd.int .u8) w A0 l0.length l0) (hc0 : l0.length ≤ c0) (hWF : WF w) (h : laws_FnChunks.f k l0 = some true) :
  Calls Tryd.prog 4 #[.slice A0 l0.length c0] w fun e w' => e = .returned (.bool true) ∧ Below w.heap.size w w' := by
 have HR0 := Aside0.mk hr0
 have HC0 := Aside0.mk hc0
 clear hr0 hc0
 have HB := Aside0.mk (Below.refl w.heap.size w)
 have H : ((laws_big.f l0).bind fun t667 => (if t667 = true then (some true) else ((spec_DrawReceiveChunk.f k l0).bind fun bt668 => ((impl_ReceiveChunk.f k bt668.1 bt668.2).bind fun bt672 => ((spec_ReceiveChunk.f k bt668.1 bt668.2).bind fun bt676 => (if (bt672.2 != bt676.2) = true then (laws_FnChunks.j0 k l0 bt668.2 bt672.1 bt672.2 bt676.1 true) else (laws_FnChunks.j0 k l0 bt668.2 bt672.1 bt672.2 bt676.1 ((bt672.1.length : Int) != (bt676.1.length : Int))))))))) = some true := h
 clear h
 replace H := Option.bind_eq_some_iff.mp H
 obtain ⟨t667, A20, H⟩ := H
 try dsimp only at H
 have A2 := Aside0.mk A20
 clear A20
 by_cases c3 : t667 = true
 ·subst c3
  try rw [if_pos rfl] at H
  go_enter Tryd.func4, Tryd.ntmps4
  go_wp2_with (first | (go_at_call 7; (with_reducible refine (laws_big.calls _ _ l0 true _ ?side1 ?side2 A2.out).mono ?_); (case side1 => exact cq16); (case side2 => exact HC0.out); rintro e w' ⟨rfl, ⟨nd, rfl⟩⟩; (try exact dwN)))
  repeat (go_quiet (first | (go_at_call 7; (with_reducible refine (laws_big.calls _ _ l0 true _ ?side1 ?side2 A2.out).mono ?_); (case side1 => exact cq16); (case side2 => exact HC0.out); rintro e w' ⟨rfl, ⟨nd, rfl⟩⟩; (try exact dwN))); try go_wp2_with (first | (go_at_call 7; (with_reducible refine (laws_big.calls _ _ l0 true _ ?side1 ?side2 A2.out).mono ?_); (case side1 => exact cq16); (case side2 => exact HC0.out); rintro e w' ⟨rfl, ⟨nd, rfl⟩⟩; (try exact dwN))))
  go_ret
  exact ⟨cq5, uW⟩
 replace c3 := Bool.eq_false_iff.mpr c3
 subst c3
 try rw [if_neg (show ¬ (false = true) by decide)] at H
 replace H := Option.bind_eq_some_iff.mp H
 obtain ⟨⟨t668, t669⟩, A40, H⟩ := H
 try dsimp only at H
 have A4 := Aside0.mk A40
 clear A40
 replace H := Option.bind_eq_some_iff.mp H
 obtain ⟨⟨t672, t673⟩, A50, H⟩ := H
 try dsimp only at H
 have A5 := Aside0.mk A50
 clear A50
 replace H := Option.bind_eq_some_iff.mp H
 obtain ⟨⟨t676, t677⟩, A60, H⟩ := H
 try dsimp only at H
 have A6 := Aside0.mk A60
 clear A60
 have HC7 := Aside0.mk H
 clear H
 go_enter Tryd.func4, Tryd.ntmps4
 go_upto_region 6 with (first | (go_at_call 7; (with_reducible refine (laws_big.calls _ _ l0 false _ ?side1 ?side2 A2.out).mono ?_); (case side1 => exact cq16); (case side2 => exact HC0.out); rintro e w' ⟨rfl, ⟨nd, rfl⟩⟩; (try exact dwN)) | (go_at_call 21; (with_reducible refine (spec_DrawReceiveChunk.calls k _ _ l0 t668 t669 _ ?side1 ?side2 A4.out).mono ?_); (case side1 => exact cq16); (case side2 => exact HC0.out); rintro e w8 ⟨v670, rfl, ho0, hb⟩; have HO671 := Aside0.mk (Kd.uN ho0 (uR uW)); replace HB := uH HB hb; (try clear hb); (try clear ho0); obtain ⟨Ao9, co9, eo9⟩ := Kd.uS HO671.out; subst eo9) | (go_at_call 22; (with_reducible refine (impl_ReceiveChunk.calls k _ _ t668 t669 t672 t673 _ ?side1 ?side2 ?side3 A5.out).mono ?_); (case side1 => exact cq35); (case side2 => exact (Kd.uY HO671.out).2.1); (case side3 => exact cq7); rintro e w10 ⟨v674, rfl, ho0, hb⟩; have HO675 := Aside0.mk (Kd.uN (Kd.vJ ho0 (Kd.R_lt (uT HO671.out))) (uR uW)); replace HO671 := Aside0.mk (Kd.vF (uT HO671.out) (Kd.vK ho0) hb); replace HB := uH HB hb; (try clear hb); (try clear ho0)) | (go_at_call 23; (with_reducible refine (spec_ReceiveChunk.calls k _ _ t668 t669 t676 t677 _ ?side1 ?side2 A6.out).mono ?_); (case side1 => exact cq35); (case side2 => exact (Kd.uY HO671.out).2.1); rintro e w11 ⟨v678, rfl, ho0, hb⟩; have HO679 := Aside0.mk (Kd.uN (Kd.vJ (Kd.vJ ho0 (Kd.R_lt (uT HO671.out))) (Kd.R_lt (uT HO675.out))) (uR uW)); replace HO671 := Aside0.mk (Kd.vF (uT HO671.out) (Kd.vK ho0) hb); replace HO675 := Aside0.mk (Kd.vF (uT HO675.out) (Kd.vK ho0) hb); replace HB := uH HB hb; (try clear hb); (try clear ho0)))
 repeat (go_quiet (first | (go_at_call 7; (with_reducible refine (laws_big.calls _ _ l0 false _ ?side1 ?side2 A2.out).mono ?_); (case side1 => exact cq16); (case side2 => exact HC0.out); rintro e w' ⟨rfl, ⟨nd, rfl⟩⟩; (try exact dwN)) | (go_at_call 21; (with_reducible refine (spec_DrawReceiveChunk.calls k _ _ l0 t668 t669 _ ?side1 ?side2 A4.out).mono ?_); (case side1 => exact cq16); (case side2 => exact HC0.out); rintro e w8 ⟨v670, rfl, ho0, hb⟩; have n0_ := Aside0.mk (Kd.uN ho0 (uR uW)); have n1_ := uH HB hb; clear HB; have HO671 := n0_; have HB := n1_; clear n0_ n1_; (try clear hb); (try clear ho0); obtain ⟨Ao9, co9, eo9⟩ := Kd.uS HO671.out; subst eo9) | (go_at_call 22; (with_reducible refine (impl_ReceiveChunk.calls k _ _ t668 t669 t672 t673 _ ?side1 ?side2 ?side3 A5.out).mono ?_); (case side1 => exact cq35); (case side2 => exact (Kd.uY HO671.out).2.1); (case side3 => exact cq7); rintro e w10 ⟨v674, rfl, ho0, hb⟩; have n0_ := Aside0.mk (Kd.vF (uT HO671.out) (Kd.vK ho0) hb); have n1_ := Aside0.mk (Kd.uN (Kd.vJ ho0 (Kd.R_lt (uT HO671.out))) (uR uW)); have n2_ := uH HB hb; clear HO671; clear HB; have HO671 := n0_; have HO675 := n1_; have HB := n2_; clear n0_ n1_ n2_; (try clear hb); (try clear ho0)) | (go_at_call 23; (with_reducible refine (spec_ReceiveChunk.calls k _ _ t668 t669 t676 t677 _ ?side1 ?side2 A6.out).mono ?_); (case side1 => exact cq35); (case side2 => exact (Kd.uY HO671.out).2.1); rintro e w11 ⟨v678, rfl, ho0, hb⟩; have n0_ := Aside0.mk (Kd.vF (uT HO671.out) (Kd.vK ho0) hb); have n1_ := Aside0.mk (Kd.vF (uT HO675.out) (Kd.vK ho0) hb); have n2_ := Aside0.mk (Kd.uN (Kd.vJ (Kd.vJ ho0 (Kd.R_lt (uT HO671.out))) (Kd.R_lt (uT HO675.out))) (uR uW)); have n3_ := uH HB hb; clear HO671; clear HO675; clear HB; have HO671 := n0_; have HO675 := n1_; have HO679 := n2_; have HB := n3_; clear n0_ n1_ n2_ n3_; (try clear hb); (try clear ho0))); go_upto_region 6 with (first | (go_at_call 7; (with_reducible refine (laws_big.calls _ _ l0 false _ ?side1 ?side2 A2.out).mono ?_); (case side1 => exact cq16); (case side2 => exact HC0.out); rintro e w' ⟨rfl, ⟨nd, rfl⟩⟩; (try exact dwN)) | (go_at_call 21; (with_reducible refine (spec_DrawReceiveChunk.calls k _ _ l0 t668 t669 _ ?side1 ?side2 A4.out).mono ?_); (case side1 => exact cq16); (case side2 => exact HC0.out); rintro e w8 ⟨v670, rfl, ho0, hb⟩; have n0_ := Aside0.mk (Kd.uN ho0 (uR uW)); have n1_ := uH HB hb; clear HB; have HO671 := n0_; have HB := n1_; clear n0_ n1_; (try clear hb); (try clear ho0); obtain ⟨Ao9, co9, eo9⟩ := Kd.uS HO671.out; subst eo9) | (go_at_call 22; (with_reducible refine (impl_ReceiveChunk.calls k _ _ t668 t669 t672 t673 _ ?side1 ?side2 ?side3 A5.out).mono ?_); (case side1 => exact cq35); (case side2 => exact (Kd.uY HO671.out).2.1); (case side3 => exact cq7); rintro e w10 ⟨v674, rfl, ho0, hb⟩; have n0_ := Aside0.mk (Kd.vF (uT HO671.out) (Kd.vK ho0) hb); have n1_ := Aside0.mk (Kd.uN (Kd.vJ ho0 (Kd.R_lt (uT HO671.out))) (uR uW)); have n2_ := uH HB hb; clear HO671; clear HB; have HO671 := n0_; have HO675 := n1_; have HB := n2_; clear n0_ n1_ n2_; (try clear hb); (try clear ho0)) | (go_at_call 23; (with_reducible refine (spec_ReceiveChunk.calls k _ _ t668 t669 t676 t677 _ ?side1 ?side2 A6.out).mono ?_); (case side1 => exact cq35); (case side2 => exact (Kd.uY HO671.out).2.1); rintro e w11 ⟨v678, rfl, ho0, hb⟩; have n0_ := Aside0.mk (Kd.vF (uT HO671.out) (Kd.vK ho0) hb); have n1_ := Aside0.mk (Kd.vF (uT HO675.out) (Kd.vK ho0) hb); have n2_ := Aside0.mk (Kd.uN (Kd.vJ (Kd.vJ ho0 (Kd.R_lt (uT HO671.out))) (Kd.R_lt (uT HO675.out))) (uR uW)); have n3_ := uH HB hb; clear HO671; clear HO675; clear HB; have HO671 := n0_; have HO675 := n1_; have HO679 := n2_; have HB := n3_; clear n0_ n1_ n2_ n3_; (try clear hb); (try clear ho0))))
 (try simp only [Act.put, vZ, yA, yB])
 go_cut [51] (fun v51 wc => ∃ (kq : Nat) (x51_6 : Bool), v51 = .bool x51_6 ∧ Aside0 (laws_FnChunks.j0 kq l0 t669 t672 t673 t676 x51_6 = some true) ∧ Aside0 (kq ≤ k) ∧ Aside0 (Kd.R Kd.string 9 wc w.heap.size (fun k_ => some k_ ≠ (v678 : Value).ownBlock) v674 t672) ∧ Aside0 (Kd.R Kd.string 9 wc w.heap.size (fun k_ => some k_ ≠ (v674 : Value).ownBlock) v678 t676) ∧ Aside0 (Below w.heap.size w wc))
 case first =>
  have H := HC7.out
  clear HC7
  by_cases c12 : (t673 != t677) = true
  ·rw [if_pos c12] at H
   have c12b0 : (t673 != t677) = true := c12
   (try (have c12b1 : decide (t673 = t677) = false := by simpa using c12))
   (try (have c12b2 : (t673 == t677) = false := by simpa using c12))
   (try (have c12b3 : ¬ (t673 = t677) := by simpa using c12))
   clear c12
   (first | rw [c12b0] | (simp only [vM, vO]; rw [c12b0]) | skip)
   have H' := Aside0.mk H
   clear H
   go_wp2
   repeat (go_quiet (fail); try go_wp2)
   go_meet
   case rel => exact ⟨_, (true), vD, H', ⟨by first | omega | exact Nat.le_refl _⟩, ⟨by (with_reducible repeat (first | apply Kd.uK | apply Kd.uJ | apply Kd.uO)); exact Kd.uG HO675.out (fun _ hk => hk.2)⟩, ⟨by (with_reducible repeat (first | apply Kd.uK | apply Kd.uJ | apply Kd.uO)); exact Kd.uG HO679.out (fun _ hk => hk.2)⟩, ⟨uW⟩⟩
  rw [if_neg c12] at H
  have c12b0 : (t673 != t677) = false := by simpa using c12
  (try (have c12b1 : decide (t673 = t677) = true := by simpa using c12))
  (try (have c12b2 : (t673 == t677) = true := by simpa using c12))
  clear c12
  (first | rw [c12b0] | (simp only [vM, vO]; rw [c12b0]) | skip)
  have H' := Aside0.mk H
  clear H
  obtain ⟨Ao13, co13, eo13⟩ := Kd.uS HO675.out
  subst eo13
  obtain ⟨Ao14, co14, eo14⟩ := Kd.uS HO679.out
  subst eo14
  go_wp2
  repeat (go_quiet (fail); try go_wp2)
  go_meet
  case rel => exact ⟨_, (((t672.length : Int) != (t676.length : Int))), vD, H', ⟨by first | omega | exact Nat.le_refl _⟩, ⟨by (with_reducible repeat (first | apply Kd.uK | apply Kd.uJ | apply Kd.uO)); exact Kd.uG HO675.out (fun _ hk => hk.2)⟩, ⟨by (with_reducible repeat (first | apply Kd.uK | apply Kd.uJ | apply Kd.uO)); exact Kd.uG HO679.out (fun _ hk => hk.2)⟩, ⟨uW⟩⟩
 case rest =>
  clear HC7
  try clear c3
  obtain ⟨kq, x51_6, rfl, HA, HJ6, HO_5, HO_7, HB⟩ := hcut
  cases kq with
  | zero => exact absurd HA.out (by simp [laws_FnChunks.j0])
  | succ kj6 =>
   have H := HA.out
   clear HA
   simp only [laws_FnChunks.j0] at H
   by_cases c15 : x51_6 = true
   ·subst c15
    try rw [if_pos rfl] at H
    exact absurd H (by simp)
   replace c15 := Bool.eq_false_iff.mpr c15
   subst c15
   try rw [if_neg (show ¬ (false = true) by decide)] at H
   have H' := Aside0.mk H
   clear H
   go_wp2
   repeat (go_quiet (fail); try go_wp2)
   go_loopg [9] kj6 (fun kq v9 w' => ∃ (x9_2 : Int), v9 = .int .i64 x9_2 ∧ Aside0 (laws_FnChunks.l0 kq l0 t669 t672 t673 t676 x9_2 = some true) ∧ Aside0 (kq ≤ kj6) ∧ Aside0 (Kd.R Kd.string 9 w' w.heap.size (fun k_ => some k_ ≠ (v678 : Value).ownBlock) v674 t672) ∧ Aside0 (Kd.R Kd.string 9 w' w.heap.size (fun k_ => some k_ ≠ (v674 : Value).ownBlock) v678 t676) ∧ Aside0 (Below w.heap.size w w'))
   case atStart => exact ⟨(0), vD, H', ⟨Nat.le_refl _⟩, ⟨cq27⟩, ⟨by (with_reducible repeat (first | apply Kd.uK | apply Kd.uJ | apply Kd.uO)); exact HO_7.out⟩, ⟨uW⟩⟩
   case round =>
    clear H'
    try clear c3
    try clear c15
    obtain ⟨x9_2, rfl, HA, HK2, HO_5, HO_7, HB⟩ := hrel
    cases gk with
    | zero => exact absurd HA.out (by simp [laws_FnChunks.l0])
    | succ k2 =>
     have H := HA.out
     clear HA
     simp only [laws_FnChunks.l0] at H
     by_cases c16 : x9_2 < (t672.length : Int)
     ·rw [if_pos c16] at H
      have c16b0 := decide_eq_true c16
      clear c16
      obtain ⟨c17b0, H⟩ := ifD H
      obtain ⟨c18b0, H⟩ := ifD H
      by_cases c19 : (rdOf ByteArray.empty t672 x9_2).toList = (rdOf ByteArray.empty t676 x9_2).toList
      rotate_left
      ·rw [if_neg c19] at H
       have c19b0 : ((rdOf ByteArray.empty t672 x9_2).toList == (rdOf ByteArray.empty t676 x9_2).toList) = false := beq_eq_false_iff_ne.mpr c19
       have c19b1 : ((rdOf ByteArray.empty t672 x9_2).toList != (rdOf ByteArray.empty t676 x9_2).toList) = true := bne_iff_ne.mpr c19
       exact absurd H (by simp)
      rw [if_pos c19] at H
      have c19b0 : ((rdOf ByteArray.empty t672 x9_2).toList == (rdOf ByteArray.empty t676 x9_2).toList) = true := beq_iff_eq.mpr c19
      have c19b1 : ((rdOf ByteArray.empty t672 x9_2).toList != (rdOf ByteArray.empty t676 x9_2).toList) = false := bne_eq_false_iff_eq.mpr c19
      clear c19
      have H' := Aside0.mk H
      clear H
      obtain ⟨Ao20, co20, eo20⟩ := Kd.uS HO_5.out
      subst eo20
      have p680 : 0 ≤ (x9_2 : Int) := of_decide_eq_true vC
      have q680 : x9_2 < (t672.length : Int) := of_decide_eq_true vC
      obtain ⟨ad680, e680, hx680_0⟩ := Kd.vS (Kd.uY HO_5.out).2.2 x9_2 p680 q680
      cases e680
      replace p680 := eq_true p680
      replace q680 := eq_true q680
      obtain ⟨Ao21, co21, eo21⟩ := Kd.uS HO_7.out
      subst eo21
      have p681 : 0 ≤ (x9_2 : Int) := of_decide_eq_true vC
      have q681 : x9_2 < (t676.length : Int) := of_decide_eq_true vC
      obtain ⟨ad681, e681, hx681_0⟩ := Kd.vS (Kd.uY HO_7.out).2.2 x9_2 p681 q681
      cases e681
      replace p681 := eq_true p681
      replace q681 := eq_true q681
      go_wp2
      repeat (go_quiet (fail); try go_wp2)
      go_roundg k2
      case measure => have := HJ6.out; have := HK2.out; omega
      case rel => exact ⟨(wrap64 (x9_2 + 1)), vD, H', ⟨by have := HJ6.out; have := HK2.out; omega⟩, ⟨cq27⟩, ⟨by (with_reducible repeat (first | apply Kd.uK | apply Kd.uJ | apply Kd.uO)); exact HO_7.out⟩, ⟨uW⟩⟩
     rw [if_neg c16] at H
     have c16b0 := decide_eq_false c16
     clear c16
     have HC22 := Aside0.mk H
     clear H
     obtain ⟨Ao23, co23, eo23⟩ := Kd.uS HO_5.out
     subst eo23
     go_upto_if 67 with (fail)
     repeat (go_quiet (fail); go_upto_if 67 with (fail))
     go_cut [] (fun wc => ∃ (kq : Nat), Aside0 (laws_FnChunks.j2 kq l0 = some true) ∧ Aside0 (kq ≤ k2) ∧ Aside0 (Below w.heap.size w wc))
     case first =>
      have H := HC22.out
      clear HC22
      by_cases c24 : t673 = true
      rotate_left
      ·replace c24 := Bool.eq_false_iff.mpr c24
       subst c24
       try rw [if_neg (show ¬ (false = true) by decide)] at H
       have H' := Aside0.mk H
       clear H
       go_wp2
       repeat (go_quiet (fail); try go_wp2)
       go_meet
       case rel => exact ⟨_, H', ⟨by have := HJ6.out; have := HK2.out; first | omega | exact Nat.le_refl _⟩, ⟨uW⟩⟩
      subst c24
      try rw [if_pos rfl] at H
      replace H := Option.bind_eq_some_iff.mp H
      obtain ⟨⟨t682, t683⟩, A250, H⟩ := H
      try dsimp only at H
      have A25 := Aside0.mk A250
      clear A250
      by_cases c26 : t683 = true
      ·subst c26
       try rw [if_pos rfl] at H
       exact absurd H (by simp)
      replace c26 := Bool.eq_false_iff.mpr c26
      subst c26
      try rw [if_neg (show ¬ (false = true) by decide)] at H
      have H' := Aside0.mk H
      clear H
      go_wp2_with (first | (go_at_call 22; (with_reducible refine (impl_ReceiveChunk.calls k2 _ _ t672 t669 t682 false _ ?side1 ?side2 ?side3 A25.out).mono ?_); (case side1 => exact cq53); (case side2 => exact (Kd.uY HO_5.out).2.1); (case side3 => exact cq7); rintro e w27 ⟨v684, rfl, ho0, hb⟩; have HO685 := Aside0.mk (Kd.uN (Kd.vJ (Kd.vJ ho0 (Kd.R_lt (uT HO_5.out))) (Kd.R_lt (uT HO_7.out))) (uR uW)); replace HO_5 := Aside0.mk (Kd.vF (uT HO_5.out) (Kd.vK ho0) hb); replace HO_7 := Aside0.mk (Kd.vF (uT HO_7.out) (Kd.vK ho0) hb); replace HB := uH HB hb; (try clear hb); (try clear ho0)))
      repeat (go_quiet (first | (go_at_call 22; (with_reducible refine (impl_ReceiveChunk.calls k2 _ _ t672 t669 t682 false _ ?side1 ?side2 ?side3 A25.out).mono ?_); (case side1 => exact cq53); (case side2 => exact (Kd.uY HO_5.out).2.1); (case side3 => exact cq7); rintro e w27 ⟨v684, rfl, ho0, hb⟩; have n0_ := Aside0.mk (Kd.vF (uT HO_5.out) (Kd.vK ho0) hb); have n1_ := Aside0.mk (Kd.vF (uT HO_7.out) (Kd.vK ho0) hb); have n2_ := Aside0.mk (Kd.uN (Kd.vJ (Kd.vJ ho0 (Kd.R_lt (uT HO_5.out))) (Kd.R_lt (uT HO_7.out))) (uR uW)); have n3_ := uH HB hb; clear HO_5; clear HO_7; clear HB; have HO_5 := n0_; have HO_7 := n1_; have HO685 := n2_; have HB := n3_; clear n0_ n1_ n2_ n3_; (try clear hb); (try clear ho0))); try go_wp2_with (first | (go_at_call 22; (with_reducible refine (impl_ReceiveChunk.calls k2 _ _ t672 t669 t682 false _ ?side1 ?side2 ?side3 A25.out).mono ?_); (case side1 => exact cq53); (case side2 => exact (Kd.uY HO_5.out).2.1); (case side3 => exact cq7); rintro e w27 ⟨v684, rfl, ho0, hb⟩; have n0_ := Aside0.mk (Kd.vF (uT HO_5.out) (Kd.vK ho0) hb); have n1_ := Aside0.mk (Kd.vF (uT HO_7.out) (Kd.vK ho0) hb); have n2_ := Aside0.mk (Kd.uN (Kd.vJ (Kd.vJ ho0 (Kd.R_lt (uT HO_5.out))) (Kd.R_lt (uT HO_7.out))) (uR uW)); have n3_ := uH HB hb; clear HO_5; clear HO_7; clear HB; have HO_5 := n0_; have HO_7 := n1_; have HO685 := n2_; have HB := n3_; clear n0_ n1_ n2_ n3_; (try clear hb); (try clear ho0))))
      go_meet
      case rel => exact ⟨_, H', ⟨by have := HJ6.out; have := HK2.out; first | omega | exact Nat.le_refl _⟩, ⟨uW⟩⟩
     case rest =>
      clear HC22
      try clear c3
      try clear c15
      try clear c16
      try clear c16b0
      obtain ⟨kq, HA, HJ21, HB⟩ := hcut
      cases kq with
      | zero => exact absurd HA.out (by simp [laws_FnChunks.j2])
      | succ kj21 =>
       have H := HA.out
       clear HA
       simp only [laws_FnChunks.j2] at H
       replace H := Option.bind_eq_some_iff.mp H
       obtain ⟨⟨t686, t687⟩, A280, H⟩ := H
       try dsimp only at H
       have A28 := Aside0.mk A280
       clear A280
       replace H := Option.bind_eq_some_iff.mp H
       obtain ⟨t688, A290, H⟩ := H
       try dsimp only at H
       have A29 := Aside0.mk A290
       clear A290
       replace H := Option.bind_eq_some_iff.mp H
       obtain ⟨t691, A300, H⟩ := H
       try dsimp only at H
       have A30 := Aside0.mk A300
       clear A300
       by_cases c31 : (t688.length : Int) = (t691.length : Int)
       rotate_left
       ·rw [if_neg c31] at H
        have c31b0 := beq_eq_false_iff_ne.mpr c31
        have c31b1 := bne_iff_ne.mpr c31
        have c31b2 : (t688.length == t691.length) = false := by first | simpa using c31 | (simp at c31 ⊢; omega)
        exact absurd H (by simp)
       rw [if_pos c31] at H
       have c31b0 := beq_iff_eq.mpr c31
       have c31b1 := bne_eq_false_iff_eq.mpr c31
       have c31b2 : (t688.length == t691.length) = true := by first | simpa using c31 | (simp at c31 ⊢; omega)
       clear c31
       have H' := Aside0.mk H
       clear H
       go_wp2_with (first | (go_at_call 24; (with_reducible refine (spec_DrawEncodeChunks.calls kj21 _ _ l0 t686 t687 _ ?side1 ?side2 A28.out).mono ?_); (case side1 => exact cq12); (case side2 => exact HC0.out); rintro e w32 ⟨rfl, hb⟩; replace HB := uH HB hb; (try clear hb)) | (go_at_call 25; (with_reducible refine (impl_EncodeChunks.calls kj21 t686 t687 t688 _ ?side1 A29.out).mono ?_); (case side1 => exact cq7); rintro e w33 ⟨v689, rfl, ho0, hb⟩; have HO690 := Aside0.mk (Kd.uN ho0 (uR uW)); replace HB := uH HB hb; (try clear hb); (try clear ho0)) | (go_at_call 26; (with_reducible refine (spec_EncodeChunks.calls kj21 t686 t687 t691 _ A30.out).mono ?_); rintro e w34 ⟨v692, rfl, ho0, hb⟩; have HO693 := Aside0.mk (Kd.uN (Kd.vJ ho0 (Kd.R_lt (uT HO690.out))) (uR uW)); replace HO690 := Aside0.mk (Kd.vF (uT HO690.out) (Kd.vK ho0) hb); replace HB := uH HB hb; (try clear hb); (try clear ho0); obtain ⟨Ao35, co35, eo35⟩ := Kd.uS HO690.out; subst eo35; obtain ⟨Ao36, co36, eo36⟩ := Kd.uS HO693.out; subst eo36))
       repeat (go_quiet (first | (go_at_call 24; (with_reducible refine (spec_DrawEncodeChunks.calls kj21 _ _ l0 t686 t687 _ ?side1 ?side2 A28.out).mono ?_); (case side1 => exact cq12); (case side2 => exact HC0.out); rintro e w32 ⟨rfl, hb⟩; replace HB := uH HB hb; (try clear hb)) | (go_at_call 25; (with_reducible refine (impl_EncodeChunks.calls kj21 t686 t687 t688 _ ?side1 A29.out).mono ?_); (case side1 => exact cq7); rintro e w33 ⟨v689, rfl, ho0, hb⟩; have n0_ := Aside0.mk (Kd.uN ho0 (uR uW)); have n1_ := uH HB hb; clear HB; have HO690 := n0_; have HB := n1_; clear n0_ n1_; (try clear hb); (try clear ho0)) | (go_at_call 26; (with_reducible refine (spec_EncodeChunks.calls kj21 t686 t687 t691 _ A30.out).mono ?_); rintro e w34 ⟨v692, rfl, ho0, hb⟩; have n0_ := Aside0.mk (Kd.vF (uT HO690.out) (Kd.vK ho0) hb); have n1_ := Aside0.mk (Kd.uN (Kd.vJ ho0 (Kd.R_lt (uT HO690.out))) (uR uW)); have n2_ := uH HB hb; clear HO690; clear HB; have HO690 := n0_; have HO693 := n1_; have HB := n2_; clear n0_ n1_ n2_; (try clear hb); (try clear ho0); obtain ⟨Ao35, co35, eo35⟩ := Kd.uS HO690.out; subst eo35; obtain ⟨Ao36, co36, eo36⟩ := Kd.uS HO693.out; subst eo36)); try go_wp2_with (first | (go_at_call 24; (with_reducible refine (spec_DrawEncodeChunks.calls kj21 _ _ l0 t686 t687 _ ?side1 ?side2 A28.out).mono ?_); (case side1 => exact cq12); (case side2 => exact HC0.out); rintro e w32 ⟨rfl, hb⟩; replace HB := uH HB hb; (try clear hb)) | (go_at_call 25; (with_reducible refine (impl_EncodeChunks.calls kj21 t686 t687 t688 _ ?side1 A29.out).mono ?_); (case side1 => exact cq7); rintro e w33 ⟨v689, rfl, ho0, hb⟩; have n0_ := Aside0.mk (Kd.uN ho0 (uR uW)); have n1_ := uH HB hb; clear HB; have HO690 := n0_; have HB := n1_; clear n0_ n1_; (try clear hb); (try clear ho0)) | (go_at_call 26; (with_reducible refine (spec_EncodeChunks.calls kj21 t686 t687 t691 _ A30.out).mono ?_); rintro e w34 ⟨v692, rfl, ho0, hb⟩; have n0_ := Aside0.mk (Kd.vF (uT HO690.out) (Kd.vK ho0) hb); have n1_ := Aside0.mk (Kd.uN (Kd.vJ ho0 (Kd.R_lt (uT HO690.out))) (uR uW)); have n2_ := uH HB hb; clear HO690; clear HB; have HO690 := n0_; have HO693 := n1_; have HB := n2_; clear n0_ n1_ n2_; (try clear hb); (try clear ho0); obtain ⟨Ao35, co35, eo35⟩ := Kd.uS HO690.out; subst eo35; obtain ⟨Ao36, co36, eo36⟩ := Kd.uS HO693.out; subst eo36)))
       go_loopg [16] kj21 (fun kq v16 w' => ∃ (x16_4 : Int), v16 = .int .i64 x16_4 ∧ Aside0 (laws_FnChunks.l1 kq l0 t688 t691 x16_4 = some true) ∧ Aside0 (kq ≤ kj21) ∧ Aside0 (Kd.R Kd.string 9 w' w.heap.size (fun k_ => some k_ ≠ ((.slice Ao36 t691.length co36) : Value).ownBlock) (.slice Ao35 t688.length co35) t688) ∧ Aside0 (Kd.R Kd.string 9 w' w.heap.size (fun k_ => some k_ ≠ ((.slice Ao35 t688.length co35) : Value).ownBlock) (.slice Ao36 t691.length co36) t691) ∧ Aside0 (Below w.heap.size w w'))
       case atStart => exact ⟨(0), vD, H', ⟨Nat.le_refl _⟩, ⟨by (with_reducible repeat (first | apply Kd.uK | apply Kd.uJ | apply Kd.uO)); exact Kd.uG HO690.out (fun _ hk => hk.2)⟩, ⟨by (with_reducible repeat (first | apply Kd.uK | apply Kd.uJ | apply Kd.uO)); exact Kd.uG HO693.out (fun _ hk => hk.2)⟩, ⟨uW⟩⟩
       case round =>
        clear H'
        try clear c3
        try clear c15
        try clear c16
        try clear c16b0
        try clear c31
        try clear c31b0
        try clear c31b1
        try clear c31b2
        obtain ⟨x16_4, rfl, HA, HK4, HO_14, HO_15, HB⟩ := hrel
        cases gk with
        | zero => exact absurd HA.out (by simp [laws_FnChunks.l1])
        | succ k4 =>
         have H := HA.out
         clear HA
         simp only [laws_FnChunks.l1] at H
         by_cases c37 : x16_4 < (t688.length : Int)
         ·rw [if_pos c37] at H
          have c37b0 := decide_eq_true c37
          clear c37
          obtain ⟨c38b0, H⟩ := ifD H
          obtain ⟨c39b0, H⟩ := ifD H
          by_cases c40 : (rdOf ByteArray.empty t688 x16_4).toList = (rdOf ByteArray.empty t691 x16_4).toList
          rotate_left
          ·rw [if_neg c40] at H
           have c40b0 : ((rdOf ByteArray.empty t688 x16_4).toList == (rdOf ByteArray.empty t691 x16_4).toList) = false := beq_eq_false_iff_ne.mpr c40
           have c40b1 : ((rdOf ByteArray.empty t688 x16_4).toList != (rdOf ByteArray.empty t691 x16_4).toList) = true := bne_iff_ne.mpr c40
           exact absurd H (by simp)
          rw [if_pos c40] at H
          have c40b0 : ((rdOf ByteArray.empty t688 x16_4).toList == (rdOf ByteArray.empty t691 x16_4).toList) = true := beq_iff_eq.mpr c40
          have c40b1 : ((rdOf ByteArray.empty t688 x16_4).toList != (rdOf ByteArray.empty t691 x16_4).toList) = false := bne_eq_false_iff_eq.mpr c40
          clear c40
          have H' := Aside0.mk H
          clear H
          have p694 : 0 ≤ (x16_4 : Int) := of_decide_eq_true vC
          have q694 : x16_4 < (t688.length : Int) := of_decide_eq_true vC
          obtain ⟨ad694, e694, hx694_0⟩ := Kd.vS (Kd.uY HO_14.out).2.2 x16_4 p694 q694
          cases e694
          replace p694 := eq_true p694
          replace q694 := eq_true q694
          have p695 : 0 ≤ (x16_4 : Int) := of_decide_eq_true vC
          have q695 : x16_4 < (t691.length : Int) := of_decide_eq_true vC
          obtain ⟨ad695, e695, hx695_0⟩ := Kd.vS (Kd.uY HO_15.out).2.2 x16_4 p695 q695
          cases e695
          replace p695 := eq_true p695
          replace q695 := eq_true q695
          go_wp2
          repeat (go_quiet (fail); try go_wp2)
          go_roundg k4
          case measure => have := HJ6.out; have := HK2.out; have := HJ21.out; have := HK4.out; omega
          case rel => exact ⟨(wrap64 (x16_4 + 1)), vD, H', ⟨by have := HJ6.out; have := HK2.out; have := HJ21.out; have := HK4.out; omega⟩, ⟨by (with_reducible repeat (first | apply Kd.uK | apply Kd.uJ | apply Kd.uO)); exact HO_14.out⟩, ⟨by (with_reducible repeat (first | apply Kd.uK | apply Kd.uJ | apply Kd.uO)); exact HO_15.out⟩, ⟨uW⟩⟩
         rw [if_neg c37] at H
         have c37b0 := decide_eq_false c37
         clear c37
         replace H := Option.bind_eq_some_iff.mp H
         obtain ⟨⟨t696, t697⟩, A410, H⟩ := H
         try dsimp only at H
         have A41 := Aside0.mk A410
         clear A410
         replace H := Option.bind_eq_some_iff.mp H
         obtain ⟨⟨t700, t701⟩, A420, H⟩ := H
         try dsimp only at H
         have A42 := Aside0.mk A420
         clear A420
         replace H := Option.bind_eq_some_iff.mp H
         obtain ⟨⟨t702, t703⟩, A430, H⟩ := H
         try dsimp only at H
         have A43 := Aside0.mk A430
         clear A430
         by_cases c44 : (t701 == t703) = true
         rotate_left
         ·rw [if_neg c44] at H
          have c44b0 : (t701 == t703) = false := by simpa using c44
          (try (have c44b1 : decide (t701 = t703) = false := by simpa using c44))
          (try (have c44b2 : (t701 == t703) = false := by simpa using c44))
          (try (have c44b3 : ¬ (t701 = t703) := by simpa using c44))
          clear c44
          exact absurd H (by simp)
         rw [if_pos c44] at H
         have c44b0 : (t701 == t703) = true := c44
         (try (have c44b1 : decide (t701 = t703) = true := by simpa using c44))
         (try (have c44b2 : (t701 == t703) = true := by simpa using c44))
         clear c44
         by_cases c45 : t700.toList = t702.toList
         rotate_left
         ·rw [if_neg c45] at H
          have c45b0 : (t700.toList == t702.toList) = false := beq_eq_false_iff_ne.mpr c45
          have c45b1 : (t700.toList != t702.toList) = true := bne_iff_ne.mpr c45
          exact absurd H (by simp)
         rw [if_pos c45] at H
         have c45b0 : (t700.toList == t702.toList) = true := beq_iff_eq.mpr c45
         have c45b1 : (t700.toList != t702.toList) = false := bne_eq_false_iff_eq.mpr c45
         clear c45
         replace H := Option.bind_eq_some_iff.mp H
         obtain ⟨t704, A460, H⟩ := H
         try dsimp only at H
         have A46 := Aside0.mk A460
         clear A460
         replace H := Option.bind_eq_some_iff.mp H
         obtain ⟨t705, A470, H⟩ := H
         try dsimp only at H
         have A47 := Aside0.mk A470
         clear A470
         have hX_ := Option.some.inj H
         go_wp2_with (first | (go_at_call 27; (with_reducible refine (spec_DrawJoinChunks.calls k4 _ _ l0 t696 t697 _ ?side1 ?side2 A41.out).mono ?_); (case side1 => exact cq12); (case side2 => exact HC0.out); rintro e w48 ⟨v698, rfl, ho0, hb⟩; have HO699 := Aside0.mk (Kd.uN (Kd.vJ (Kd.vJ ho0 (Kd.R_lt (uT HO_14.out))) (Kd.R_lt (uT HO_15.out))) (uR uW)); replace HO_14 := Aside0.mk (Kd.vF (uT HO_14.out) (Kd.vK ho0) hb); replace HO_15 := Aside0.mk (Kd.vF (uT HO_15.out) (Kd.vK ho0) hb); replace HB := uH HB hb; (try clear hb); (try clear ho0); obtain ⟨Ao49, co49, eo49⟩ := Kd.uS HO699.out; subst eo49) | (go_at_call 28; (with_reducible refine (impl_JoinChunks.calls k4 _ _ t696 t697 t700 t701 _ ?side1 ?side2 ?side3 A42.out).mono ?_); (case side1 => exact cq18); (case side2 => exact (Kd.uY HO699.out).2.1); (case side3 => exact cq7); rintro e w50 ⟨rfl, hb⟩; replace HO_14 := Kd.tR HO_14 hb; replace HO_15 := Kd.tR HO_15 hb; replace HO699 := Kd.tR HO699 hb; replace HB := uH HB hb; (try clear hb)) | (go_at_call 29; (with_reducible refine (spec_JoinChunks.calls k4 _ _ t696 t697 t702 t703 _ ?side1 ?side2 A43.out).mono ?_); (case side1 => exact cq18); (case side2 => exact (Kd.uY HO699.out).2.1); rintro e w51 ⟨rfl, hb⟩; replace HO_14 := Kd.tR HO_14 hb; replace HO_15 := Kd.tR HO_15 hb; replace HO699 := Kd.tR HO699 hb; replace HB := uH HB hb; (try clear hb)) | (go_at_call 30; (with_reducible refine (impl_MissingChunk.calls k4 _ _ t696 t697 t704 _ ?side1 ?side2 A46.out).mono ?_); (case side1 => exact cq18); (case side2 => exact (Kd.uY HO699.out).2.1); rintro e w' ⟨rfl, ⟨nd, rfl⟩⟩; (try exact dwN)) | (go_at_call 31; (with_reducible refine (spec_MissingChunk.calls k4 _ _ t696 t697 t705 _ ?side1 ?side2 A47.out).mono ?_); (case side1 => exact cq18); (case side2 => exact (Kd.uY HO699.out).2.1); rintro e w' ⟨rfl, ⟨nd, rfl⟩⟩; (try exact dwN)))
         repeat (go_quiet (first | (go_at_call 27; (with_reducible refine (spec_DrawJoinChunks.calls k4 _ _ l0 t696 t697 _ ?side1 ?side2 A41.out).mono ?_); (case side1 => exact cq12); (case side2 => exact HC0.out); rintro e w48 ⟨v698, rfl, ho0, hb⟩; have n0_ := Aside0.mk (Kd.vF (uT HO_14.out) (Kd.vK ho0) hb); have n1_ := Aside0.mk (Kd.vF (uT HO_15.out) (Kd.vK ho0) hb); have n2_ := Aside0.mk (Kd.uN (Kd.vJ (Kd.vJ ho0 (Kd.R_lt (uT HO_14.out))) (Kd.R_lt (uT HO_15.out))) (uR uW)); have n3_ := uH HB hb; clear HO_14; clear HO_15; clear HB; have HO_14 := n0_; have HO_15 := n1_; have HO699 := n2_; have HB := n3_; clear n0_ n1_ n2_ n3_; (try clear hb); (try clear ho0); obtain ⟨Ao49, co49, eo49⟩ := Kd.uS HO699.out; subst eo49) | (go_at_call 28; (with_reducible refine (impl_JoinChunks.calls k4 _ _ t696 t697 t700 t701 _ ?side1 ?side2 ?side3 A42.out).mono ?_); (case side1 => exact cq18); (case side2 => exact (Kd.uY HO699.out).2.1); (case side3 => exact cq7); rintro e w50 ⟨rfl, hb⟩; have n0_ := Kd.tR HO_14 hb; have n1_ := Kd.tR HO_15 hb; have n2_ := Kd.tR HO699 hb; have n3_ := uH HB hb; clear HO_14; clear HO_15; clear HO699; clear HB; have HO_14 := n0_; have HO_15 := n1_; have HO699 := n2_; have HB := n3_; clear n0_ n1_ n2_ n3_; (try clear hb)) | (go_at_call 29; (with_reducible refine (spec_JoinChunks.calls k4 _ _ t696 t697 t702 t703 _ ?side1 ?side2 A43.out).mono ?_); (case side1 => exact cq18); (case side2 => exact (Kd.uY HO699.out).2.1); rintro e w51 ⟨rfl, hb⟩; have n0_ := Kd.tR HO_14 hb; have n1_ := Kd.tR HO_15 hb; have n2_ := Kd.tR HO699 hb; have n3_ := uH HB hb; clear HO_14; clear HO_15; clear HO699; clear HB; have HO_14 := n0_; have HO_15 := n1_; have HO699 := n2_; have HB := n3_; clear n0_ n1_ n2_ n3_; (try clear hb)) | (go_at_call 30; (with_reducible refine (impl_MissingChunk.calls k4 _ _ t696 t697 t704 _ ?side1 ?side2 A46.out).mono ?_); (case side1 => exact cq18); (case side2 => exact (Kd.uY HO699.out).2.1); rintro e w' ⟨rfl, ⟨nd, rfl⟩⟩; (try exact dwN)) | (go_at_call 31; (with_reducible refine (spec_MissingChunk.calls k4 _ _ t696 t697 t705 _ ?side1 ?side2 A47.out).mono ?_); (case side1 => exact cq18); (case side2 => exact (Kd.uY HO699.out).2.1); rintro e w' ⟨rfl, ⟨nd, rfl⟩⟩; (try exact dwN))); try go_wp2_with (first | (go_at_call 27; (with_reducible refine (spec_DrawJoinChunks.calls k4 _ _ l0 t696 t697 _ ?side1 ?side2 A41.out).mono ?_); (case side1 => exact cq12); (case side2 => exact HC0.out); rintro e w48 ⟨v698, rfl, ho0, hb⟩; have n0_ := Aside0.mk (Kd.vF (uT HO_14.out) (Kd.vK ho0) hb); have n1_ := Aside0.mk (Kd.vF (uT HO_15.out) (Kd.vK ho0) hb); have n2_ := Aside0.mk (Kd.uN (Kd.vJ (Kd.vJ ho0 (Kd.R_lt (uT HO_14.out))) (Kd.R_lt (uT HO_15.out))) (uR uW)); have n3_ := uH HB hb; clear HO_14; clear HO_15; clear HB; have HO_14 := n0_; have HO_15 := n1_; have HO699 := n2_; have HB := n3_; clear n0_ n1_ n2_ n3_; (try clear hb); (try clear ho0); obtain ⟨Ao49, co49, eo49⟩ := Kd.uS HO699.out; subst eo49) | (go_at_call 28; (with_reducible refine (impl_JoinChunks.calls k4 _ _ t696 t697 t700 t701 _ ?side1 ?side2 ?side3 A42.out).mono ?_); (case side1 => exact cq18); (case side2 => exact (Kd.uY HO699.out).2.1); (case side3 => exact cq7); rintro e w50 ⟨rfl, hb⟩; have n0_ := Kd.tR HO_14 hb; have n1_ := Kd.tR HO_15 hb; have n2_ := Kd.tR HO699 hb; have n3_ := uH HB hb; clear HO_14; clear HO_15; clear HO699; clear HB; have HO_14 := n0_; have HO_15 := n1_; have HO699 := n2_; have HB := n3_; clear n0_ n1_ n2_ n3_; (try clear hb)) | (go_at_call 29; (with_reducible refine (spec_JoinChunks.calls k4 _ _ t696 t697 t702 t703 _ ?side1 ?side2 A43.out).mono ?_); (case side1 => exact cq18); (case side2 => exact (Kd.uY HO699.out).2.1); rintro e w51 ⟨rfl, hb⟩; have n0_ := Kd.tR HO_14 hb; have n1_ := Kd.tR HO_15 hb; have n2_ := Kd.tR HO699 hb; have n3_ := uH HB hb; clear HO_14; clear HO_15; clear HO699; clear HB; have HO_14 := n0_; have HO_15 := n1_; have HO699 := n2_; have HB := n3_; clear n0_ n1_ n2_ n3_; (try clear hb)) | (go_at_call 30; (with_reducible refine (impl_MissingChunk.calls k4 _ _ t696 t697 t704 _ ?side1 ?side2 A46.out).mono ?_); (case side1 => exact cq18); (case side2 => exact (Kd.uY HO699.out).2.1); rintro e w' ⟨rfl, ⟨nd, rfl⟩⟩; (try exact dwN)) | (go_at_call 31; (with_reducible refine (spec_MissingChunk.calls k4 _ _ t696 t697 t705 _ ?side1 ?side2 A47.out).mono ?_); (case side1 => exact cq18); (case side2 => exact (Kd.uY HO699.out).2.1); rintro e w' ⟨rfl, ⟨nd, rfl⟩⟩; (try exact dwN))))
         go_ret
         exact ⟨cq5, uW⟩

end Go.Proofs.YtcikahnmiiichaaDoor.K
