/- Go functions as Lean functions, and the proof that the code comes to them: written by a program of this session out of the translation. -/
import Derived.Test.YtcikahnmiiichaaT0
import Derived.Test.YtcikahnmiiichaaT8
import Derived.Test.YtcikahnmiiichaaT10
import Derived.Test.YtcikahnmiiichaaT11
namespace Go.Proofs.Ytcikahnmiiichaa.T
open List renaming setIfInBounds_toArray → vU, set_cons_zero → vV, set_cons_succ → vW, map_toArray → vX, length_take → vY, length_drop → vZ
open Go.World renaming block_lt_of_cell? → yA
open Go.RowKit Go.Proofs.YtcikahnmiiichaaW.PrintWords Go.Proofs.YtcikahnmiiichaaW.PrintLast Go.Proofs.YtcikahnmiiichaaW.PrintMore
attribute [local go_sem] max2_int min2_int max_two min_two max_three min_three max_four min_four   -- for this text's walks alone
set_option linter.unusedVariables false
set_option linter.unusedSimpArgs false

/-! ### impl_IsLog: function 41 -/
def bA_impl (n m : Nat) : Array Bool := ((List.range n).map fun i => m.testBit i).toArray
theorem impl_within.yes_ {a b c : Int} (h : b ≤ a ∧ a ≤ c) (w : World) : Calls Try.prog 65 #[.int .i64 a, .int .i64 b, .int .i64 c] w fun e w' => e = .returned (.bool true) ∧ Drawn0 w w' := impl_within.calls a b c true w (by unfold impl_within.f; first | (rw [if_pos (show a ≥ b from h.1), decide_eq_true h.2]) | simp [h.1, h.2])
theorem impl_within.no_ {a b c : Int} (h : ¬ (b ≤ a ∧ a ≤ c)) (w : World) : Calls Try.prog 65 #[.int .i64 a, .int .i64 b, .int .i64 c] w fun e w' => e = .returned (.bool false) ∧ Drawn0 w w' := impl_within.calls a b c false w (by
  unfold impl_within.f
  by_cases h1 : a ≥ b
  · first | (rw [if_pos h1, decide_eq_false (fun h2 => h ⟨h1, h2⟩)]) | (have h2 : ¬ a ≤ c := fun h2 => h ⟨h1, h2⟩; simp [h1, h2])
  · simp [h1])
def okE_impl (xs : List S72) (j : Nat) : Prop := (1 ≤ (rd_T72 xs (j : Int)).f0 ∧ (rd_T72 xs (j : Int)).f0 ≤ 20) ∧ impl_IsValidOp.f (rd_T72 xs (j : Int)).f1.f0 (rd_T72 xs (j : Int)).f1.f1 (rd_T72 xs (j : Int)).f1.f2 (rd_T72 xs (j : Int)).f1.f3 (rd_T72 xs (j : Int)).f1.f4 (rd_T72 xs (j : Int)).f1.f5 = some true ∧ (0 < j → (rd_T72 xs ((j : Int) - 1)).f0 ≤ (rd_T72 xs (j : Int)).f0)
instance okE_impl_dec (xs : List S72) (j : Nat) : Decidable (okE_impl xs j) := inferInstanceAs (Decidable (_ ∧ _ ∧ (_ → _)))
def vL_impl (xs : List S72) : Prop := xs.length ≤ 16 ∧ ∀ j, j < xs.length → okE_impl xs j
instance vL_impl_dec (xs : List S72) : Decidable (vL_impl xs) := inferInstanceAs (Decidable (_ ∧ ∀ j, j < _ → _))
theorem impl_bindT {A B : Type} {o : Option A} {g : A → Option B} (ho : ∃ b, o = some b) (hg : ∀ b, ∃ r, g b = some r) : ∃ r, o.bind g = some r := by
  obtain ⟨b, rfl⟩ := ho
  exact hg b
theorem impl_iteT {B : Type} {p : Prop} [Decidable p] {a b : Option B} (ha : ∃ r, a = some r) (hb : ∃ r, b = some r) : ∃ r, (if p then a else b) = some r := by
  split <;> assumption
theorem impl_IsValidOp.tot (a b c d e f : Int) : ∃ r, impl_IsValidOp.f a b c d e f = some r := by
  unfold impl_IsValidOp.f impl_within.f
  repeat' (first | exact ⟨_, rfl⟩ | refine impl_iteT ?_ ?_ | refine impl_bindT ?_ (fun _ => ?_))
def impl_IsLog.f (k : Nat) (l0 : List S72) : Option Bool := some (decide (vL_impl l0))
theorem impl_IsLog.mono : ∀ a0 k, vB (impl_IsLog.f k a0) (impl_IsLog.f (k + 1) a0) := fun _ _ => vB.refl _
set_option maxHeartbeats 8000000 in
set_option maxRecDepth 100000 in
theorem impl_IsLog.calls (k : Nat) (A0 : Option Addr) (c0 : Nat) (l0 : List (S72)) (r : Bool) (w : World) (hr0 : Kd.C k72 w A0 l0.length l0) (hc0 : l0.length ≤ c0) (h : impl_IsLog.f k l0 = some r) :
    Calls Try.prog 41 #[.slice A0 l0.length c0] w fun e w' => e = .returned (.bool r) ∧ Below w.heap.size w w' := by
  obtain rfl := Option.some.inj h
  clear h
  have HR0 := Aside0.mk hr0
  have HL1 := Aside0.mk hr0.2.1
  have HC0 := Aside0.mk hc0
  clear hr0 hc0
  generalize hV : decide (vL_impl l0) = V
  have HV := Aside0.mk hV
  clear hV
  have HB := Aside0.mk (Below.refl w.heap.size w)
  go_enter Try.func41, Try.ntmps41
  go_wp2
  go_loopg [7] l0.length (fun gg s wr => ∃ kk : Nat, s = .int .i64 kk ∧ Aside0 (kk ≤ l0.length ∧ l0.length - kk ≤ gg) ∧ Aside0 (Below w.heap.size w wr) ∧ Aside0 (∀ j, j < kk → okE_impl l0 j))
  case atStart => exact ⟨0, rfl, ⟨by omega, by omega⟩, HB, ⟨fun j hj => by omega⟩⟩
  case round =>
    clear HB
    obtain ⟨kk, rfl, HK, HB, HA⟩ := hrel
    have hkz : (0 : Int) ≤ (kk : Int) := by omega
    by_cases hlt : (kk : Int) < (l0.length : Int)
    · obtain ⟨ad2, e2, hx_0, hx_1, hx_2, hx_3, hx_4, hx_5, hx_6⟩ := at_T72 HR0.out (kk : Int) hkz hlt
      subst e2
      simp only [Int.toNat_natCast] at hx_0 hx_1 hx_2 hx_3 hx_4 hx_5 hx_6
      replace hx_0 := (HB.out.cell (yA w _ hx_0)).trans hx_0
      replace hx_1 := (HB.out.cell (yA w _ hx_1)).trans hx_1
      replace hx_2 := (HB.out.cell (yA w _ hx_2)).trans hx_2
      replace hx_3 := (HB.out.cell (yA w _ hx_3)).trans hx_3
      replace hx_4 := (HB.out.cell (yA w _ hx_4)).trans hx_4
      replace hx_5 := (HB.out.cell (yA w _ hx_5)).trans hx_5
      replace hx_6 := (HB.out.cell (yA w _ hx_6)).trans hx_6
      have hltb := eq_true hlt
      have hkzb := eq_true hkz
      have hnot : ∀ (p : Prop), (okE_impl l0 kk → p) → ¬ p → V = false := fun p h hp => by rw [← HV.out]; exact decide_eq_false (fun h2 => hp (h (h2.2 kk (by omega))))
      have HNO := Aside0.mk hnot
      clear hnot
      have e1 : wrap64 ((kk : Int) - 1) = (kk : Int) - 1 := by have := HL1.out; unfold wrap64; omega
      have e1b := uL ((kk : Int) - 1)
      rw [e1] at e1b
      go_wp2_with (first
        | ((with_reducible refine uU (N := 4) rfl ?_); refine uT ?hg (N := 4) ?hd (cs := #[.int .i64 0, .int .i64 0, .int .i64 0, .int .i64 0, .int .i64 0, .int .i64 0, .int .i64 0]) (t := 72) ?hr ?_; (case hd => rfl); (case hg => rfl); (case hr => first | (go_simp; done) | (go_simp; rfl)); intro gS hg wS hbox hb; have BS := Aside0.mk hbox; have HB1 := Aside0.mk (uS HB.out hb); have GS := Aside0.mk (show w.heap.size ≤ gS by rw [hg]; exact HB.out.size); clear hbox hb hg HB hx_0 hx_1 hx_2 hx_3 hx_4 hx_5 hx_6; have HB := HB1; clear HB1; have hcS_0 : wS.cell? ⟨gS, 0, none⟩ = some (.int .i64 0) := (uI BS.out 0).trans rfl; have hfS_0 := uK BS.out 0; have hcS_1 : wS.cell? ⟨gS, 1, none⟩ = some (.int .i64 0) := (uI BS.out 1).trans rfl; have hfS_1 := uK BS.out 1; have hcS_2 : wS.cell? ⟨gS, 2, none⟩ = some (.int .i64 0) := (uI BS.out 2).trans rfl; have hfS_2 := uK BS.out 2; have hcS_3 : wS.cell? ⟨gS, 3, none⟩ = some (.int .i64 0) := (uI BS.out 3).trans rfl; have hfS_3 := uK BS.out 3; have hcS_4 : wS.cell? ⟨gS, 4, none⟩ = some (.int .i64 0) := (uI BS.out 4).trans rfl; have hfS_4 := uK BS.out 4; have hcS_5 : wS.cell? ⟨gS, 5, none⟩ = some (.int .i64 0) := (uI BS.out 5).trans rfl; have hfS_5 := uK BS.out 5; have hcS_6 : wS.cell? ⟨gS, 6, none⟩ = some (.int .i64 0) := (uI BS.out 6).trans rfl; have hfS_6 := uK BS.out 6)
        | ((with_reducible refine vJ (t := 72) (p := 4) rfl ?_); refine vI (t := 72) (p := 4) (v := ?vo_1) (w1 := (((((((wS.setCell ⟨gS, 0, none⟩ (.int .i64 (rd_T72 l0 (kk : Int)).f0)).setCell ⟨gS, 1, none⟩ (.int .i64 (rd_T72 l0 (kk : Int)).f1.f0)).setCell ⟨gS, 2, none⟩ (.int .i64 (rd_T72 l0 (kk : Int)).f1.f1)).setCell ⟨gS, 3, none⟩ (.int .i64 (rd_T72 l0 (kk : Int)).f1.f2)).setCell ⟨gS, 4, none⟩ (.int .i64 (rd_T72 l0 (kk : Int)).f1.f3)).setCell ⟨gS, 5, none⟩ (.int .i64 (rd_T72 l0 (kk : Int)).f1.f4)).setCell ⟨gS, 6, none⟩ (.int .i64 (rd_T72 l0 (kk : Int)).f1.f5))) ?hg ?ho ?hn ?hr ?_; (case ho => rfl); (case hg => rfl); (case hn => rfl); (case hr => first | (go_simp; done) | (go_simp; rfl)); intro wG hw_; clear hcS_0 hfS_0 hcS_1 hfS_1 hcS_2 hfS_2 hcS_3 hfS_3 hcS_4 hfS_4 hcS_5 hfS_5 hcS_6 hfS_6; have BS1 := Aside0.mk (show wG.heap[gS]? = some (.cells #[.int .i64 (rd_T72 l0 (kk : Int)).f0, .int .i64 (rd_T72 l0 (kk : Int)).f1.f0, .int .i64 (rd_T72 l0 (kk : Int)).f1.f1, .int .i64 (rd_T72 l0 (kk : Int)).f1.f2, .int .i64 (rd_T72 l0 (kk : Int)).f1.f3, .int .i64 (rd_T72 l0 (kk : Int)).f1.f4, .int .i64 (rd_T72 l0 (kk : Int)).f1.f5] 72 (0, 0)) from hw_ ▸ (uW (uW (uW (uW (uW (uW (uW BS.out 0 _ rfl) 1 _ rfl) 2 _ rfl) 3 _ rfl) 4 _ rfl) 5 _ rfl) 6 _ rfl)); have HB1 := Aside0.mk (show Below w.heap.size w wG from hw_ ▸ (uB (uB (uB (uB (uB (uB (uB HB.out GS.out) GS.out) GS.out) GS.out) GS.out) GS.out) GS.out)); clear hw_ BS HB; have BS := BS1; have HB := HB1; clear BS1 HB1))
      obtain ⟨pv, HPV2⟩ : ∃ pv : Int, Aside0 (0 < kk → wG.cell? (ad2.add ((kk - 1) * 7)) = some (.int .i64 pv) ∧ pv = (rd_T72 l0 ((kk : Int) - 1)).f0) := by
        by_cases h0 : 0 < kk
        · obtain ⟨ad3, e3, hy, _⟩ := at_T72 HR0.out ((kk : Int) - 1) (by omega) (by omega)
          cases e3
          rw [show ((kk : Int) - 1).toNat = kk - 1 by omega] at hy
          exact ⟨_, ⟨fun _ => ⟨(HB.out.cell (yA w _ hy)).trans hy, rfl⟩⟩⟩
        · exact ⟨0, ⟨fun h => absurd h h0⟩⟩
      refine start_ (n := 25) (S := fun w' => w'.cell? ⟨gS, 0, none⟩ = some (.int .i64 (rd_T72 l0 (kk : Int)).f0) ∧ w'.cell? ⟨gS, 1, none⟩ = some (.int .i64 (rd_T72 l0 (kk : Int)).f1.f0) ∧ w'.cell? ⟨gS, 2, none⟩ = some (.int .i64 (rd_T72 l0 (kk : Int)).f1.f1) ∧ w'.cell? ⟨gS, 3, none⟩ = some (.int .i64 (rd_T72 l0 (kk : Int)).f1.f2) ∧ w'.cell? ⟨gS, 4, none⟩ = some (.int .i64 (rd_T72 l0 (kk : Int)).f1.f3) ∧ w'.cell? ⟨gS, 5, none⟩ = some (.int .i64 (rd_T72 l0 (kk : Int)).f1.f4) ∧ w'.cell? ⟨gS, 6, none⟩ = some (.int .i64 (rd_T72 l0 (kk : Int)).f1.f5) ∧ (0 < kk → w'.cell? (ad2.add ((kk - 1) * 7)) = some (.int .i64 pv))) (ds := []) (bA_impl 25 0) (by kernel_rfl) rfl rfl ⟨(uI BS.out 0).trans rfl, (uI BS.out 1).trans rfl, (uI BS.out 2).trans rfl, (uI BS.out 3).trans rfl, (uI BS.out 4).trans rfl, (uI BS.out 5).trans rfl, (uI BS.out 6).trans rfl, fun h => (HPV2.out h).1⟩ (fun hHeld => ?_)
      have HB1 := Aside0.mk (uF HB.out)
      clear HB
      have HB := HB1
      clear HB1
      refine uJ (i := 0) (N := some 12) (v := ?_) (a' := ?_) (bA_impl 25 1) rfl rfl (by kernel_rfl) (fun _ _ _ h => h) (Or.inl ⟨by rfl, ?_⟩) ?_ ?_
      rotate_left
      · intro w'; go_simp; with_reducible rfl
      rotate_left
      · simp only [Act.put, vU, vV, vW, uL, uM]; rfl
      refine take_ (i := 1) (N := some 13) (v := ?_) (a' := ?_) (bA_impl 25 3) rfl rfl (by kernel_rfl) (fun _ _ _ h => h) (Or.inl ⟨by rfl, ?_⟩) hHeld ?_ ?_
      rotate_left
      · rintro w' ⟨s0, s1, s2, s3, s4, s5, s6, s7⟩; clear s7; go_simp; with_reducible rfl
      rotate_left
      · simp only [Act.put, vU, vV, vW, uL, uM]; rfl
      by_cases h1 : 1 ≤ (rd_T72 l0 (kk : Int)).f0 ∧ (rd_T72 l0 (kk : Int)).f0 ≤ 20
      · refine one_ (i := 2) (N := some 14) (bA_impl 25 7) rfl rfl (by kernel_rfl) (by decide) (fun K hK => ?_)
        refine goes_ Try.func65 (by kernel_rfl) rfl #[.int .i64 (rd_T72 l0 (kk : Int)).f0, .int .i64 1, .int .i64 20] (by rfl) rfl rfl (by (try simp only [vX, List.map_cons, List.map_nil]); first | done | rfl) ?_
        refine (impl_within.yes_ h1 _).mono ?_
        rintro e w' ⟨rfl, ⟨nd2, rfl⟩⟩
        refine ⟨_, rfl, ?_⟩
        have HB1 := Aside0.mk (uA HB.out nd2)
        clear HB
        have HB := HB1
        clear HB1
        refine hK.out _ _ hHeld (fun hHeld => ?_)
        clear hK K
        refine vC (a' := ?_) ?_ ?_
        rotate_left
        · show Act.put _ (some 14) _ = _; simp only [Act.put, vU, vV, vW, uL, uM]; rfl
        refine uJ (i := 3) (N := some 15) (v := ?_) (a' := ?_) (bA_impl 25 15) rfl rfl (by kernel_rfl) (fun _ _ _ h => h) (Or.inl ⟨by rfl, ?_⟩) ?_ ?_
        rotate_left
        · intro w'; go_simp; with_reducible rfl
        rotate_left
        · simp only [Act.put, vU, vV, vW, uL, uM]; rfl
        refine uJ (i := 4) (N := some 16) (v := ?_) (a' := ?_) (bA_impl 25 31) rfl rfl (by kernel_rfl) (fun _ _ _ h => h) (Or.inl ⟨by rfl, ?_⟩) ?_ ?_
        rotate_left
        · intro w'; go_simp; with_reducible rfl
        rotate_left
        · simp only [Act.put, vU, vV, vW, uL, uM]; rfl
        refine uJ (i := 5) (N := some 17) (v := ?_) (a' := ?_) (bA_impl 25 63) rfl rfl (by kernel_rfl) (fun _ _ _ h => h) (Or.inl ⟨by rfl, ?_⟩) ?_ ?_
        rotate_left
        · intro w'; go_simp; with_reducible rfl
        rotate_left
        · simp only [Act.put, vU, vV, vW, uL, uM]; rfl
        by_cases h0 : 0 < kk
        · have hp0 := eq_true (show (kk : Int) > 0 by omega)
          have hp3 := eq_true (show (0 : Int) < (kk : Int) by omega)
          have hp1 := eq_true (show (0 : Int) ≤ (kk : Int) - 1 by omega)
          have hp5 := eq_true (show (1 : Int) ≤ (kk : Int) by omega)
          have hp2 := eq_true (show (kk : Int) - 1 < (l0.length : Int) by omega)
          refine uJ (i := 6) (N := some 18) (v := ?_) (a' := ?_) (bA_impl 25 127) rfl rfl (by kernel_rfl) (fun _ _ _ h => h) (Or.inl ⟨by rfl, ?_⟩) ?_ ?_
          rotate_left
          · intro w'; go_simp; with_reducible rfl
          rotate_left
          · simp only [Act.put, vU, vV, vW, uL, uM]; rfl
          refine uJ (i := 7) (N := some 19) (v := ?_) (a' := ?_) (bA_impl 25 255) rfl rfl (by kernel_rfl) (fun _ _ _ h => h) (Or.inl ⟨by rfl, ?_⟩) ?_ ?_
          rotate_left
          · intro w'; go_simp; with_reducible rfl
          rotate_left
          · simp only [Act.put, vU, vV, vW, uL, uM]; rfl
          refine uJ (i := 8) (N := some 20) (v := ?_) (a' := ?_) (bA_impl 25 511) rfl rfl (by kernel_rfl) (fun _ _ _ h => h) (Or.inl ⟨by rfl, ?_⟩) ?_ ?_
          rotate_left
          · intro w'; go_simp; with_reducible rfl
          rotate_left
          · simp only [Act.put, vU, vV, vW, uL, uM]; rfl
          refine take_ (i := 9) (N := some 21) (v := ?_) (a' := ?_) (bA_impl 25 1023) rfl rfl (by kernel_rfl) (fun _ _ _ h => h) (Or.inl ⟨by rfl, ?_⟩) hHeld ?_ ?_
          rotate_left
          · rintro w' ⟨s0, s1, s2, s3, s4, s5, s6, s7⟩; clear s7; go_simp; with_reducible rfl
          rotate_left
          · simp only [Act.put, vU, vV, vW, uL, uM]; rfl
          refine uJ (i := 10) (N := some 22) (v := ?_) (a' := ?_) (bA_impl 25 2047) rfl rfl (by kernel_rfl) (fun _ _ _ h => h) (Or.inl ⟨by rfl, ?_⟩) ?_ ?_
          rotate_left
          · intro w'; go_simp; with_reducible rfl
          rotate_left
          · simp only [Act.put, vU, vV, vW, uL, uM]; rfl
          refine uJ (i := 11) (N := some 23) (v := ?_) (a' := ?_) (bA_impl 25 4095) rfl rfl (by kernel_rfl) (fun _ _ _ h => h) (Or.inl ⟨by rfl, ?_⟩) ?_ ?_
          rotate_left
          · intro w'; go_simp; with_reducible rfl
          rotate_left
          · simp only [Act.put, vU, vV, vW, uL, uM]; rfl
          refine uJ (i := 12) (N := some 24) (v := ?_) (a' := ?_) (bA_impl 25 8191) rfl rfl (by kernel_rfl) (fun _ _ _ h => h) (Or.inl ⟨by rfl, ?_⟩) ?_ ?_
          rotate_left
          · intro w'; go_simp; with_reducible rfl
          rotate_left
          · simp only [Act.put, vU, vV, vW, uL, uM]; rfl
          refine uJ (i := 13) (N := some 25) (v := ?_) (a' := ?_) (bA_impl 25 16383) rfl rfl (by kernel_rfl) (fun _ _ _ h => h) (Or.inl ⟨by rfl, ?_⟩) ?_ ?_
          rotate_left
          · intro w'; go_simp; with_reducible rfl
          rotate_left
          · simp only [Act.put, vU, vV, vW, uL, uM]; rfl
          refine uJ (i := 14) (N := some 26) (v := ?_) (a' := ?_) (bA_impl 25 32767) rfl rfl (by kernel_rfl) (fun _ _ _ h => h) (Or.inl ⟨by rfl, ?_⟩) ?_ ?_
          rotate_left
          · intro w'; go_simp; with_reducible rfl
          rotate_left
          · simp only [Act.put, vU, vV, vW, uL, uM]; rfl
          refine take_ (i := 15) (N := some 27) (v := ?_) (a' := ?_) (bA_impl 25 65535) rfl rfl (by kernel_rfl) (fun _ _ _ h => h) (Or.inl ⟨by rfl, ?_⟩) hHeld ?_ ?_
          rotate_left
          · rintro w' ⟨s0, s1, s2, s3, s4, s5, s6, s7⟩; replace s7 := s7 h0; go_simp; with_reducible rfl
          rotate_left
          · simp only [Act.put, vU, vV, vW, uL, uM]; rfl
          by_cases h4 : pv ≤ (rd_T72 l0 (kk : Int)).f0
          · have h4e := eq_false (show ¬ ((rd_T72 l0 (kk : Int)).f0 < pv) by omega)
            have h4d := decide_eq_false (show ¬ ((rd_T72 l0 (kk : Int)).f0 < pv) by omega)
            refine uJ (i := 16) (N := some 28) (v := ?_) (a' := ?_) (bA_impl 25 131071) rfl rfl (by kernel_rfl) (fun _ _ _ h => h) (Or.inl ⟨by rfl, ?_⟩) ?_ ?_
            rotate_left
            · intro w'; go_simp; with_reducible rfl
            rotate_left
            · simp only [Act.put, vU, vV, vW, uL, uM]; rfl
            refine uJ (i := 17) (N := some 29) (v := ?_) (a' := ?_) (bA_impl 25 262143) rfl rfl (by kernel_rfl) (fun _ _ _ h => h) (Or.inl ⟨by rfl, ?_⟩) ?_ ?_
            rotate_left
            · intro w'; go_simp; with_reducible rfl
            rotate_left
            · simp only [Act.put, vU, vV, vW, uL, uM]; rfl
            refine uJ (i := 18) (N := some 30) (v := ?_) (a' := ?_) (bA_impl 25 524287) rfl rfl (by kernel_rfl) (fun _ _ _ h => h) (Or.inl ⟨by rfl, ?_⟩) ?_ ?_
            rotate_left
            · intro w'; go_simp; with_reducible rfl
            rotate_left
            · simp only [Act.put, vU, vV, vW, uL, uM]; rfl
            refine uJ (i := 19) (N := some 31) (v := ?_) (a' := ?_) (bA_impl 25 1048575) rfl rfl (by kernel_rfl) (fun _ _ _ h => h) (Or.inl ⟨by rfl, ?_⟩) ?_ ?_
            rotate_left
            · intro w'; go_simp; with_reducible rfl
            rotate_left
            · simp only [Act.put, vU, vV, vW, uL, uM]; rfl
            refine uJ (i := 20) (N := some 32) (v := ?_) (a' := ?_) (bA_impl 25 2097151) rfl rfl (by kernel_rfl) (fun _ _ _ h => h) (Or.inl ⟨by rfl, ?_⟩) ?_ ?_
            rotate_left
            · intro w'; go_simp; with_reducible rfl
            rotate_left
            · simp only [Act.put, vU, vV, vW, uL, uM]; rfl
            refine take_ (i := 21) (N := some 33) (v := ?_) (a' := ?_) (bA_impl 25 4194303) rfl rfl (by kernel_rfl) (fun _ _ _ h => h) (Or.inl ⟨by rfl, ?_⟩) hHeld ?_ ?_
            rotate_left
            · rintro w' ⟨s0, s1, s2, s3, s4, s5, s6, s7⟩; clear s7; go_simp; with_reducible rfl
            rotate_left
            · simp only [Act.put, vU, vV, vW, uL, uM]; rfl
            obtain ⟨vb, hv⟩ := impl_IsValidOp.tot (rd_T72 l0 (kk : Int)).f1.f0 (rd_T72 l0 (kk : Int)).f1.f1 (rd_T72 l0 (kk : Int)).f1.f2 (rd_T72 l0 (kk : Int)).f1.f3 (rd_T72 l0 (kk : Int)).f1.f4 (rd_T72 l0 (kk : Int)).f1.f5
            rcases Bool.eq_false_or_eq_true vb with rfl | rfl
            · refine one_ (i := 22) (N := some 34) (bA_impl 25 8388607) rfl rfl (by kernel_rfl) (by decide) (fun K hK => ?_)
              refine goes_ Try.func50 (by kernel_rfl) rfl #[.agg #[.int .i64 (rd_T72 l0 (kk : Int)).f1.f0, .int .i64 (rd_T72 l0 (kk : Int)).f1.f1, .int .i64 (rd_T72 l0 (kk : Int)).f1.f2, .int .i64 (rd_T72 l0 (kk : Int)).f1.f3, .int .i64 (rd_T72 l0 (kk : Int)).f1.f4, .int .i64 (rd_T72 l0 (kk : Int)).f1.f5]] (by rfl) rfl rfl (by (try simp only [vX, List.map_cons, List.map_nil]); first | done | rfl) ?_
              refine (impl_IsValidOp.calls (rd_T72 l0 (kk : Int)).f1.f0 (rd_T72 l0 (kk : Int)).f1.f1 (rd_T72 l0 (kk : Int)).f1.f2 (rd_T72 l0 (kk : Int)).f1.f3 (rd_T72 l0 (kk : Int)).f1.f4 (rd_T72 l0 (kk : Int)).f1.f5 true _ hv).mono ?_
              rintro e w' ⟨rfl, hb⟩
              refine ⟨_, rfl, ?_⟩
              have HB1 := Aside0.mk (uS HB.out hb)
              clear HB
              have HB := HB1
              clear HB1
              obtain ⟨s0, s1, s2, s3, s4, s5, s6, s7⟩ := hHeld
              refine hK.out _ _ ⟨uY hb s0, uY hb s1, uY hb s2, uY hb s3, uY hb s4, uY hb s5, uY hb s6, fun h0 => uY hb (s7 h0)⟩ (fun hHeld => ?_)
              clear hK K hb s0 s1 s2 s3 s4 s5 s6 s7
              refine vC (a' := ?_) ?_ ?_
              rotate_left
              · show Act.put _ (some 34) _ = _; simp only [Act.put, vU, vV, vW, uL, uM]; rfl
              refine uJ (i := 23) (N := some 35) (v := ?_) (a' := ?_) (bA_impl 25 16777215) rfl rfl (by kernel_rfl) (fun _ _ _ h => h) (Or.inl ⟨by rfl, ?_⟩) ?_ ?_
              rotate_left
              · intro w'; go_simp; with_reducible rfl
              rotate_left
              · simp only [Act.put, vU, vV, vW, uL, uM]; rfl
              refine uJ (i := 24) (N := some 36) (v := ?_) (a' := ?_) (bA_impl 25 33554431) rfl rfl (by kernel_rfl) (fun _ _ _ h => h) (Or.inl ⟨by rfl, ?_⟩) ?_ ?_
              rotate_left
              · intro w'; go_simp; with_reducible rfl
              rotate_left
              · simp only [Act.put, vU, vV, vW, uL, uM]; rfl
              refine done_ (by kernel_rfl) ?_
              go_wp2
              go_roundg (l0.length - (kk + 1))
              case measure => have := HK.out; omega
              case rel =>
                refine ⟨kk + 1, by first | (rw [show wrap64 ((kk : Int) + 1) = ((kk + 1 : Nat) : Int) by have := HL1.out; unfold wrap64; omega]) | rfl, ⟨by have := HK.out; omega, by have := HK.out; omega⟩, HB, ⟨fun j hj => ?_⟩⟩
                rcases Nat.lt_succ_iff_lt_or_eq.1 hj with hj | rfl
                · exact HA.out j hj
                · exact ⟨h1, hv, fun h => by first | exact absurd h h0 | (rw [← (HPV2.out h).2]; exact h4)⟩
            · refine one_ (i := 22) (N := some 34) (bA_impl 25 8388607) rfl rfl (by kernel_rfl) (by decide) (fun K hK => ?_)
              refine goes_ Try.func50 (by kernel_rfl) rfl #[.agg #[.int .i64 (rd_T72 l0 (kk : Int)).f1.f0, .int .i64 (rd_T72 l0 (kk : Int)).f1.f1, .int .i64 (rd_T72 l0 (kk : Int)).f1.f2, .int .i64 (rd_T72 l0 (kk : Int)).f1.f3, .int .i64 (rd_T72 l0 (kk : Int)).f1.f4, .int .i64 (rd_T72 l0 (kk : Int)).f1.f5]] (by rfl) rfl rfl (by (try simp only [vX, List.map_cons, List.map_nil]); first | done | rfl) ?_
              refine (impl_IsValidOp.calls (rd_T72 l0 (kk : Int)).f1.f0 (rd_T72 l0 (kk : Int)).f1.f1 (rd_T72 l0 (kk : Int)).f1.f2 (rd_T72 l0 (kk : Int)).f1.f3 (rd_T72 l0 (kk : Int)).f1.f4 (rd_T72 l0 (kk : Int)).f1.f5 false _ hv).mono ?_
              rintro e w' ⟨rfl, hb⟩
              refine ⟨_, rfl, ?_⟩
              have HB1 := Aside0.mk (uS HB.out hb)
              clear HB
              have HB := HB1
              clear HB1
              obtain ⟨s0, s1, s2, s3, s4, s5, s6, s7⟩ := hHeld
              refine hK.out _ _ ⟨uY hb s0, uY hb s1, uY hb s2, uY hb s3, uY hb s4, uY hb s5, uY hb s6, fun h0 => uY hb (s7 h0)⟩ (fun hHeld => ?_)
              clear hK K hb s0 s1 s2 s3 s4 s5 s6 s7
              refine vC (a' := ?_) ?_ ?_
              rotate_left
              · show Act.put _ (some 34) _ = _; simp only [Act.put, vU, vV, vW, uL, uM]; rfl
              refine uJ (i := 23) (N := some 35) (v := ?_) (a' := ?_) (bA_impl 25 16777215) rfl rfl (by kernel_rfl) (fun _ _ _ h => h) (Or.inl ⟨by rfl, ?_⟩) ?_ ?_
              rotate_left
              · intro w'; go_simp; with_reducible rfl
              rotate_left
              · simp only [Act.put, vU, vV, vW, uL, uM]; rfl
              refine uJ (i := 24) (N := some 36) (v := ?_) (a' := ?_) (bA_impl 25 33554431) rfl rfl (by kernel_rfl) (fun _ _ _ h => h) (Or.inl ⟨by rfl, ?_⟩) ?_ ?_
              rotate_left
              · intro w'; go_simp; with_reducible rfl
              rotate_left
              · simp only [Act.put, vU, vV, vW, uL, uM]; rfl
              refine done_ (by kernel_rfl) ?_
              go_wp2
              go_ret
              exact ⟨by rw [HNO.out (impl_IsValidOp.f (rd_T72 l0 (kk : Int)).f1.f0 (rd_T72 l0 (kk : Int)).f1.f1 (rd_T72 l0 (kk : Int)).f1.f2 (rd_T72 l0 (kk : Int)).f1.f3 (rd_T72 l0 (kk : Int)).f1.f4 (rd_T72 l0 (kk : Int)).f1.f5 = some true) (fun h => h.2.1) (by rw [hv]; simp)]; rfl, by first | exact HB.out | (rw [← World.drewN_drewN]; exact HB.out)⟩
          · have h4e := eq_true (show (rd_T72 l0 (kk : Int)).f0 < pv by omega)
            have h4d := decide_eq_true (show (rd_T72 l0 (kk : Int)).f0 < pv by omega)
            refine uJ (i := 16) (N := some 28) (v := ?_) (a' := ?_) (bA_impl 25 131071) rfl rfl (by kernel_rfl) (fun _ _ _ h => h) (Or.inl ⟨by rfl, ?_⟩) ?_ ?_
            rotate_left
            · intro w'; go_simp; with_reducible rfl
            rotate_left
            · simp only [Act.put, vU, vV, vW, uL, uM]; rfl
            refine uJ (i := 17) (N := some 29) (v := ?_) (a' := ?_) (bA_impl 25 262143) rfl rfl (by kernel_rfl) (fun _ _ _ h => h) (Or.inl ⟨by rfl, ?_⟩) ?_ ?_
            rotate_left
            · intro w'; go_simp; with_reducible rfl
            rotate_left
            · simp only [Act.put, vU, vV, vW, uL, uM]; rfl
            refine uJ (i := 18) (N := some 30) (v := ?_) (a' := ?_) (bA_impl 25 524287) rfl rfl (by kernel_rfl) (fun _ _ _ h => h) (Or.inl ⟨by rfl, ?_⟩) ?_ ?_
            rotate_left
            · intro w'; go_simp; with_reducible rfl
            rotate_left
            · simp only [Act.put, vU, vV, vW, uL, uM]; rfl
            refine uJ (i := 19) (N := some 31) (v := ?_) (a' := ?_) (bA_impl 25 1048575) rfl rfl (by kernel_rfl) (fun _ _ _ h => h) (Or.inl ⟨by rfl, ?_⟩) ?_ ?_
            rotate_left
            · intro w'; go_simp; with_reducible rfl
            rotate_left
            · simp only [Act.put, vU, vV, vW, uL, uM]; rfl
            refine uJ (i := 20) (N := some 32) (v := undef) (a' := ?_) (bA_impl 25 2097151) rfl rfl (by kernel_rfl) (fun _ _ _ h => h) (Or.inr ⟨by rfl, rfl⟩) ?_ ?_
            rotate_left
            · simp only [Act.put, vU, vV, vW]; rfl
            refine uJ (i := 21) (N := some 33) (v := undef) (a' := ?_) (bA_impl 25 4194303) rfl rfl (by kernel_rfl) (fun _ _ _ h => h) (Or.inr ⟨by rfl, rfl⟩) ?_ ?_
            rotate_left
            · simp only [Act.put, vU, vV, vW]; rfl
            refine uJ (i := 22) (N := some 34) (v := undef) (a' := ?_) (bA_impl 25 8388607) rfl rfl (by kernel_rfl) (fun _ _ _ h => h) (Or.inr ⟨by rfl, rfl⟩) ?_ ?_
            rotate_left
            · simp only [Act.put, vU, vV, vW]; rfl
            refine uJ (i := 23) (N := some 35) (v := undef) (a' := ?_) (bA_impl 25 16777215) rfl rfl (by kernel_rfl) (fun _ _ _ h => h) (Or.inr ⟨by rfl, rfl⟩) ?_ ?_
            rotate_left
            · simp only [Act.put, vU, vV, vW]; rfl
            refine uJ (i := 24) (N := some 36) (v := ?_) (a' := ?_) (bA_impl 25 33554431) rfl rfl (by kernel_rfl) (fun _ _ _ h => h) (Or.inl ⟨by rfl, ?_⟩) ?_ ?_
            rotate_left
            · intro w'; go_simp; with_reducible rfl
            rotate_left
            · simp only [Act.put, vU, vV, vW, uL, uM]; rfl
            refine done_ (by kernel_rfl) ?_
            go_wp2
            go_ret
            exact ⟨by rw [HNO.out (pv ≤ (rd_T72 l0 (kk : Int)).f0) (fun h => by rw [(HPV2.out h0).2]; exact h.2.2 h0) (by omega)]; rfl, by first | exact HB.out | (rw [← World.drewN_drewN]; exact HB.out)⟩
        · have hp0 := eq_false (show ¬ ((kk : Int) > 0) by omega)
          have hp3 := eq_false (show ¬ ((0 : Int) < (kk : Int)) by omega)
          refine uJ (i := 6) (N := some 18) (v := ?_) (a' := ?_) (bA_impl 25 127) rfl rfl (by kernel_rfl) (fun _ _ _ h => h) (Or.inl ⟨by rfl, ?_⟩) ?_ ?_
          rotate_left
          · intro w'; go_simp; with_reducible rfl
          rotate_left
          · simp only [Act.put, vU, vV, vW, uL, uM]; rfl
          refine uJ (i := 7) (N := some 19) (v := ?_) (a' := ?_) (bA_impl 25 255) rfl rfl (by kernel_rfl) (fun _ _ _ h => h) (Or.inl ⟨by rfl, ?_⟩) ?_ ?_
          rotate_left
          · intro w'; go_simp; with_reducible rfl
          rotate_left
          · simp only [Act.put, vU, vV, vW, uL, uM]; rfl
          refine uJ (i := 8) (N := some 20) (v := undef) (a' := ?_) (bA_impl 25 511) rfl rfl (by kernel_rfl) (fun _ _ _ h => h) (Or.inr ⟨by rfl, rfl⟩) ?_ ?_
          rotate_left
          · simp only [Act.put, vU, vV, vW]; rfl
          refine uJ (i := 9) (N := some 21) (v := undef) (a' := ?_) (bA_impl 25 1023) rfl rfl (by kernel_rfl) (fun _ _ _ h => h) (Or.inr ⟨by rfl, rfl⟩) ?_ ?_
          rotate_left
          · simp only [Act.put, vU, vV, vW]; rfl
          refine uJ (i := 10) (N := some 22) (v := undef) (a' := ?_) (bA_impl 25 2047) rfl rfl (by kernel_rfl) (fun _ _ _ h => h) (Or.inr ⟨by rfl, rfl⟩) ?_ ?_
          rotate_left
          · simp only [Act.put, vU, vV, vW]; rfl
          refine uJ (i := 11) (N := some 23) (v := undef) (a' := ?_) (bA_impl 25 4095) rfl rfl (by kernel_rfl) (fun _ _ _ h => h) (Or.inr ⟨by rfl, rfl⟩) ?_ ?_
          rotate_left
          · simp only [Act.put, vU, vV, vW]; rfl
          refine uJ (i := 12) (N := some 24) (v := undef) (a' := ?_) (bA_impl 25 8191) rfl rfl (by kernel_rfl) (fun _ _ _ h => h) (Or.inr ⟨by rfl, rfl⟩) ?_ ?_
          rotate_left
          · simp only [Act.put, vU, vV, vW]; rfl
          refine uJ (i := 13) (N := some 25) (v := undef) (a' := ?_) (bA_impl 25 16383) rfl rfl (by kernel_rfl) (fun _ _ _ h => h) (Or.inr ⟨by rfl, rfl⟩) ?_ ?_
          rotate_left
          · simp only [Act.put, vU, vV, vW]; rfl
          refine uJ (i := 14) (N := some 26) (v := undef) (a' := ?_) (bA_impl 25 32767) rfl rfl (by kernel_rfl) (fun _ _ _ h => h) (Or.inr ⟨by rfl, rfl⟩) ?_ ?_
          rotate_left
          · simp only [Act.put, vU, vV, vW]; rfl
          refine uJ (i := 15) (N := some 27) (v := undef) (a' := ?_) (bA_impl 25 65535) rfl rfl (by kernel_rfl) (fun _ _ _ h => h) (Or.inr ⟨by rfl, rfl⟩) ?_ ?_
          rotate_left
          · simp only [Act.put, vU, vV, vW]; rfl
          refine uJ (i := 16) (N := some 28) (v := undef) (a' := ?_) (bA_impl 25 131071) rfl rfl (by kernel_rfl) (fun _ _ _ h => h) (Or.inr ⟨by rfl, rfl⟩) ?_ ?_
          rotate_left
          · simp only [Act.put, vU, vV, vW]; rfl
          refine uJ (i := 17) (N := some 29) (v := ?_) (a' := ?_) (bA_impl 25 262143) rfl rfl (by kernel_rfl) (fun _ _ _ h => h) (Or.inl ⟨by rfl, ?_⟩) ?_ ?_
          rotate_left
          · intro w'; go_simp; with_reducible rfl
          rotate_left
          · simp only [Act.put, vU, vV, vW, uL, uM]; rfl
          refine uJ (i := 18) (N := some 30) (v := ?_) (a' := ?_) (bA_impl 25 524287) rfl rfl (by kernel_rfl) (fun _ _ _ h => h) (Or.inl ⟨by rfl, ?_⟩) ?_ ?_
          rotate_left
          · intro w'; go_simp; with_reducible rfl
          rotate_left
          · simp only [Act.put, vU, vV, vW, uL, uM]; rfl
          refine uJ (i := 19) (N := some 31) (v := ?_) (a' := ?_) (bA_impl 25 1048575) rfl rfl (by kernel_rfl) (fun _ _ _ h => h) (Or.inl ⟨by rfl, ?_⟩) ?_ ?_
          rotate_left
          · intro w'; go_simp; with_reducible rfl
          rotate_left
          · simp only [Act.put, vU, vV, vW, uL, uM]; rfl
          refine uJ (i := 20) (N := some 32) (v := ?_) (a' := ?_) (bA_impl 25 2097151) rfl rfl (by kernel_rfl) (fun _ _ _ h => h) (Or.inl ⟨by rfl, ?_⟩) ?_ ?_
          rotate_left
          · intro w'; go_simp; with_reducible rfl
          rotate_left
          · simp only [Act.put, vU, vV, vW, uL, uM]; rfl
          refine take_ (i := 21) (N := some 33) (v := ?_) (a' := ?_) (bA_impl 25 4194303) rfl rfl (by kernel_rfl) (fun _ _ _ h => h) (Or.inl ⟨by rfl, ?_⟩) hHeld ?_ ?_
          rotate_left
          · rintro w' ⟨s0, s1, s2, s3, s4, s5, s6, s7⟩; clear s7; go_simp; with_reducible rfl
          rotate_left
          · simp only [Act.put, vU, vV, vW, uL, uM]; rfl
          obtain ⟨vb, hv⟩ := impl_IsValidOp.tot (rd_T72 l0 (kk : Int)).f1.f0 (rd_T72 l0 (kk : Int)).f1.f1 (rd_T72 l0 (kk : Int)).f1.f2 (rd_T72 l0 (kk : Int)).f1.f3 (rd_T72 l0 (kk : Int)).f1.f4 (rd_T72 l0 (kk : Int)).f1.f5
          rcases Bool.eq_false_or_eq_true vb with rfl | rfl
          · refine one_ (i := 22) (N := some 34) (bA_impl 25 8388607) rfl rfl (by kernel_rfl) (by decide) (fun K hK => ?_)
            refine goes_ Try.func50 (by kernel_rfl) rfl #[.agg #[.int .i64 (rd_T72 l0 (kk : Int)).f1.f0, .int .i64 (rd_T72 l0 (kk : Int)).f1.f1, .int .i64 (rd_T72 l0 (kk : Int)).f1.f2, .int .i64 (rd_T72 l0 (kk : Int)).f1.f3, .int .i64 (rd_T72 l0 (kk : Int)).f1.f4, .int .i64 (rd_T72 l0 (kk : Int)).f1.f5]] (by rfl) rfl rfl (by (try simp only [vX, List.map_cons, List.map_nil]); first | done | rfl) ?_
            refine (impl_IsValidOp.calls (rd_T72 l0 (kk : Int)).f1.f0 (rd_T72 l0 (kk : Int)).f1.f1 (rd_T72 l0 (kk : Int)).f1.f2 (rd_T72 l0 (kk : Int)).f1.f3 (rd_T72 l0 (kk : Int)).f1.f4 (rd_T72 l0 (kk : Int)).f1.f5 true _ hv).mono ?_
            rintro e w' ⟨rfl, hb⟩
            refine ⟨_, rfl, ?_⟩
            have HB1 := Aside0.mk (uS HB.out hb)
            clear HB
            have HB := HB1
            clear HB1
            obtain ⟨s0, s1, s2, s3, s4, s5, s6, s7⟩ := hHeld
            refine hK.out _ _ ⟨uY hb s0, uY hb s1, uY hb s2, uY hb s3, uY hb s4, uY hb s5, uY hb s6, fun h0 => uY hb (s7 h0)⟩ (fun hHeld => ?_)
            clear hK K hb s0 s1 s2 s3 s4 s5 s6 s7
            refine vC (a' := ?_) ?_ ?_
            rotate_left
            · show Act.put _ (some 34) _ = _; simp only [Act.put, vU, vV, vW, uL, uM]; rfl
            refine uJ (i := 23) (N := some 35) (v := ?_) (a' := ?_) (bA_impl 25 16777215) rfl rfl (by kernel_rfl) (fun _ _ _ h => h) (Or.inl ⟨by rfl, ?_⟩) ?_ ?_
            rotate_left
            · intro w'; go_simp; with_reducible rfl
            rotate_left
            · simp only [Act.put, vU, vV, vW, uL, uM]; rfl
            refine uJ (i := 24) (N := some 36) (v := ?_) (a' := ?_) (bA_impl 25 33554431) rfl rfl (by kernel_rfl) (fun _ _ _ h => h) (Or.inl ⟨by rfl, ?_⟩) ?_ ?_
            rotate_left
            · intro w'; go_simp; with_reducible rfl
            rotate_left
            · simp only [Act.put, vU, vV, vW, uL, uM]; rfl
            refine done_ (by kernel_rfl) ?_
            go_wp2
            go_roundg (l0.length - (kk + 1))
            case measure => have := HK.out; omega
            case rel =>
              refine ⟨kk + 1, by first | (rw [show wrap64 ((kk : Int) + 1) = ((kk + 1 : Nat) : Int) by have := HL1.out; unfold wrap64; omega]) | rfl, ⟨by have := HK.out; omega, by have := HK.out; omega⟩, HB, ⟨fun j hj => ?_⟩⟩
              rcases Nat.lt_succ_iff_lt_or_eq.1 hj with hj | rfl
              · exact HA.out j hj
              · exact ⟨h1, hv, fun h => by first | exact absurd h h0 | (rw [← (HPV2.out h).2]; exact h4)⟩
          · refine one_ (i := 22) (N := some 34) (bA_impl 25 8388607) rfl rfl (by kernel_rfl) (by decide) (fun K hK => ?_)
            refine goes_ Try.func50 (by kernel_rfl) rfl #[.agg #[.int .i64 (rd_T72 l0 (kk : Int)).f1.f0, .int .i64 (rd_T72 l0 (kk : Int)).f1.f1, .int .i64 (rd_T72 l0 (kk : Int)).f1.f2, .int .i64 (rd_T72 l0 (kk : Int)).f1.f3, .int .i64 (rd_T72 l0 (kk : Int)).f1.f4, .int .i64 (rd_T72 l0 (kk : Int)).f1.f5]] (by rfl) rfl rfl (by (try simp only [vX, List.map_cons, List.map_nil]); first | done | rfl) ?_
            refine (impl_IsValidOp.calls (rd_T72 l0 (kk : Int)).f1.f0 (rd_T72 l0 (kk : Int)).f1.f1 (rd_T72 l0 (kk : Int)).f1.f2 (rd_T72 l0 (kk : Int)).f1.f3 (rd_T72 l0 (kk : Int)).f1.f4 (rd_T72 l0 (kk : Int)).f1.f5 false _ hv).mono ?_
            rintro e w' ⟨rfl, hb⟩
            refine ⟨_, rfl, ?_⟩
            have HB1 := Aside0.mk (uS HB.out hb)
            clear HB
            have HB := HB1
            clear HB1
            obtain ⟨s0, s1, s2, s3, s4, s5, s6, s7⟩ := hHeld
            refine hK.out _ _ ⟨uY hb s0, uY hb s1, uY hb s2, uY hb s3, uY hb s4, uY hb s5, uY hb s6, fun h0 => uY hb (s7 h0)⟩ (fun hHeld => ?_)
            clear hK K hb s0 s1 s2 s3 s4 s5 s6 s7
            refine vC (a' := ?_) ?_ ?_
            rotate_left
            · show Act.put _ (some 34) _ = _; simp only [Act.put, vU, vV, vW, uL, uM]; rfl
            refine uJ (i := 23) (N := some 35) (v := ?_) (a' := ?_) (bA_impl 25 16777215) rfl rfl (by kernel_rfl) (fun _ _ _ h => h) (Or.inl ⟨by rfl, ?_⟩) ?_ ?_
            rotate_left
            · intro w'; go_simp; with_reducible rfl
            rotate_left
            · simp only [Act.put, vU, vV, vW, uL, uM]; rfl
            refine uJ (i := 24) (N := some 36) (v := ?_) (a' := ?_) (bA_impl 25 33554431) rfl rfl (by kernel_rfl) (fun _ _ _ h => h) (Or.inl ⟨by rfl, ?_⟩) ?_ ?_
            rotate_left
            · intro w'; go_simp; with_reducible rfl
            rotate_left
            · simp only [Act.put, vU, vV, vW, uL, uM]; rfl
            refine done_ (by kernel_rfl) ?_
            go_wp2
            go_ret
            exact ⟨by rw [HNO.out (impl_IsValidOp.f (rd_T72 l0 (kk : Int)).f1.f0 (rd_T72 l0 (kk : Int)).f1.f1 (rd_T72 l0 (kk : Int)).f1.f2 (rd_T72 l0 (kk : Int)).f1.f3 (rd_T72 l0 (kk : Int)).f1.f4 (rd_T72 l0 (kk : Int)).f1.f5 = some true) (fun h => h.2.1) (by rw [hv]; simp)]; rfl, by first | exact HB.out | (rw [← World.drewN_drewN]; exact HB.out)⟩
      · refine one_ (i := 2) (N := some 14) (bA_impl 25 7) rfl rfl (by kernel_rfl) (by decide) (fun K hK => ?_)
        refine goes_ Try.func65 (by kernel_rfl) rfl #[.int .i64 (rd_T72 l0 (kk : Int)).f0, .int .i64 1, .int .i64 20] (by rfl) rfl rfl (by (try simp only [vX, List.map_cons, List.map_nil]); first | done | rfl) ?_
        refine (impl_within.no_ h1 _).mono ?_
        rintro e w' ⟨rfl, ⟨nd2, rfl⟩⟩
        refine ⟨_, rfl, ?_⟩
        have HB1 := Aside0.mk (uA HB.out nd2)
        clear HB
        have HB := HB1
        clear HB1
        refine hK.out _ _ hHeld (fun hHeld => ?_)
        clear hK K
        refine vC (a' := ?_) ?_ ?_
        rotate_left
        · show Act.put _ (some 14) _ = _; simp only [Act.put, vU, vV, vW, uL, uM]; rfl
        refine uJ (i := 3) (N := some 15) (v := ?_) (a' := ?_) (bA_impl 25 15) rfl rfl (by kernel_rfl) (fun _ _ _ h => h) (Or.inl ⟨by rfl, ?_⟩) ?_ ?_
        rotate_left
        · intro w'; go_simp; with_reducible rfl
        rotate_left
        · simp only [Act.put, vU, vV, vW, uL, uM]; rfl
        refine uJ (i := 4) (N := some 16) (v := ?_) (a' := ?_) (bA_impl 25 31) rfl rfl (by kernel_rfl) (fun _ _ _ h => h) (Or.inl ⟨by rfl, ?_⟩) ?_ ?_
        rotate_left
        · intro w'; go_simp; with_reducible rfl
        rotate_left
        · simp only [Act.put, vU, vV, vW, uL, uM]; rfl
        refine uJ (i := 5) (N := some 17) (v := undef) (a' := ?_) (bA_impl 25 63) rfl rfl (by kernel_rfl) (fun _ _ _ h => h) (Or.inr ⟨by rfl, rfl⟩) ?_ ?_
        rotate_left
        · simp only [Act.put, vU, vV, vW]; rfl
        refine uJ (i := 6) (N := some 18) (v := undef) (a' := ?_) (bA_impl 25 127) rfl rfl (by kernel_rfl) (fun _ _ _ h => h) (Or.inr ⟨by rfl, rfl⟩) ?_ ?_
        rotate_left
        · simp only [Act.put, vU, vV, vW]; rfl
        refine uJ (i := 7) (N := some 19) (v := undef) (a' := ?_) (bA_impl 25 255) rfl rfl (by kernel_rfl) (fun _ _ _ h => h) (Or.inr ⟨by rfl, rfl⟩) ?_ ?_
        rotate_left
        · simp only [Act.put, vU, vV, vW]; rfl
        refine uJ (i := 8) (N := some 20) (v := undef) (a' := ?_) (bA_impl 25 511) rfl rfl (by kernel_rfl) (fun _ _ _ h => h) (Or.inr ⟨by rfl, rfl⟩) ?_ ?_
        rotate_left
        · simp only [Act.put, vU, vV, vW]; rfl
        refine uJ (i := 9) (N := some 21) (v := undef) (a' := ?_) (bA_impl 25 1023) rfl rfl (by kernel_rfl) (fun _ _ _ h => h) (Or.inr ⟨by rfl, rfl⟩) ?_ ?_
        rotate_left
        · simp only [Act.put, vU, vV, vW]; rfl
        refine uJ (i := 10) (N := some 22) (v := undef) (a' := ?_) (bA_impl 25 2047) rfl rfl (by kernel_rfl) (fun _ _ _ h => h) (Or.inr ⟨by rfl, rfl⟩) ?_ ?_
        rotate_left
        · simp only [Act.put, vU, vV, vW]; rfl
        refine uJ (i := 11) (N := some 23) (v := undef) (a' := ?_) (bA_impl 25 4095) rfl rfl (by kernel_rfl) (fun _ _ _ h => h) (Or.inr ⟨by rfl, rfl⟩) ?_ ?_
        rotate_left
        · simp only [Act.put, vU, vV, vW]; rfl
        refine uJ (i := 12) (N := some 24) (v := undef) (a' := ?_) (bA_impl 25 8191) rfl rfl (by kernel_rfl) (fun _ _ _ h => h) (Or.inr ⟨by rfl, rfl⟩) ?_ ?_
        rotate_left
        · simp only [Act.put, vU, vV, vW]; rfl
        refine uJ (i := 13) (N := some 25) (v := undef) (a' := ?_) (bA_impl 25 16383) rfl rfl (by kernel_rfl) (fun _ _ _ h => h) (Or.inr ⟨by rfl, rfl⟩) ?_ ?_
        rotate_left
        · simp only [Act.put, vU, vV, vW]; rfl
        refine uJ (i := 14) (N := some 26) (v := undef) (a' := ?_) (bA_impl 25 32767) rfl rfl (by kernel_rfl) (fun _ _ _ h => h) (Or.inr ⟨by rfl, rfl⟩) ?_ ?_
        rotate_left
        · simp only [Act.put, vU, vV, vW]; rfl
        refine uJ (i := 15) (N := some 27) (v := undef) (a' := ?_) (bA_impl 25 65535) rfl rfl (by kernel_rfl) (fun _ _ _ h => h) (Or.inr ⟨by rfl, rfl⟩) ?_ ?_
        rotate_left
        · simp only [Act.put, vU, vV, vW]; rfl
        refine uJ (i := 16) (N := some 28) (v := undef) (a' := ?_) (bA_impl 25 131071) rfl rfl (by kernel_rfl) (fun _ _ _ h => h) (Or.inr ⟨by rfl, rfl⟩) ?_ ?_
        rotate_left
        · simp only [Act.put, vU, vV, vW]; rfl
        refine uJ (i := 17) (N := some 29) (v := undef) (a' := ?_) (bA_impl 25 262143) rfl rfl (by kernel_rfl) (fun _ _ _ h => h) (Or.inr ⟨by rfl, rfl⟩) ?_ ?_
        rotate_left
        · simp only [Act.put, vU, vV, vW]; rfl
        refine uJ (i := 18) (N := some 30) (v := ?_) (a' := ?_) (bA_impl 25 524287) rfl rfl (by kernel_rfl) (fun _ _ _ h => h) (Or.inl ⟨by rfl, ?_⟩) ?_ ?_
        rotate_left
        · intro w'; go_simp; with_reducible rfl
        rotate_left
        · simp only [Act.put, vU, vV, vW, uL, uM]; rfl
        refine uJ (i := 19) (N := some 31) (v := ?_) (a' := ?_) (bA_impl 25 1048575) rfl rfl (by kernel_rfl) (fun _ _ _ h => h) (Or.inl ⟨by rfl, ?_⟩) ?_ ?_
        rotate_left
        · intro w'; go_simp; with_reducible rfl
        rotate_left
        · simp only [Act.put, vU, vV, vW, uL, uM]; rfl
        refine uJ (i := 20) (N := some 32) (v := undef) (a' := ?_) (bA_impl 25 2097151) rfl rfl (by kernel_rfl) (fun _ _ _ h => h) (Or.inr ⟨by rfl, rfl⟩) ?_ ?_
        rotate_left
        · simp only [Act.put, vU, vV, vW]; rfl
        refine uJ (i := 21) (N := some 33) (v := undef) (a' := ?_) (bA_impl 25 4194303) rfl rfl (by kernel_rfl) (fun _ _ _ h => h) (Or.inr ⟨by rfl, rfl⟩) ?_ ?_
        rotate_left
        · simp only [Act.put, vU, vV, vW]; rfl
        refine uJ (i := 22) (N := some 34) (v := undef) (a' := ?_) (bA_impl 25 8388607) rfl rfl (by kernel_rfl) (fun _ _ _ h => h) (Or.inr ⟨by rfl, rfl⟩) ?_ ?_
        rotate_left
        · simp only [Act.put, vU, vV, vW]; rfl
        refine uJ (i := 23) (N := some 35) (v := undef) (a' := ?_) (bA_impl 25 16777215) rfl rfl (by kernel_rfl) (fun _ _ _ h => h) (Or.inr ⟨by rfl, rfl⟩) ?_ ?_
        rotate_left
        · simp only [Act.put, vU, vV, vW]; rfl
        refine uJ (i := 24) (N := some 36) (v := ?_) (a' := ?_) (bA_impl 25 33554431) rfl rfl (by kernel_rfl) (fun _ _ _ h => h) (Or.inl ⟨by rfl, ?_⟩) ?_ ?_
        rotate_left
        · intro w'; go_simp; with_reducible rfl
        rotate_left
        · simp only [Act.put, vU, vV, vW, uL, uM]; rfl
        refine done_ (by kernel_rfl) ?_
        go_wp2
        go_ret
        exact ⟨by rw [HNO.out (1 ≤ (rd_T72 l0 (kk : Int)).f0 ∧ (rd_T72 l0 (kk : Int)).f0 ≤ 20) (fun h => h.1) h1]; rfl, by first | exact HB.out | (rw [← World.drewN_drewN]; exact HB.out)⟩
    · have hltb := eq_false hlt
      have hall : ∀ j, j < l0.length → okE_impl l0 j := fun j hj => HA.out j (by have := HK.out; omega)
      have HALL := Aside0.mk hall
      clear hall HA
      go_wp2
      go_ret
      have hfin : decide ((l0.length : Int) ≤ 16) = V := by
        rw [← HV.out, Bool.eq_iff_iff, decide_eq_true_eq, decide_eq_true_eq]
        exact ⟨fun h => ⟨by omega, HALL.out⟩, fun h => by have := h.1; omega⟩
      exact ⟨by first | (rw [← hfin]; rfl) | (rw [hfin]; rfl), HB.out⟩


/-! ### impl_NewMachine: function 71 -/
def impl_NewMachine.f  : Option (List Int × (List (S49))) := if 3 ≤ 35184372088832 then (some ((List.replicate 3 0), ([] : List (S49)))) else (none)
set_option maxHeartbeats 8000000 in
set_option maxRecDepth 100000 in
theorem impl_NewMachine.calls  (r1 : List Int) (r2 : List (S49)) (w : World) (h : impl_NewMachine.f  = some (r1, r2)) :
    Calls Try.prog 71 #[] w fun e w' => ∃ v0_ v1_ : Value, e = .returned (.agg #[v0_, v1_]) ∧ Kd.R (Kd.int .i64) 3 w' w.heap.size (fun _ => True) v0_ r1 ∧ Kd.R k49 49 w' w.heap.size (fun _ => True) v1_ r2 ∧ Below w.heap.size w w' := by
  have hu31 := Try.underlying31
  have HB := Aside0.mk (Below.refl w.heap.size w)
  have H : (if 3 ≤ 35184372088832 then (some ((List.replicate 3 0), ([] : List (S49)))) else (none)) = some (r1, r2) := h
  clear h
  by_cases c1 : 3 ≤ 35184372088832
  rotate_left
  · rw [if_neg c1] at H
    exact absurd H (by simp)
  rw [if_pos c1] at H
  have c1b0 := eq_true c1
  have c1b1 : decide (3 ≤ 35184372088832) = true := decide_eq_true c1
  clear c1
  obtain ⟨y222, hy222⟩ : ∃ y_ : List Int, y_ = (List.replicate 3 0) := ⟨_, rfl⟩
  replace H : (some (y222, ([] : List (S49)))) = some (r1, r2) := by first | (rw [hy222]; with_reducible exact H) | (have H2_ := (Option.bind_some _ _).symm.trans H; rw [hy222]; with_reducible exact H2_) | (have H2_ := (Option.bind_some _ _).symm.trans H; with_reducible exact H2_) | with_reducible exact H | (rw [hy222]; exact H) | exact H | rfl
  have Ny222 := Aside0.mk hy222
  clear hy222
  simp only [Option.some.injEq, Prod.mk.injEq] at H
  obtain ⟨rfl, rfl⟩ := H
  go_enter Try.func71, Try.ntmps71
  go_wp2_with (first | ((with_reducible refine uU (N := 0) rfl ?_); refine uT ?hg (N := 0) ?hd (cs := #[.slice none 0 0, .slice none 0 0]) (t := 31) ?hr ?_; (case hd => rfl); (case hg => rfl); (case hr => first | (go_simp; done) | (go_simp; rfl)); intro gb221 hg w2 hbox hb; have n0_ := Aside0.mk (uS (by repeat (first | (with_reducible first | exact HB.out | apply uG | apply uA | apply uF) | exact HB.out)) hb); have n1_ := Aside0.mk (hbox); have n2_ := Aside0.mk ((by rw [hg]; exact (uQ (by repeat (first | (with_reducible first | exact HB.out | apply uG | apply uA | apply uF) | exact HB.out))) : w.heap.size ≤ gb221)); have n3_ := Aside0.mk ((by rw [hg]; exact (uQ (by repeat (first | (with_reducible first | exact HB.out | apply uG | apply uA | apply uF) | exact HB.out))) : w.heap.size ≤ gb221)); clear HB; have HB := n0_; have BK221 := n1_; have GW221 := n2_; have GE221 := n3_; clear n0_ n1_ n2_ n3_; clear hb hbox hg) | ((with_reducible refine uU (N := 1) rfl ?_); refine Kd.R_make (Kd.int .i64) _ 3 rfl (N := 1) rfl 22 _ _ rfl 3 rfl rfl Try.underlying22 (.int .i64 0) 8 info3 rfl (by decide) (by omega) 0 (ok := fun _ => True) (okp := fun _ => True) rfl (fun _ hk => hk) trivial (by omega) (by omega) (Below.refl _ _) (Nat.le_refl _) ?_; intro v223 w3 ho4 hb hg_ hnew_; clear hg_ hnew_; (first | rw [← Ny222.out] at ho4 | (simp only [Int.reduceToNat] at ho4; rw [← Ny222.out] at ho4)); have n0_ := Aside0.mk (Kd.vO ho4 (uQ (by repeat (first | (with_reducible first | exact HB.out | apply uG | apply uA | apply uF | refine uB ?_ GE221.out) | exact HB.out)))); have n1_ := Aside0.mk (uR (g := gb221) (o := .cells #[.slice none 0 0, .slice none 0 0] 31 (0, 0)) (by (with_reducible repeat (first | refine uC ?_ _ | refine uE ?_ | refine uD ?_ _)); exact BK221.out) hb); have n2_ := Aside0.mk (uS (by repeat (first | (with_reducible first | exact HB.out | apply uG | apply uA | apply uF | refine uB ?_ GE221.out) | exact HB.out)) hb); clear BK221; clear HB; have HO224 := n0_; have BK221 := n1_; have HB := n2_; clear n0_ n1_ n2_; clear hb ho4; obtain ⟨Ao5, co5, eo5⟩ := Kd.vN HO224.out; subst eo5; have hcz6_0 : w3.cell? ⟨gb221, 0, none⟩ = some (.slice none 0 0) := (uI BK221.out 0).trans rfl; have hcz6_1 : w3.cell? ⟨gb221, 1, none⟩ = some (.slice none 0 0) := (uI BK221.out 1).trans rfl; have hfz6_0 := uK BK221.out 0; have hfz6_1 := uK BK221.out 1))
  refine bodyPost_ret (results_cell_row rfl _ _ gb221 31 #[.slice Ao5 y222.length co5, .slice none 0 0] (0, 0) _ rfl (by (with_reducible repeat (first | refine uC ?_ _ | refine uE ?_ | refine uD ?_ _)); refine uW (cs := #[.slice Ao5 y222.length co5, .slice none 0 0]) ?_ 1 _ rfl; (with_reducible repeat (first | refine uC ?_ _ | refine uE ?_ | refine uD ?_ _)); refine uW (cs := #[.slice none 0 0, .slice none 0 0]) ?_ 0 _ rfl; (with_reducible repeat (first | refine uC ?_ _ | refine uE ?_ | refine uD ?_ _)); exact BK221.out) Try.underlying31 rfl (by kernel_rfl)) rfl ?_
  exact ⟨_, _, by first | rfl | (simp [errW_none, errW_some] <;> rfl) | (simp [*, errW_none, errW_some] <;> rfl), by (with_reducible repeat (first | apply Kd.uN | apply Kd.uO | apply Kd.uP)); exact Kd.uZ (Kd.vG (p := ⟨gb221, 1, none⟩) (Kd.vG (p := ⟨gb221, 0, none⟩) (Kd.vR HO224.out BK221.out (by decide)) (fun _ hk => hk.2) (.slice Ao5 y222.length co5)) (fun _ hk => hk.2) (.slice none 0 0)) (fun _ hk => trivial), by first | exact Kd.R_nil _ _ _ _ _ | exact Kd.N_nil _ _ _ _ _ | exact Kd.V_nil _ _ _ _ _ | exact Kd.Q_nil _ _ _ _ _ | exact Kd.S_nil _ _ _ _ _, by repeat (first | (with_reducible first | exact HB.out | apply uG | apply uA | apply uF | refine uB ?_ GE221.out) | exact HB.out)⟩

/-! ### impl_ReplayLog: function 31 -/
def impl_ReplayLog.l0 : Nat → List (S72) → Int → Int → List Int → List (S49) → Option (List Int × (List (S49)) × Bool)
  | 0, _, _, _, _, _ => none
  | k + 1, x12, x13, x14, x234000, x234001 => if x14 < x13 then (if 0 ≤ x14 then (if x14 < (x12.length : Int) then ((impl_ApplyOp.f k x234000 x234001 ((rd_T72 x12 x14).f1.f0) ((rd_T72 x12 x14).f1.f1) ((rd_T72 x12 x14).f1.f2) ((rd_T72 x12 x14).f1.f3) ((rd_T72 x12 x14).f1.f4) ((rd_T72 x12 x14).f1.f5)).bind fun bt236 => (impl_ReplayLog.l0 k x12 x13 (wrap64 (x14 + 1)) bt236.1 bt236.2.1)) else (none)) else (none)) else (some (x234000, x234001, true))
def impl_ReplayLog.f (k : Nat) (l0 : List (S72)) : Option (List Int × (List (S49)) × Bool) := (impl_IsLog.f k l0).bind fun t226 => (if t226 = true then ((impl_NewMachine.f).bind fun bt227 => (impl_ReplayLog.l0 k l0 (l0.length : Int) 0 bt227.1 bt227.2)) else (some (([] : List Int), ([] : List (S49)), false)))
theorem impl_ReplayLog.mono_l : ∀ k, (∀ y0 y1 y2 y3 y4, vB (impl_ReplayLog.l0 k y0 y1 y2 y3 y4) (impl_ReplayLog.l0 (k + 1) y0 y1 y2 y3 y4))
  | 0 => fun _ _ _ _ _ r h => by simp [impl_ReplayLog.l0] at h
  | k + 1 => by
    have ih0 := impl_ReplayLog.mono_l k
    intro y0 y1 y2 y3 y4
    unfold impl_ReplayLog.l0
    repeat' first
    | (with_reducible exact ih0 _ _ _ _ _)
    | (with_reducible exact impl_ApplyOp.mono _ _ _ _ _ _ _ _ _)
    | (with_reducible exact impl_IsLog.mono _ _)
    | (with_reducible exact vB.refl _)
    | (with_reducible exact vB.none _)
    | (with_reducible refine vB.ite ?_ ?_)
    | (with_reducible refine vB.bind ?_ (fun _ => ?_))
    | exact ih0 _ _ _ _ _
    | exact impl_ApplyOp.mono _ _ _ _ _ _ _ _ _
    | exact impl_IsLog.mono _ _
    | exact vB.none _
    | refine vB.ite ?_ ?_
    | refine vB.bind ?_ (fun _ => ?_)
theorem impl_ReplayLog.mono : ∀ a0 k, vB (impl_ReplayLog.f k a0) (impl_ReplayLog.f (k + 1) a0) := by
  intro a0 k
  have ih0 := impl_ReplayLog.mono_l k
  unfold impl_ReplayLog.f
  repeat' first
      | (with_reducible exact ih0 _ _ _ _ _)
      | (with_reducible exact impl_ApplyOp.mono _ _ _ _ _ _ _ _ _)
      | (with_reducible exact impl_IsLog.mono _ _)
      | (with_reducible exact vB.refl _)
      | (with_reducible exact vB.none _)
      | (with_reducible refine vB.ite ?_ ?_)
      | (with_reducible refine vB.bind ?_ (fun _ => ?_))
      | exact ih0 _ _ _ _ _
      | exact impl_ApplyOp.mono _ _ _ _ _ _ _ _ _
      | exact impl_IsLog.mono _ _
      | exact vB.none _
      | refine vB.ite ?_ ?_
      | refine vB.bind ?_ (fun _ => ?_)
set_option maxHeartbeats 8000000 in
set_option maxRecDepth 100000 in
theorem impl_ReplayLog.calls (k : Nat) (A0 : Option Addr) (c0 : Nat) (l0 : List (S72)) (r1 : List Int) (r2 : List (S49)) (r3 : Bool) (w : World) (hr0 : Kd.C k72 w A0 l0.length l0) (hc0 : l0.length ≤ c0) (h : impl_ReplayLog.f k l0 = some (r1, r2, r3)) :
    Calls Try.prog 31 #[.slice A0 l0.length c0] w fun e w' => ∃ v0_ v1_ : Value, e = .returned (.tuple #[.agg #[v0_, v1_], .bool r3]) ∧ Kd.R (Kd.int .i64) 3 w' w.heap.size (fun _ => True) v0_ r1 ∧ Kd.R k49 49 w' w.heap.size (fun _ => True) v1_ r2 ∧ Below w.heap.size w w' := by
  have hu31 := Try.underlying31
  have hu72 := Try.underlying72
  have hu37 := Try.underlying37
  have HR0 := Aside0.mk hr0
  have HC0 := Aside0.mk hc0
  clear hr0 hc0
  have HB := Aside0.mk (Below.refl w.heap.size w)
  have H : ((impl_IsLog.f k l0).bind fun t226 => (if t226 = true then ((impl_NewMachine.f).bind fun bt227 => (impl_ReplayLog.l0 k l0 (l0.length : Int) 0 bt227.1 bt227.2)) else (some (([] : List Int), ([] : List (S49)), false)))) = some (r1, r2, r3) := h
  clear h
  replace H := Option.bind_eq_some_iff.mp H
  obtain ⟨t226, A20, H⟩ := H
  replace H : (if t226 = true then ((impl_NewMachine.f).bind fun bt227 => (impl_ReplayLog.l0 k l0 (l0.length : Int) 0 bt227.1 bt227.2)) else (some (([] : List Int), ([] : List (S49)), false))) = some (r1, r2, r3) := H
  have A2 := Aside0.mk A20
  clear A20
  go_enter Try.func31, Try.ntmps31
  go_wp2_with (first | ((with_reducible refine uU (N := 2) rfl ?_); refine uT ?hg (N := 2) ?hd (cs := #[.slice none 0 0, .slice none 0 0]) (t := 31) ?hr ?_; (case hd => rfl); (case hg => rfl); (case hr => first | (go_simp; done) | (go_simp; rfl)); intro gb225 hg w34 hbox hb; have n0_ := Aside0.mk (uS (by repeat (first | (with_reducible first | exact HB.out | apply uG | apply uA | apply uF) | exact HB.out)) hb); have n1_ := Aside0.mk (hbox); have n2_ := Aside0.mk ((by rw [hg]; exact (uQ (by repeat (first | (with_reducible first | exact HB.out | apply uG | apply uA | apply uF) | exact HB.out))) : w.heap.size ≤ gb225)); have n3_ := Aside0.mk ((by rw [hg]; exact (uQ (by repeat (first | (with_reducible first | exact HB.out | apply uG | apply uA | apply uF) | exact HB.out))) : w.heap.size ≤ gb225)); clear HB; have HB := n0_; have BK225 := n1_; have GW225 := n2_; have GE225 := n3_; clear n0_ n1_ n2_ n3_; clear hb hbox hg; refine ?roundEnd))
  case roundEnd =>
  by_cases c3 : t226 = true
  rotate_left
  · replace c3 := Bool.eq_false_iff.mpr c3
    subst c3
    have H1 : (some (([] : List Int), ([] : List (S49)), false)) = some (r1, r2, r3) := by first | (rw [if_neg (show ¬ (false = true) by decide)] at H; exact H) | rfl
    clear H
    have H := H1
    clear H1
    simp only [Option.some.injEq, Prod.mk.injEq] at H
    obtain ⟨rfl, rfl, rfl⟩ := H
    go_wp2_with (first | ((with_reducible refine uX (f := 41) rfl ?_); refine vM (some 8) rfl rfl Try.func41 (by kernel_rfl) rfl #[.slice A0 l0.length c0] rfl (by (try simp only [vX, List.map_cons, List.map_nil]); first | done | rfl | (simp only [vZ, vY]; rfl)) ?_; (with_reducible refine (impl_IsLog.calls k _ _ l0 false _ ?side1 ?side2 A2.out).mono ?_); (case side1 => repeat (first | exact (Kd.vE HR0.out HB.out) | (with_reducible refine Kd.vQ ?_ _) | (with_reducible refine Kd.vP ?_ _) | (with_reducible refine Kd.vS ?_))); (case side2 => exact HC0.out); rintro e w35 ⟨rfl, hb⟩; refine ⟨_, rfl, ?_⟩; have n0_ := Aside0.mk (uR (g := gb225) (o := .cells #[.slice none 0 0, .slice none 0 0] 31 (0, 0)) (by (with_reducible repeat (first | refine uC ?_ _ | refine uE ?_ | refine uD ?_ _)); exact BK225.out) hb); have n1_ := Aside0.mk (uS (by repeat (first | (with_reducible first | exact HB.out | apply uG | apply uA | apply uF | refine uB ?_ GE225.out) | exact HB.out)) hb); clear BK225; clear HB; have BK225 := n0_; have HB := n1_; clear n0_ n1_; (try clear hb); (try clear hb2); (try clear hk); (try clear hi); have hcz36_0 : w35.cell? ⟨gb225, 0, none⟩ = some (.slice none 0 0) := (uI BK225.out 0).trans rfl; have hcz36_1 : w35.cell? ⟨gb225, 1, none⟩ = some (.slice none 0 0) := (uI BK225.out 1).trans rfl; have hfz36_0 := uK BK225.out 0; have hfz36_1 := uK BK225.out 1))
    refine bodyPost_ret (results_ct rfl _ _ gb225 31 #[.slice none 0 0, .slice none 0 0] (0, 0) _ rfl (by (with_reducible repeat (first | refine uC ?_ _ | refine uE ?_ | refine uD ?_ _)); refine uW (cs := #[.slice none 0 0, .slice none 0 0]) ?_ 1 _ rfl; (with_reducible repeat (first | refine uC ?_ _ | refine uE ?_ | refine uD ?_ _)); refine uW (cs := #[.slice none 0 0, .slice none 0 0]) ?_ 0 _ rfl; (with_reducible repeat (first | refine uC ?_ _ | refine uE ?_ | refine uD ?_ _)); exact BK225.out) Try.underlying31 rfl (by kernel_rfl)) rfl ?_
    exact ⟨_, _, by first | rfl | (simp [errW_none, errW_some] <;> rfl) | (simp [*, errW_none, errW_some] <;> rfl), by first | exact Kd.R_nil _ _ _ _ _ | exact Kd.N_nil _ _ _ _ _ | exact Kd.V_nil _ _ _ _ _ | exact Kd.Q_nil _ _ _ _ _ | exact Kd.S_nil _ _ _ _ _, by first | exact Kd.R_nil _ _ _ _ _ | exact Kd.N_nil _ _ _ _ _ | exact Kd.V_nil _ _ _ _ _ | exact Kd.Q_nil _ _ _ _ _ | exact Kd.S_nil _ _ _ _ _, by repeat (first | (with_reducible first | exact HB.out | apply uG | apply uA | apply uF | refine uB ?_ GE225.out) | exact HB.out)⟩
  subst c3
  have H1 : ((impl_NewMachine.f).bind fun bt227 => (impl_ReplayLog.l0 k l0 (l0.length : Int) 0 bt227.1 bt227.2)) = some (r1, r2, r3) := by first | (rw [if_pos rfl] at H; exact H) | rfl
  clear H
  have H := H1
  clear H1
  replace H := Option.bind_eq_some_iff.mp H
  obtain ⟨⟨t227, t230⟩, A40, H⟩ := H
  replace H : (impl_ReplayLog.l0 k l0 (l0.length : Int) 0 t227 t230) = some (r1, r2, r3) := H
  have A4 := Aside0.mk A40
  clear A40
  have H' := Aside0.mk H
  clear H
  go_wp2_with (first | ((with_reducible refine uX (f := 41) rfl ?_); refine vM (some 8) rfl rfl Try.func41 (by kernel_rfl) rfl #[.slice A0 l0.length c0] rfl (by (try simp only [vX, List.map_cons, List.map_nil]); first | done | rfl | (simp only [vZ, vY]; rfl)) ?_; (with_reducible refine (impl_IsLog.calls k _ _ l0 true _ ?side1 ?side2 A2.out).mono ?_); (case side1 => repeat (first | exact (Kd.vE HR0.out HB.out) | (with_reducible refine Kd.vQ ?_ _) | (with_reducible refine Kd.vP ?_ _) | (with_reducible refine Kd.vS ?_))); (case side2 => exact HC0.out); rintro e w6 ⟨rfl, hb⟩; refine ⟨_, rfl, ?_⟩; have n0_ := Aside0.mk (uR (g := gb225) (o := .cells #[.slice none 0 0, .slice none 0 0] 31 (0, 0)) (by (with_reducible repeat (first | refine uC ?_ _ | refine uE ?_ | refine uD ?_ _)); exact BK225.out) hb); have n1_ := Aside0.mk (uS (by repeat (first | (with_reducible first | exact HB.out | apply uG | apply uA | apply uF | refine uB ?_ GE225.out) | exact HB.out)) hb); clear BK225; clear HB; have BK225 := n0_; have HB := n1_; clear n0_ n1_; (try clear hb); (try clear hb2); (try clear hk); (try clear hi)) | ((with_reducible refine uX (f := 71) rfl ?_); refine vM (some 11) rfl rfl Try.func71 (by kernel_rfl) rfl #[] rfl (by (try simp only [vX, List.map_cons, List.map_nil]); first | done | rfl | (simp only [vZ, vY]; rfl)) ?_; (with_reducible refine (impl_NewMachine.calls  t227 t230 _ A4.out).mono ?_); rintro e w7 ⟨v228, v231, rfl, ho0, ho1, hb⟩; refine ⟨_, rfl, ?_⟩; have n0_ := Aside0.mk (Kd.vO ho0 (uQ (by repeat (first | (with_reducible first | exact HB.out | apply uG | apply uA | apply uF | refine uB ?_ GE225.out) | exact HB.out)))); have n1_ := Aside0.mk (Kd.vO ho1 (uQ (by repeat (first | (with_reducible first | exact HB.out | apply uG | apply uA | apply uF | refine uB ?_ GE225.out) | exact HB.out)))); have n2_ := Aside0.mk (uR (g := gb225) (o := .cells #[.slice none 0 0, .slice none 0 0] 31 (0, 0)) (by (with_reducible repeat (first | refine uC ?_ _ | refine uE ?_ | refine uD ?_ _)); exact BK225.out) hb); have n3_ := Aside0.mk (uS (by repeat (first | (with_reducible first | exact HB.out | apply uG | apply uA | apply uF | refine uB ?_ GE225.out) | exact HB.out)) hb); clear BK225; clear HB; have HO229 := n0_; have HO232 := n1_; have BK225 := n2_; have HB := n3_; clear n0_ n1_ n2_ n3_; (try clear hb); (try clear hb2); (try clear hk); (try clear hi); (try clear ho0); (try clear ho1)) | ((with_reducible refine uU (N := 4) rfl ?_); refine uT ?hg (N := 4) ?hd (cs := #[.slice none 0 0, .slice none 0 0]) (t := 31) ?hr ?_; (case hd => rfl); (case hg => rfl); (case hr => first | (go_simp; done) | (go_simp; rfl)); intro gb233 hg w8 hbox hb; have n0_ := Aside0.mk (Kd.vD (by (with_reducible repeat (first | apply Kd.uN | apply Kd.uO | apply Kd.uP)); exact HO229.out) hb); have n1_ := Aside0.mk (Kd.vD (by (with_reducible repeat (first | apply Kd.uN | apply Kd.uO | apply Kd.uP)); exact HO232.out) hb); have n2_ := Aside0.mk (uR (g := gb225) (o := .cells #[.slice none 0 0, .slice none 0 0] 31 (0, 0)) (by (with_reducible repeat (first | refine uC ?_ _ | refine uE ?_ | refine uD ?_ _)); exact BK225.out) hb); have n3_ := Aside0.mk (uS (by repeat (first | (with_reducible first | exact HB.out | apply uG | apply uA | apply uF | refine uB ?_ GE225.out) | exact HB.out)) hb); have n4_ := Aside0.mk (hbox); have n5_ := Aside0.mk ((by rw [hg]; exact (uQ (by repeat (first | (with_reducible first | exact HB.out | apply uG | apply uA | apply uF | refine uB ?_ GE225.out) | exact HB.out))) : w.heap.size ≤ gb233)); have n6_ := Aside0.mk ((by rw [hg]; exact (uQ (by repeat (first | (with_reducible first | exact HB.out | apply uG | apply uA | apply uF | refine uB ?_ GE225.out) | exact HB.out))) : w.heap.size ≤ gb233)); have n7_ := Aside0.mk ((by rw [hg]; exact Nat.ne_of_lt (uV (g := gb225) (o := .cells #[.slice none 0 0, .slice none 0 0] 31 (0, 0)) (by (with_reducible repeat (first | refine uC ?_ _ | refine uE ?_ | refine uD ?_ _)); exact BK225.out)) : gb225 ≠ gb233)); have n8_ := Aside0.mk ((by rw [hg]; exact Nat.ne_of_gt (uV (g := gb225) (o := .cells #[.slice none 0 0, .slice none 0 0] 31 (0, 0)) (by (with_reducible repeat (first | refine uC ?_ _ | refine uE ?_ | refine uD ?_ _)); exact BK225.out)) : gb233 ≠ gb225)); clear HO229; clear HO232; clear BK225; clear HB; have HO229 := n0_; have HO232 := n1_; have BK225 := n2_; have HB := n3_; have BK233 := n4_; have GW233 := n5_; have GE233 := n6_; have NB225_233 := n7_; have NB233_225 := n8_; clear n0_ n1_ n2_ n3_ n4_ n5_ n6_ n7_ n8_; clear hb hbox hg; obtain ⟨Ao9, co9, eo9⟩ := Kd.vN HO229.out; subst eo9; have hnb10 := NB233_225.out; have hnc10 := NB225_233.out; have hcz11_0 : w8.cell? ⟨gb233, 0, none⟩ = some (.slice none 0 0) := (uI BK233.out 0).trans rfl; have hcz11_1 : w8.cell? ⟨gb233, 1, none⟩ = some (.slice none 0 0) := (uI BK233.out 1).trans rfl; have hfz11_0 := uK BK233.out 0; have hfz11_1 := uK BK233.out 1; obtain ⟨Ao12, co12, eo12⟩ := Kd.vN HO232.out; subst eo12))
  go_loopg [14] k (fun kq v14 w' => ∃ (x14_1 : Int) (x234000_1 : List Int) (x234001_1 : List (S49)) (u234000 : Value) (u234001 : Value), v14 = .int .i64 x14_1 ∧ Aside0 (impl_ReplayLog.l0 kq l0 (l0.length : Int) x14_1 x234000_1 x234001_1 = some (r1, r2, r3)) ∧ Aside0 (kq ≤ k) ∧ Aside0 (Kd.R (Kd.int .i64) 3 w' w.heap.size (fun _ => True) u234000 x234000_1) ∧ Aside0 (Kd.R k49 49 w' w.heap.size (fun _ => True) u234001 x234001_1) ∧ Aside0 (w'.heap[gb225]? = some (.cells #[(.slice none 0 0), (.slice none 0 0)] 31 (0, 0))) ∧ Aside0 (w'.heap[gb233]? = some (.cells #[u234000, u234001] 31 (0, 0))) ∧ Aside0 (Below w.heap.size w w'))
  case atStart => exact ⟨(0), (t227), (t230), (.slice Ao9 t227.length co9), (.slice Ao12 t230.length co12), (by first | rfl | (simp; done) | (simp [*]; done)), H', ⟨Nat.le_refl _⟩, ⟨by (with_reducible repeat (first | apply Kd.uN | apply Kd.uO | apply Kd.uP)); exact Kd.uZ (Kd.vG (p := ⟨gb233, 1, none⟩) (Kd.vG (p := ⟨gb233, 0, none⟩) (Kd.vR HO229.out BK233.out (by decide)) (fun _ hk => hk.2) (.slice Ao9 t227.length co9)) (fun _ hk => hk.2) (.slice Ao12 t230.length co12)) (fun _ hk => trivial)⟩, ⟨by (with_reducible repeat (first | apply Kd.uN | apply Kd.uO | apply Kd.uP)); exact Kd.uZ (Kd.vG (p := ⟨gb233, 1, none⟩) (Kd.vG (p := ⟨gb233, 0, none⟩) (Kd.vR HO232.out BK233.out (by decide)) (fun _ hk => hk.2) (.slice Ao9 t227.length co9)) (fun _ hk => hk.2) (.slice Ao12 t230.length co12)) (fun _ hk => trivial)⟩, ⟨by (with_reducible repeat (first | refine uC ?_ _ | refine uE ?_ | refine uD ?_ _)); refine vF ?_ NB225_233.out _; (with_reducible repeat (first | refine uC ?_ _ | refine uE ?_ | refine uD ?_ _)); refine vF ?_ NB225_233.out _; (with_reducible repeat (first | refine uC ?_ _ | refine uE ?_ | refine uD ?_ _)); exact BK225.out⟩, ⟨by (with_reducible repeat (first | refine uC ?_ _ | refine uE ?_ | refine uD ?_ _)); refine uW (cs := #[.slice Ao9 t227.length co9, .slice none 0 0]) ?_ 1 _ rfl; (with_reducible repeat (first | refine uC ?_ _ | refine uE ?_ | refine uD ?_ _)); refine uW (cs := #[.slice none 0 0, .slice none 0 0]) ?_ 0 _ rfl; (with_reducible repeat (first | refine uC ?_ _ | refine uE ?_ | refine uD ?_ _)); exact BK233.out⟩, ⟨by repeat (first | (with_reducible first | exact HB.out | apply uG | apply uA | apply uF | refine uB ?_ GE225.out | refine uB ?_ GE233.out) | exact HB.out)⟩⟩
  case round =>
    clear H'
    try clear c1
    try clear p2
    try clear c3
    try clear c4
    try clear c7
    try clear c10
    try clear hcz11_0
    try clear hcz11_1
    try clear hfz11_0
    try clear hfz11_1
    obtain ⟨x14_1, x234000_1, x234001_1, u234000, u234001, rfl, HA, HK1, HO_234000, HO_234001, BK225, BK233, HB⟩ := hrel
    cases gk with
    | zero => exact absurd HA.out (by simp [impl_ReplayLog.l0])
    | succ k1 =>
      have H := HA.out
      clear HA
      simp only [impl_ReplayLog.l0] at H
      by_cases c13 : x14_1 < (l0.length : Int)
      rotate_left
      · rw [if_neg c13] at H
        have c13b0 : decide (x14_1 < (l0.length : Int)) = false := decide_eq_false c13
        clear c13
        simp only [Option.some.injEq, Prod.mk.injEq] at H
        obtain ⟨rfl, rfl, rfl⟩ := H
        have hnb29 := NB233_225.out
        have hnc29 := NB225_233.out
        have hcz30_0 : wr.cell? ⟨gb233, 0, none⟩ = some (u234000) := (uI BK233.out 0).trans rfl
        have hcz30_1 : wr.cell? ⟨gb233, 1, none⟩ = some (u234001) := (uI BK233.out 1).trans rfl
        have hfz30_0 := uK BK233.out 0
        have hfz30_1 := uK BK233.out 1
        obtain ⟨Ao31, co31, eo31⟩ := Kd.vN HO_234000.out
        subst eo31
        have hcz32_0 : wr.cell? ⟨gb225, 0, none⟩ = some (.slice none 0 0) := (uI BK225.out 0).trans rfl
        have hcz32_1 : wr.cell? ⟨gb225, 1, none⟩ = some (.slice none 0 0) := (uI BK225.out 1).trans rfl
        have hfz32_0 := uK BK225.out 0
        have hfz32_1 := uK BK225.out 1
        obtain ⟨Ao33, co33, eo33⟩ := Kd.vN HO_234001.out
        subst eo33
        go_wp2
        refine bodyPost_ret (results_ct rfl _ _ gb225 31 #[.slice Ao31 x234000_1.length co31, .slice Ao33 x234001_1.length co33] (0, 0) _ rfl (by (with_reducible repeat (first | refine uC ?_ _ | refine uE ?_ | refine uD ?_ _)); refine uW (cs := #[.slice Ao31 x234000_1.length co31, .slice none 0 0]) ?_ 1 _ rfl; (with_reducible repeat (first | refine uC ?_ _ | refine uE ?_ | refine uD ?_ _)); refine uW (cs := #[.slice none 0 0, .slice none 0 0]) ?_ 0 _ rfl; (with_reducible repeat (first | refine uC ?_ _ | refine uE ?_ | refine uD ?_ _)); exact BK225.out) Try.underlying31 rfl (by kernel_rfl)) rfl ?_
        exact ⟨_, _, by first | rfl | (simp [errW_none, errW_some] <;> rfl) | (simp [*, errW_none, errW_some] <;> rfl), by (with_reducible repeat (first | apply Kd.uN | apply Kd.uO | apply Kd.uP)); exact Kd.uZ (Kd.vG (p := ⟨gb225, 1, none⟩) (Kd.vG (p := ⟨gb225, 0, none⟩) (Kd.vR HO_234000.out BK225.out (by decide)) (fun _ hk => hk.2) (.slice Ao31 x234000_1.length co31)) (fun _ hk => hk.2) (.slice Ao33 x234001_1.length co33)) (fun _ hk => trivial), by (with_reducible repeat (first | apply Kd.uN | apply Kd.uO | apply Kd.uP)); exact Kd.uZ (Kd.vG (p := ⟨gb225, 1, none⟩) (Kd.vG (p := ⟨gb225, 0, none⟩) (Kd.vR HO_234001.out BK225.out (by decide)) (fun _ hk => hk.2) (.slice Ao31 x234000_1.length co31)) (fun _ hk => hk.2) (.slice Ao33 x234001_1.length co33)) (fun _ hk => trivial), by repeat (first | (with_reducible first | exact HB.out | apply uG | apply uA | apply uF | refine uB ?_ GE225.out | refine uB ?_ GE233.out) | exact HB.out)⟩
      rw [if_pos c13] at H
      have c13b0 : decide (x14_1 < (l0.length : Int)) = true := decide_eq_true c13
      clear c13
      by_cases c14 : 0 ≤ x14_1
      rotate_left
      · rw [if_neg c14] at H
        exact absurd H (by simp)
      rw [if_pos c14] at H
      have c14b0 : decide (0 ≤ x14_1) = true := decide_eq_true c14
      clear c14
      by_cases c15 : x14_1 < (l0.length : Int)
      rotate_left
      · rw [if_neg c15] at H
        exact absurd H (by simp)
      rw [if_pos c15] at H
      have c15b0 : decide (x14_1 < (l0.length : Int)) = true := decide_eq_true c15
      clear c15
      replace H := Option.bind_eq_some_iff.mp H
      obtain ⟨⟨t236, t239, t242, t243, t244⟩, A160, H⟩ := H
      replace H : (impl_ReplayLog.l0 k1 l0 (l0.length : Int) (wrap64 (x14_1 + 1)) t236 t239) = some (r1, r2, r3) := H
      have A16 := Aside0.mk A160
      clear A160
      have H' := Aside0.mk H
      clear H
      have p234 : 0 ≤ (x14_1 : Int) := of_decide_eq_true (by first | (with_reducible assumption) | assumption)
      have q234 : x14_1 < (l0.length : Int) := of_decide_eq_true (by first | (with_reducible assumption) | assumption)
      obtain ⟨ad234, e234, hx234_0, hx234_1, hx234_2, hx234_3, hx234_4, hx234_5, hx234_6⟩ := at_T72 HR0.out x14_1 p234 q234
      cases e234
      replace hx234_0 := (HB.out.cell (yA w _ hx234_0)).trans hx234_0
      replace hx234_1 := (HB.out.cell (yA w _ hx234_1)).trans hx234_1
      replace hx234_2 := (HB.out.cell (yA w _ hx234_2)).trans hx234_2
      replace hx234_3 := (HB.out.cell (yA w _ hx234_3)).trans hx234_3
      replace hx234_4 := (HB.out.cell (yA w _ hx234_4)).trans hx234_4
      replace hx234_5 := (HB.out.cell (yA w _ hx234_5)).trans hx234_5
      replace hx234_6 := (HB.out.cell (yA w _ hx234_6)).trans hx234_6
      replace p234 := eq_true p234
      replace q234 := eq_true q234
      go_wp2_with (first | ((with_reducible refine uU (N := 6) rfl ?_); refine uT ?hg (N := 6) ?hd (cs := #[.int .i64 0, .int .i64 0, .int .i64 0, .int .i64 0, .int .i64 0, .int .i64 0, .int .i64 0]) (t := 72) ?hr ?_; (case hd => rfl); (case hg => rfl); (case hr => first | (go_simp; done) | (go_simp; rfl)); intro gb235 hg w17 hbox hb; have n0_ := Aside0.mk (Kd.vD (by (with_reducible repeat (first | apply Kd.uN | apply Kd.uO | apply Kd.uP)); exact HO_234000.out) hb); have n1_ := Aside0.mk (Kd.vD (by (with_reducible repeat (first | apply Kd.uN | apply Kd.uO | apply Kd.uP)); exact HO_234001.out) hb); have n2_ := Aside0.mk (uR (g := gb225) (o := .cells #[.slice none 0 0, .slice none 0 0] 31 (0, 0)) (by (with_reducible repeat (first | refine uC ?_ _ | refine uE ?_ | refine uD ?_ _)); exact BK225.out) hb); have n3_ := Aside0.mk (uR (g := gb233) (o := .cells #[u234000, u234001] 31 (0, 0)) (by (with_reducible repeat (first | refine uC ?_ _ | refine uE ?_ | refine uD ?_ _)); exact BK233.out) hb); have n4_ := Aside0.mk (uS (by repeat (first | (with_reducible first | exact HB.out | apply uG | apply uA | apply uF | refine uB ?_ GE225.out | refine uB ?_ GE233.out) | exact HB.out)) hb); have n5_ := Aside0.mk (hbox); have n6_ := Aside0.mk ((by rw [hg]; exact (uQ (by repeat (first | (with_reducible first | exact HB.out | apply uG | apply uA | apply uF | refine uB ?_ GE225.out | refine uB ?_ GE233.out) | exact HB.out))) : w.heap.size ≤ gb235)); have n7_ := Aside0.mk ((by rw [hg]; exact (uQ (by repeat (first | (with_reducible first | exact HB.out | apply uG | apply uA | apply uF | refine uB ?_ GE225.out | refine uB ?_ GE233.out) | exact HB.out))) : w.heap.size ≤ gb235)); have n8_ := Aside0.mk ((by rw [hg]; exact Nat.ne_of_lt (uV (g := gb225) (o := .cells #[.slice none 0 0, .slice none 0 0] 31 (0, 0)) (by (with_reducible repeat (first | refine uC ?_ _ | refine uE ?_ | refine uD ?_ _)); exact BK225.out)) : gb225 ≠ gb235)); have n9_ := Aside0.mk ((by rw [hg]; exact Nat.ne_of_gt (uV (g := gb225) (o := .cells #[.slice none 0 0, .slice none 0 0] 31 (0, 0)) (by (with_reducible repeat (first | refine uC ?_ _ | refine uE ?_ | refine uD ?_ _)); exact BK225.out)) : gb235 ≠ gb225)); have n10_ := Aside0.mk ((by rw [hg]; exact Nat.ne_of_lt (uV (g := gb233) (o := .cells #[u234000, u234001] 31 (0, 0)) (by (with_reducible repeat (first | refine uC ?_ _ | refine uE ?_ | refine uD ?_ _)); exact BK233.out)) : gb233 ≠ gb235)); have n11_ := Aside0.mk ((by rw [hg]; exact Nat.ne_of_gt (uV (g := gb233) (o := .cells #[u234000, u234001] 31 (0, 0)) (by (with_reducible repeat (first | refine uC ?_ _ | refine uE ?_ | refine uD ?_ _)); exact BK233.out)) : gb235 ≠ gb233)); clear HO_234000; clear HO_234001; clear BK225; clear BK233; clear HB; have HO_234000 := n0_; have HO_234001 := n1_; have BK225 := n2_; have BK233 := n3_; have HB := n4_; have BK235 := n5_; have GW235 := n6_; have GE235 := n7_; have NB225_235 := n8_; have NB235_225 := n9_; have NB233_235 := n10_; have NB235_233 := n11_; clear n0_ n1_ n2_ n3_ n4_ n5_ n6_ n7_ n8_ n9_ n10_ n11_; clear hb hbox hg; have hnb18 := NB235_225.out; have hnc18 := NB225_235.out; have hnb19 := NB235_233.out; have hnc19 := NB233_235.out; have hcz20_0 : w17.cell? ⟨gb235, 0, none⟩ = some (.int .i64 0) := (uI BK235.out 0).trans rfl; have hcz20_1 : w17.cell? ⟨gb235, 1, none⟩ = some (.int .i64 0) := (uI BK235.out 1).trans rfl; have hcz20_2 : w17.cell? ⟨gb235, 2, none⟩ = some (.int .i64 0) := (uI BK235.out 2).trans rfl; have hcz20_3 : w17.cell? ⟨gb235, 3, none⟩ = some (.int .i64 0) := (uI BK235.out 3).trans rfl; have hcz20_4 : w17.cell? ⟨gb235, 4, none⟩ = some (.int .i64 0) := (uI BK235.out 4).trans rfl; have hcz20_5 : w17.cell? ⟨gb235, 5, none⟩ = some (.int .i64 0) := (uI BK235.out 5).trans rfl; have hcz20_6 : w17.cell? ⟨gb235, 6, none⟩ = some (.int .i64 0) := (uI BK235.out 6).trans rfl; have hfz20_0 := uK BK235.out 0; have hfz20_1 := uK BK235.out 1; have hfz20_2 := uK BK235.out 2; have hfz20_3 := uK BK235.out 3; have hfz20_4 := uK BK235.out 4; have hfz20_5 := uK BK235.out 5; have hfz20_6 := uK BK235.out 6; have hnb21 := NB233_225.out; have hnc21 := NB225_233.out; have hcz22_0 : w17.cell? ⟨gb233, 0, none⟩ = some (u234000) := (uI BK233.out 0).trans rfl; have hcz22_1 : w17.cell? ⟨gb233, 1, none⟩ = some (u234001) := (uI BK233.out 1).trans rfl; have hfz22_0 := uK BK233.out 0; have hfz22_1 := uK BK233.out 1; obtain ⟨Ao23, co23, eo23⟩ := Kd.vN HO_234000.out; subst eo23; obtain ⟨Ao24, co24, eo24⟩ := Kd.vN HO_234001.out; subst eo24) | ((with_reducible refine uX (f := 12) rfl ?_); refine vM (some 22) rfl rfl Try.func12 (by kernel_rfl) rfl #[.agg #[.slice Ao23 x234000_1.length co23, .slice Ao24 x234001_1.length co24], .agg #[.int .i64 ((rd_T72 l0 x14_1).f1.f0), .int .i64 ((rd_T72 l0 x14_1).f1.f1), .int .i64 ((rd_T72 l0 x14_1).f1.f2), .int .i64 ((rd_T72 l0 x14_1).f1.f3), .int .i64 ((rd_T72 l0 x14_1).f1.f4), .int .i64 ((rd_T72 l0 x14_1).f1.f5)]] rfl (by (try simp only [vX, List.map_cons, List.map_nil]); first | done | rfl | (simp only [vZ, vY]; rfl)) ?_; (with_reducible refine (impl_ApplyOp.calls k1 _ _ x234000_1 _ _ x234001_1 ((rd_T72 l0 x14_1).f1.f0) ((rd_T72 l0 x14_1).f1.f1) ((rd_T72 l0 x14_1).f1.f2) ((rd_T72 l0 x14_1).f1.f3) ((rd_T72 l0 x14_1).f1.f4) ((rd_T72 l0 x14_1).f1.f5) t236 t239 t242 t243 t244 _ ?side1 ?side2 ?side3 ?side4 A16.out).mono ?_); (case side1 => refine (Kd.vH (e := 3) (base := w.heap.size) (ok := fun k_ => True) (n := x234000_1.length) (c := co23) ?_).2.2; exact (by (with_reducible repeat (first | apply Kd.uN | apply Kd.uO | apply Kd.uP)); exact (Kd.uZ (Kd.vG (p := ⟨gb235, 6, none⟩) (Kd.vG (p := ⟨gb235, 5, none⟩) (Kd.vG (p := ⟨gb235, 4, none⟩) (Kd.vG (p := ⟨gb235, 3, none⟩) (Kd.vG (p := ⟨gb235, 2, none⟩) (Kd.vG (p := ⟨gb235, 1, none⟩) (Kd.vG (p := ⟨gb235, 0, none⟩) (Kd.vR HO_234000.out BK235.out (by decide)) (fun _ hk => hk.2) (.int .i64 ((rd_T72 l0 x14_1).f0))) (fun _ hk => hk.2) (.int .i64 ((rd_T72 l0 x14_1).f1.f0))) (fun _ hk => hk.2) (.int .i64 ((rd_T72 l0 x14_1).f1.f1))) (fun _ hk => hk.2) (.int .i64 ((rd_T72 l0 x14_1).f1.f2))) (fun _ hk => hk.2) (.int .i64 ((rd_T72 l0 x14_1).f1.f3))) (fun _ hk => hk.2) (.int .i64 ((rd_T72 l0 x14_1).f1.f4))) (fun _ hk => hk.2) (.int .i64 ((rd_T72 l0 x14_1).f1.f5))) (fun _ h_ => h_.1)))); (case side2 => exact (Kd.vH HO_234000.out).2.1); (case side3 => refine (Kd.vH (e := 49) (base := w.heap.size) (ok := fun k_ => True) (n := x234001_1.length) (c := co24) ?_).2.2; exact (by (with_reducible repeat (first | apply Kd.uN | apply Kd.uO | apply Kd.uP)); exact (Kd.uZ (Kd.vG (p := ⟨gb235, 6, none⟩) (Kd.vG (p := ⟨gb235, 5, none⟩) (Kd.vG (p := ⟨gb235, 4, none⟩) (Kd.vG (p := ⟨gb235, 3, none⟩) (Kd.vG (p := ⟨gb235, 2, none⟩) (Kd.vG (p := ⟨gb235, 1, none⟩) (Kd.vG (p := ⟨gb235, 0, none⟩) (Kd.vR HO_234001.out BK235.out (by decide)) (fun _ hk => hk.2) (.int .i64 ((rd_T72 l0 x14_1).f0))) (fun _ hk => hk.2) (.int .i64 ((rd_T72 l0 x14_1).f1.f0))) (fun _ hk => hk.2) (.int .i64 ((rd_T72 l0 x14_1).f1.f1))) (fun _ hk => hk.2) (.int .i64 ((rd_T72 l0 x14_1).f1.f2))) (fun _ hk => hk.2) (.int .i64 ((rd_T72 l0 x14_1).f1.f3))) (fun _ hk => hk.2) (.int .i64 ((rd_T72 l0 x14_1).f1.f4))) (fun _ hk => hk.2) (.int .i64 ((rd_T72 l0 x14_1).f1.f5))) (fun _ h_ => h_.1)))); (case side4 => exact (Kd.vH HO_234001.out).2.1); rintro e w25 ⟨v237, v240, rfl, ho0, ho1, hb⟩; refine ⟨_, rfl, ?_⟩; have n0_ := Aside0.mk (Kd.R_elder' (by (with_reducible repeat (first | apply Kd.uN | apply Kd.uO | apply Kd.uP)); exact (Kd.uZ (Kd.vG (p := ⟨gb235, 6, none⟩) (Kd.vG (p := ⟨gb235, 5, none⟩) (Kd.vG (p := ⟨gb235, 4, none⟩) (Kd.vG (p := ⟨gb235, 3, none⟩) (Kd.vG (p := ⟨gb235, 2, none⟩) (Kd.vG (p := ⟨gb235, 1, none⟩) (Kd.vG (p := ⟨gb235, 0, none⟩) (Kd.vR HO_234000.out BK235.out (by decide)) (fun _ hk => hk.2) (.int .i64 ((rd_T72 l0 x14_1).f0))) (fun _ hk => hk.2) (.int .i64 ((rd_T72 l0 x14_1).f1.f0))) (fun _ hk => hk.2) (.int .i64 ((rd_T72 l0 x14_1).f1.f1))) (fun _ hk => hk.2) (.int .i64 ((rd_T72 l0 x14_1).f1.f2))) (fun _ hk => hk.2) (.int .i64 ((rd_T72 l0 x14_1).f1.f3))) (fun _ hk => hk.2) (.int .i64 ((rd_T72 l0 x14_1).f1.f4))) (fun _ hk => hk.2) (.int .i64 ((rd_T72 l0 x14_1).f1.f5))) (fun _ h_ => h_.1))) (Kd.R_base ho0) hb); have n1_ := Aside0.mk (Kd.R_elder' (by (with_reducible repeat (first | apply Kd.uN | apply Kd.uO | apply Kd.uP)); exact (Kd.uZ (Kd.vG (p := ⟨gb235, 6, none⟩) (Kd.vG (p := ⟨gb235, 5, none⟩) (Kd.vG (p := ⟨gb235, 4, none⟩) (Kd.vG (p := ⟨gb235, 3, none⟩) (Kd.vG (p := ⟨gb235, 2, none⟩) (Kd.vG (p := ⟨gb235, 1, none⟩) (Kd.vG (p := ⟨gb235, 0, none⟩) (Kd.vR HO_234001.out BK235.out (by decide)) (fun _ hk => hk.2) (.int .i64 ((rd_T72 l0 x14_1).f0))) (fun _ hk => hk.2) (.int .i64 ((rd_T72 l0 x14_1).f1.f0))) (fun _ hk => hk.2) (.int .i64 ((rd_T72 l0 x14_1).f1.f1))) (fun _ hk => hk.2) (.int .i64 ((rd_T72 l0 x14_1).f1.f2))) (fun _ hk => hk.2) (.int .i64 ((rd_T72 l0 x14_1).f1.f3))) (fun _ hk => hk.2) (.int .i64 ((rd_T72 l0 x14_1).f1.f4))) (fun _ hk => hk.2) (.int .i64 ((rd_T72 l0 x14_1).f1.f5))) (fun _ h_ => h_.1))) (Kd.R_base ho1) hb); have n2_ := Aside0.mk (Kd.vO (Kd.R_new' ho0 (Kd.R_lt (by (with_reducible repeat (first | apply Kd.uN | apply Kd.uO | apply Kd.uP)); exact (Kd.uZ (Kd.vG (p := ⟨gb235, 6, none⟩) (Kd.vG (p := ⟨gb235, 5, none⟩) (Kd.vG (p := ⟨gb235, 4, none⟩) (Kd.vG (p := ⟨gb235, 3, none⟩) (Kd.vG (p := ⟨gb235, 2, none⟩) (Kd.vG (p := ⟨gb235, 1, none⟩) (Kd.vG (p := ⟨gb235, 0, none⟩) (Kd.vR HO_234000.out BK235.out (by decide)) (fun _ hk => hk.2) (.int .i64 ((rd_T72 l0 x14_1).f0))) (fun _ hk => hk.2) (.int .i64 ((rd_T72 l0 x14_1).f1.f0))) (fun _ hk => hk.2) (.int .i64 ((rd_T72 l0 x14_1).f1.f1))) (fun _ hk => hk.2) (.int .i64 ((rd_T72 l0 x14_1).f1.f2))) (fun _ hk => hk.2) (.int .i64 ((rd_T72 l0 x14_1).f1.f3))) (fun _ hk => hk.2) (.int .i64 ((rd_T72 l0 x14_1).f1.f4))) (fun _ hk => hk.2) (.int .i64 ((rd_T72 l0 x14_1).f1.f5))) (fun _ h_ => h_.1))))) (uQ (by repeat (first | (with_reducible first | exact HB.out | apply uG | apply uA | apply uF | refine uB ?_ GE225.out | refine uB ?_ GE233.out | refine uB ?_ GE235.out) | exact HB.out)))); have n3_ := Aside0.mk (Kd.vO (Kd.R_new' ho1 (Kd.R_lt (by (with_reducible repeat (first | apply Kd.uN | apply Kd.uO | apply Kd.uP)); exact (Kd.uZ (Kd.vG (p := ⟨gb235, 6, none⟩) (Kd.vG (p := ⟨gb235, 5, none⟩) (Kd.vG (p := ⟨gb235, 4, none⟩) (Kd.vG (p := ⟨gb235, 3, none⟩) (Kd.vG (p := ⟨gb235, 2, none⟩) (Kd.vG (p := ⟨gb235, 1, none⟩) (Kd.vG (p := ⟨gb235, 0, none⟩) (Kd.vR HO_234001.out BK235.out (by decide)) (fun _ hk => hk.2) (.int .i64 ((rd_T72 l0 x14_1).f0))) (fun _ hk => hk.2) (.int .i64 ((rd_T72 l0 x14_1).f1.f0))) (fun _ hk => hk.2) (.int .i64 ((rd_T72 l0 x14_1).f1.f1))) (fun _ hk => hk.2) (.int .i64 ((rd_T72 l0 x14_1).f1.f2))) (fun _ hk => hk.2) (.int .i64 ((rd_T72 l0 x14_1).f1.f3))) (fun _ hk => hk.2) (.int .i64 ((rd_T72 l0 x14_1).f1.f4))) (fun _ hk => hk.2) (.int .i64 ((rd_T72 l0 x14_1).f1.f5))) (fun _ h_ => h_.1))))) (uQ (by repeat (first | (with_reducible first | exact HB.out | apply uG | apply uA | apply uF | refine uB ?_ GE225.out | refine uB ?_ GE233.out | refine uB ?_ GE235.out) | exact HB.out)))); have n4_ := Aside0.mk (uR (g := gb225) (o := .cells #[.slice none 0 0, .slice none 0 0] 31 (0, 0)) (by (with_reducible repeat (first | refine uC ?_ _ | refine uE ?_ | refine uD ?_ _)); refine vF ?_ NB225_235.out _; (with_reducible repeat (first | refine uC ?_ _ | refine uE ?_ | refine uD ?_ _)); refine vF ?_ NB225_235.out _; (with_reducible repeat (first | refine uC ?_ _ | refine uE ?_ | refine uD ?_ _)); refine vF ?_ NB225_235.out _; (with_reducible repeat (first | refine uC ?_ _ | refine uE ?_ | refine uD ?_ _)); refine vF ?_ NB225_235.out _; (with_reducible repeat (first | refine uC ?_ _ | refine uE ?_ | refine uD ?_ _)); refine vF ?_ NB225_235.out _; (with_reducible repeat (first | refine uC ?_ _ | refine uE ?_ | refine uD ?_ _)); refine vF ?_ NB225_235.out _; (with_reducible repeat (first | refine uC ?_ _ | refine uE ?_ | refine uD ?_ _)); refine vF ?_ NB225_235.out _; (with_reducible repeat (first | refine uC ?_ _ | refine uE ?_ | refine uD ?_ _)); exact BK225.out) hb); have n5_ := Aside0.mk (uR (g := gb233) (o := .cells #[.slice Ao23 x234000_1.length co23, .slice Ao24 x234001_1.length co24] 31 (0, 0)) (by (with_reducible repeat (first | refine uC ?_ _ | refine uE ?_ | refine uD ?_ _)); refine vF ?_ NB233_235.out _; (with_reducible repeat (first | refine uC ?_ _ | refine uE ?_ | refine uD ?_ _)); refine vF ?_ NB233_235.out _; (with_reducible repeat (first | refine uC ?_ _ | refine uE ?_ | refine uD ?_ _)); refine vF ?_ NB233_235.out _; (with_reducible repeat (first | refine uC ?_ _ | refine uE ?_ | refine uD ?_ _)); refine vF ?_ NB233_235.out _; (with_reducible repeat (first | refine uC ?_ _ | refine uE ?_ | refine uD ?_ _)); refine vF ?_ NB233_235.out _; (with_reducible repeat (first | refine uC ?_ _ | refine uE ?_ | refine uD ?_ _)); refine vF ?_ NB233_235.out _; (with_reducible repeat (first | refine uC ?_ _ | refine uE ?_ | refine uD ?_ _)); refine vF ?_ NB233_235.out _; (with_reducible repeat (first | refine uC ?_ _ | refine uE ?_ | refine uD ?_ _)); exact BK233.out) hb); have n6_ := Aside0.mk (uR (g := gb235) (o := .cells #[.int .i64 ((rd_T72 l0 x14_1).f0), .int .i64 ((rd_T72 l0 x14_1).f1.f0), .int .i64 ((rd_T72 l0 x14_1).f1.f1), .int .i64 ((rd_T72 l0 x14_1).f1.f2), .int .i64 ((rd_T72 l0 x14_1).f1.f3), .int .i64 ((rd_T72 l0 x14_1).f1.f4), .int .i64 ((rd_T72 l0 x14_1).f1.f5)] 72 (0, 0)) (by (with_reducible repeat (first | refine uC ?_ _ | refine uE ?_ | refine uD ?_ _)); refine uW (cs := #[.int .i64 ((rd_T72 l0 x14_1).f0), .int .i64 ((rd_T72 l0 x14_1).f1.f0), .int .i64 ((rd_T72 l0 x14_1).f1.f1), .int .i64 ((rd_T72 l0 x14_1).f1.f2), .int .i64 ((rd_T72 l0 x14_1).f1.f3), .int .i64 ((rd_T72 l0 x14_1).f1.f4), .int .i64 0]) ?_ 6 _ rfl; (with_reducible repeat (first | refine uC ?_ _ | refine uE ?_ | refine uD ?_ _)); refine uW (cs := #[.int .i64 ((rd_T72 l0 x14_1).f0), .int .i64 ((rd_T72 l0 x14_1).f1.f0), .int .i64 ((rd_T72 l0 x14_1).f1.f1), .int .i64 ((rd_T72 l0 x14_1).f1.f2), .int .i64 ((rd_T72 l0 x14_1).f1.f3), .int .i64 0, .int .i64 0]) ?_ 5 _ rfl; (with_reducible repeat (first | refine uC ?_ _ | refine uE ?_ | refine uD ?_ _)); refine uW (cs := #[.int .i64 ((rd_T72 l0 x14_1).f0), .int .i64 ((rd_T72 l0 x14_1).f1.f0), .int .i64 ((rd_T72 l0 x14_1).f1.f1), .int .i64 ((rd_T72 l0 x14_1).f1.f2), .int .i64 0, .int .i64 0, .int .i64 0]) ?_ 4 _ rfl; (with_reducible repeat (first | refine uC ?_ _ | refine uE ?_ | refine uD ?_ _)); refine uW (cs := #[.int .i64 ((rd_T72 l0 x14_1).f0), .int .i64 ((rd_T72 l0 x14_1).f1.f0), .int .i64 ((rd_T72 l0 x14_1).f1.f1), .int .i64 0, .int .i64 0, .int .i64 0, .int .i64 0]) ?_ 3 _ rfl; (with_reducible repeat (first | refine uC ?_ _ | refine uE ?_ | refine uD ?_ _)); refine uW (cs := #[.int .i64 ((rd_T72 l0 x14_1).f0), .int .i64 ((rd_T72 l0 x14_1).f1.f0), .int .i64 0, .int .i64 0, .int .i64 0, .int .i64 0, .int .i64 0]) ?_ 2 _ rfl; (with_reducible repeat (first | refine uC ?_ _ | refine uE ?_ | refine uD ?_ _)); refine uW (cs := #[.int .i64 ((rd_T72 l0 x14_1).f0), .int .i64 0, .int .i64 0, .int .i64 0, .int .i64 0, .int .i64 0, .int .i64 0]) ?_ 1 _ rfl; (with_reducible repeat (first | refine uC ?_ _ | refine uE ?_ | refine uD ?_ _)); refine uW (cs := #[.int .i64 0, .int .i64 0, .int .i64 0, .int .i64 0, .int .i64 0, .int .i64 0, .int .i64 0]) ?_ 0 _ rfl; (with_reducible repeat (first | refine uC ?_ _ | refine uE ?_ | refine uD ?_ _)); exact BK235.out) hb); have n7_ := Aside0.mk (uS (by repeat (first | (with_reducible first | exact HB.out | apply uG | apply uA | apply uF | refine uB ?_ GE225.out | refine uB ?_ GE233.out | refine uB ?_ GE235.out) | exact HB.out)) hb); clear HO_234000; clear HO_234001; clear BK225; clear BK233; clear BK235; clear HB; have HO_234000 := n0_; have HO_234001 := n1_; have HO238 := n2_; have HO241 := n3_; have BK225 := n4_; have BK233 := n5_; have BK235 := n6_; have HB := n7_; clear n0_ n1_ n2_ n3_ n4_ n5_ n6_ n7_; (try clear hb); (try clear hb2); (try clear hk); (try clear hi); (try clear ho0); (try clear ho1); obtain ⟨Ao26, co26, eo26⟩ := Kd.vN HO238.out; subst eo26; have hcz27_0 : w25.cell? ⟨gb233, 0, none⟩ = some (.slice Ao23 x234000_1.length co23) := (uI BK233.out 0).trans rfl; have hcz27_1 : w25.cell? ⟨gb233, 1, none⟩ = some (.slice Ao24 x234001_1.length co24) := (uI BK233.out 1).trans rfl; have hfz27_0 := uK BK233.out 0; have hfz27_1 := uK BK233.out 1; obtain ⟨Ao28, co28, eo28⟩ := Kd.vN HO241.out; subst eo28))
      go_roundg k1
      case measure => have := HK1.out; omega
      case rel => exact ⟨(wrap64 (x14_1 + 1)), (t236), (t239), (.slice Ao26 t236.length co26), (.slice Ao28 t239.length co28), (by first | rfl | (simp; done) | (simp [*]; done)), H', ⟨by have := HK1.out; omega⟩, ⟨by (with_reducible repeat (first | apply Kd.uN | apply Kd.uO | apply Kd.uP)); exact Kd.uZ (Kd.vG (p := ⟨gb233, 1, none⟩) (Kd.vG (p := ⟨gb233, 0, none⟩) (Kd.vR HO238.out BK233.out (by decide)) (fun _ hk => hk.2) (.slice Ao26 t236.length co26)) (fun _ hk => hk.2) (.slice Ao28 t239.length co28)) (fun _ hk => trivial)⟩, ⟨by (with_reducible repeat (first | apply Kd.uN | apply Kd.uO | apply Kd.uP)); exact Kd.uZ (Kd.vG (p := ⟨gb233, 1, none⟩) (Kd.vG (p := ⟨gb233, 0, none⟩) (Kd.vR HO241.out BK233.out (by decide)) (fun _ hk => hk.2) (.slice Ao26 t236.length co26)) (fun _ hk => hk.2) (.slice Ao28 t239.length co28)) (fun _ hk => trivial)⟩, ⟨by (with_reducible repeat (first | refine uC ?_ _ | refine uE ?_ | refine uD ?_ _)); refine vF ?_ NB225_233.out _; (with_reducible repeat (first | refine uC ?_ _ | refine uE ?_ | refine uD ?_ _)); refine vF ?_ NB225_233.out _; (with_reducible repeat (first | refine uC ?_ _ | refine uE ?_ | refine uD ?_ _)); exact BK225.out⟩, ⟨by (with_reducible repeat (first | refine uC ?_ _ | refine uE ?_ | refine uD ?_ _)); refine uW (cs := #[.slice Ao26 t236.length co26, .slice Ao24 x234001_1.length co24]) ?_ 1 _ rfl; (with_reducible repeat (first | refine uC ?_ _ | refine uE ?_ | refine uD ?_ _)); refine uW (cs := #[.slice Ao23 x234000_1.length co23, .slice Ao24 x234001_1.length co24]) ?_ 0 _ rfl; (with_reducible repeat (first | refine uC ?_ _ | refine uE ?_ | refine uD ?_ _)); exact BK233.out⟩, ⟨by repeat (first | (with_reducible first | exact HB.out | apply uG | apply uA | apply uF | refine uB ?_ GE225.out | refine uB ?_ GE233.out | refine uB ?_ GE235.out) | exact HB.out)⟩⟩

end Go.Proofs.Ytcikahnmiiichaa.T
