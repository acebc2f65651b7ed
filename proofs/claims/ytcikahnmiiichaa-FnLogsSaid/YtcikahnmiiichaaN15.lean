/- Go functions as Lean functions, and the proof that the code comes to them: written by a program of this session out of the translation. -/
import Derived.Test.YtcikahnmiiichaaN0
import Derived.Test.YtcikahnmiiichaaN11
import Derived.Test.YtcikahnmiiichaaN13
import Derived.Test.YtcikahnmiiichaaN14
namespace Go.Proofs.Ytcikahnmiiichaa.N
open List renaming setIfInBounds_toArray → yA, set_cons_zero → yB, set_cons_succ → yC, map_toArray → yD
open Go.World renaming block_lt_of_cell? → yG
open Go.RowKit Go.Proofs.YtcikahnmiiichaaW.PrintWords Go.Proofs.YtcikahnmiiichaaW.PrintLast Go.Proofs.YtcikahnmiiichaaW.PrintMore
attribute [local go_sem] max2_int min2_int max_two min_two vX vY max_four min_four   -- for this text's walks alone
set_option linter.unusedVariables false
set_option linter.unusedSimpArgs false

/-! ### impl_IsLog: function 41 -/
def bA_impl (n m : Nat) : Array Bool := ((List.range n).map fun i => m.testBit i).toArray
theorem impl_within.yes_ {a b c : Int} (h : b ≤ a ∧ a ≤ c) (w : World) : Calls Try.prog 65 #[.int .i64 a, .int .i64 b, .int .i64 c] w fun e w' => e = .returned (.bool true) ∧ Drawn0 w w' := impl_within.calls a b c true w (by unfold impl_within.f; first | (rw [if_pos (show a ≥ b from h.1), decide_eq_true h.2]) | simp [h.1, h.2])
theorem impl_within.no_ {a b c : Int} (h : ¬ (b ≤ a ∧ a ≤ c)) (w : World) : Calls Try.prog 65 #[.int .i64 a, .int .i64 b, .int .i64 c] w fun e w' => e = .returned (.bool false) ∧ Drawn0 w w' := impl_within.calls a b c false w (by
  unfold impl_within.f
  by_cases h1 : a ≥ b
  · first | (rw [if_pos h1, decide_eq_false (fun h2 => h ⟨h1, h2⟩)]) | (have h2 : ¬ a ≤ c := fun h2 => h ⟨h1, h2⟩; simp [h1, h2])
  · simp [h1])
def okE_impl (xs : List S72) (j : Nat) : Prop := (1 ≤ (rd_T72 xs (j : Int)).f0 ∧ (rd_T72 xs (j : Int)).f0 ≤ 20) ∧ impl_IsValidOp.f (rd_T72 xs (j : Int)).f1.f0 (rd_T72 xs (j : Int)).f1.f1 (rd_T72 xs (j : Int)).f1.f2 (rd_T72 xs (j : Int)).f1.f3 (rd_T72 xs (j : Int)).f1.f4 (rd_T72 xs (j : Int)).f1.f5 = some true ∧ (0 < j → (rd_T72 xs ((j : Int) - 1)).f0 ≤ (rd_T72 xs (j : Int)).f0)
instance okE_impl_dec (xs : List S72) (j : Nat) : Decidable (okE_impl xs j) := inferInstanceAs (Decidable (_ ∧ _ ∧ (_ → _)))
def vL_impl (xs : List S72) : Prop := xs.length ≤ 16 ∧ ∀ j, j < xs.length → okE_impl xs j
instance vL_impl_dec (xs : List S72) : Decidable (vL_impl xs) := inferInstanceAs (Decidable (_ ∧ ∀ j, j < _ → _))
theorem impl_bindT {A B : Type} {o : Option A} {g : A → Option B} (ho : ∃ b, o = some b) (hg : ∀ b, ∃ r, g b = some r) : ∃ r, o.bind g = some r := by
  obtain ⟨b, rfl⟩ := ho
  exact hg b
theorem impl_iteT {B : Type} {p : Prop} [Decidable p] {a b : Option B} (ha : ∃ r, a = some r) (hb : ∃ r, b = some r) : ∃ r, (if p then a else b) = some r := by
  split <;> assumption
theorem impl_IsValidOp.tot (a b c d e f : Int) : ∃ r, impl_IsValidOp.f a b c d e f = some r := by
  unfold impl_IsValidOp.f impl_within.f
  repeat' (first | exact ⟨_, rfl⟩ | refine impl_iteT ?_ ?_ | refine impl_bindT ?_ (fun _ => ?_))
def impl_IsLog.f (k : Nat) (l0 : List S72) : Option Bool := some (decide (vL_impl l0))
theorem impl_IsLog.mono : ∀ a0 k, uI (impl_IsLog.f k a0) (impl_IsLog.f (k + 1) a0) := fun _ _ => uI.refl _
set_option maxHeartbeats 8000000 in
set_option maxRecDepth 100000 in
theorem impl_IsLog.calls (k : Nat) (A0 : Option Addr) (c0 : Nat) (l0 : List (S72)) (r : Bool) (w : World) (hr0 : Kd.C k72 w A0 l0.length l0) (hc0 : l0.length ≤ c0) (h : impl_IsLog.f k l0 = some r) :
    Calls Try.prog 41 #[.slice A0 l0.length c0] w fun e w' => e = .returned (.bool r) ∧ Below w.heap.size w w' := by
  obtain rfl := Option.some.inj h
  clear h
  have HR0 := Aside0.mk hr0
  have HL1 := Aside0.mk hr0.2.1
  have HC0 := Aside0.mk hc0
  clear hr0 hc0
  generalize hV : decide (vL_impl l0) = V
  have HV := Aside0.mk hV
  clear hV
  have HB := Aside0.mk (Below.refl w.heap.size w)
  go_enter Try.func41, Try.ntmps41
  go_wp2
  go_loopg [7] l0.length (fun gg s wr => ∃ kk : Nat, s = .int .i64 kk ∧ Aside0 (kk ≤ l0.length ∧ l0.length - kk ≤ gg) ∧ Aside0 (Below w.heap.size w wr) ∧ Aside0 (∀ j, j < kk → okE_impl l0 j))
  case atStart => exact ⟨0, rfl, ⟨by omega, by omega⟩, HB, ⟨fun j hj => by omega⟩⟩
  case round =>
    clear HB
    obtain ⟨kk, rfl, HK, HB, HA⟩ := hrel
    have hkz : (0 : Int) ≤ (kk : Int) := by omega
    by_cases hlt : (kk : Int) < (l0.length : Int)
    · obtain ⟨ad2, e2, hx_0, hx_1, hx_2, hx_3, hx_4, hx_5, hx_6⟩ := at_T72 HR0.out (kk : Int) hkz hlt
      subst e2
      simp only [Int.toNat_natCast] at hx_0 hx_1 hx_2 hx_3 hx_4 hx_5 hx_6
      replace hx_0 := (HB.out.cell (yG w _ hx_0)).trans hx_0
      replace hx_1 := (HB.out.cell (yG w _ hx_1)).trans hx_1
      replace hx_2 := (HB.out.cell (yG w _ hx_2)).trans hx_2
      replace hx_3 := (HB.out.cell (yG w _ hx_3)).trans hx_3
      replace hx_4 := (HB.out.cell (yG w _ hx_4)).trans hx_4
      replace hx_5 := (HB.out.cell (yG w _ hx_5)).trans hx_5
      replace hx_6 := (HB.out.cell (yG w _ hx_6)).trans hx_6
      have hltb := eq_true hlt
      have hkzb := eq_true hkz
      have hnot : ∀ (p : Prop), (okE_impl l0 kk → p) → ¬ p → V = false := fun p h hp => by rw [← HV.out]; exact decide_eq_false (fun h2 => hp (h (h2.2 kk (by omega))))
      have HNO := Aside0.mk hnot
      clear hnot
      have e1 : wrap64 ((kk : Int) - 1) = (kk : Int) - 1 := by have := HL1.out; unfold wrap64; omega
      have e1b := vQ ((kk : Int) - 1)
      rw [e1] at e1b
      go_wp2_with (first
        | ((with_reducible refine uJ (N := 4) rfl ?_); refine uW ?hg (N := 4) ?hd (cs := #[.int .i64 0, .int .i64 0, .int .i64 0, .int .i64 0, .int .i64 0, .int .i64 0, .int .i64 0]) (t := 72) ?hr ?_; (case hd => rfl); (case hg => rfl); (case hr => first | (go_simp; done) | (go_simp; rfl)); intro gS hg wS hbox hb; have BS := Aside0.mk hbox; have HB1 := Aside0.mk (below_step HB.out hb); have GS := Aside0.mk (show w.heap.size ≤ gS by rw [hg]; exact HB.out.size); clear hbox hb hg HB hx_0 hx_1 hx_2 hx_3 hx_4 hx_5 hx_6; have HB := HB1; clear HB1; have hcS_0 : wS.cell? ⟨gS, 0, none⟩ = some (.int .i64 0) := (uB BS.out 0).trans rfl; have hfS_0 := vK BS.out 0; have hcS_1 : wS.cell? ⟨gS, 1, none⟩ = some (.int .i64 0) := (uB BS.out 1).trans rfl; have hfS_1 := vK BS.out 1; have hcS_2 : wS.cell? ⟨gS, 2, none⟩ = some (.int .i64 0) := (uB BS.out 2).trans rfl; have hfS_2 := vK BS.out 2; have hcS_3 : wS.cell? ⟨gS, 3, none⟩ = some (.int .i64 0) := (uB BS.out 3).trans rfl; have hfS_3 := vK BS.out 3; have hcS_4 : wS.cell? ⟨gS, 4, none⟩ = some (.int .i64 0) := (uB BS.out 4).trans rfl; have hfS_4 := vK BS.out 4; have hcS_5 : wS.cell? ⟨gS, 5, none⟩ = some (.int .i64 0) := (uB BS.out 5).trans rfl; have hfS_5 := vK BS.out 5; have hcS_6 : wS.cell? ⟨gS, 6, none⟩ = some (.int .i64 0) := (uB BS.out 6).trans rfl; have hfS_6 := vK BS.out 6)
        | ((with_reducible refine vF (t := 72) (p := 4) rfl ?_); refine vD (t := 72) (p := 4) (v := ?vo_1) (w1 := (((((((wS.setCell ⟨gS, 0, none⟩ (.int .i64 (rd_T72 l0 (kk : Int)).f0)).setCell ⟨gS, 1, none⟩ (.int .i64 (rd_T72 l0 (kk : Int)).f1.f0)).setCell ⟨gS, 2, none⟩ (.int .i64 (rd_T72 l0 (kk : Int)).f1.f1)).setCell ⟨gS, 3, none⟩ (.int .i64 (rd_T72 l0 (kk : Int)).f1.f2)).setCell ⟨gS, 4, none⟩ (.int .i64 (rd_T72 l0 (kk : Int)).f1.f3)).setCell ⟨gS, 5, none⟩ (.int .i64 (rd_T72 l0 (kk : Int)).f1.f4)).setCell ⟨gS, 6, none⟩ (.int .i64 (rd_T72 l0 (kk : Int)).f1.f5))) ?hg ?ho ?hn ?hr ?_; (case ho => rfl); (case hg => rfl); (case hn => rfl); (case hr => first | (go_simp; done) | (go_simp; rfl)); intro wG hw_; clear hcS_0 hfS_0 hcS_1 hfS_1 hcS_2 hfS_2 hcS_3 hfS_3 hcS_4 hfS_4 hcS_5 hfS_5 hcS_6 hfS_6; have BS1 := Aside0.mk (show wG.heap[gS]? = some (.cells #[.int .i64 (rd_T72 l0 (kk : Int)).f0, .int .i64 (rd_T72 l0 (kk : Int)).f1.f0, .int .i64 (rd_T72 l0 (kk : Int)).f1.f1, .int .i64 (rd_T72 l0 (kk : Int)).f1.f2, .int .i64 (rd_T72 l0 (kk : Int)).f1.f3, .int .i64 (rd_T72 l0 (kk : Int)).f1.f4, .int .i64 (rd_T72 l0 (kk : Int)).f1.f5] 72 (0, 0)) from hw_ ▸ (uL (uL (uL (uL (uL (uL (uL BS.out 0 _ rfl) 1 _ rfl) 2 _ rfl) 3 _ rfl) 4 _ rfl) 5 _ rfl) 6 _ rfl)); have HB1 := Aside0.mk (show Below w.heap.size w wG from hw_ ▸ (below_set (below_set (below_set (below_set (below_set (below_set (below_set HB.out GS.out) GS.out) GS.out) GS.out) GS.out) GS.out) GS.out)); clear hw_ BS HB; have BS := BS1; have HB := HB1; clear BS1 HB1))
      obtain ⟨pv, HPV2⟩ : ∃ pv : Int, Aside0 (0 < kk → wG.cell? (ad2.add ((kk - 1) * 7)) = some (.int .i64 pv) ∧ pv = (rd_T72 l0 ((kk : Int) - 1)).f0) := by
        by_cases h0 : 0 < kk
        · obtain ⟨ad3, e3, hy, _⟩ := at_T72 HR0.out ((kk : Int) - 1) (by omega) (by omega)
          cases e3
          rw [show ((kk : Int) - 1).toNat = kk - 1 by omega] at hy
          exact ⟨_, ⟨fun _ => ⟨(HB.out.cell (yG w _ hy)).trans hy, rfl⟩⟩⟩
        · exact ⟨0, ⟨fun h => absurd h h0⟩⟩
      refine start_ (n := 25) (S := fun w' => w'.cell? ⟨gS, 0, none⟩ = some (.int .i64 (rd_T72 l0 (kk : Int)).f0) ∧ w'.cell? ⟨gS, 1, none⟩ = some (.int .i64 (rd_T72 l0 (kk : Int)).f1.f0) ∧ w'.cell? ⟨gS, 2, none⟩ = some (.int .i64 (rd_T72 l0 (kk : Int)).f1.f1) ∧ w'.cell? ⟨gS, 3, none⟩ = some (.int .i64 (rd_T72 l0 (kk : Int)).f1.f2) ∧ w'.cell? ⟨gS, 4, none⟩ = some (.int .i64 (rd_T72 l0 (kk : Int)).f1.f3) ∧ w'.cell? ⟨gS, 5, none⟩ = some (.int .i64 (rd_T72 l0 (kk : Int)).f1.f4) ∧ w'.cell? ⟨gS, 6, none⟩ = some (.int .i64 (rd_T72 l0 (kk : Int)).f1.f5) ∧ (0 < kk → w'.cell? (ad2.add ((kk - 1) * 7)) = some (.int .i64 pv))) (ds := []) (bA_impl 25 0) (by kernel_rfl) rfl rfl ⟨(uB BS.out 0).trans rfl, (uB BS.out 1).trans rfl, (uB BS.out 2).trans rfl, (uB BS.out 3).trans rfl, (uB BS.out 4).trans rfl, (uB BS.out 5).trans rfl, (uB BS.out 6).trans rfl, fun h => (HPV2.out h).1⟩ (fun hHeld => ?_)
      have HB1 := Aside0.mk (vM HB.out)
      clear HB
      have HB := HB1
      clear HB1
      refine uG 0 (some 12) (bA_impl 25 1) ?_
      refine take_ (i := 1) (N := some 13) (v := ?_) (a' := ?_) (bA_impl 25 3) rfl rfl (by kernel_rfl) (fun _ _ _ h => h) (Or.inl ⟨by rfl, ?_⟩) hHeld ?_ ?_
      rotate_left
      · rintro w' ⟨s0, s1, s2, s3, s4, s5, s6, s7⟩; clear s7; go_simp; with_reducible rfl
      rotate_left
      · simp only [Act.put, yA, yB, yC, vQ, vU]; rfl
      by_cases h1 : 1 ≤ (rd_T72 l0 (kk : Int)).f0 ∧ (rd_T72 l0 (kk : Int)).f0 ≤ 20
      · refine one_ (i := 2) (N := some 14) (bA_impl 25 7) rfl rfl (by kernel_rfl) (by decide) (fun K hK => ?_)
        refine goesT Try.func65 #[.int .i64 (rd_T72 l0 (kk : Int)).f0, .int .i64 1, .int .i64 20] ?_
        refine (impl_within.yes_ h1 _).mono ?_
        rintro e w' ⟨rfl, ⟨nd2, rfl⟩⟩
        refine ⟨_, rfl, ?_⟩
        have HB1 := Aside0.mk (vH HB.out nd2)
        clear HB
        have HB := HB1
        clear HB1
        refine hK.out _ _ hHeld (fun hHeld => ?_)
        clear hK K
        refine vE (a' := ?_) ?_ ?_
        rotate_left
        · show Act.put _ (some 14) _ = _; simp only [Act.put, yA, yB, yC, vQ, vU]; rfl
        refine uG 3 (some 15) (bA_impl 25 15) ?_
        refine uG 4 (some 16) (bA_impl 25 31) ?_
        refine uG 5 (some 17) (bA_impl 25 63) ?_
        by_cases h0 : 0 < kk
        · have hp0 := eq_true (show (kk : Int) > 0 by omega)
          have hp3 := eq_true (show (0 : Int) < (kk : Int) by omega)
          have hp1 := eq_true (show (0 : Int) ≤ (kk : Int) - 1 by omega)
          have hp5 := eq_true (show (1 : Int) ≤ (kk : Int) by omega)
          have hp2 := eq_true (show (kk : Int) - 1 < (l0.length : Int) by omega)
          refine uG 6 (some 18) (bA_impl 25 127) ?_
          refine uG 7 (some 19) (bA_impl 25 255) ?_
          refine uG 8 (some 20) (bA_impl 25 511) ?_
          refine take_ (i := 9) (N := some 21) (v := ?_) (a' := ?_) (bA_impl 25 1023) rfl rfl (by kernel_rfl) (fun _ _ _ h => h) (Or.inl ⟨by rfl, ?_⟩) hHeld ?_ ?_
          rotate_left
          · rintro w' ⟨s0, s1, s2, s3, s4, s5, s6, s7⟩; clear s7; go_simp; with_reducible rfl
          rotate_left
          · simp only [Act.put, yA, yB, yC, vQ, vU]; rfl
          refine uG 10 (some 22) (bA_impl 25 2047) ?_
          refine uG 11 (some 23) (bA_impl 25 4095) ?_
          refine uG 12 (some 24) (bA_impl 25 8191) ?_
          refine uG 13 (some 25) (bA_impl 25 16383) ?_
          refine uG 14 (some 26) (bA_impl 25 32767) ?_
          refine take_ (i := 15) (N := some 27) (v := ?_) (a' := ?_) (bA_impl 25 65535) rfl rfl (by kernel_rfl) (fun _ _ _ h => h) (Or.inl ⟨by rfl, ?_⟩) hHeld ?_ ?_
          rotate_left
          · rintro w' ⟨s0, s1, s2, s3, s4, s5, s6, s7⟩; replace s7 := s7 h0; go_simp; with_reducible rfl
          rotate_left
          · simp only [Act.put, yA, yB, yC, vQ, vU]; rfl
          by_cases h4 : pv ≤ (rd_T72 l0 (kk : Int)).f0
          · have h4e := eq_false (show ¬ ((rd_T72 l0 (kk : Int)).f0 < pv) by omega)
            have h4d := decide_eq_false (show ¬ ((rd_T72 l0 (kk : Int)).f0 < pv) by omega)
            refine uG 16 (some 28) (bA_impl 25 131071) ?_
            refine uG 17 (some 29) (bA_impl 25 262143) ?_
            refine uG 18 (some 30) (bA_impl 25 524287) ?_
            refine uG 19 (some 31) (bA_impl 25 1048575) ?_
            refine uG 20 (some 32) (bA_impl 25 2097151) ?_
            refine take_ (i := 21) (N := some 33) (v := ?_) (a' := ?_) (bA_impl 25 4194303) rfl rfl (by kernel_rfl) (fun _ _ _ h => h) (Or.inl ⟨by rfl, ?_⟩) hHeld ?_ ?_
            rotate_left
            · rintro w' ⟨s0, s1, s2, s3, s4, s5, s6, s7⟩; clear s7; go_simp; with_reducible rfl
            rotate_left
            · simp only [Act.put, yA, yB, yC, vQ, vU]; rfl
            obtain ⟨vb, hv⟩ := impl_IsValidOp.tot (rd_T72 l0 (kk : Int)).f1.f0 (rd_T72 l0 (kk : Int)).f1.f1 (rd_T72 l0 (kk : Int)).f1.f2 (rd_T72 l0 (kk : Int)).f1.f3 (rd_T72 l0 (kk : Int)).f1.f4 (rd_T72 l0 (kk : Int)).f1.f5
            rcases Bool.eq_false_or_eq_true vb with rfl | rfl
            · refine one_ (i := 22) (N := some 34) (bA_impl 25 8388607) rfl rfl (by kernel_rfl) (by decide) (fun K hK => ?_)
              refine goesT Try.func50 #[.agg #[.int .i64 (rd_T72 l0 (kk : Int)).f1.f0, .int .i64 (rd_T72 l0 (kk : Int)).f1.f1, .int .i64 (rd_T72 l0 (kk : Int)).f1.f2, .int .i64 (rd_T72 l0 (kk : Int)).f1.f3, .int .i64 (rd_T72 l0 (kk : Int)).f1.f4, .int .i64 (rd_T72 l0 (kk : Int)).f1.f5]] ?_
              refine (impl_IsValidOp.calls (rd_T72 l0 (kk : Int)).f1.f0 (rd_T72 l0 (kk : Int)).f1.f1 (rd_T72 l0 (kk : Int)).f1.f2 (rd_T72 l0 (kk : Int)).f1.f3 (rd_T72 l0 (kk : Int)).f1.f4 (rd_T72 l0 (kk : Int)).f1.f5 true _ hv).mono ?_
              rintro e w' ⟨rfl, hb⟩
              refine ⟨_, rfl, ?_⟩
              have HB1 := Aside0.mk (below_step HB.out hb)
              clear HB
              have HB := HB1
              clear HB1
              obtain ⟨s0, s1, s2, s3, s4, s5, s6, s7⟩ := hHeld
              refine hK.out _ _ ⟨uT hb s0, uT hb s1, uT hb s2, uT hb s3, uT hb s4, uT hb s5, uT hb s6, fun h0 => uT hb (s7 h0)⟩ (fun hHeld => ?_)
              clear hK K hb s0 s1 s2 s3 s4 s5 s6 s7
              refine vE (a' := ?_) ?_ ?_
              rotate_left
              · show Act.put _ (some 34) _ = _; simp only [Act.put, yA, yB, yC, vQ, vU]; rfl
              refine uG 23 (some 35) (bA_impl 25 16777215) ?_
              refine uG 24 (some 36) (bA_impl 25 33554431) ?_
              refine done_ (by kernel_rfl) ?_
              go_wp2
              go_roundg (l0.length - (kk + 1))
              case measure => have := HK.out; omega
              case rel =>
                refine ⟨kk + 1, by first | (rw [show wrap64 ((kk : Int) + 1) = ((kk + 1 : Nat) : Int) by have := HL1.out; unfold wrap64; omega]) | rfl, ⟨by have := HK.out; omega, by have := HK.out; omega⟩, HB, ⟨fun j hj => ?_⟩⟩
                rcases Nat.lt_succ_iff_lt_or_eq.1 hj with hj | rfl
                · exact HA.out j hj
                · exact ⟨h1, hv, fun h => by first | exact absurd h h0 | (rw [← (HPV2.out h).2]; exact h4)⟩
            · refine one_ (i := 22) (N := some 34) (bA_impl 25 8388607) rfl rfl (by kernel_rfl) (by decide) (fun K hK => ?_)
              refine goesT Try.func50 #[.agg #[.int .i64 (rd_T72 l0 (kk : Int)).f1.f0, .int .i64 (rd_T72 l0 (kk : Int)).f1.f1, .int .i64 (rd_T72 l0 (kk : Int)).f1.f2, .int .i64 (rd_T72 l0 (kk : Int)).f1.f3, .int .i64 (rd_T72 l0 (kk : Int)).f1.f4, .int .i64 (rd_T72 l0 (kk : Int)).f1.f5]] ?_
              refine (impl_IsValidOp.calls (rd_T72 l0 (kk : Int)).f1.f0 (rd_T72 l0 (kk : Int)).f1.f1 (rd_T72 l0 (kk : Int)).f1.f2 (rd_T72 l0 (kk : Int)).f1.f3 (rd_T72 l0 (kk : Int)).f1.f4 (rd_T72 l0 (kk : Int)).f1.f5 false _ hv).mono ?_
              rintro e w' ⟨rfl, hb⟩
              refine ⟨_, rfl, ?_⟩
              have HB1 := Aside0.mk (below_step HB.out hb)
              clear HB
              have HB := HB1
              clear HB1
              obtain ⟨s0, s1, s2, s3, s4, s5, s6, s7⟩ := hHeld
              refine hK.out _ _ ⟨uT hb s0, uT hb s1, uT hb s2, uT hb s3, uT hb s4, uT hb s5, uT hb s6, fun h0 => uT hb (s7 h0)⟩ (fun hHeld => ?_)
              clear hK K hb s0 s1 s2 s3 s4 s5 s6 s7
              refine vE (a' := ?_) ?_ ?_
              rotate_left
              · show Act.put _ (some 34) _ = _; simp only [Act.put, yA, yB, yC, vQ, vU]; rfl
              refine uG 23 (some 35) (bA_impl 25 16777215) ?_
              refine uG 24 (some 36) (bA_impl 25 33554431) ?_
              refine done_ (by kernel_rfl) ?_
              go_wp2
              go_ret
              exact ⟨by rw [HNO.out (impl_IsValidOp.f (rd_T72 l0 (kk : Int)).f1.f0 (rd_T72 l0 (kk : Int)).f1.f1 (rd_T72 l0 (kk : Int)).f1.f2 (rd_T72 l0 (kk : Int)).f1.f3 (rd_T72 l0 (kk : Int)).f1.f4 (rd_T72 l0 (kk : Int)).f1.f5 = some true) (fun h => h.2.1) (by rw [hv]; simp)]; rfl, by first | exact HB.out | (rw [← World.drewN_drewN]; exact HB.out)⟩
          · have h4e := eq_true (show (rd_T72 l0 (kk : Int)).f0 < pv by omega)
            have h4d := decide_eq_true (show (rd_T72 l0 (kk : Int)).f0 < pv by omega)
            refine uG 16 (some 28) (bA_impl 25 131071) ?_
            refine uG 17 (some 29) (bA_impl 25 262143) ?_
            refine uG 18 (some 30) (bA_impl 25 524287) ?_
            refine uG 19 (some 31) (bA_impl 25 1048575) ?_
            refine uH 20 (some 32) (bA_impl 25 2097151) ?_
            refine uH 21 (some 33) (bA_impl 25 4194303) ?_
            refine uH 22 (some 34) (bA_impl 25 8388607) ?_
            refine uH 23 (some 35) (bA_impl 25 16777215) ?_
            refine uG 24 (some 36) (bA_impl 25 33554431) ?_
            refine done_ (by kernel_rfl) ?_
            go_wp2
            go_ret
            exact ⟨by rw [HNO.out (pv ≤ (rd_T72 l0 (kk : Int)).f0) (fun h => by rw [(HPV2.out h0).2]; exact h.2.2 h0) (by omega)]; rfl, by first | exact HB.out | (rw [← World.drewN_drewN]; exact HB.out)⟩
        · have hp0 := eq_false (show ¬ ((kk : Int) > 0) by omega)
          have hp3 := eq_false (show ¬ ((0 : Int) < (kk : Int)) by omega)
          refine uG 6 (some 18) (bA_impl 25 127) ?_
          refine uG 7 (some 19) (bA_impl 25 255) ?_
          refine uH 8 (some 20) (bA_impl 25 511) ?_
          refine uH 9 (some 21) (bA_impl 25 1023) ?_
          refine uH 10 (some 22) (bA_impl 25 2047) ?_
          refine uH 11 (some 23) (bA_impl 25 4095) ?_
          refine uH 12 (some 24) (bA_impl 25 8191) ?_
          refine uH 13 (some 25) (bA_impl 25 16383) ?_
          refine uH 14 (some 26) (bA_impl 25 32767) ?_
          refine uH 15 (some 27) (bA_impl 25 65535) ?_
          refine uH 16 (some 28) (bA_impl 25 131071) ?_
          refine uG 17 (some 29) (bA_impl 25 262143) ?_
          refine uG 18 (some 30) (bA_impl 25 524287) ?_
          refine uG 19 (some 31) (bA_impl 25 1048575) ?_
          refine uG 20 (some 32) (bA_impl 25 2097151) ?_
          refine take_ (i := 21) (N := some 33) (v := ?_) (a' := ?_) (bA_impl 25 4194303) rfl rfl (by kernel_rfl) (fun _ _ _ h => h) (Or.inl ⟨by rfl, ?_⟩) hHeld ?_ ?_
          rotate_left
          · rintro w' ⟨s0, s1, s2, s3, s4, s5, s6, s7⟩; clear s7; go_simp; with_reducible rfl
          rotate_left
          · simp only [Act.put, yA, yB, yC, vQ, vU]; rfl
          obtain ⟨vb, hv⟩ := impl_IsValidOp.tot (rd_T72 l0 (kk : Int)).f1.f0 (rd_T72 l0 (kk : Int)).f1.f1 (rd_T72 l0 (kk : Int)).f1.f2 (rd_T72 l0 (kk : Int)).f1.f3 (rd_T72 l0 (kk : Int)).f1.f4 (rd_T72 l0 (kk : Int)).f1.f5
          rcases Bool.eq_false_or_eq_true vb with rfl | rfl
          · refine one_ (i := 22) (N := some 34) (bA_impl 25 8388607) rfl rfl (by kernel_rfl) (by decide) (fun K hK => ?_)
            refine goesT Try.func50 #[.agg #[.int .i64 (rd_T72 l0 (kk : Int)).f1.f0, .int .i64 (rd_T72 l0 (kk : Int)).f1.f1, .int .i64 (rd_T72 l0 (kk : Int)).f1.f2, .int .i64 (rd_T72 l0 (kk : Int)).f1.f3, .int .i64 (rd_T72 l0 (kk : Int)).f1.f4, .int .i64 (rd_T72 l0 (kk : Int)).f1.f5]] ?_
            refine (impl_IsValidOp.calls (rd_T72 l0 (kk : Int)).f1.f0 (rd_T72 l0 (kk : Int)).f1.f1 (rd_T72 l0 (kk : Int)).f1.f2 (rd_T72 l0 (kk : Int)).f1.f3 (rd_T72 l0 (kk : Int)).f1.f4 (rd_T72 l0 (kk : Int)).f1.f5 true _ hv).mono ?_
            rintro e w' ⟨rfl, hb⟩
            refine ⟨_, rfl, ?_⟩
            have HB1 := Aside0.mk (below_step HB.out hb)
            clear HB
            have HB := HB1
            clear HB1
            obtain ⟨s0, s1, s2, s3, s4, s5, s6, s7⟩ := hHeld
            refine hK.out _ _ ⟨uT hb s0, uT hb s1, uT hb s2, uT hb s3, uT hb s4, uT hb s5, uT hb s6, fun h0 => uT hb (s7 h0)⟩ (fun hHeld => ?_)
            clear hK K hb s0 s1 s2 s3 s4 s5 s6 s7
            refine vE (a' := ?_) ?_ ?_
            rotate_left
            · show Act.put _ (some 34) _ = _; simp only [Act.put, yA, yB, yC, vQ, vU]; rfl
            refine uG 23 (some 35) (bA_impl 25 16777215) ?_
            refine uG 24 (some 36) (bA_impl 25 33554431) ?_
            refine done_ (by kernel_rfl) ?_
            go_wp2
            go_roundg (l0.length - (kk + 1))
            case measure => have := HK.out; omega
            case rel =>
              refine ⟨kk + 1, by first | (rw [show wrap64 ((kk : Int) + 1) = ((kk + 1 : Nat) : Int) by have := HL1.out; unfold wrap64; omega]) | rfl, ⟨by have := HK.out; omega, by have := HK.out; omega⟩, HB, ⟨fun j hj => ?_⟩⟩
              rcases Nat.lt_succ_iff_lt_or_eq.1 hj with hj | rfl
              · exact HA.out j hj
              · exact ⟨h1, hv, fun h => by first | exact absurd h h0 | (rw [← (HPV2.out h).2]; exact h4)⟩
          · refine one_ (i := 22) (N := some 34) (bA_impl 25 8388607) rfl rfl (by kernel_rfl) (by decide) (fun K hK => ?_)
            refine goesT Try.func50 #[.agg #[.int .i64 (rd_T72 l0 (kk : Int)).f1.f0, .int .i64 (rd_T72 l0 (kk : Int)).f1.f1, .int .i64 (rd_T72 l0 (kk : Int)).f1.f2, .int .i64 (rd_T72 l0 (kk : Int)).f1.f3, .int .i64 (rd_T72 l0 (kk : Int)).f1.f4, .int .i64 (rd_T72 l0 (kk : Int)).f1.f5]] ?_
            refine (impl_IsValidOp.calls (rd_T72 l0 (kk : Int)).f1.f0 (rd_T72 l0 (kk : Int)).f1.f1 (rd_T72 l0 (kk : Int)).f1.f2 (rd_T72 l0 (kk : Int)).f1.f3 (rd_T72 l0 (kk : Int)).f1.f4 (rd_T72 l0 (kk : Int)).f1.f5 false _ hv).mono ?_
            rintro e w' ⟨rfl, hb⟩
            refine ⟨_, rfl, ?_⟩
            have HB1 := Aside0.mk (below_step HB.out hb)
            clear HB
            have HB := HB1
            clear HB1
            obtain ⟨s0, s1, s2, s3, s4, s5, s6, s7⟩ := hHeld
            refine hK.out _ _ ⟨uT hb s0, uT hb s1, uT hb s2, uT hb s3, uT hb s4, uT hb s5, uT hb s6, fun h0 => uT hb (s7 h0)⟩ (fun hHeld => ?_)
            clear hK K hb s0 s1 s2 s3 s4 s5 s6 s7
            refine vE (a' := ?_) ?_ ?_
            rotate_left
            · show Act.put _ (some 34) _ = _; simp only [Act.put, yA, yB, yC, vQ, vU]; rfl
            refine uG 23 (some 35) (bA_impl 25 16777215) ?_
            refine uG 24 (some 36) (bA_impl 25 33554431) ?_
            refine done_ (by kernel_rfl) ?_
            go_wp2
            go_ret
            exact ⟨by rw [HNO.out (impl_IsValidOp.f (rd_T72 l0 (kk : Int)).f1.f0 (rd_T72 l0 (kk : Int)).f1.f1 (rd_T72 l0 (kk : Int)).f1.f2 (rd_T72 l0 (kk : Int)).f1.f3 (rd_T72 l0 (kk : Int)).f1.f4 (rd_T72 l0 (kk : Int)).f1.f5 = some true) (fun h => h.2.1) (by rw [hv]; simp)]; rfl, by first | exact HB.out | (rw [← World.drewN_drewN]; exact HB.out)⟩
      · refine one_ (i := 2) (N := some 14) (bA_impl 25 7) rfl rfl (by kernel_rfl) (by decide) (fun K hK => ?_)
        refine goesT Try.func65 #[.int .i64 (rd_T72 l0 (kk : Int)).f0, .int .i64 1, .int .i64 20] ?_
        refine (impl_within.no_ h1 _).mono ?_
        rintro e w' ⟨rfl, ⟨nd2, rfl⟩⟩
        refine ⟨_, rfl, ?_⟩
        have HB1 := Aside0.mk (vH HB.out nd2)
        clear HB
        have HB := HB1
        clear HB1
        refine hK.out _ _ hHeld (fun hHeld => ?_)
        clear hK K
        refine vE (a' := ?_) ?_ ?_
        rotate_left
        · show Act.put _ (some 14) _ = _; simp only [Act.put, yA, yB, yC, vQ, vU]; rfl
        refine uG 3 (some 15) (bA_impl 25 15) ?_
        refine uG 4 (some 16) (bA_impl 25 31) ?_
        refine uH 5 (some 17) (bA_impl 25 63) ?_
        refine uH 6 (some 18) (bA_impl 25 127) ?_
        refine uH 7 (some 19) (bA_impl 25 255) ?_
        refine uH 8 (some 20) (bA_impl 25 511) ?_
        refine uH 9 (some 21) (bA_impl 25 1023) ?_
        refine uH 10 (some 22) (bA_impl 25 2047) ?_
        refine uH 11 (some 23) (bA_impl 25 4095) ?_
        refine uH 12 (some 24) (bA_impl 25 8191) ?_
        refine uH 13 (some 25) (bA_impl 25 16383) ?_
        refine uH 14 (some 26) (bA_impl 25 32767) ?_
        refine uH 15 (some 27) (bA_impl 25 65535) ?_
        refine uH 16 (some 28) (bA_impl 25 131071) ?_
        refine uH 17 (some 29) (bA_impl 25 262143) ?_
        refine uG 18 (some 30) (bA_impl 25 524287) ?_
        refine uG 19 (some 31) (bA_impl 25 1048575) ?_
        refine uH 20 (some 32) (bA_impl 25 2097151) ?_
        refine uH 21 (some 33) (bA_impl 25 4194303) ?_
        refine uH 22 (some 34) (bA_impl 25 8388607) ?_
        refine uH 23 (some 35) (bA_impl 25 16777215) ?_
        refine uG 24 (some 36) (bA_impl 25 33554431) ?_
        refine done_ (by kernel_rfl) ?_
        go_wp2
        go_ret
        exact ⟨by rw [HNO.out (1 ≤ (rd_T72 l0 (kk : Int)).f0 ∧ (rd_T72 l0 (kk : Int)).f0 ≤ 20) (fun h => h.1) h1]; rfl, by first | exact HB.out | (rw [← World.drewN_drewN]; exact HB.out)⟩
    · have hltb := eq_false hlt
      have hall : ∀ j, j < l0.length → okE_impl l0 j := fun j hj => HA.out j (by have := HK.out; omega)
      have HALL := Aside0.mk hall
      clear hall HA
      go_wp2
      go_ret
      have hfin : decide ((l0.length : Int) ≤ 16) = V := by
        rw [← HV.out, Bool.eq_iff_iff, decide_eq_true_eq, decide_eq_true_eq]
        exact ⟨fun h => ⟨by omega, HALL.out⟩, fun h => by have := h.1; omega⟩
      exact ⟨by first | (rw [← hfin]; rfl) | (rw [hfin]; rfl), HB.out⟩


/-! ### impl_NewMachine: function 71 -/
def impl_NewMachine.f  : Option (List Int × (List (S49))) := if 3 ≤ 35184372088832 then (some ((List.replicate 3 0), ([] : List (S49)))) else (none)
set_option maxHeartbeats 8000000 in
set_option maxRecDepth 100000 in
theorem impl_NewMachine.calls  (r1 : List Int) (r2 : List (S49)) (w : World) (h : impl_NewMachine.f  = some (r1, r2)) :
    Calls Try.prog 71 #[] w fun e w' => ∃ v0_ v1_ : Value, e = .returned (.agg #[v0_, v1_]) ∧ Kd.R (Kd.int .i64) 3 w' w.heap.size (fun _ => True) v0_ r1 ∧ Kd.R k49 49 w' w.heap.size (fun _ => True) v1_ r2 ∧ Below w.heap.size w w' := by
  have hu31 := Try.underlying31
  have HB := Aside0.mk (Below.refl w.heap.size w)
  have H : (if 3 ≤ 35184372088832 then (some ((List.replicate 3 0), ([] : List (S49)))) else (none)) = some (r1, r2) := h
  clear h
  by_cases c1 : 3 ≤ 35184372088832
  rotate_left
  · rw [if_neg c1] at H
    exact absurd H (by simp)
  rw [if_pos c1] at H
  have c1b0 := eq_true c1
  have c1b1 := decide_eq_true c1
  clear c1
  obtain ⟨y204, hy204⟩ : ∃ y_ : List Int, y_ = (List.replicate 3 0) := ⟨_, rfl⟩
  replace H : (some (y204, ([] : List (S49)))) = some (r1, r2) := rpl hy204 H
  have Ny204 := Aside0.mk hy204
  clear hy204
  simp only [Option.some.injEq, Prod.mk.injEq] at H
  obtain ⟨rfl, rfl⟩ := H
  go_enter Try.func71, Try.ntmps71
  go_wp2_with (first | ((with_reducible refine uJ (N := 0) rfl ?_); refine bxe 0 #[.slice none 0 0, .slice none 0 0] 31 ?_; intro gb203 hg w2 hbox hb; have BK203 := Aside0.mk (hbox); have GW203 := tGe HB hg; have GE203 := tGe HB hg; replace HB := vB HB hb; clear hb hbox hg) | ((with_reducible refine uJ (N := 1) rfl ?_); refine Kd.R_make (Kd.int .i64) _ 3 rfl (N := 1) rfl 22 _ _ rfl 3 rfl rfl Try.underlying22 (.int .i64 0) 8 info3 rfl (by decide) (by omega) 0 (ok := fun _ => True) (okp := fun _ => True) rfl (fun _ hk => hk) trivial (by omega) (by omega) (Below.refl _ _) (Nat.le_refl _) ?_; intro v205 w3 ho4 hb hg_ hnew_; clear hg_ hnew_; (first | rw [← Ny204.out] at ho4 | (simp only [Int.reduceToNat] at ho4; rw [← Ny204.out] at ho4)); have HO206 := Aside0.mk (Kd.uS ho4 (uO vA)); replace BK203 := uP BK203 hb; replace HB := vB HB hb; clear hb ho4; obtain ⟨Ao5, co5, eo5⟩ := Kd.uY HO206.out; subst eo5; obtain ⟨hcz6_0, hcz6_1, hfz6_0, hfz6_1⟩ := cz2 BK203))
  refine bodyPost_ret (results_cell_row rfl _ _ gb203 31 #[.slice Ao5 y204.length co5, .slice none 0 0] (0, 0) _ rfl (by (with_reducible repeat (first | refine uC ?_ _ | refine uE ?_ | refine uD ?_ _)); refine uL (cs := #[.slice Ao5 y204.length co5, .slice none 0 0]) ?_ 1 _ rfl; (with_reducible repeat (first | refine uC ?_ _ | refine uE ?_ | refine uD ?_ _)); refine uL (cs := #[.slice none 0 0, .slice none 0 0]) ?_ 0 _ rfl; (with_reducible repeat (first | refine uC ?_ _ | refine uE ?_ | refine uD ?_ _)); exact BK203.out) Try.underlying31 rfl (by kernel_rfl)) rfl ?_
  exact ⟨_, _, cq3, by (with_reducible repeat (first | apply Kd.uQ | apply Kd.uR | apply Kd.uV)); exact Kd.uN (Kd.uM (p := ⟨gb203, 1, none⟩) (Kd.uM (p := ⟨gb203, 0, none⟩) (Kd.vG HO206.out BK203.out (by decide)) (fun _ hk => hk.2) (.slice Ao5 y204.length co5)) (fun _ hk => hk.2) (.slice none 0 0)) (fun _ hk => trivial), cq62, vA⟩

/-! ### impl_ReplayLog: function 31 -/
def impl_ReplayLog.l0 : Nat → List (S72) → Int → Int → List Int → List (S49) → Option (List Int × (List (S49)) × Bool)
  | 0, _, _, _, _, _ => none
  | k + 1, x12, x13, x14, x216000, x216001 => if x14 < x13 then (if 0 ≤ x14 then (if x14 < (x12.length : Int) then ((impl_ApplyOp.f k x216000 x216001 ((rd_T72 x12 x14).f1.f0) ((rd_T72 x12 x14).f1.f1) ((rd_T72 x12 x14).f1.f2) ((rd_T72 x12 x14).f1.f3) ((rd_T72 x12 x14).f1.f4) ((rd_T72 x12 x14).f1.f5)).bind fun bt218 => (impl_ReplayLog.l0 k x12 x13 (wrap64 (x14 + 1)) bt218.1 bt218.2.1)) else (none)) else (none)) else (some (x216000, x216001, true))
def impl_ReplayLog.f (k : Nat) (l0 : List (S72)) : Option (List Int × (List (S49)) × Bool) := (impl_IsLog.f k l0).bind fun t208 => (if t208 = true then ((impl_NewMachine.f).bind fun bt209 => (impl_ReplayLog.l0 k l0 (l0.length : Int) 0 bt209.1 bt209.2)) else (some (([] : List Int), ([] : List (S49)), false)))
theorem impl_ReplayLog.mono_l : ∀ k, (∀ y0 y1 y2 y3 y4, uI (impl_ReplayLog.l0 k y0 y1 y2 y3 y4) (impl_ReplayLog.l0 (k + 1) y0 y1 y2 y3 y4))
  | 0 => fun _ _ _ _ _ r h => by simp [impl_ReplayLog.l0] at h
  | k + 1 => by
    have ih0 := impl_ReplayLog.mono_l k
    intro y0 y1 y2 y3 y4
    unfold impl_ReplayLog.l0
    repeat' first
    | (with_reducible exact ih0 _ _ _ _ _)
    | (with_reducible exact impl_ApplyOp.mono _ _ _ _ _ _ _ _ _)
    | (with_reducible exact impl_IsLog.mono _ _)
    | (with_reducible exact uI.refl _)
    | (with_reducible exact uI.none _)
    | (with_reducible refine uI.ite ?_ ?_)
    | (with_reducible refine uI.bind ?_ (fun _ => ?_))
    | exact ih0 _ _ _ _ _
    | exact uI.none _
    | refine uI.ite ?_ ?_
    | refine uI.bind ?_ (fun _ => ?_)
theorem impl_ReplayLog.mono : ∀ a0 k, uI (impl_ReplayLog.f k a0) (impl_ReplayLog.f (k + 1) a0) := by
  intro a0 k
  have ih0 := impl_ReplayLog.mono_l k
  unfold impl_ReplayLog.f
  repeat' first
      | (with_reducible exact ih0 _ _ _ _ _)
      | (with_reducible exact impl_ApplyOp.mono _ _ _ _ _ _ _ _ _)
      | (with_reducible exact impl_IsLog.mono _ _)
      | (with_reducible exact uI.refl _)
      | (with_reducible exact uI.none _)
      | (with_reducible refine uI.ite ?_ ?_)
      | (with_reducible refine uI.bind ?_ (fun _ => ?_))
      | exact ih0 _ _ _ _ _
      | exact uI.none _
      | refine uI.ite ?_ ?_
      | refine uI.bind ?_ (fun _ => ?_)
set_option maxHeartbeats 8000000 in
set_option maxRecDepth 100000 in
theorem impl_ReplayLog.calls (k : Nat) (A0 : Option Addr) (c0 : Nat) (l0 : List (S72)) (r1 : List Int) (r2 : List (S49)) (r3 : Bool) (w : World) (hr0 : Kd.C k72 w A0 l0.length l0) (hc0 : l0.length ≤ c0) (h : impl_ReplayLog.f k l0 = some (r1, r2, r3)) :
    Calls Try.prog 31 #[.slice A0 l0.length c0] w fun e w' => ∃ v0_ v1_ : Value, e = .returned (.tuple #[.agg #[v0_, v1_], .bool r3]) ∧ Kd.R (Kd.int .i64) 3 w' w.heap.size (fun _ => True) v0_ r1 ∧ Kd.R k49 49 w' w.heap.size (fun _ => True) v1_ r2 ∧ Below w.heap.size w w' := by
  have hu31 := Try.underlying31
  have hu72 := Try.underlying72
  have hu37 := Try.underlying37
  have HR0 := Aside0.mk hr0
  have HC0 := Aside0.mk hc0
  clear hr0 hc0
  have HB := Aside0.mk (Below.refl w.heap.size w)
  have H : ((impl_IsLog.f k l0).bind fun t208 => (if t208 = true then ((impl_NewMachine.f).bind fun bt209 => (impl_ReplayLog.l0 k l0 (l0.length : Int) 0 bt209.1 bt209.2)) else (some (([] : List Int), ([] : List (S49)), false)))) = some (r1, r2, r3) := h
  clear h
  replace H := Option.bind_eq_some_iff.mp H
  obtain ⟨t208, A20, H⟩ := H
  try dsimp only at H
  have A2 := Aside0.mk A20
  clear A20
  go_enter Try.func31, Try.ntmps31
  go_wp2_with (first | ((with_reducible refine uJ (N := 2) rfl ?_); refine bxe 2 #[.slice none 0 0, .slice none 0 0] 31 ?_; intro gb207 hg w34 hbox hb; have BK207 := Aside0.mk (hbox); have GW207 := tGe HB hg; have GE207 := tGe HB hg; replace HB := vB HB hb; clear hb hbox hg; refine ?roundEnd))
  case roundEnd =>
  by_cases c3 : t208 = true
  rotate_left
  · replace c3 := Bool.eq_false_iff.mpr c3
    subst c3
    try rw [if_neg (show ¬ (false = true) by decide)] at H
    simp only [Option.some.injEq, Prod.mk.injEq] at H
    obtain ⟨rfl, rfl, rfl⟩ := H
    go_wp2_with (first | ((with_reducible refine uF (f := 41) rfl ?_); refine uX (some 8) Try.func41 #[.slice A0 l0.length c0] ?_; (with_reducible refine (impl_IsLog.calls k _ _ l0 false _ ?side1 ?side2 A2.out).mono ?_); (case side1 => exact cq7); (case side2 => exact HC0.out); rintro e w35 ⟨rfl, hb⟩; refine ⟨_, rfl, ?_⟩; replace BK207 := uP BK207 hb; replace HB := vB HB hb; (try clear hb); obtain ⟨hcz36_0, hcz36_1, hfz36_0, hfz36_1⟩ := cz2 BK207))
    refine bodyPost_ret (results_ct rfl _ _ gb207 31 #[.slice none 0 0, .slice none 0 0] (0, 0) _ rfl (by (with_reducible repeat (first | refine uC ?_ _ | refine uE ?_ | refine uD ?_ _)); refine uL (cs := #[.slice none 0 0, .slice none 0 0]) ?_ 1 _ rfl; (with_reducible repeat (first | refine uC ?_ _ | refine uE ?_ | refine uD ?_ _)); refine uL (cs := #[.slice none 0 0, .slice none 0 0]) ?_ 0 _ rfl; (with_reducible repeat (first | refine uC ?_ _ | refine uE ?_ | refine uD ?_ _)); exact BK207.out) Try.underlying31 rfl (by kernel_rfl)) rfl ?_
    exact ⟨_, _, cq3, cq62, cq62, vA⟩
  subst c3
  try rw [if_pos rfl] at H
  replace H := Option.bind_eq_some_iff.mp H
  obtain ⟨⟨t209, t212⟩, A40, H⟩ := H
  try dsimp only at H
  have A4 := Aside0.mk A40
  clear A40
  have H' := Aside0.mk H
  clear H
  go_wp2_with (first | ((with_reducible refine uF (f := 41) rfl ?_); refine uX (some 8) Try.func41 #[.slice A0 l0.length c0] ?_; (with_reducible refine (impl_IsLog.calls k _ _ l0 true _ ?side1 ?side2 A2.out).mono ?_); (case side1 => exact cq7); (case side2 => exact HC0.out); rintro e w6 ⟨rfl, hb⟩; refine ⟨_, rfl, ?_⟩; replace BK207 := uP BK207 hb; replace HB := vB HB hb; (try clear hb)) | ((with_reducible refine uF (f := 71) rfl ?_); refine uX (some 11) Try.func71 #[] ?_; (with_reducible refine (impl_NewMachine.calls  t209 t212 _ A4.out).mono ?_); rintro e w7 ⟨v210, v213, rfl, ho0, ho1, hb⟩; refine ⟨_, rfl, ?_⟩; have HO211 := Aside0.mk (Kd.uS ho0 (uO vA)); have HO214 := Aside0.mk (Kd.uS ho1 (uO vA)); replace BK207 := uP BK207 hb; replace HB := vB HB hb; (try clear hb); (try clear ho0); (try clear ho1)) | ((with_reducible refine uJ (N := 4) rfl ?_); refine bxe 4 #[.slice none 0 0, .slice none 0 0] 31 ?_; intro gb215 hg w8 hbox hb; have BK215 := Aside0.mk (hbox); have GW215 := tGe HB hg; have GE215 := tGe HB hg; have NB207_215 := tNl BK207 hg; have NB215_207 := tNg BK207 hg; replace HO211 := Kd.tR HO211 hb; replace HO214 := Kd.tR HO214 hb; replace BK207 := uP BK207 hb; replace HB := vB HB hb; clear hb hbox hg; obtain ⟨Ao9, co9, eo9⟩ := Kd.uY HO211.out; subst eo9; have hnb10 := NB215_207.out; have hnc10 := NB207_215.out; obtain ⟨hcz11_0, hcz11_1, hfz11_0, hfz11_1⟩ := cz2 BK215; obtain ⟨Ao12, co12, eo12⟩ := Kd.uY HO214.out; subst eo12))
  go_loopg [14] k (fun kq v14 w' => ∃ (x14_1 : Int) (x216000_1 : List Int) (x216001_1 : List (S49)) (u216000 : Value) (u216001 : Value), v14 = .int .i64 x14_1 ∧ Aside0 (impl_ReplayLog.l0 kq l0 (l0.length : Int) x14_1 x216000_1 x216001_1 = some (r1, r2, r3)) ∧ Aside0 (kq ≤ k) ∧ Aside0 (Kd.R (Kd.int .i64) 3 w' w.heap.size (fun _ => True) u216000 x216000_1) ∧ Aside0 (Kd.R k49 49 w' w.heap.size (fun _ => True) u216001 x216001_1) ∧ Aside0 (w'.heap[gb207]? = some (.cells #[(.slice none 0 0), (.slice none 0 0)] 31 (0, 0))) ∧ Aside0 (w'.heap[gb215]? = some (.cells #[u216000, u216001] 31 (0, 0))) ∧ Aside0 (Below w.heap.size w w'))
  case atStart => exact ⟨(0), (t209), (t212), (.slice Ao9 t209.length co9), (.slice Ao12 t212.length co12), cq15, H', ⟨Nat.le_refl _⟩, ⟨by (with_reducible repeat (first | apply Kd.uQ | apply Kd.uR | apply Kd.uV)); exact Kd.uN (Kd.uM (p := ⟨gb215, 1, none⟩) (Kd.uM (p := ⟨gb215, 0, none⟩) (Kd.vG HO211.out BK215.out (by decide)) (fun _ hk => hk.2) (.slice Ao9 t209.length co9)) (fun _ hk => hk.2) (.slice Ao12 t212.length co12)) (fun _ hk => trivial)⟩, ⟨by (with_reducible repeat (first | apply Kd.uQ | apply Kd.uR | apply Kd.uV)); exact Kd.uN (Kd.uM (p := ⟨gb215, 1, none⟩) (Kd.uM (p := ⟨gb215, 0, none⟩) (Kd.vG HO214.out BK215.out (by decide)) (fun _ hk => hk.2) (.slice Ao9 t209.length co9)) (fun _ hk => hk.2) (.slice Ao12 t212.length co12)) (fun _ hk => trivial)⟩, ⟨by (with_reducible repeat (first | refine uC ?_ _ | refine uE ?_ | refine uD ?_ _)); refine vO ?_ NB207_215.out _; (with_reducible repeat (first | refine uC ?_ _ | refine uE ?_ | refine uD ?_ _)); refine vO ?_ NB207_215.out _; (with_reducible repeat (first | refine uC ?_ _ | refine uE ?_ | refine uD ?_ _)); exact BK207.out⟩, ⟨by (with_reducible repeat (first | refine uC ?_ _ | refine uE ?_ | refine uD ?_ _)); refine uL (cs := #[.slice Ao9 t209.length co9, .slice none 0 0]) ?_ 1 _ rfl; (with_reducible repeat (first | refine uC ?_ _ | refine uE ?_ | refine uD ?_ _)); refine uL (cs := #[.slice none 0 0, .slice none 0 0]) ?_ 0 _ rfl; (with_reducible repeat (first | refine uC ?_ _ | refine uE ?_ | refine uD ?_ _)); exact BK215.out⟩, ⟨vA⟩⟩
  case round =>
    clear H'
    try clear c3
    try clear hcz11_0
    try clear hcz11_1
    try clear hfz11_0
    try clear hfz11_1
    obtain ⟨x14_1, x216000_1, x216001_1, u216000, u216001, rfl, HA, HK1, HO_216000, HO_216001, BK207, BK215, HB⟩ := hrel
    cases gk with
    | zero => exact absurd HA.out (by simp [impl_ReplayLog.l0])
    | succ k1 =>
      have H := HA.out
      clear HA
      simp only [impl_ReplayLog.l0] at H
      by_cases c13 : x14_1 < (l0.length : Int)
      rotate_left
      · rw [if_neg c13] at H
        have c13b0 := decide_eq_false c13
        clear c13
        simp only [Option.some.injEq, Prod.mk.injEq] at H
        obtain ⟨rfl, rfl, rfl⟩ := H
        have hnb29 := NB215_207.out
        have hnc29 := NB207_215.out
        obtain ⟨hcz30_0, hcz30_1, hfz30_0, hfz30_1⟩ := cz2 BK215
        obtain ⟨Ao31, co31, eo31⟩ := Kd.uY HO_216000.out
        subst eo31
        obtain ⟨hcz32_0, hcz32_1, hfz32_0, hfz32_1⟩ := cz2 BK207
        obtain ⟨Ao33, co33, eo33⟩ := Kd.uY HO_216001.out
        subst eo33
        go_wp2
        refine bodyPost_ret (results_ct rfl _ _ gb207 31 #[.slice Ao31 x216000_1.length co31, .slice Ao33 x216001_1.length co33] (0, 0) _ rfl (by (with_reducible repeat (first | refine uC ?_ _ | refine uE ?_ | refine uD ?_ _)); refine uL (cs := #[.slice Ao31 x216000_1.length co31, .slice none 0 0]) ?_ 1 _ rfl; (with_reducible repeat (first | refine uC ?_ _ | refine uE ?_ | refine uD ?_ _)); refine uL (cs := #[.slice none 0 0, .slice none 0 0]) ?_ 0 _ rfl; (with_reducible repeat (first | refine uC ?_ _ | refine uE ?_ | refine uD ?_ _)); exact BK207.out) Try.underlying31 rfl (by kernel_rfl)) rfl ?_
        exact ⟨_, _, cq3, by (with_reducible repeat (first | apply Kd.uQ | apply Kd.uR | apply Kd.uV)); exact Kd.uN (Kd.uM (p := ⟨gb207, 1, none⟩) (Kd.uM (p := ⟨gb207, 0, none⟩) (Kd.vG HO_216000.out BK207.out (by decide)) (fun _ hk => hk.2) (.slice Ao31 x216000_1.length co31)) (fun _ hk => hk.2) (.slice Ao33 x216001_1.length co33)) (fun _ hk => trivial), by (with_reducible repeat (first | apply Kd.uQ | apply Kd.uR | apply Kd.uV)); exact Kd.uN (Kd.uM (p := ⟨gb207, 1, none⟩) (Kd.uM (p := ⟨gb207, 0, none⟩) (Kd.vG HO_216001.out BK207.out (by decide)) (fun _ hk => hk.2) (.slice Ao31 x216000_1.length co31)) (fun _ hk => hk.2) (.slice Ao33 x216001_1.length co33)) (fun _ hk => trivial), vA⟩
      rw [if_pos c13] at H
      have c13b0 := decide_eq_true c13
      clear c13
      obtain ⟨c14b0, H⟩ := ifD H
      obtain ⟨c15b0, H⟩ := ifD H
      replace H := Option.bind_eq_some_iff.mp H
      obtain ⟨⟨t218, t221, t224, t225, t226⟩, A160, H⟩ := H
      try dsimp only at H
      have A16 := Aside0.mk A160
      clear A160
      have H' := Aside0.mk H
      clear H
      have p216 : 0 ≤ (x14_1 : Int) := of_decide_eq_true cq12
      have q216 : x14_1 < (l0.length : Int) := of_decide_eq_true cq12
      obtain ⟨ad216, e216, hx216_0, hx216_1, hx216_2, hx216_3, hx216_4, hx216_5, hx216_6⟩ := at_T72 HR0.out x14_1 p216 q216
      cases e216
      replace hx216_0 := (HB.out.cell (yG w _ hx216_0)).trans hx216_0
      replace hx216_1 := (HB.out.cell (yG w _ hx216_1)).trans hx216_1
      replace hx216_2 := (HB.out.cell (yG w _ hx216_2)).trans hx216_2
      replace hx216_3 := (HB.out.cell (yG w _ hx216_3)).trans hx216_3
      replace hx216_4 := (HB.out.cell (yG w _ hx216_4)).trans hx216_4
      replace hx216_5 := (HB.out.cell (yG w _ hx216_5)).trans hx216_5
      replace hx216_6 := (HB.out.cell (yG w _ hx216_6)).trans hx216_6
      replace p216 := eq_true p216
      replace q216 := eq_true q216
      go_wp2_with (first | ((with_reducible refine uJ (N := 6) rfl ?_); refine bxe 6 #[.int .i64 0, .int .i64 0, .int .i64 0, .int .i64 0, .int .i64 0, .int .i64 0, .int .i64 0] 72 ?_; intro gb217 hg w17 hbox hb; have BK217 := Aside0.mk (hbox); have GW217 := tGe HB hg; have GE217 := tGe HB hg; have NB207_217 := tNl BK207 hg; have NB217_207 := tNg BK207 hg; have NB215_217 := tNl BK215 hg; have NB217_215 := tNg BK215 hg; replace HO_216000 := Kd.tR HO_216000 hb; replace HO_216001 := Kd.tR HO_216001 hb; replace BK207 := uP BK207 hb; replace BK215 := uP BK215 hb; replace HB := vB HB hb; clear hb hbox hg; have hnb18 := NB217_207.out; have hnc18 := NB207_217.out; have hnb19 := NB217_215.out; have hnc19 := NB215_217.out; obtain ⟨hcz20_0, hcz20_1, hcz20_2, hcz20_3, hcz20_4, hcz20_5, hcz20_6, hfz20_0, hfz20_1, hfz20_2, hfz20_3, hfz20_4, hfz20_5, hfz20_6⟩ := cz7 BK217; have hnb21 := NB215_207.out; have hnc21 := NB207_215.out; obtain ⟨hcz22_0, hcz22_1, hfz22_0, hfz22_1⟩ := cz2 BK215; obtain ⟨Ao23, co23, eo23⟩ := Kd.uY HO_216000.out; subst eo23; obtain ⟨Ao24, co24, eo24⟩ := Kd.uY HO_216001.out; subst eo24) | ((with_reducible refine uF (f := 12) rfl ?_); refine uX (some 22) Try.func12 #[.agg #[.slice Ao23 x216000_1.length co23, .slice Ao24 x216001_1.length co24], .agg #[.int .i64 ((rd_T72 l0 x14_1).f1.f0), .int .i64 ((rd_T72 l0 x14_1).f1.f1), .int .i64 ((rd_T72 l0 x14_1).f1.f2), .int .i64 ((rd_T72 l0 x14_1).f1.f3), .int .i64 ((rd_T72 l0 x14_1).f1.f4), .int .i64 ((rd_T72 l0 x14_1).f1.f5)]] ?_; (with_reducible refine (impl_ApplyOp.calls k1 _ _ x216000_1 _ _ x216001_1 ((rd_T72 l0 x14_1).f1.f0) ((rd_T72 l0 x14_1).f1.f1) ((rd_T72 l0 x14_1).f1.f2) ((rd_T72 l0 x14_1).f1.f3) ((rd_T72 l0 x14_1).f1.f4) ((rd_T72 l0 x14_1).f1.f5) t218 t221 t224 t225 t226 _ ?side1 ?side2 ?side3 ?side4 A16.out).mono ?_); (case side1 => refine (Kd.uK (e := 3) (base := w.heap.size) (ok := fun k_ => True) (n := x216000_1.length) (c := co23) ?_).2.2; exact cq17); (case side2 => exact (Kd.uK HO_216000.out).2.1); (case side3 => refine (Kd.uK (e := 49) (base := w.heap.size) (ok := fun k_ => True) (n := x216001_1.length) (c := co24) ?_).2.2; exact cq18); (case side4 => exact (Kd.uK HO_216001.out).2.1); rintro e w25 ⟨v219, v222, rfl, ho0, ho1, hb⟩; refine ⟨_, rfl, ?_⟩; have HO220 := Aside0.mk (Kd.uS (Kd.vT ho0 (Kd.R_lt cq17)) (uO vA)); have HO223 := Aside0.mk (Kd.uS (Kd.vT ho1 (Kd.R_lt cq18)) (uO vA)); replace HO_216000 := Aside0.mk (Kd.vI cq17 (Kd.vS ho0) hb); replace HO_216001 := Aside0.mk (Kd.vI cq18 (Kd.vS ho1) hb); replace BK207 := tBlkF BK207 hb; replace BK215 := tBlkF BK215 hb; replace BK217 := tBlkP BK217 #[.int .i64 ((rd_T72 l0 x14_1).f0), .int .i64 ((rd_T72 l0 x14_1).f1.f0), .int .i64 ((rd_T72 l0 x14_1).f1.f1), .int .i64 ((rd_T72 l0 x14_1).f1.f2), .int .i64 ((rd_T72 l0 x14_1).f1.f3), .int .i64 ((rd_T72 l0 x14_1).f1.f4), .int .i64 ((rd_T72 l0 x14_1).f1.f5)] hb; replace HB := vB HB hb; (try clear hb); (try clear ho0); (try clear ho1); obtain ⟨Ao26, co26, eo26⟩ := Kd.uY HO220.out; subst eo26; obtain ⟨hcz27_0, hcz27_1, hfz27_0, hfz27_1⟩ := cz2 BK215; obtain ⟨Ao28, co28, eo28⟩ := Kd.uY HO223.out; subst eo28))
      go_roundg k1
      case measure => have := HK1.out; omega
      case rel => exact ⟨(wrap64 (x14_1 + 1)), (t218), (t221), (.slice Ao26 t218.length co26), (.slice Ao28 t221.length co28), cq15, H', ⟨by have := HK1.out; omega⟩, ⟨by (with_reducible repeat (first | apply Kd.uQ | apply Kd.uR | apply Kd.uV)); exact Kd.uN (Kd.uM (p := ⟨gb215, 1, none⟩) (Kd.uM (p := ⟨gb215, 0, none⟩) (Kd.vG HO220.out BK215.out (by decide)) (fun _ hk => hk.2) (.slice Ao26 t218.length co26)) (fun _ hk => hk.2) (.slice Ao28 t221.length co28)) (fun _ hk => trivial)⟩, ⟨by (with_reducible repeat (first | apply Kd.uQ | apply Kd.uR | apply Kd.uV)); exact Kd.uN (Kd.uM (p := ⟨gb215, 1, none⟩) (Kd.uM (p := ⟨gb215, 0, none⟩) (Kd.vG HO223.out BK215.out (by decide)) (fun _ hk => hk.2) (.slice Ao26 t218.length co26)) (fun _ hk => hk.2) (.slice Ao28 t221.length co28)) (fun _ hk => trivial)⟩, ⟨by (with_reducible repeat (first | refine uC ?_ _ | refine uE ?_ | refine uD ?_ _)); refine vO ?_ NB207_215.out _; (with_reducible repeat (first | refine uC ?_ _ | refine uE ?_ | refine uD ?_ _)); refine vO ?_ NB207_215.out _; (with_reducible repeat (first | refine uC ?_ _ | refine uE ?_ | refine uD ?_ _)); exact BK207.out⟩, ⟨by (with_reducible repeat (first | refine uC ?_ _ | refine uE ?_ | refine uD ?_ _)); refine uL (cs := #[.slice Ao26 t218.length co26, .slice Ao24 x216001_1.length co24]) ?_ 1 _ rfl; (with_reducible repeat (first | refine uC ?_ _ | refine uE ?_ | refine uD ?_ _)); refine uL (cs := #[.slice Ao23 x216000_1.length co23, .slice Ao24 x216001_1.length co24]) ?_ 0 _ rfl; (with_reducible repeat (first | refine uC ?_ _ | refine uE ?_ | refine uD ?_ _)); exact BK215.out⟩, ⟨vA⟩⟩

end Go.Proofs.Ytcikahnmiiichaa.N
