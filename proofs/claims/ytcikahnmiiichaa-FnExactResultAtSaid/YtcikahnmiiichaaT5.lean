/- Go functions as Lean functions, and the proof that the code comes to them: written by a program of this session out of the translation. -/
import Derived.Test.YtcikahnmiiichaaT0
import Derived.Test.YtcikahnmiiichaaT1
import Derived.Test.YtcikahnmiiichaaT2
namespace Go.Proofs.Ytcikahnmiiichaa.T
open List renaming setIfInBounds_toArray → vU, set_cons_zero → vV, set_cons_succ → vW, map_toArray → vX, length_take → vY, length_drop → vZ
open Go.World renaming block_lt_of_cell? → yA
open Go.RowKit Go.Proofs.YtcikahnmiiichaaW.PrintWords Go.Proofs.YtcikahnmiiichaaW.PrintLast Go.Proofs.YtcikahnmiiichaaW.PrintMore
attribute [local go_sem] max2_int min2_int max_two min_two max_three min_three max_four min_four   -- for this text's walks alone
set_option linter.unusedVariables false
set_option linter.unusedSimpArgs false

/-! ### spec_IsLog: function 67 -/
def bA_spec (n m : Nat) : Array Bool := ((List.range n).map fun i => m.testBit i).toArray
theorem spec_l1In.yes_ {a b c : Int} (h : b ≤ a ∧ a ≤ c) (w : World) : Calls Try.prog 66 #[.int .i64 a, .int .i64 b, .int .i64 c] w fun e w' => e = .returned (.bool true) ∧ Drawn0 w w' := spec_l1In.calls a b c true w (by unfold spec_l1In.f; first | (rw [if_pos (show a ≥ b from h.1), decide_eq_true h.2]) | simp [h.1, h.2])
theorem spec_l1In.no_ {a b c : Int} (h : ¬ (b ≤ a ∧ a ≤ c)) (w : World) : Calls Try.prog 66 #[.int .i64 a, .int .i64 b, .int .i64 c] w fun e w' => e = .returned (.bool false) ∧ Drawn0 w w' := spec_l1In.calls a b c false w (by
  unfold spec_l1In.f
  by_cases h1 : a ≥ b
  · first | (rw [if_pos h1, decide_eq_false (fun h2 => h ⟨h1, h2⟩)]) | (have h2 : ¬ a ≤ c := fun h2 => h ⟨h1, h2⟩; simp [h1, h2])
  · simp [h1])
def okE_spec (xs : List S72) (j : Nat) : Prop := (1 ≤ (rd_T72 xs (j : Int)).f0 ∧ (rd_T72 xs (j : Int)).f0 ≤ 20) ∧ spec_IsValidOp.f (rd_T72 xs (j : Int)).f1.f0 (rd_T72 xs (j : Int)).f1.f1 (rd_T72 xs (j : Int)).f1.f2 (rd_T72 xs (j : Int)).f1.f3 (rd_T72 xs (j : Int)).f1.f4 (rd_T72 xs (j : Int)).f1.f5 = some true ∧ (0 < j → (rd_T72 xs ((j : Int) - 1)).f0 ≤ (rd_T72 xs (j : Int)).f0)
instance okE_spec_dec (xs : List S72) (j : Nat) : Decidable (okE_spec xs j) := inferInstanceAs (Decidable (_ ∧ _ ∧ (_ → _)))
def vL_spec (xs : List S72) : Prop := xs.length ≤ 16 ∧ ∀ j, j < xs.length → okE_spec xs j
instance vL_spec_dec (xs : List S72) : Decidable (vL_spec xs) := inferInstanceAs (Decidable (_ ∧ ∀ j, j < _ → _))
theorem spec_bindT {A B : Type} {o : Option A} {g : A → Option B} (ho : ∃ b, o = some b) (hg : ∀ b, ∃ r, g b = some r) : ∃ r, o.bind g = some r := by
  obtain ⟨b, rfl⟩ := ho
  exact hg b
theorem spec_iteT {B : Type} {p : Prop} [Decidable p] {a b : Option B} (ha : ∃ r, a = some r) (hb : ∃ r, b = some r) : ∃ r, (if p then a else b) = some r := by
  split <;> assumption
theorem spec_IsValidOp.tot (a b c d e f : Int) : ∃ r, spec_IsValidOp.f a b c d e f = some r := by
  unfold spec_IsValidOp.f spec_l1In.f
  repeat' (first | exact ⟨_, rfl⟩ | refine spec_iteT ?_ ?_ | refine spec_bindT ?_ (fun _ => ?_))
def spec_IsLog.f (k : Nat) (l0 : List S72) : Option Bool := some (decide (vL_spec l0))
theorem spec_IsLog.mono : ∀ a0 k, vB (spec_IsLog.f k a0) (spec_IsLog.f (k + 1) a0) := fun _ _ => vB.refl _
set_option maxHeartbeats 8000000 in
set_option maxRecDepth 100000 in
theorem spec_IsLog.calls (k : Nat) (A0 : Option Addr) (c0 : Nat) (l0 : List (S72)) (r : Bool) (w : World) (hr0 : Kd.C k72 w A0 l0.length l0) (hc0 : l0.length ≤ c0) (h : spec_IsLog.f k l0 = some r) :
    Calls Try.prog 67 #[.slice A0 l0.length c0] w fun e w' => e = .returned (.bool r) ∧ Below w.heap.size w w' := by
  obtain rfl := Option.some.inj h
  clear h
  have HR0 := Aside0.mk hr0
  have HL1 := Aside0.mk hr0.2.1
  have HC0 := Aside0.mk hc0
  clear hr0 hc0
  generalize hV : decide (vL_spec l0) = V
  have HV := Aside0.mk hV
  clear hV
  have HB := Aside0.mk (Below.refl w.heap.size w)
  go_enter Try.func67, Try.ntmps67
  go_wp2
  go_loopg [3] l0.length (fun gg s wr => ∃ kk : Nat, s = .int .i64 kk ∧ Aside0 (kk ≤ l0.length ∧ l0.length - kk ≤ gg) ∧ Aside0 (Below w.heap.size w wr) ∧ Aside0 (∀ j, j < kk → okE_spec l0 j))
  case atStart => exact ⟨0, rfl, ⟨by omega, by omega⟩, HB, ⟨fun j hj => by omega⟩⟩
  case round =>
    clear HB
    obtain ⟨kk, rfl, HK, HB, HA⟩ := hrel
    have hkz : (0 : Int) ≤ (kk : Int) := by omega
    by_cases hlt : (kk : Int) < (l0.length : Int)
    · obtain ⟨ad2, e2, hx_0, hx_1, hx_2, hx_3, hx_4, hx_5, hx_6⟩ := at_T72 HR0.out (kk : Int) hkz hlt
      subst e2
      simp only [Int.toNat_natCast] at hx_0 hx_1 hx_2 hx_3 hx_4 hx_5 hx_6
      replace hx_0 := (HB.out.cell (yA w _ hx_0)).trans hx_0
      replace hx_1 := (HB.out.cell (yA w _ hx_1)).trans hx_1
      replace hx_2 := (HB.out.cell (yA w _ hx_2)).trans hx_2
      replace hx_3 := (HB.out.cell (yA w _ hx_3)).trans hx_3
      replace hx_4 := (HB.out.cell (yA w _ hx_4)).trans hx_4
      replace hx_5 := (HB.out.cell (yA w _ hx_5)).trans hx_5
      replace hx_6 := (HB.out.cell (yA w _ hx_6)).trans hx_6
      have hltb := eq_true hlt
      have hkzb := eq_true hkz
      have hnot : ∀ (p : Prop), (okE_spec l0 kk → p) → ¬ p → V = false := fun p h hp => by rw [← HV.out]; exact decide_eq_false (fun h2 => hp (h (h2.2 kk (by omega))))
      have HNO := Aside0.mk hnot
      clear hnot
      have e1 : wrap64 ((kk : Int) - 1) = (kk : Int) - 1 := by have := HL1.out; unfold wrap64; omega
      have e1b := uL ((kk : Int) - 1)
      rw [e1] at e1b
      go_wp2
      obtain ⟨pv, HPV2⟩ : ∃ pv : Int, Aside0 (0 < kk → wr.cell? (ad2.add ((kk - 1) * 7)) = some (.int .i64 pv) ∧ pv = (rd_T72 l0 ((kk : Int) - 1)).f0) := by
        by_cases h0 : 0 < kk
        · obtain ⟨ad3, e3, hy, _⟩ := at_T72 HR0.out ((kk : Int) - 1) (by omega) (by omega)
          cases e3
          rw [show ((kk : Int) - 1).toNat = kk - 1 by omega] at hy
          exact ⟨_, ⟨fun _ => ⟨(HB.out.cell (yA w _ hy)).trans hy, rfl⟩⟩⟩
        · exact ⟨0, ⟨fun h => absurd h h0⟩⟩
      refine start_ (n := 34) (S := fun w' => w'.cell? (ad2.add (kk * 7)) = some (.int .i64 (rd_T72 l0 (kk : Int)).f0) ∧ w'.cell? ⟨(ad2.add (kk * 7)).block, (ad2.add (kk * 7)).off + 1, none⟩ = some (.int .i64 (rd_T72 l0 (kk : Int)).f1.f0) ∧ w'.cell? ⟨(ad2.add (kk * 7)).block, (ad2.add (kk * 7)).off + 2, none⟩ = some (.int .i64 (rd_T72 l0 (kk : Int)).f1.f1) ∧ w'.cell? ⟨(ad2.add (kk * 7)).block, (ad2.add (kk * 7)).off + 3, none⟩ = some (.int .i64 (rd_T72 l0 (kk : Int)).f1.f2) ∧ w'.cell? ⟨(ad2.add (kk * 7)).block, (ad2.add (kk * 7)).off + 4, none⟩ = some (.int .i64 (rd_T72 l0 (kk : Int)).f1.f3) ∧ w'.cell? ⟨(ad2.add (kk * 7)).block, (ad2.add (kk * 7)).off + 5, none⟩ = some (.int .i64 (rd_T72 l0 (kk : Int)).f1.f4) ∧ w'.cell? ⟨(ad2.add (kk * 7)).block, (ad2.add (kk * 7)).off + 6, none⟩ = some (.int .i64 (rd_T72 l0 (kk : Int)).f1.f5) ∧ (0 < kk → w'.cell? (ad2.add ((kk - 1) * 7)) = some (.int .i64 pv))) (ds := []) (bA_spec 34 0) (by kernel_rfl) rfl rfl ⟨hx_0, hx_1, hx_2, hx_3, hx_4, hx_5, hx_6, fun h => (HPV2.out h).1⟩ (fun hHeld => ?_)
      have HB1 := Aside0.mk (uF HB.out)
      clear HB hx_0 hx_1 hx_2 hx_3 hx_4 hx_5 hx_6
      have HB := HB1
      clear HB1
      refine uJ (i := 0) (N := some 10) (v := ?_) (a' := ?_) (bA_spec 34 1) rfl rfl (by kernel_rfl) (fun _ _ _ h => h) (Or.inl ⟨by rfl, ?_⟩) ?_ ?_
      rotate_left
      · intro w'; go_simp; with_reducible rfl
      rotate_left
      · simp only [Act.put, vU, vV, vW, uL, uM]; rfl
      refine uJ (i := 1) (N := some 11) (v := ?_) (a' := ?_) (bA_spec 34 3) rfl rfl (by kernel_rfl) (fun _ _ _ h => h) (Or.inl ⟨by rfl, ?_⟩) ?_ ?_
      rotate_left
      · intro w'; go_simp; with_reducible rfl
      rotate_left
      · simp only [Act.put, vU, vV, vW, uL, uM]; rfl
      refine uJ (i := 2) (N := some 12) (v := ?_) (a' := ?_) (bA_spec 34 7) rfl rfl (by kernel_rfl) (fun _ _ _ h => h) (Or.inl ⟨by rfl, ?_⟩) ?_ ?_
      rotate_left
      · intro w'; go_simp; with_reducible rfl
      rotate_left
      · simp only [Act.put, vU, vV, vW, uL, uM]; rfl
      refine uJ (i := 3) (N := some 13) (v := ?_) (a' := ?_) (bA_spec 34 15) rfl rfl (by kernel_rfl) (fun _ _ _ h => h) (Or.inl ⟨by rfl, ?_⟩) ?_ ?_
      rotate_left
      · intro w'; go_simp; with_reducible rfl
      rotate_left
      · simp only [Act.put, vU, vV, vW, uL, uM]; rfl
      refine take_ (i := 4) (N := some 14) (v := ?_) (a' := ?_) (bA_spec 34 31) rfl rfl (by kernel_rfl) (fun _ _ _ h => h) (Or.inl ⟨by rfl, ?_⟩) hHeld ?_ ?_
      rotate_left
      · rintro w' ⟨s0, s1, s2, s3, s4, s5, s6, s7⟩; clear s7; go_simp; with_reducible rfl
      rotate_left
      · simp only [Act.put, vU, vV, vW, uL, uM]; rfl
      by_cases h1 : 1 ≤ (rd_T72 l0 (kk : Int)).f0 ∧ (rd_T72 l0 (kk : Int)).f0 ≤ 20
      · refine one_ (i := 5) (N := some 15) (bA_spec 34 63) rfl rfl (by kernel_rfl) (by decide) (fun K hK => ?_)
        refine goes_ Try.func66 (by kernel_rfl) rfl #[.int .i64 (rd_T72 l0 (kk : Int)).f0, .int .i64 1, .int .i64 20] (by rfl) rfl rfl (by (try simp only [vX, List.map_cons, List.map_nil]); first | done | rfl) ?_
        refine (spec_l1In.yes_ h1 _).mono ?_
        rintro e w' ⟨rfl, ⟨nd5, rfl⟩⟩
        refine ⟨_, rfl, ?_⟩
        have HB1 := Aside0.mk (uA HB.out nd5)
        clear HB
        have HB := HB1
        clear HB1
        refine hK.out _ _ hHeld (fun hHeld => ?_)
        clear hK K
        refine vC (a' := ?_) ?_ ?_
        rotate_left
        · show Act.put _ (some 15) _ = _; simp only [Act.put, vU, vV, vW, uL, uM]; rfl
        refine uJ (i := 6) (N := some 16) (v := ?_) (a' := ?_) (bA_spec 34 127) rfl rfl (by kernel_rfl) (fun _ _ _ h => h) (Or.inl ⟨by rfl, ?_⟩) ?_ ?_
        rotate_left
        · intro w'; go_simp; with_reducible rfl
        rotate_left
        · simp only [Act.put, vU, vV, vW, uL, uM]; rfl
        refine uJ (i := 7) (N := some 17) (v := ?_) (a' := ?_) (bA_spec 34 255) rfl rfl (by kernel_rfl) (fun _ _ _ h => h) (Or.inl ⟨by rfl, ?_⟩) ?_ ?_
        rotate_left
        · intro w'; go_simp; with_reducible rfl
        rotate_left
        · simp only [Act.put, vU, vV, vW, uL, uM]; rfl
        refine uJ (i := 8) (N := some 18) (v := ?_) (a' := ?_) (bA_spec 34 511) rfl rfl (by kernel_rfl) (fun _ _ _ h => h) (Or.inl ⟨by rfl, ?_⟩) ?_ ?_
        rotate_left
        · intro w'; go_simp; with_reducible rfl
        rotate_left
        · simp only [Act.put, vU, vV, vW, uL, uM]; rfl
        refine uJ (i := 9) (N := some 19) (v := ?_) (a' := ?_) (bA_spec 34 1023) rfl rfl (by kernel_rfl) (fun _ _ _ h => h) (Or.inl ⟨by rfl, ?_⟩) ?_ ?_
        rotate_left
        · intro w'; go_simp; with_reducible rfl
        rotate_left
        · simp only [Act.put, vU, vV, vW, uL, uM]; rfl
        refine uJ (i := 10) (N := some 20) (v := ?_) (a' := ?_) (bA_spec 34 2047) rfl rfl (by kernel_rfl) (fun _ _ _ h => h) (Or.inl ⟨by rfl, ?_⟩) ?_ ?_
        rotate_left
        · intro w'; go_simp; with_reducible rfl
        rotate_left
        · simp only [Act.put, vU, vV, vW, uL, uM]; rfl
        refine uJ (i := 11) (N := some 21) (v := ?_) (a' := ?_) (bA_spec 34 4095) rfl rfl (by kernel_rfl) (fun _ _ _ h => h) (Or.inl ⟨by rfl, ?_⟩) ?_ ?_
        rotate_left
        · intro w'; go_simp; with_reducible rfl
        rotate_left
        · simp only [Act.put, vU, vV, vW, uL, uM]; rfl
        refine take_ (i := 12) (N := some 22) (v := ?_) (a' := ?_) (bA_spec 34 8191) rfl rfl (by kernel_rfl) (fun _ _ _ h => h) (Or.inl ⟨by rfl, ?_⟩) hHeld ?_ ?_
        rotate_left
        · rintro w' ⟨s0, s1, s2, s3, s4, s5, s6, s7⟩; clear s7; go_simp; with_reducible rfl
        rotate_left
        · simp only [Act.put, vU, vV, vW, uL, uM]; rfl
        obtain ⟨vb, hv⟩ := spec_IsValidOp.tot (rd_T72 l0 (kk : Int)).f1.f0 (rd_T72 l0 (kk : Int)).f1.f1 (rd_T72 l0 (kk : Int)).f1.f2 (rd_T72 l0 (kk : Int)).f1.f3 (rd_T72 l0 (kk : Int)).f1.f4 (rd_T72 l0 (kk : Int)).f1.f5
        rcases Bool.eq_false_or_eq_true vb with rfl | rfl
        · refine one_ (i := 13) (N := some 23) (bA_spec 34 16383) rfl rfl (by kernel_rfl) (by decide) (fun K hK => ?_)
          refine goes_ Try.func45 (by kernel_rfl) rfl #[.agg #[.int .i64 (rd_T72 l0 (kk : Int)).f1.f0, .int .i64 (rd_T72 l0 (kk : Int)).f1.f1, .int .i64 (rd_T72 l0 (kk : Int)).f1.f2, .int .i64 (rd_T72 l0 (kk : Int)).f1.f3, .int .i64 (rd_T72 l0 (kk : Int)).f1.f4, .int .i64 (rd_T72 l0 (kk : Int)).f1.f5]] (by rfl) rfl rfl (by (try simp only [vX, List.map_cons, List.map_nil]); first | done | rfl) ?_
          refine (spec_IsValidOp.calls (rd_T72 l0 (kk : Int)).f1.f0 (rd_T72 l0 (kk : Int)).f1.f1 (rd_T72 l0 (kk : Int)).f1.f2 (rd_T72 l0 (kk : Int)).f1.f3 (rd_T72 l0 (kk : Int)).f1.f4 (rd_T72 l0 (kk : Int)).f1.f5 true _ hv).mono ?_
          rintro e w' ⟨rfl, hb⟩
          refine ⟨_, rfl, ?_⟩
          have HB1 := Aside0.mk (uS HB.out hb)
          clear HB
          have HB := HB1
          clear HB1
          obtain ⟨s0, s1, s2, s3, s4, s5, s6, s7⟩ := hHeld
          refine hK.out _ _ ⟨uY hb s0, uY hb s1, uY hb s2, uY hb s3, uY hb s4, uY hb s5, uY hb s6, fun h0 => uY hb (s7 h0)⟩ (fun hHeld => ?_)
          clear hK K hb s0 s1 s2 s3 s4 s5 s6 s7
          refine vC (a' := ?_) ?_ ?_
          rotate_left
          · show Act.put _ (some 23) _ = _; simp only [Act.put, vU, vV, vW, uL, uM]; rfl
          refine uJ (i := 14) (N := some 24) (v := ?_) (a' := ?_) (bA_spec 34 32767) rfl rfl (by kernel_rfl) (fun _ _ _ h => h) (Or.inl ⟨by rfl, ?_⟩) ?_ ?_
          rotate_left
          · intro w'; go_simp; with_reducible rfl
          rotate_left
          · simp only [Act.put, vU, vV, vW, uL, uM]; rfl
          refine uJ (i := 15) (N := some 25) (v := ?_) (a' := ?_) (bA_spec 34 65535) rfl rfl (by kernel_rfl) (fun _ _ _ h => h) (Or.inl ⟨by rfl, ?_⟩) ?_ ?_
          rotate_left
          · intro w'; go_simp; with_reducible rfl
          rotate_left
          · simp only [Act.put, vU, vV, vW, uL, uM]; rfl
          refine uJ (i := 16) (N := some 26) (v := ?_) (a' := ?_) (bA_spec 34 131071) rfl rfl (by kernel_rfl) (fun _ _ _ h => h) (Or.inl ⟨by rfl, ?_⟩) ?_ ?_
          rotate_left
          · intro w'; go_simp; with_reducible rfl
          rotate_left
          · simp only [Act.put, vU, vV, vW, uL, uM]; rfl
          refine uJ (i := 17) (N := some 27) (v := ?_) (a' := ?_) (bA_spec 34 262143) rfl rfl (by kernel_rfl) (fun _ _ _ h => h) (Or.inl ⟨by rfl, ?_⟩) ?_ ?_
          rotate_left
          · intro w'; go_simp; with_reducible rfl
          rotate_left
          · simp only [Act.put, vU, vV, vW, uL, uM]; rfl
          by_cases h0 : 0 < kk
          · have hp0 := eq_true (show (kk : Int) > 0 by omega)
            have hp3 := eq_true (show (0 : Int) < (kk : Int) by omega)
            have hp1 := eq_true (show (0 : Int) ≤ (kk : Int) - 1 by omega)
            have hp5 := eq_true (show (1 : Int) ≤ (kk : Int) by omega)
            have hp2 := eq_true (show (kk : Int) - 1 < (l0.length : Int) by omega)
            refine uJ (i := 18) (N := some 28) (v := ?_) (a' := ?_) (bA_spec 34 524287) rfl rfl (by kernel_rfl) (fun _ _ _ h => h) (Or.inl ⟨by rfl, ?_⟩) ?_ ?_
            rotate_left
            · intro w'; go_simp; with_reducible rfl
            rotate_left
            · simp only [Act.put, vU, vV, vW, uL, uM]; rfl
            refine uJ (i := 19) (N := some 29) (v := ?_) (a' := ?_) (bA_spec 34 1048575) rfl rfl (by kernel_rfl) (fun _ _ _ h => h) (Or.inl ⟨by rfl, ?_⟩) ?_ ?_
            rotate_left
            · intro w'; go_simp; with_reducible rfl
            rotate_left
            · simp only [Act.put, vU, vV, vW, uL, uM]; rfl
            refine uJ (i := 20) (N := some 30) (v := ?_) (a' := ?_) (bA_spec 34 2097151) rfl rfl (by kernel_rfl) (fun _ _ _ h => h) (Or.inl ⟨by rfl, ?_⟩) ?_ ?_
            rotate_left
            · intro w'; go_simp; with_reducible rfl
            rotate_left
            · simp only [Act.put, vU, vV, vW, uL, uM]; rfl
            refine uJ (i := 21) (N := some 31) (v := ?_) (a' := ?_) (bA_spec 34 4194303) rfl rfl (by kernel_rfl) (fun _ _ _ h => h) (Or.inl ⟨by rfl, ?_⟩) ?_ ?_
            rotate_left
            · intro w'; go_simp; with_reducible rfl
            rotate_left
            · simp only [Act.put, vU, vV, vW, uL, uM]; rfl
            refine uJ (i := 22) (N := some 32) (v := ?_) (a' := ?_) (bA_spec 34 8388607) rfl rfl (by kernel_rfl) (fun _ _ _ h => h) (Or.inl ⟨by rfl, ?_⟩) ?_ ?_
            rotate_left
            · intro w'; go_simp; with_reducible rfl
            rotate_left
            · simp only [Act.put, vU, vV, vW, uL, uM]; rfl
            refine uJ (i := 23) (N := some 33) (v := ?_) (a' := ?_) (bA_spec 34 16777215) rfl rfl (by kernel_rfl) (fun _ _ _ h => h) (Or.inl ⟨by rfl, ?_⟩) ?_ ?_
            rotate_left
            · intro w'; go_simp; with_reducible rfl
            rotate_left
            · simp only [Act.put, vU, vV, vW, uL, uM]; rfl
            refine uJ (i := 24) (N := some 34) (v := ?_) (a' := ?_) (bA_spec 34 33554431) rfl rfl (by kernel_rfl) (fun _ _ _ h => h) (Or.inl ⟨by rfl, ?_⟩) ?_ ?_
            rotate_left
            · intro w'; go_simp; with_reducible rfl
            rotate_left
            · simp only [Act.put, vU, vV, vW, uL, uM]; rfl
            refine take_ (i := 25) (N := some 35) (v := ?_) (a' := ?_) (bA_spec 34 67108863) rfl rfl (by kernel_rfl) (fun _ _ _ h => h) (Or.inl ⟨by rfl, ?_⟩) hHeld ?_ ?_
            rotate_left
            · rintro w' ⟨s0, s1, s2, s3, s4, s5, s6, s7⟩; replace s7 := s7 h0; go_simp; with_reducible rfl
            rotate_left
            · simp only [Act.put, vU, vV, vW, uL, uM]; rfl
            refine uJ (i := 26) (N := some 36) (v := ?_) (a' := ?_) (bA_spec 34 134217727) rfl rfl (by kernel_rfl) (fun _ _ _ h => h) (Or.inl ⟨by rfl, ?_⟩) ?_ ?_
            rotate_left
            · intro w'; go_simp; with_reducible rfl
            rotate_left
            · simp only [Act.put, vU, vV, vW, uL, uM]; rfl
            refine uJ (i := 27) (N := some 37) (v := ?_) (a' := ?_) (bA_spec 34 268435455) rfl rfl (by kernel_rfl) (fun _ _ _ h => h) (Or.inl ⟨by rfl, ?_⟩) ?_ ?_
            rotate_left
            · intro w'; go_simp; with_reducible rfl
            rotate_left
            · simp only [Act.put, vU, vV, vW, uL, uM]; rfl
            refine uJ (i := 28) (N := some 38) (v := ?_) (a' := ?_) (bA_spec 34 536870911) rfl rfl (by kernel_rfl) (fun _ _ _ h => h) (Or.inl ⟨by rfl, ?_⟩) ?_ ?_
            rotate_left
            · intro w'; go_simp; with_reducible rfl
            rotate_left
            · simp only [Act.put, vU, vV, vW, uL, uM]; rfl
            refine uJ (i := 29) (N := some 39) (v := ?_) (a' := ?_) (bA_spec 34 1073741823) rfl rfl (by kernel_rfl) (fun _ _ _ h => h) (Or.inl ⟨by rfl, ?_⟩) ?_ ?_
            rotate_left
            · intro w'; go_simp; with_reducible rfl
            rotate_left
            · simp only [Act.put, vU, vV, vW, uL, uM]; rfl
            refine take_ (i := 30) (N := some 40) (v := ?_) (a' := ?_) (bA_spec 34 2147483647) rfl rfl (by kernel_rfl) (fun _ _ _ h => h) (Or.inl ⟨by rfl, ?_⟩) hHeld ?_ ?_
            rotate_left
            · rintro w' ⟨s0, s1, s2, s3, s4, s5, s6, s7⟩; clear s7; go_simp; with_reducible rfl
            rotate_left
            · simp only [Act.put, vU, vV, vW, uL, uM]; rfl
            by_cases h4 : pv ≤ (rd_T72 l0 (kk : Int)).f0
            · have h4c := eq_false (show ¬ (pv > (rd_T72 l0 (kk : Int)).f0) by omega)
              have h4d := decide_eq_false (show ¬ (pv > (rd_T72 l0 (kk : Int)).f0) by omega)
              have h4e := eq_false (show ¬ ((rd_T72 l0 (kk : Int)).f0 < pv) by omega)
              refine uJ (i := 31) (N := some 41) (v := ?_) (a' := ?_) (bA_spec 34 4294967295) rfl rfl (by kernel_rfl) (fun _ _ _ h => h) (Or.inl ⟨by rfl, ?_⟩) ?_ ?_
              rotate_left
              · intro w'; go_simp; with_reducible rfl
              rotate_left
              · simp only [Act.put, vU, vV, vW, uL, uM]; rfl
              refine uJ (i := 32) (N := some 42) (v := ?_) (a' := ?_) (bA_spec 34 8589934591) rfl rfl (by kernel_rfl) (fun _ _ _ h => h) (Or.inl ⟨by rfl, ?_⟩) ?_ ?_
              rotate_left
              · intro w'; go_simp; with_reducible rfl
              rotate_left
              · simp only [Act.put, vU, vV, vW, uL, uM]; rfl
              refine uJ (i := 33) (N := some 43) (v := ?_) (a' := ?_) (bA_spec 34 17179869183) rfl rfl (by kernel_rfl) (fun _ _ _ h => h) (Or.inl ⟨by rfl, ?_⟩) ?_ ?_
              rotate_left
              · intro w'; go_simp; with_reducible rfl
              rotate_left
              · simp only [Act.put, vU, vV, vW, uL, uM]; rfl
              refine done_ (by kernel_rfl) ?_
              go_wp2
              go_roundg (l0.length - (kk + 1))
              case measure => have := HK.out; omega
              case rel =>
                refine ⟨kk + 1, by first | (rw [show wrap64 ((kk : Int) + 1) = ((kk + 1 : Nat) : Int) by have := HL1.out; unfold wrap64; omega]) | rfl, ⟨by have := HK.out; omega, by have := HK.out; omega⟩, HB, ⟨fun j hj => ?_⟩⟩
                rcases Nat.lt_succ_iff_lt_or_eq.1 hj with hj | rfl
                · exact HA.out j hj
                · exact ⟨h1, hv, fun h => by first | exact absurd h h0 | (rw [← (HPV2.out h).2]; exact h4)⟩
            · have h4c := eq_true (show pv > (rd_T72 l0 (kk : Int)).f0 by omega)
              have h4d := decide_eq_true (show pv > (rd_T72 l0 (kk : Int)).f0 by omega)
              have h4e := eq_true (show (rd_T72 l0 (kk : Int)).f0 < pv by omega)
              refine uJ (i := 31) (N := some 41) (v := ?_) (a' := ?_) (bA_spec 34 4294967295) rfl rfl (by kernel_rfl) (fun _ _ _ h => h) (Or.inl ⟨by rfl, ?_⟩) ?_ ?_
              rotate_left
              · intro w'; go_simp; with_reducible rfl
              rotate_left
              · simp only [Act.put, vU, vV, vW, uL, uM]; rfl
              refine uJ (i := 32) (N := some 42) (v := ?_) (a' := ?_) (bA_spec 34 8589934591) rfl rfl (by kernel_rfl) (fun _ _ _ h => h) (Or.inl ⟨by rfl, ?_⟩) ?_ ?_
              rotate_left
              · intro w'; go_simp; with_reducible rfl
              rotate_left
              · simp only [Act.put, vU, vV, vW, uL, uM]; rfl
              refine uJ (i := 33) (N := some 43) (v := ?_) (a' := ?_) (bA_spec 34 17179869183) rfl rfl (by kernel_rfl) (fun _ _ _ h => h) (Or.inl ⟨by rfl, ?_⟩) ?_ ?_
              rotate_left
              · intro w'; go_simp; with_reducible rfl
              rotate_left
              · simp only [Act.put, vU, vV, vW, uL, uM]; rfl
              refine done_ (by kernel_rfl) ?_
              go_wp2
              go_ret
              exact ⟨by rw [HNO.out (pv ≤ (rd_T72 l0 (kk : Int)).f0) (fun h => by rw [(HPV2.out h0).2]; exact h.2.2 h0) (by omega)]; rfl, by first | exact HB.out | (rw [← World.drewN_drewN]; exact HB.out)⟩
          · have hp0 := eq_false (show ¬ ((kk : Int) > 0) by omega)
            have hp3 := eq_false (show ¬ ((0 : Int) < (kk : Int)) by omega)
            refine uJ (i := 18) (N := some 28) (v := ?_) (a' := ?_) (bA_spec 34 524287) rfl rfl (by kernel_rfl) (fun _ _ _ h => h) (Or.inl ⟨by rfl, ?_⟩) ?_ ?_
            rotate_left
            · intro w'; go_simp; with_reducible rfl
            rotate_left
            · simp only [Act.put, vU, vV, vW, uL, uM]; rfl
            refine uJ (i := 19) (N := some 29) (v := ?_) (a' := ?_) (bA_spec 34 1048575) rfl rfl (by kernel_rfl) (fun _ _ _ h => h) (Or.inl ⟨by rfl, ?_⟩) ?_ ?_
            rotate_left
            · intro w'; go_simp; with_reducible rfl
            rotate_left
            · simp only [Act.put, vU, vV, vW, uL, uM]; rfl
            refine uJ (i := 20) (N := some 30) (v := undef) (a' := ?_) (bA_spec 34 2097151) rfl rfl (by kernel_rfl) (fun _ _ _ h => h) (Or.inr ⟨by rfl, rfl⟩) ?_ ?_
            rotate_left
            · simp only [Act.put, vU, vV, vW]; rfl
            refine uJ (i := 21) (N := some 31) (v := undef) (a' := ?_) (bA_spec 34 4194303) rfl rfl (by kernel_rfl) (fun _ _ _ h => h) (Or.inr ⟨by rfl, rfl⟩) ?_ ?_
            rotate_left
            · simp only [Act.put, vU, vV, vW]; rfl
            refine uJ (i := 22) (N := some 32) (v := undef) (a' := ?_) (bA_spec 34 8388607) rfl rfl (by kernel_rfl) (fun _ _ _ h => h) (Or.inr ⟨by rfl, rfl⟩) ?_ ?_
            rotate_left
            · simp only [Act.put, vU, vV, vW]; rfl
            refine uJ (i := 23) (N := some 33) (v := undef) (a' := ?_) (bA_spec 34 16777215) rfl rfl (by kernel_rfl) (fun _ _ _ h => h) (Or.inr ⟨by rfl, rfl⟩) ?_ ?_
            rotate_left
            · simp only [Act.put, vU, vV, vW]; rfl
            refine uJ (i := 24) (N := some 34) (v := undef) (a' := ?_) (bA_spec 34 33554431) rfl rfl (by kernel_rfl) (fun _ _ _ h => h) (Or.inr ⟨by rfl, rfl⟩) ?_ ?_
            rotate_left
            · simp only [Act.put, vU, vV, vW]; rfl
            refine uJ (i := 25) (N := some 35) (v := undef) (a' := ?_) (bA_spec 34 67108863) rfl rfl (by kernel_rfl) (fun _ _ _ h => h) (Or.inr ⟨by rfl, rfl⟩) ?_ ?_
            rotate_left
            · simp only [Act.put, vU, vV, vW]; rfl
            refine uJ (i := 26) (N := some 36) (v := undef) (a' := ?_) (bA_spec 34 134217727) rfl rfl (by kernel_rfl) (fun _ _ _ h => h) (Or.inr ⟨by rfl, rfl⟩) ?_ ?_
            rotate_left
            · simp only [Act.put, vU, vV, vW]; rfl
            refine uJ (i := 27) (N := some 37) (v := undef) (a' := ?_) (bA_spec 34 268435455) rfl rfl (by kernel_rfl) (fun _ _ _ h => h) (Or.inr ⟨by rfl, rfl⟩) ?_ ?_
            rotate_left
            · simp only [Act.put, vU, vV, vW]; rfl
            refine uJ (i := 28) (N := some 38) (v := undef) (a' := ?_) (bA_spec 34 536870911) rfl rfl (by kernel_rfl) (fun _ _ _ h => h) (Or.inr ⟨by rfl, rfl⟩) ?_ ?_
            rotate_left
            · simp only [Act.put, vU, vV, vW]; rfl
            refine uJ (i := 29) (N := some 39) (v := undef) (a' := ?_) (bA_spec 34 1073741823) rfl rfl (by kernel_rfl) (fun _ _ _ h => h) (Or.inr ⟨by rfl, rfl⟩) ?_ ?_
            rotate_left
            · simp only [Act.put, vU, vV, vW]; rfl
            refine uJ (i := 30) (N := some 40) (v := undef) (a' := ?_) (bA_spec 34 2147483647) rfl rfl (by kernel_rfl) (fun _ _ _ h => h) (Or.inr ⟨by rfl, rfl⟩) ?_ ?_
            rotate_left
            · simp only [Act.put, vU, vV, vW]; rfl
            refine uJ (i := 31) (N := some 41) (v := undef) (a' := ?_) (bA_spec 34 4294967295) rfl rfl (by kernel_rfl) (fun _ _ _ h => h) (Or.inr ⟨by rfl, rfl⟩) ?_ ?_
            rotate_left
            · simp only [Act.put, vU, vV, vW]; rfl
            refine uJ (i := 32) (N := some 42) (v := ?_) (a' := ?_) (bA_spec 34 8589934591) rfl rfl (by kernel_rfl) (fun _ _ _ h => h) (Or.inl ⟨by rfl, ?_⟩) ?_ ?_
            rotate_left
            · intro w'; go_simp; with_reducible rfl
            rotate_left
            · simp only [Act.put, vU, vV, vW, uL, uM]; rfl
            refine uJ (i := 33) (N := some 43) (v := ?_) (a' := ?_) (bA_spec 34 17179869183) rfl rfl (by kernel_rfl) (fun _ _ _ h => h) (Or.inl ⟨by rfl, ?_⟩) ?_ ?_
            rotate_left
            · intro w'; go_simp; with_reducible rfl
            rotate_left
            · simp only [Act.put, vU, vV, vW, uL, uM]; rfl
            refine done_ (by kernel_rfl) ?_
            go_wp2
            go_roundg (l0.length - (kk + 1))
            case measure => have := HK.out; omega
            case rel =>
              refine ⟨kk + 1, by first | (rw [show wrap64 ((kk : Int) + 1) = ((kk + 1 : Nat) : Int) by have := HL1.out; unfold wrap64; omega]) | rfl, ⟨by have := HK.out; omega, by have := HK.out; omega⟩, HB, ⟨fun j hj => ?_⟩⟩
              rcases Nat.lt_succ_iff_lt_or_eq.1 hj with hj | rfl
              · exact HA.out j hj
              · exact ⟨h1, hv, fun h => by first | exact absurd h h0 | (rw [← (HPV2.out h).2]; exact h4)⟩
        · refine one_ (i := 13) (N := some 23) (bA_spec 34 16383) rfl rfl (by kernel_rfl) (by decide) (fun K hK => ?_)
          refine goes_ Try.func45 (by kernel_rfl) rfl #[.agg #[.int .i64 (rd_T72 l0 (kk : Int)).f1.f0, .int .i64 (rd_T72 l0 (kk : Int)).f1.f1, .int .i64 (rd_T72 l0 (kk : Int)).f1.f2, .int .i64 (rd_T72 l0 (kk : Int)).f1.f3, .int .i64 (rd_T72 l0 (kk : Int)).f1.f4, .int .i64 (rd_T72 l0 (kk : Int)).f1.f5]] (by rfl) rfl rfl (by (try simp only [vX, List.map_cons, List.map_nil]); first | done | rfl) ?_
          refine (spec_IsValidOp.calls (rd_T72 l0 (kk : Int)).f1.f0 (rd_T72 l0 (kk : Int)).f1.f1 (rd_T72 l0 (kk : Int)).f1.f2 (rd_T72 l0 (kk : Int)).f1.f3 (rd_T72 l0 (kk : Int)).f1.f4 (rd_T72 l0 (kk : Int)).f1.f5 false _ hv).mono ?_
          rintro e w' ⟨rfl, hb⟩
          refine ⟨_, rfl, ?_⟩
          have HB1 := Aside0.mk (uS HB.out hb)
          clear HB
          have HB := HB1
          clear HB1
          obtain ⟨s0, s1, s2, s3, s4, s5, s6, s7⟩ := hHeld
          refine hK.out _ _ ⟨uY hb s0, uY hb s1, uY hb s2, uY hb s3, uY hb s4, uY hb s5, uY hb s6, fun h0 => uY hb (s7 h0)⟩ (fun hHeld => ?_)
          clear hK K hb s0 s1 s2 s3 s4 s5 s6 s7
          refine vC (a' := ?_) ?_ ?_
          rotate_left
          · show Act.put _ (some 23) _ = _; simp only [Act.put, vU, vV, vW, uL, uM]; rfl
          refine uJ (i := 14) (N := some 24) (v := ?_) (a' := ?_) (bA_spec 34 32767) rfl rfl (by kernel_rfl) (fun _ _ _ h => h) (Or.inl ⟨by rfl, ?_⟩) ?_ ?_
          rotate_left
          · intro w'; go_simp; with_reducible rfl
          rotate_left
          · simp only [Act.put, vU, vV, vW, uL, uM]; rfl
          refine uJ (i := 15) (N := some 25) (v := ?_) (a' := ?_) (bA_spec 34 65535) rfl rfl (by kernel_rfl) (fun _ _ _ h => h) (Or.inl ⟨by rfl, ?_⟩) ?_ ?_
          rotate_left
          · intro w'; go_simp; with_reducible rfl
          rotate_left
          · simp only [Act.put, vU, vV, vW, uL, uM]; rfl
          refine uJ (i := 16) (N := some 26) (v := ?_) (a' := ?_) (bA_spec 34 131071) rfl rfl (by kernel_rfl) (fun _ _ _ h => h) (Or.inl ⟨by rfl, ?_⟩) ?_ ?_
          rotate_left
          · intro w'; go_simp; with_reducible rfl
          rotate_left
          · simp only [Act.put, vU, vV, vW, uL, uM]; rfl
          refine uJ (i := 17) (N := some 27) (v := undef) (a' := ?_) (bA_spec 34 262143) rfl rfl (by kernel_rfl) (fun _ _ _ h => h) (Or.inr ⟨by rfl, rfl⟩) ?_ ?_
          rotate_left
          · simp only [Act.put, vU, vV, vW]; rfl
          refine uJ (i := 18) (N := some 28) (v := undef) (a' := ?_) (bA_spec 34 524287) rfl rfl (by kernel_rfl) (fun _ _ _ h => h) (Or.inr ⟨by rfl, rfl⟩) ?_ ?_
          rotate_left
          · simp only [Act.put, vU, vV, vW]; rfl
          refine uJ (i := 19) (N := some 29) (v := undef) (a' := ?_) (bA_spec 34 1048575) rfl rfl (by kernel_rfl) (fun _ _ _ h => h) (Or.inr ⟨by rfl, rfl⟩) ?_ ?_
          rotate_left
          · simp only [Act.put, vU, vV, vW]; rfl
          refine uJ (i := 20) (N := some 30) (v := undef) (a' := ?_) (bA_spec 34 2097151) rfl rfl (by kernel_rfl) (fun _ _ _ h => h) (Or.inr ⟨by rfl, rfl⟩) ?_ ?_
          rotate_left
          · simp only [Act.put, vU, vV, vW]; rfl
          refine uJ (i := 21) (N := some 31) (v := undef) (a' := ?_) (bA_spec 34 4194303) rfl rfl (by kernel_rfl) (fun _ _ _ h => h) (Or.inr ⟨by rfl, rfl⟩) ?_ ?_
          rotate_left
          · simp only [Act.put, vU, vV, vW]; rfl
          refine uJ (i := 22) (N := some 32) (v := undef) (a' := ?_) (bA_spec 34 8388607) rfl rfl (by kernel_rfl) (fun _ _ _ h => h) (Or.inr ⟨by rfl, rfl⟩) ?_ ?_
          rotate_left
          · simp only [Act.put, vU, vV, vW]; rfl
          refine uJ (i := 23) (N := some 33) (v := undef) (a' := ?_) (bA_spec 34 16777215) rfl rfl (by kernel_rfl) (fun _ _ _ h => h) (Or.inr ⟨by rfl, rfl⟩) ?_ ?_
          rotate_left
          · simp only [Act.put, vU, vV, vW]; rfl
          refine uJ (i := 24) (N := some 34) (v := undef) (a' := ?_) (bA_spec 34 33554431) rfl rfl (by kernel_rfl) (fun _ _ _ h => h) (Or.inr ⟨by rfl, rfl⟩) ?_ ?_
          rotate_left
          · simp only [Act.put, vU, vV, vW]; rfl
          refine uJ (i := 25) (N := some 35) (v := undef) (a' := ?_) (bA_spec 34 67108863) rfl rfl (by kernel_rfl) (fun _ _ _ h => h) (Or.inr ⟨by rfl, rfl⟩) ?_ ?_
          rotate_left
          · simp only [Act.put, vU, vV, vW]; rfl
          refine uJ (i := 26) (N := some 36) (v := undef) (a' := ?_) (bA_spec 34 134217727) rfl rfl (by kernel_rfl) (fun _ _ _ h => h) (Or.inr ⟨by rfl, rfl⟩) ?_ ?_
          rotate_left
          · simp only [Act.put, vU, vV, vW]; rfl
          refine uJ (i := 27) (N := some 37) (v := undef) (a' := ?_) (bA_spec 34 268435455) rfl rfl (by kernel_rfl) (fun _ _ _ h => h) (Or.inr ⟨by rfl, rfl⟩) ?_ ?_
          rotate_left
          · simp only [Act.put, vU, vV, vW]; rfl
          refine uJ (i := 28) (N := some 38) (v := undef) (a' := ?_) (bA_spec 34 536870911) rfl rfl (by kernel_rfl) (fun _ _ _ h => h) (Or.inr ⟨by rfl, rfl⟩) ?_ ?_
          rotate_left
          · simp only [Act.put, vU, vV, vW]; rfl
          refine uJ (i := 29) (N := some 39) (v := undef) (a' := ?_) (bA_spec 34 1073741823) rfl rfl (by kernel_rfl) (fun _ _ _ h => h) (Or.inr ⟨by rfl, rfl⟩) ?_ ?_
          rotate_left
          · simp only [Act.put, vU, vV, vW]; rfl
          refine uJ (i := 30) (N := some 40) (v := undef) (a' := ?_) (bA_spec 34 2147483647) rfl rfl (by kernel_rfl) (fun _ _ _ h => h) (Or.inr ⟨by rfl, rfl⟩) ?_ ?_
          rotate_left
          · simp only [Act.put, vU, vV, vW]; rfl
          refine uJ (i := 31) (N := some 41) (v := undef) (a' := ?_) (bA_spec 34 4294967295) rfl rfl (by kernel_rfl) (fun _ _ _ h => h) (Or.inr ⟨by rfl, rfl⟩) ?_ ?_
          rotate_left
          · simp only [Act.put, vU, vV, vW]; rfl
          refine uJ (i := 32) (N := some 42) (v := undef) (a' := ?_) (bA_spec 34 8589934591) rfl rfl (by kernel_rfl) (fun _ _ _ h => h) (Or.inr ⟨by rfl, rfl⟩) ?_ ?_
          rotate_left
          · simp only [Act.put, vU, vV, vW]; rfl
          refine uJ (i := 33) (N := some 43) (v := ?_) (a' := ?_) (bA_spec 34 17179869183) rfl rfl (by kernel_rfl) (fun _ _ _ h => h) (Or.inl ⟨by rfl, ?_⟩) ?_ ?_
          rotate_left
          · intro w'; go_simp; with_reducible rfl
          rotate_left
          · simp only [Act.put, vU, vV, vW, uL, uM]; rfl
          refine done_ (by kernel_rfl) ?_
          go_wp2
          go_ret
          exact ⟨by rw [HNO.out (spec_IsValidOp.f (rd_T72 l0 (kk : Int)).f1.f0 (rd_T72 l0 (kk : Int)).f1.f1 (rd_T72 l0 (kk : Int)).f1.f2 (rd_T72 l0 (kk : Int)).f1.f3 (rd_T72 l0 (kk : Int)).f1.f4 (rd_T72 l0 (kk : Int)).f1.f5 = some true) (fun h => h.2.1) (by rw [hv]; simp)]; rfl, by first | exact HB.out | (rw [← World.drewN_drewN]; exact HB.out)⟩
      · refine one_ (i := 5) (N := some 15) (bA_spec 34 63) rfl rfl (by kernel_rfl) (by decide) (fun K hK => ?_)
        refine goes_ Try.func66 (by kernel_rfl) rfl #[.int .i64 (rd_T72 l0 (kk : Int)).f0, .int .i64 1, .int .i64 20] (by rfl) rfl rfl (by (try simp only [vX, List.map_cons, List.map_nil]); first | done | rfl) ?_
        refine (spec_l1In.no_ h1 _).mono ?_
        rintro e w' ⟨rfl, ⟨nd5, rfl⟩⟩
        refine ⟨_, rfl, ?_⟩
        have HB1 := Aside0.mk (uA HB.out nd5)
        clear HB
        have HB := HB1
        clear HB1
        refine hK.out _ _ hHeld (fun hHeld => ?_)
        clear hK K
        refine vC (a' := ?_) ?_ ?_
        rotate_left
        · show Act.put _ (some 15) _ = _; simp only [Act.put, vU, vV, vW, uL, uM]; rfl
        refine uJ (i := 6) (N := some 16) (v := ?_) (a' := ?_) (bA_spec 34 127) rfl rfl (by kernel_rfl) (fun _ _ _ h => h) (Or.inl ⟨by rfl, ?_⟩) ?_ ?_
        rotate_left
        · intro w'; go_simp; with_reducible rfl
        rotate_left
        · simp only [Act.put, vU, vV, vW, uL, uM]; rfl
        refine uJ (i := 7) (N := some 17) (v := ?_) (a' := ?_) (bA_spec 34 255) rfl rfl (by kernel_rfl) (fun _ _ _ h => h) (Or.inl ⟨by rfl, ?_⟩) ?_ ?_
        rotate_left
        · intro w'; go_simp; with_reducible rfl
        rotate_left
        · simp only [Act.put, vU, vV, vW, uL, uM]; rfl
        refine uJ (i := 8) (N := some 18) (v := undef) (a' := ?_) (bA_spec 34 511) rfl rfl (by kernel_rfl) (fun _ _ _ h => h) (Or.inr ⟨by rfl, rfl⟩) ?_ ?_
        rotate_left
        · simp only [Act.put, vU, vV, vW]; rfl
        refine uJ (i := 9) (N := some 19) (v := undef) (a' := ?_) (bA_spec 34 1023) rfl rfl (by kernel_rfl) (fun _ _ _ h => h) (Or.inr ⟨by rfl, rfl⟩) ?_ ?_
        rotate_left
        · simp only [Act.put, vU, vV, vW]; rfl
        refine uJ (i := 10) (N := some 20) (v := undef) (a' := ?_) (bA_spec 34 2047) rfl rfl (by kernel_rfl) (fun _ _ _ h => h) (Or.inr ⟨by rfl, rfl⟩) ?_ ?_
        rotate_left
        · simp only [Act.put, vU, vV, vW]; rfl
        refine uJ (i := 11) (N := some 21) (v := undef) (a' := ?_) (bA_spec 34 4095) rfl rfl (by kernel_rfl) (fun _ _ _ h => h) (Or.inr ⟨by rfl, rfl⟩) ?_ ?_
        rotate_left
        · simp only [Act.put, vU, vV, vW]; rfl
        refine uJ (i := 12) (N := some 22) (v := undef) (a' := ?_) (bA_spec 34 8191) rfl rfl (by kernel_rfl) (fun _ _ _ h => h) (Or.inr ⟨by rfl, rfl⟩) ?_ ?_
        rotate_left
        · simp only [Act.put, vU, vV, vW]; rfl
        refine uJ (i := 13) (N := some 23) (v := undef) (a' := ?_) (bA_spec 34 16383) rfl rfl (by kernel_rfl) (fun _ _ _ h => h) (Or.inr ⟨by rfl, rfl⟩) ?_ ?_
        rotate_left
        · simp only [Act.put, vU, vV, vW]; rfl
        refine uJ (i := 14) (N := some 24) (v := undef) (a' := ?_) (bA_spec 34 32767) rfl rfl (by kernel_rfl) (fun _ _ _ h => h) (Or.inr ⟨by rfl, rfl⟩) ?_ ?_
        rotate_left
        · simp only [Act.put, vU, vV, vW]; rfl
        refine uJ (i := 15) (N := some 25) (v := ?_) (a' := ?_) (bA_spec 34 65535) rfl rfl (by kernel_rfl) (fun _ _ _ h => h) (Or.inl ⟨by rfl, ?_⟩) ?_ ?_
        rotate_left
        · intro w'; go_simp; with_reducible rfl
        rotate_left
        · simp only [Act.put, vU, vV, vW, uL, uM]; rfl
        refine uJ (i := 16) (N := some 26) (v := ?_) (a' := ?_) (bA_spec 34 131071) rfl rfl (by kernel_rfl) (fun _ _ _ h => h) (Or.inl ⟨by rfl, ?_⟩) ?_ ?_
        rotate_left
        · intro w'; go_simp; with_reducible rfl
        rotate_left
        · simp only [Act.put, vU, vV, vW, uL, uM]; rfl
        refine uJ (i := 17) (N := some 27) (v := undef) (a' := ?_) (bA_spec 34 262143) rfl rfl (by kernel_rfl) (fun _ _ _ h => h) (Or.inr ⟨by rfl, rfl⟩) ?_ ?_
        rotate_left
        · simp only [Act.put, vU, vV, vW]; rfl
        refine uJ (i := 18) (N := some 28) (v := undef) (a' := ?_) (bA_spec 34 524287) rfl rfl (by kernel_rfl) (fun _ _ _ h => h) (Or.inr ⟨by rfl, rfl⟩) ?_ ?_
        rotate_left
        · simp only [Act.put, vU, vV, vW]; rfl
        refine uJ (i := 19) (N := some 29) (v := undef) (a' := ?_) (bA_spec 34 1048575) rfl rfl (by kernel_rfl) (fun _ _ _ h => h) (Or.inr ⟨by rfl, rfl⟩) ?_ ?_
        rotate_left
        · simp only [Act.put, vU, vV, vW]; rfl
        refine uJ (i := 20) (N := some 30) (v := undef) (a' := ?_) (bA_spec 34 2097151) rfl rfl (by kernel_rfl) (fun _ _ _ h => h) (Or.inr ⟨by rfl, rfl⟩) ?_ ?_
        rotate_left
        · simp only [Act.put, vU, vV, vW]; rfl
        refine uJ (i := 21) (N := some 31) (v := undef) (a' := ?_) (bA_spec 34 4194303) rfl rfl (by kernel_rfl) (fun _ _ _ h => h) (Or.inr ⟨by rfl, rfl⟩) ?_ ?_
        rotate_left
        · simp only [Act.put, vU, vV, vW]; rfl
        refine uJ (i := 22) (N := some 32) (v := undef) (a' := ?_) (bA_spec 34 8388607) rfl rfl (by kernel_rfl) (fun _ _ _ h => h) (Or.inr ⟨by rfl, rfl⟩) ?_ ?_
        rotate_left
        · simp only [Act.put, vU, vV, vW]; rfl
        refine uJ (i := 23) (N := some 33) (v := undef) (a' := ?_) (bA_spec 34 16777215) rfl rfl (by kernel_rfl) (fun _ _ _ h => h) (Or.inr ⟨by rfl, rfl⟩) ?_ ?_
        rotate_left
        · simp only [Act.put, vU, vV, vW]; rfl
        refine uJ (i := 24) (N := some 34) (v := undef) (a' := ?_) (bA_spec 34 33554431) rfl rfl (by kernel_rfl) (fun _ _ _ h => h) (Or.inr ⟨by rfl, rfl⟩) ?_ ?_
        rotate_left
        · simp only [Act.put, vU, vV, vW]; rfl
        refine uJ (i := 25) (N := some 35) (v := undef) (a' := ?_) (bA_spec 34 67108863) rfl rfl (by kernel_rfl) (fun _ _ _ h => h) (Or.inr ⟨by rfl, rfl⟩) ?_ ?_
        rotate_left
        · simp only [Act.put, vU, vV, vW]; rfl
        refine uJ (i := 26) (N := some 36) (v := undef) (a' := ?_) (bA_spec 34 134217727) rfl rfl (by kernel_rfl) (fun _ _ _ h => h) (Or.inr ⟨by rfl, rfl⟩) ?_ ?_
        rotate_left
        · simp only [Act.put, vU, vV, vW]; rfl
        refine uJ (i := 27) (N := some 37) (v := undef) (a' := ?_) (bA_spec 34 268435455) rfl rfl (by kernel_rfl) (fun _ _ _ h => h) (Or.inr ⟨by rfl, rfl⟩) ?_ ?_
        rotate_left
        · simp only [Act.put, vU, vV, vW]; rfl
        refine uJ (i := 28) (N := some 38) (v := undef) (a' := ?_) (bA_spec 34 536870911) rfl rfl (by kernel_rfl) (fun _ _ _ h => h) (Or.inr ⟨by rfl, rfl⟩) ?_ ?_
        rotate_left
        · simp only [Act.put, vU, vV, vW]; rfl
        refine uJ (i := 29) (N := some 39) (v := undef) (a' := ?_) (bA_spec 34 1073741823) rfl rfl (by kernel_rfl) (fun _ _ _ h => h) (Or.inr ⟨by rfl, rfl⟩) ?_ ?_
        rotate_left
        · simp only [Act.put, vU, vV, vW]; rfl
        refine uJ (i := 30) (N := some 40) (v := undef) (a' := ?_) (bA_spec 34 2147483647) rfl rfl (by kernel_rfl) (fun _ _ _ h => h) (Or.inr ⟨by rfl, rfl⟩) ?_ ?_
        rotate_left
        · simp only [Act.put, vU, vV, vW]; rfl
        refine uJ (i := 31) (N := some 41) (v := undef) (a' := ?_) (bA_spec 34 4294967295) rfl rfl (by kernel_rfl) (fun _ _ _ h => h) (Or.inr ⟨by rfl, rfl⟩) ?_ ?_
        rotate_left
        · simp only [Act.put, vU, vV, vW]; rfl
        refine uJ (i := 32) (N := some 42) (v := undef) (a' := ?_) (bA_spec 34 8589934591) rfl rfl (by kernel_rfl) (fun _ _ _ h => h) (Or.inr ⟨by rfl, rfl⟩) ?_ ?_
        rotate_left
        · simp only [Act.put, vU, vV, vW]; rfl
        refine uJ (i := 33) (N := some 43) (v := ?_) (a' := ?_) (bA_spec 34 17179869183) rfl rfl (by kernel_rfl) (fun _ _ _ h => h) (Or.inl ⟨by rfl, ?_⟩) ?_ ?_
        rotate_left
        · intro w'; go_simp; with_reducible rfl
        rotate_left
        · simp only [Act.put, vU, vV, vW, uL, uM]; rfl
        refine done_ (by kernel_rfl) ?_
        go_wp2
        go_ret
        exact ⟨by rw [HNO.out (1 ≤ (rd_T72 l0 (kk : Int)).f0 ∧ (rd_T72 l0 (kk : Int)).f0 ≤ 20) (fun h => h.1) h1]; rfl, by first | exact HB.out | (rw [← World.drewN_drewN]; exact HB.out)⟩
    · have hltb := eq_false hlt
      have hall : ∀ j, j < l0.length → okE_spec l0 j := fun j hj => HA.out j (by have := HK.out; omega)
      have HALL := Aside0.mk hall
      clear hall HA
      go_wp2
      go_ret
      have hfin : decide ((l0.length : Int) ≤ 16) = V := by
        rw [← HV.out, Bool.eq_iff_iff, decide_eq_true_eq, decide_eq_true_eq]
        exact ⟨fun h => ⟨by omega, HALL.out⟩, fun h => by have := h.1; omega⟩
      exact ⟨by first | (rw [← hfin]; rfl) | (rw [hfin]; rfl), HB.out⟩


/-! ### spec_NewMachine: function 70 -/
def spec_NewMachine.f  : Option (List Int × (List (S49))) := some ((([0, 0, 0] : List Int)), ([] : List (S49)))
set_option maxHeartbeats 8000000 in
set_option maxRecDepth 100000 in
theorem spec_NewMachine.calls  (r1 : List Int) (r2 : List (S49)) (w : World) (h : spec_NewMachine.f  = some (r1, r2)) :
    Calls Try.prog 70 #[] w fun e w' => ∃ v0_ v1_ : Value, e = .returned (.agg #[v0_, v1_]) ∧ Kd.R (Kd.int .i64) 3 w' w.heap.size (fun _ => True) v0_ r1 ∧ Kd.R k49 49 w' w.heap.size (fun _ => True) v1_ r2 ∧ Below w.heap.size w w' := by
  have hu31 := Try.underlying31
  have HB := Aside0.mk (Below.refl w.heap.size w)
  have H : (some ((([0, 0, 0] : List Int)), ([] : List (S49)))) = some (r1, r2) := h
  clear h
  obtain ⟨y129, hy129⟩ : ∃ y_ : List Int, y_ = (([0, 0, 0] : List Int)) := ⟨_, rfl⟩
  replace H : (some (y129, ([] : List (S49)))) = some (r1, r2) := by first | (rw [hy129]; with_reducible exact H) | (have H2_ := (Option.bind_some _ _).symm.trans H; rw [hy129]; with_reducible exact H2_) | (have H2_ := (Option.bind_some _ _).symm.trans H; with_reducible exact H2_) | with_reducible exact H | (rw [hy129]; exact H) | exact H | rfl
  have Ny129 := Aside0.mk hy129
  clear hy129
  simp only [Option.some.injEq, Prod.mk.injEq] at H
  obtain ⟨rfl, rfl⟩ := H
  go_enter Try.func70, Try.ntmps70
  go_wp2_with (first | ((with_reducible refine uU (N := 0) rfl ?_); refine uT ?hg (N := 0) ?hd (cs := #[.slice none 0 0, .slice none 0 0]) (t := 31) ?hr ?_; (case hd => rfl); (case hg => rfl); (case hr => first | (go_simp; done) | (go_simp; rfl)); intro gb128 hg w1 hbox hb; have n0_ := Aside0.mk (uS (by repeat (first | (with_reducible first | exact HB.out | apply uG | apply uA | apply uF) | exact HB.out)) hb); have n1_ := Aside0.mk (hbox); have n2_ := Aside0.mk ((by rw [hg]; exact (uQ (by repeat (first | (with_reducible first | exact HB.out | apply uG | apply uA | apply uF) | exact HB.out))) : w.heap.size ≤ gb128)); have n3_ := Aside0.mk ((by rw [hg]; exact (uQ (by repeat (first | (with_reducible first | exact HB.out | apply uG | apply uA | apply uF) | exact HB.out))) : w.heap.size ≤ gb128)); clear HB; have HB := n0_; have BK128 := n1_; have GW128 := n2_; have GE128 := n3_; clear n0_ n1_ n2_ n3_; clear hb hbox hg) | ((with_reducible refine uU (N := 1) rfl ?_); refine Kd.R_lit (Kd.int .i64) _ 3 ?hg (N := 1) ?hd (xs := ([0, 0, 0] : List Int)) (inner := [.int .i64 0, .int .i64 0, .int .i64 0]) (ok := fun _ => True) (okp := fun _ => True) ?hr ?hp (fun _ hk => hk) trivial (Below.refl _ _) (Nat.le_refl _) (by simp) ?_; (case hd => rfl); (case hg => rfl); (case hr => first | (go_simp; done) | (go_simp; rfl)); (case hp => exact (Reps.one (show Kd.M (Kd.int .i64) _ _ _ 0 [.int .i64 0] from rfl) (Reps.one (show Kd.M (Kd.int .i64) _ _ _ 0 [.int .i64 0] from rfl) (Reps.one (show Kd.M (Kd.int .i64) _ _ _ 0 [.int .i64 0] from rfl) (Reps.none _ _))))); intro v130 w2 ho3 hb hg_ hnew_; clear hg_ hnew_; (first | rw [← Ny129.out] at ho3 | (simp only [Int.reduceToNat] at ho3; rw [← Ny129.out] at ho3)); have n0_ := Aside0.mk (Kd.vO ho3 (uQ (by repeat (first | (with_reducible first | exact HB.out | apply uG | apply uA | apply uF | refine uB ?_ GE128.out) | exact HB.out)))); have n1_ := Aside0.mk (uR (g := gb128) (o := .cells #[.slice none 0 0, .slice none 0 0] 31 (0, 0)) (by (with_reducible repeat (first | refine uC ?_ _ | refine uE ?_ | refine uD ?_ _)); exact BK128.out) hb); have n2_ := Aside0.mk (uS (by repeat (first | (with_reducible first | exact HB.out | apply uG | apply uA | apply uF | refine uB ?_ GE128.out) | exact HB.out)) hb); clear BK128; clear HB; have HO131 := n0_; have BK128 := n1_; have HB := n2_; clear n0_ n1_ n2_; clear hb ho3; obtain ⟨Ao4, co4, eo4⟩ := Kd.vN HO131.out; subst eo4; have hcz5_0 : w2.cell? ⟨gb128, 0, none⟩ = some (.slice none 0 0) := (uI BK128.out 0).trans rfl; have hcz5_1 : w2.cell? ⟨gb128, 1, none⟩ = some (.slice none 0 0) := (uI BK128.out 1).trans rfl; have hfz5_0 := uK BK128.out 0; have hfz5_1 := uK BK128.out 1))
  refine bodyPost_ret (results_cell_row rfl _ _ gb128 31 #[.slice Ao4 y129.length co4, .slice none 0 0] (0, 0) _ rfl (by (with_reducible repeat (first | refine uC ?_ _ | refine uE ?_ | refine uD ?_ _)); refine uW (cs := #[.slice Ao4 y129.length co4, .slice none 0 0]) ?_ 1 _ rfl; (with_reducible repeat (first | refine uC ?_ _ | refine uE ?_ | refine uD ?_ _)); refine uW (cs := #[.slice none 0 0, .slice none 0 0]) ?_ 0 _ rfl; (with_reducible repeat (first | refine uC ?_ _ | refine uE ?_ | refine uD ?_ _)); exact BK128.out) Try.underlying31 rfl (by kernel_rfl)) rfl ?_
  exact ⟨_, _, by first | rfl | (simp [errW_none, errW_some] <;> rfl) | (simp [*, errW_none, errW_some] <;> rfl), by (with_reducible repeat (first | apply Kd.uN | apply Kd.uO | apply Kd.uP)); exact Kd.uZ (Kd.vG (p := ⟨gb128, 1, none⟩) (Kd.vG (p := ⟨gb128, 0, none⟩) (Kd.vR HO131.out BK128.out (by decide)) (fun _ hk => hk.2) (.slice Ao4 y129.length co4)) (fun _ hk => hk.2) (.slice none 0 0)) (fun _ hk => trivial), by first | exact Kd.R_nil _ _ _ _ _ | exact Kd.N_nil _ _ _ _ _ | exact Kd.V_nil _ _ _ _ _ | exact Kd.Q_nil _ _ _ _ _ | exact Kd.S_nil _ _ _ _ _, by repeat (first | (with_reducible first | exact HB.out | apply uG | apply uA | apply uF | refine uB ?_ GE128.out) | exact HB.out)⟩

end Go.Proofs.Ytcikahnmiiichaa.T
