/- Go functions as Lean functions, and the proof that the code comes to them: written by a program of this session out of the translation. -/
import Derived.Test.YtcikahnmiiichaaDoorG0
import Derived.Test.YtcikahnmiiichaaDoorG7
namespace Go.Proofs.YtcikahnmiiichaaDoor.G
open List renaming setIfInBounds_toArray → uY, set_cons_zero → uZ, set_cons_succ → vA
open Go.World renaming block_lt_of_cell? → vE
open Go.Proofs.YtcikahnmiiichaaDoor.Given
open Go.RowKit Go.Proofs.YtcikahnmiiichaaDoorW.PrintWords Go.Proofs.YtcikahnmiiichaaDoorW.PrintLast Go.Proofs.YtcikahnmiiichaaDoorW.PrintMore
attribute [local go_sem] max2_int min2_int max_two min_two max_three min_three max_four min_four   -- for this text's walks alone
set_option linter.unusedVariables false
set_option linter.unusedSimpArgs false

/-! ### spec_IsLog: function 15 -/
def bA_spec (n m : Nat) : Array Bool := ((List.range n).map fun i => m.testBit i).toArray
theorem spec_l1In.yes_ {a b c : Int} (h : b ≤ a ∧ a ≤ c) (w : World) : Calls Tryd.prog 48 #[.int .i64 a, .int .i64 b, .int .i64 c] w fun e w' => e = .returned (.bool true) ∧ Drawn0 w w' := spec_l1In.calls a b c true w (by unfold spec_l1In.f; first | (rw [if_pos (show a ≥ b from h.1), decide_eq_true h.2]) | simp [h.1, h.2])
theorem spec_l1In.no_ {a b c : Int} (h : ¬ (b ≤ a ∧ a ≤ c)) (w : World) : Calls Tryd.prog 48 #[.int .i64 a, .int .i64 b, .int .i64 c] w fun e w' => e = .returned (.bool false) ∧ Drawn0 w w' := spec_l1In.calls a b c false w (by
  unfold spec_l1In.f
  by_cases h1 : a ≥ b
  · first | (rw [if_pos h1, decide_eq_false (fun h2 => h ⟨h1, h2⟩)]) | (have h2 : ¬ a ≤ c := fun h2 => h ⟨h1, h2⟩; simp [h1, h2])
  · simp [h1])
def okE_spec (xs : List S66) (j : Nat) : Prop := (1 ≤ (rd_T66 xs (j : Int)).f0 ∧ (rd_T66 xs (j : Int)).f0 ≤ 20) ∧ spec_IsValidOp.f (rd_T66 xs (j : Int)).f1.f0 (rd_T66 xs (j : Int)).f1.f1 (rd_T66 xs (j : Int)).f1.f2 (rd_T66 xs (j : Int)).f1.f3 (rd_T66 xs (j : Int)).f1.f4 (rd_T66 xs (j : Int)).f1.f5 = some true ∧ (0 < j → (rd_T66 xs ((j : Int) - 1)).f0 ≤ (rd_T66 xs (j : Int)).f0)
instance okE_spec_dec (xs : List S66) (j : Nat) : Decidable (okE_spec xs j) := inferInstanceAs (Decidable (_ ∧ _ ∧ (_ → _)))
def vL_spec (xs : List S66) : Prop := xs.length ≤ 16 ∧ ∀ j, j < xs.length → okE_spec xs j
instance vL_spec_dec (xs : List S66) : Decidable (vL_spec xs) := inferInstanceAs (Decidable (_ ∧ ∀ j, j < _ → _))
theorem spec_bindT {A B : Type} {o : Option A} {g : A → Option B} (ho : ∃ b, o = some b) (hg : ∀ b, ∃ r, g b = some r) : ∃ r, o.bind g = some r := by
  obtain ⟨b, rfl⟩ := ho
  exact hg b
theorem spec_iteT {B : Type} {p : Prop} [Decidable p] {a b : Option B} (ha : ∃ r, a = some r) (hb : ∃ r, b = some r) : ∃ r, (if p then a else b) = some r := by
  split <;> assumption
theorem spec_IsValidOp.tot (a b c d e f : Int) : ∃ r, spec_IsValidOp.f a b c d e f = some r := by
  unfold spec_IsValidOp.f spec_l1In.f
  repeat' (first | exact ⟨_, rfl⟩ | refine spec_iteT ?_ ?_ | refine spec_bindT ?_ (fun _ => ?_))
def spec_IsLog.f (k : Nat) (l0 : List S66) : Option Bool := some (decide (vL_spec l0))
theorem spec_IsLog.mono : ∀ a0 k, uF (spec_IsLog.f k a0) (spec_IsLog.f (k + 1) a0) := fun _ _ => uF.refl _
set_option maxHeartbeats 8000000 in
set_option maxRecDepth 100000 in
theorem spec_IsLog.calls (k : Nat) (A0 : Option Addr) (c0 : Nat) (l0 : List (S66)) (r : Bool) (w : World) (hr0 : Kd.C k66 w A0 l0.length l0) (hc0 : l0.length ≤ c0) (h : spec_IsLog.f k l0 = some r) :
    Calls Tryd.prog 15 #[.slice A0 l0.length c0] w fun e w' => e = .returned (.bool r) ∧ Below w.heap.size w w' := by
  obtain rfl := Option.some.inj h
  clear h
  have HR0 := Aside0.mk hr0
  have HL1 := Aside0.mk hr0.2.1
  have HC0 := Aside0.mk hc0
  clear hr0 hc0
  generalize hV : decide (vL_spec l0) = V
  have HV := Aside0.mk hV
  clear hV
  have HB := Aside0.mk (Below.refl w.heap.size w)
  go_enter Tryd.func15, Tryd.ntmps15
  go_wp2
  go_loopg [3] l0.length (fun gg s wr => ∃ kk : Nat, s = .int .i64 kk ∧ Aside0 (kk ≤ l0.length ∧ l0.length - kk ≤ gg) ∧ Aside0 (Below w.heap.size w wr) ∧ Aside0 (∀ j, j < kk → okE_spec l0 j))
  case atStart => exact ⟨0, rfl, ⟨by omega, by omega⟩, HB, ⟨fun j hj => by omega⟩⟩
  case round =>
    clear HB
    obtain ⟨kk, rfl, HK, HB, HA⟩ := hrel
    have hkz : (0 : Int) ≤ (kk : Int) := by omega
    by_cases hlt : (kk : Int) < (l0.length : Int)
    · obtain ⟨ad2, e2, hx_0, hx_1, hx_2, hx_3, hx_4, hx_5, hx_6⟩ := at_T66 HR0.out (kk : Int) hkz hlt
      subst e2
      simp only [Int.toNat_natCast] at hx_0 hx_1 hx_2 hx_3 hx_4 hx_5 hx_6
      replace hx_0 := (HB.out.cell (vE w _ hx_0)).trans hx_0
      replace hx_1 := (HB.out.cell (vE w _ hx_1)).trans hx_1
      replace hx_2 := (HB.out.cell (vE w _ hx_2)).trans hx_2
      replace hx_3 := (HB.out.cell (vE w _ hx_3)).trans hx_3
      replace hx_4 := (HB.out.cell (vE w _ hx_4)).trans hx_4
      replace hx_5 := (HB.out.cell (vE w _ hx_5)).trans hx_5
      replace hx_6 := (HB.out.cell (vE w _ hx_6)).trans hx_6
      have hltb := eq_true hlt
      have hkzb := eq_true hkz
      have hnot : ∀ (p : Prop), (okE_spec l0 kk → p) → ¬ p → V = false := fun p h hp => by rw [← HV.out]; exact decide_eq_false (fun h2 => hp (h (h2.2 kk (by omega))))
      have HNO := Aside0.mk hnot
      clear hnot
      have e1 : wrap64 ((kk : Int) - 1) = (kk : Int) - 1 := by have := HL1.out; unfold wrap64; omega
      have e1b := uB ((kk : Int) - 1)
      rw [e1] at e1b
      go_wp2
      obtain ⟨pv, HPV2⟩ : ∃ pv : Int, Aside0 (0 < kk → wr.cell? (ad2.add ((kk - 1) * 7)) = some (.int .i64 pv) ∧ pv = (rd_T66 l0 ((kk : Int) - 1)).f0) := by
        by_cases h0 : 0 < kk
        · obtain ⟨ad3, e3, hy, _⟩ := at_T66 HR0.out ((kk : Int) - 1) (by omega) (by omega)
          cases e3
          rw [show ((kk : Int) - 1).toNat = kk - 1 by omega] at hy
          exact ⟨_, ⟨fun _ => ⟨(HB.out.cell (vE w _ hy)).trans hy, rfl⟩⟩⟩
        · exact ⟨0, ⟨fun h => absurd h h0⟩⟩
      refine start_ (n := 34) (S := fun w' => w'.cell? (ad2.add (kk * 7)) = some (.int .i64 (rd_T66 l0 (kk : Int)).f0) ∧ w'.cell? ⟨(ad2.add (kk * 7)).block, (ad2.add (kk * 7)).off + 1, none⟩ = some (.int .i64 (rd_T66 l0 (kk : Int)).f1.f0) ∧ w'.cell? ⟨(ad2.add (kk * 7)).block, (ad2.add (kk * 7)).off + 2, none⟩ = some (.int .i64 (rd_T66 l0 (kk : Int)).f1.f1) ∧ w'.cell? ⟨(ad2.add (kk * 7)).block, (ad2.add (kk * 7)).off + 3, none⟩ = some (.int .i64 (rd_T66 l0 (kk : Int)).f1.f2) ∧ w'.cell? ⟨(ad2.add (kk * 7)).block, (ad2.add (kk * 7)).off + 4, none⟩ = some (.int .i64 (rd_T66 l0 (kk : Int)).f1.f3) ∧ w'.cell? ⟨(ad2.add (kk * 7)).block, (ad2.add (kk * 7)).off + 5, none⟩ = some (.int .i64 (rd_T66 l0 (kk : Int)).f1.f4) ∧ w'.cell? ⟨(ad2.add (kk * 7)).block, (ad2.add (kk * 7)).off + 6, none⟩ = some (.int .i64 (rd_T66 l0 (kk : Int)).f1.f5) ∧ (0 < kk → w'.cell? (ad2.add ((kk - 1) * 7)) = some (.int .i64 pv))) (ds := []) (bA_spec 34 0) (by kernel_rfl) rfl rfl ⟨hx_0, hx_1, hx_2, hx_3, hx_4, hx_5, hx_6, fun h => (HPV2.out h).1⟩ (fun hHeld => ?_)
      have HB1 := Aside0.mk (below_drew1 HB.out)
      clear HB hx_0 hx_1 hx_2 hx_3 hx_4 hx_5 hx_6
      have HB := HB1
      clear HB1
      refine uC (i := 0) (N := some 10) (v := ?_) (a' := ?_) (bA_spec 34 1) rfl rfl (by kernel_rfl) (fun _ _ _ h => h) (Or.inl ⟨by rfl, ?_⟩) ?_ ?_
      rotate_left
      · intro w'; go_simp; with_reducible rfl
      rotate_left
      · simp only [Act.put, uY, uZ, vA, uB, uD]; rfl
      refine uC (i := 1) (N := some 11) (v := ?_) (a' := ?_) (bA_spec 34 3) rfl rfl (by kernel_rfl) (fun _ _ _ h => h) (Or.inl ⟨by rfl, ?_⟩) ?_ ?_
      rotate_left
      · intro w'; go_simp; with_reducible rfl
      rotate_left
      · simp only [Act.put, uY, uZ, vA, uB, uD]; rfl
      refine uC (i := 2) (N := some 12) (v := ?_) (a' := ?_) (bA_spec 34 7) rfl rfl (by kernel_rfl) (fun _ _ _ h => h) (Or.inl ⟨by rfl, ?_⟩) ?_ ?_
      rotate_left
      · intro w'; go_simp; with_reducible rfl
      rotate_left
      · simp only [Act.put, uY, uZ, vA, uB, uD]; rfl
      refine uC (i := 3) (N := some 13) (v := ?_) (a' := ?_) (bA_spec 34 15) rfl rfl (by kernel_rfl) (fun _ _ _ h => h) (Or.inl ⟨by rfl, ?_⟩) ?_ ?_
      rotate_left
      · intro w'; go_simp; with_reducible rfl
      rotate_left
      · simp only [Act.put, uY, uZ, vA, uB, uD]; rfl
      refine take_ (i := 4) (N := some 14) (v := ?_) (a' := ?_) (bA_spec 34 31) rfl rfl (by kernel_rfl) (fun _ _ _ h => h) (Or.inl ⟨by rfl, ?_⟩) hHeld ?_ ?_
      rotate_left
      · rintro w' ⟨s0, s1, s2, s3, s4, s5, s6, s7⟩; clear s7; go_simp; with_reducible rfl
      rotate_left
      · simp only [Act.put, uY, uZ, vA, uB, uD]; rfl
      by_cases h1 : 1 ≤ (rd_T66 l0 (kk : Int)).f0 ∧ (rd_T66 l0 (kk : Int)).f0 ≤ 20
      · refine one_ (i := 5) (N := some 15) (bA_spec 34 63) rfl rfl (by kernel_rfl) (by decide) (fun K hK => ?_)
        refine goes_ Tryd.func48 (by kernel_rfl) rfl #[.int .i64 (rd_T66 l0 (kk : Int)).f0, .int .i64 1, .int .i64 20] (by rfl) rfl rfl (by (try simp only [List.map_toArray, List.map_cons, List.map_nil]); first | done | rfl) ?_
        refine (spec_l1In.yes_ h1 _).mono ?_
        rintro e w' ⟨rfl, ⟨nd5, rfl⟩⟩
        refine ⟨_, rfl, ?_⟩
        have HB1 := Aside0.mk (pw_below_drewN HB.out nd5)
        clear HB
        have HB := HB1
        clear HB1
        refine hK.out _ _ hHeld (fun hHeld => ?_)
        clear hK K
        refine norm_ (a' := ?_) ?_ ?_
        rotate_left
        · show Act.put _ (some 15) _ = _; simp only [Act.put, uY, uZ, vA, uB, uD]; rfl
        refine uC (i := 6) (N := some 16) (v := ?_) (a' := ?_) (bA_spec 34 127) rfl rfl (by kernel_rfl) (fun _ _ _ h => h) (Or.inl ⟨by rfl, ?_⟩) ?_ ?_
        rotate_left
        · intro w'; go_simp; with_reducible rfl
        rotate_left
        · simp only [Act.put, uY, uZ, vA, uB, uD]; rfl
        refine uC (i := 7) (N := some 17) (v := ?_) (a' := ?_) (bA_spec 34 255) rfl rfl (by kernel_rfl) (fun _ _ _ h => h) (Or.inl ⟨by rfl, ?_⟩) ?_ ?_
        rotate_left
        · intro w'; go_simp; with_reducible rfl
        rotate_left
        · simp only [Act.put, uY, uZ, vA, uB, uD]; rfl
        refine uC (i := 8) (N := some 18) (v := ?_) (a' := ?_) (bA_spec 34 511) rfl rfl (by kernel_rfl) (fun _ _ _ h => h) (Or.inl ⟨by rfl, ?_⟩) ?_ ?_
        rotate_left
        · intro w'; go_simp; with_reducible rfl
        rotate_left
        · simp only [Act.put, uY, uZ, vA, uB, uD]; rfl
        refine uC (i := 9) (N := some 19) (v := ?_) (a' := ?_) (bA_spec 34 1023) rfl rfl (by kernel_rfl) (fun _ _ _ h => h) (Or.inl ⟨by rfl, ?_⟩) ?_ ?_
        rotate_left
        · intro w'; go_simp; with_reducible rfl
        rotate_left
        · simp only [Act.put, uY, uZ, vA, uB, uD]; rfl
        refine uC (i := 10) (N := some 20) (v := ?_) (a' := ?_) (bA_spec 34 2047) rfl rfl (by kernel_rfl) (fun _ _ _ h => h) (Or.inl ⟨by rfl, ?_⟩) ?_ ?_
        rotate_left
        · intro w'; go_simp; with_reducible rfl
        rotate_left
        · simp only [Act.put, uY, uZ, vA, uB, uD]; rfl
        refine uC (i := 11) (N := some 21) (v := ?_) (a' := ?_) (bA_spec 34 4095) rfl rfl (by kernel_rfl) (fun _ _ _ h => h) (Or.inl ⟨by rfl, ?_⟩) ?_ ?_
        rotate_left
        · intro w'; go_simp; with_reducible rfl
        rotate_left
        · simp only [Act.put, uY, uZ, vA, uB, uD]; rfl
        refine take_ (i := 12) (N := some 22) (v := ?_) (a' := ?_) (bA_spec 34 8191) rfl rfl (by kernel_rfl) (fun _ _ _ h => h) (Or.inl ⟨by rfl, ?_⟩) hHeld ?_ ?_
        rotate_left
        · rintro w' ⟨s0, s1, s2, s3, s4, s5, s6, s7⟩; clear s7; go_simp; with_reducible rfl
        rotate_left
        · simp only [Act.put, uY, uZ, vA, uB, uD]; rfl
        obtain ⟨vb, hv⟩ := spec_IsValidOp.tot (rd_T66 l0 (kk : Int)).f1.f0 (rd_T66 l0 (kk : Int)).f1.f1 (rd_T66 l0 (kk : Int)).f1.f2 (rd_T66 l0 (kk : Int)).f1.f3 (rd_T66 l0 (kk : Int)).f1.f4 (rd_T66 l0 (kk : Int)).f1.f5
        rcases Bool.eq_false_or_eq_true vb with rfl | rfl
        · refine one_ (i := 13) (N := some 23) (bA_spec 34 16383) rfl rfl (by kernel_rfl) (by decide) (fun K hK => ?_)
          refine goes_ Tryd.func49 (by kernel_rfl) rfl #[.agg #[.int .i64 (rd_T66 l0 (kk : Int)).f1.f0, .int .i64 (rd_T66 l0 (kk : Int)).f1.f1, .int .i64 (rd_T66 l0 (kk : Int)).f1.f2, .int .i64 (rd_T66 l0 (kk : Int)).f1.f3, .int .i64 (rd_T66 l0 (kk : Int)).f1.f4, .int .i64 (rd_T66 l0 (kk : Int)).f1.f5]] (by rfl) rfl rfl (by (try simp only [List.map_toArray, List.map_cons, List.map_nil]); first | done | rfl) ?_
          refine (spec_IsValidOp.calls (rd_T66 l0 (kk : Int)).f1.f0 (rd_T66 l0 (kk : Int)).f1.f1 (rd_T66 l0 (kk : Int)).f1.f2 (rd_T66 l0 (kk : Int)).f1.f3 (rd_T66 l0 (kk : Int)).f1.f4 (rd_T66 l0 (kk : Int)).f1.f5 true _ hv).mono ?_
          rintro e w' ⟨rfl, hb⟩
          refine ⟨_, rfl, ?_⟩
          have HB1 := Aside0.mk (below_step HB.out hb)
          clear HB
          have HB := HB1
          clear HB1
          obtain ⟨s0, s1, s2, s3, s4, s5, s6, s7⟩ := hHeld
          refine hK.out _ _ ⟨uJ hb s0, uJ hb s1, uJ hb s2, uJ hb s3, uJ hb s4, uJ hb s5, uJ hb s6, fun h0 => uJ hb (s7 h0)⟩ (fun hHeld => ?_)
          clear hK K hb s0 s1 s2 s3 s4 s5 s6 s7
          refine norm_ (a' := ?_) ?_ ?_
          rotate_left
          · show Act.put _ (some 23) _ = _; simp only [Act.put, uY, uZ, vA, uB, uD]; rfl
          refine uC (i := 14) (N := some 24) (v := ?_) (a' := ?_) (bA_spec 34 32767) rfl rfl (by kernel_rfl) (fun _ _ _ h => h) (Or.inl ⟨by rfl, ?_⟩) ?_ ?_
          rotate_left
          · intro w'; go_simp; with_reducible rfl
          rotate_left
          · simp only [Act.put, uY, uZ, vA, uB, uD]; rfl
          refine uC (i := 15) (N := some 25) (v := ?_) (a' := ?_) (bA_spec 34 65535) rfl rfl (by kernel_rfl) (fun _ _ _ h => h) (Or.inl ⟨by rfl, ?_⟩) ?_ ?_
          rotate_left
          · intro w'; go_simp; with_reducible rfl
          rotate_left
          · simp only [Act.put, uY, uZ, vA, uB, uD]; rfl
          refine uC (i := 16) (N := some 26) (v := ?_) (a' := ?_) (bA_spec 34 131071) rfl rfl (by kernel_rfl) (fun _ _ _ h => h) (Or.inl ⟨by rfl, ?_⟩) ?_ ?_
          rotate_left
          · intro w'; go_simp; with_reducible rfl
          rotate_left
          · simp only [Act.put, uY, uZ, vA, uB, uD]; rfl
          refine uC (i := 17) (N := some 27) (v := ?_) (a' := ?_) (bA_spec 34 262143) rfl rfl (by kernel_rfl) (fun _ _ _ h => h) (Or.inl ⟨by rfl, ?_⟩) ?_ ?_
          rotate_left
          · intro w'; go_simp; with_reducible rfl
          rotate_left
          · simp only [Act.put, uY, uZ, vA, uB, uD]; rfl
          by_cases h0 : 0 < kk
          · have hp0 := eq_true (show (kk : Int) > 0 by omega)
            have hp3 := eq_true (show (0 : Int) < (kk : Int) by omega)
            have hp1 := eq_true (show (0 : Int) ≤ (kk : Int) - 1 by omega)
            have hp5 := eq_true (show (1 : Int) ≤ (kk : Int) by omega)
            have hp2 := eq_true (show (kk : Int) - 1 < (l0.length : Int) by omega)
            refine uC (i := 18) (N := some 28) (v := ?_) (a' := ?_) (bA_spec 34 524287) rfl rfl (by kernel_rfl) (fun _ _ _ h => h) (Or.inl ⟨by rfl, ?_⟩) ?_ ?_
            rotate_left
            · intro w'; go_simp; with_reducible rfl
            rotate_left
            · simp only [Act.put, uY, uZ, vA, uB, uD]; rfl
            refine uC (i := 19) (N := some 29) (v := ?_) (a' := ?_) (bA_spec 34 1048575) rfl rfl (by kernel_rfl) (fun _ _ _ h => h) (Or.inl ⟨by rfl, ?_⟩) ?_ ?_
            rotate_left
            · intro w'; go_simp; with_reducible rfl
            rotate_left
            · simp only [Act.put, uY, uZ, vA, uB, uD]; rfl
            refine uC (i := 20) (N := some 30) (v := ?_) (a' := ?_) (bA_spec 34 2097151) rfl rfl (by kernel_rfl) (fun _ _ _ h => h) (Or.inl ⟨by rfl, ?_⟩) ?_ ?_
            rotate_left
            · intro w'; go_simp; with_reducible rfl
            rotate_left
            · simp only [Act.put, uY, uZ, vA, uB, uD]; rfl
            refine uC (i := 21) (N := some 31) (v := ?_) (a' := ?_) (bA_spec 34 4194303) rfl rfl (by kernel_rfl) (fun _ _ _ h => h) (Or.inl ⟨by rfl, ?_⟩) ?_ ?_
            rotate_left
            · intro w'; go_simp; with_reducible rfl
            rotate_left
            · simp only [Act.put, uY, uZ, vA, uB, uD]; rfl
            refine uC (i := 22) (N := some 32) (v := ?_) (a' := ?_) (bA_spec 34 8388607) rfl rfl (by kernel_rfl) (fun _ _ _ h => h) (Or.inl ⟨by rfl, ?_⟩) ?_ ?_
            rotate_left
            · intro w'; go_simp; with_reducible rfl
            rotate_left
            · simp only [Act.put, uY, uZ, vA, uB, uD]; rfl
            refine uC (i := 23) (N := some 33) (v := ?_) (a' := ?_) (bA_spec 34 16777215) rfl rfl (by kernel_rfl) (fun _ _ _ h => h) (Or.inl ⟨by rfl, ?_⟩) ?_ ?_
            rotate_left
            · intro w'; go_simp; with_reducible rfl
            rotate_left
            · simp only [Act.put, uY, uZ, vA, uB, uD]; rfl
            refine uC (i := 24) (N := some 34) (v := ?_) (a' := ?_) (bA_spec 34 33554431) rfl rfl (by kernel_rfl) (fun _ _ _ h => h) (Or.inl ⟨by rfl, ?_⟩) ?_ ?_
            rotate_left
            · intro w'; go_simp; with_reducible rfl
            rotate_left
            · simp only [Act.put, uY, uZ, vA, uB, uD]; rfl
            refine take_ (i := 25) (N := some 35) (v := ?_) (a' := ?_) (bA_spec 34 67108863) rfl rfl (by kernel_rfl) (fun _ _ _ h => h) (Or.inl ⟨by rfl, ?_⟩) hHeld ?_ ?_
            rotate_left
            · rintro w' ⟨s0, s1, s2, s3, s4, s5, s6, s7⟩; replace s7 := s7 h0; go_simp; with_reducible rfl
            rotate_left
            · simp only [Act.put, uY, uZ, vA, uB, uD]; rfl
            refine uC (i := 26) (N := some 36) (v := ?_) (a' := ?_) (bA_spec 34 134217727) rfl rfl (by kernel_rfl) (fun _ _ _ h => h) (Or.inl ⟨by rfl, ?_⟩) ?_ ?_
            rotate_left
            · intro w'; go_simp; with_reducible rfl
            rotate_left
            · simp only [Act.put, uY, uZ, vA, uB, uD]; rfl
            refine uC (i := 27) (N := some 37) (v := ?_) (a' := ?_) (bA_spec 34 268435455) rfl rfl (by kernel_rfl) (fun _ _ _ h => h) (Or.inl ⟨by rfl, ?_⟩) ?_ ?_
            rotate_left
            · intro w'; go_simp; with_reducible rfl
            rotate_left
            · simp only [Act.put, uY, uZ, vA, uB, uD]; rfl
            refine uC (i := 28) (N := some 38) (v := ?_) (a' := ?_) (bA_spec 34 536870911) rfl rfl (by kernel_rfl) (fun _ _ _ h => h) (Or.inl ⟨by rfl, ?_⟩) ?_ ?_
            rotate_left
            · intro w'; go_simp; with_reducible rfl
            rotate_left
            · simp only [Act.put, uY, uZ, vA, uB, uD]; rfl
            refine uC (i := 29) (N := some 39) (v := ?_) (a' := ?_) (bA_spec 34 1073741823) rfl rfl (by kernel_rfl) (fun _ _ _ h => h) (Or.inl ⟨by rfl, ?_⟩) ?_ ?_
            rotate_left
            · intro w'; go_simp; with_reducible rfl
            rotate_left
            · simp only [Act.put, uY, uZ, vA, uB, uD]; rfl
            refine take_ (i := 30) (N := some 40) (v := ?_) (a' := ?_) (bA_spec 34 2147483647) rfl rfl (by kernel_rfl) (fun _ _ _ h => h) (Or.inl ⟨by rfl, ?_⟩) hHeld ?_ ?_
            rotate_left
            · rintro w' ⟨s0, s1, s2, s3, s4, s5, s6, s7⟩; clear s7; go_simp; with_reducible rfl
            rotate_left
            · simp only [Act.put, uY, uZ, vA, uB, uD]; rfl
            by_cases h4 : pv ≤ (rd_T66 l0 (kk : Int)).f0
            · have h4c := eq_false (show ¬ (pv > (rd_T66 l0 (kk : Int)).f0) by omega)
              have h4d := decide_eq_false (show ¬ (pv > (rd_T66 l0 (kk : Int)).f0) by omega)
              have h4e := eq_false (show ¬ ((rd_T66 l0 (kk : Int)).f0 < pv) by omega)
              refine uC (i := 31) (N := some 41) (v := ?_) (a' := ?_) (bA_spec 34 4294967295) rfl rfl (by kernel_rfl) (fun _ _ _ h => h) (Or.inl ⟨by rfl, ?_⟩) ?_ ?_
              rotate_left
              · intro w'; go_simp; with_reducible rfl
              rotate_left
              · simp only [Act.put, uY, uZ, vA, uB, uD]; rfl
              refine uC (i := 32) (N := some 42) (v := ?_) (a' := ?_) (bA_spec 34 8589934591) rfl rfl (by kernel_rfl) (fun _ _ _ h => h) (Or.inl ⟨by rfl, ?_⟩) ?_ ?_
              rotate_left
              · intro w'; go_simp; with_reducible rfl
              rotate_left
              · simp only [Act.put, uY, uZ, vA, uB, uD]; rfl
              refine uC (i := 33) (N := some 43) (v := ?_) (a' := ?_) (bA_spec 34 17179869183) rfl rfl (by kernel_rfl) (fun _ _ _ h => h) (Or.inl ⟨by rfl, ?_⟩) ?_ ?_
              rotate_left
              · intro w'; go_simp; with_reducible rfl
              rotate_left
              · simp only [Act.put, uY, uZ, vA, uB, uD]; rfl
              refine done_ (by kernel_rfl) ?_
              go_wp2
              go_roundg (l0.length - (kk + 1))
              case measure => have := HK.out; omega
              case rel =>
                refine ⟨kk + 1, by first | (rw [show wrap64 ((kk : Int) + 1) = ((kk + 1 : Nat) : Int) by have := HL1.out; unfold wrap64; omega]) | rfl, ⟨by have := HK.out; omega, by have := HK.out; omega⟩, HB, ⟨fun j hj => ?_⟩⟩
                rcases Nat.lt_succ_iff_lt_or_eq.1 hj with hj | rfl
                · exact HA.out j hj
                · exact ⟨h1, hv, fun h => by first | exact absurd h h0 | (rw [← (HPV2.out h).2]; exact h4)⟩
            · have h4c := eq_true (show pv > (rd_T66 l0 (kk : Int)).f0 by omega)
              have h4d := decide_eq_true (show pv > (rd_T66 l0 (kk : Int)).f0 by omega)
              have h4e := eq_true (show (rd_T66 l0 (kk : Int)).f0 < pv by omega)
              refine uC (i := 31) (N := some 41) (v := ?_) (a' := ?_) (bA_spec 34 4294967295) rfl rfl (by kernel_rfl) (fun _ _ _ h => h) (Or.inl ⟨by rfl, ?_⟩) ?_ ?_
              rotate_left
              · intro w'; go_simp; with_reducible rfl
              rotate_left
              · simp only [Act.put, uY, uZ, vA, uB, uD]; rfl
              refine uC (i := 32) (N := some 42) (v := ?_) (a' := ?_) (bA_spec 34 8589934591) rfl rfl (by kernel_rfl) (fun _ _ _ h => h) (Or.inl ⟨by rfl, ?_⟩) ?_ ?_
              rotate_left
              · intro w'; go_simp; with_reducible rfl
              rotate_left
              · simp only [Act.put, uY, uZ, vA, uB, uD]; rfl
              refine uC (i := 33) (N := some 43) (v := ?_) (a' := ?_) (bA_spec 34 17179869183) rfl rfl (by kernel_rfl) (fun _ _ _ h => h) (Or.inl ⟨by rfl, ?_⟩) ?_ ?_
              rotate_left
              · intro w'; go_simp; with_reducible rfl
              rotate_left
              · simp only [Act.put, uY, uZ, vA, uB, uD]; rfl
              refine done_ (by kernel_rfl) ?_
              go_wp2
              go_ret
              exact ⟨by rw [HNO.out (pv ≤ (rd_T66 l0 (kk : Int)).f0) (fun h => by rw [(HPV2.out h0).2]; exact h.2.2 h0) (by omega)]; rfl, by first | exact HB.out | (rw [← World.drewN_drewN]; exact HB.out)⟩
          · have hp0 := eq_false (show ¬ ((kk : Int) > 0) by omega)
            have hp3 := eq_false (show ¬ ((0 : Int) < (kk : Int)) by omega)
            refine uC (i := 18) (N := some 28) (v := ?_) (a' := ?_) (bA_spec 34 524287) rfl rfl (by kernel_rfl) (fun _ _ _ h => h) (Or.inl ⟨by rfl, ?_⟩) ?_ ?_
            rotate_left
            · intro w'; go_simp; with_reducible rfl
            rotate_left
            · simp only [Act.put, uY, uZ, vA, uB, uD]; rfl
            refine uC (i := 19) (N := some 29) (v := ?_) (a' := ?_) (bA_spec 34 1048575) rfl rfl (by kernel_rfl) (fun _ _ _ h => h) (Or.inl ⟨by rfl, ?_⟩) ?_ ?_
            rotate_left
            · intro w'; go_simp; with_reducible rfl
            rotate_left
            · simp only [Act.put, uY, uZ, vA, uB, uD]; rfl
            refine uC (i := 20) (N := some 30) (v := undef) (a' := ?_) (bA_spec 34 2097151) rfl rfl (by kernel_rfl) (fun _ _ _ h => h) (Or.inr ⟨by rfl, rfl⟩) ?_ ?_
            rotate_left
            · simp only [Act.put, uY, uZ, vA]; rfl
            refine uC (i := 21) (N := some 31) (v := undef) (a' := ?_) (bA_spec 34 4194303) rfl rfl (by kernel_rfl) (fun _ _ _ h => h) (Or.inr ⟨by rfl, rfl⟩) ?_ ?_
            rotate_left
            · simp only [Act.put, uY, uZ, vA]; rfl
            refine uC (i := 22) (N := some 32) (v := undef) (a' := ?_) (bA_spec 34 8388607) rfl rfl (by kernel_rfl) (fun _ _ _ h => h) (Or.inr ⟨by rfl, rfl⟩) ?_ ?_
            rotate_left
            · simp only [Act.put, uY, uZ, vA]; rfl
            refine uC (i := 23) (N := some 33) (v := undef) (a' := ?_) (bA_spec 34 16777215) rfl rfl (by kernel_rfl) (fun _ _ _ h => h) (Or.inr ⟨by rfl, rfl⟩) ?_ ?_
            rotate_left
            · simp only [Act.put, uY, uZ, vA]; rfl
            refine uC (i := 24) (N := some 34) (v := undef) (a' := ?_) (bA_spec 34 33554431) rfl rfl (by kernel_rfl) (fun _ _ _ h => h) (Or.inr ⟨by rfl, rfl⟩) ?_ ?_
            rotate_left
            · simp only [Act.put, uY, uZ, vA]; rfl
            refine uC (i := 25) (N := some 35) (v := undef) (a' := ?_) (bA_spec 34 67108863) rfl rfl (by kernel_rfl) (fun _ _ _ h => h) (Or.inr ⟨by rfl, rfl⟩) ?_ ?_
            rotate_left
            · simp only [Act.put, uY, uZ, vA]; rfl
            refine uC (i := 26) (N := some 36) (v := undef) (a' := ?_) (bA_spec 34 134217727) rfl rfl (by kernel_rfl) (fun _ _ _ h => h) (Or.inr ⟨by rfl, rfl⟩) ?_ ?_
            rotate_left
            · simp only [Act.put, uY, uZ, vA]; rfl
            refine uC (i := 27) (N := some 37) (v := undef) (a' := ?_) (bA_spec 34 268435455) rfl rfl (by kernel_rfl) (fun _ _ _ h => h) (Or.inr ⟨by rfl, rfl⟩) ?_ ?_
            rotate_left
            · simp only [Act.put, uY, uZ, vA]; rfl
            refine uC (i := 28) (N := some 38) (v := undef) (a' := ?_) (bA_spec 34 536870911) rfl rfl (by kernel_rfl) (fun _ _ _ h => h) (Or.inr ⟨by rfl, rfl⟩) ?_ ?_
            rotate_left
            · simp only [Act.put, uY, uZ, vA]; rfl
            refine uC (i := 29) (N := some 39) (v := undef) (a' := ?_) (bA_spec 34 1073741823) rfl rfl (by kernel_rfl) (fun _ _ _ h => h) (Or.inr ⟨by rfl, rfl⟩) ?_ ?_
            rotate_left
            · simp only [Act.put, uY, uZ, vA]; rfl
            refine uC (i := 30) (N := some 40) (v := undef) (a' := ?_) (bA_spec 34 2147483647) rfl rfl (by kernel_rfl) (fun _ _ _ h => h) (Or.inr ⟨by rfl, rfl⟩) ?_ ?_
            rotate_left
            · simp only [Act.put, uY, uZ, vA]; rfl
            refine uC (i := 31) (N := some 41) (v := undef) (a' := ?_) (bA_spec 34 4294967295) rfl rfl (by kernel_rfl) (fun _ _ _ h => h) (Or.inr ⟨by rfl, rfl⟩) ?_ ?_
            rotate_left
            · simp only [Act.put, uY, uZ, vA]; rfl
            refine uC (i := 32) (N := some 42) (v := ?_) (a' := ?_) (bA_spec 34 8589934591) rfl rfl (by kernel_rfl) (fun _ _ _ h => h) (Or.inl ⟨by rfl, ?_⟩) ?_ ?_
            rotate_left
            · intro w'; go_simp; with_reducible rfl
            rotate_left
            · simp only [Act.put, uY, uZ, vA, uB, uD]; rfl
            refine uC (i := 33) (N := some 43) (v := ?_) (a' := ?_) (bA_spec 34 17179869183) rfl rfl (by kernel_rfl) (fun _ _ _ h => h) (Or.inl ⟨by rfl, ?_⟩) ?_ ?_
            rotate_left
            · intro w'; go_simp; with_reducible rfl
            rotate_left
            · simp only [Act.put, uY, uZ, vA, uB, uD]; rfl
            refine done_ (by kernel_rfl) ?_
            go_wp2
            go_roundg (l0.length - (kk + 1))
            case measure => have := HK.out; omega
            case rel =>
              refine ⟨kk + 1, by first | (rw [show wrap64 ((kk : Int) + 1) = ((kk + 1 : Nat) : Int) by have := HL1.out; unfold wrap64; omega]) | rfl, ⟨by have := HK.out; omega, by have := HK.out; omega⟩, HB, ⟨fun j hj => ?_⟩⟩
              rcases Nat.lt_succ_iff_lt_or_eq.1 hj with hj | rfl
              · exact HA.out j hj
              · exact ⟨h1, hv, fun h => by first | exact absurd h h0 | (rw [← (HPV2.out h).2]; exact h4)⟩
        · refine one_ (i := 13) (N := some 23) (bA_spec 34 16383) rfl rfl (by kernel_rfl) (by decide) (fun K hK => ?_)
          refine goes_ Tryd.func49 (by kernel_rfl) rfl #[.agg #[.int .i64 (rd_T66 l0 (kk : Int)).f1.f0, .int .i64 (rd_T66 l0 (kk : Int)).f1.f1, .int .i64 (rd_T66 l0 (kk : Int)).f1.f2, .int .i64 (rd_T66 l0 (kk : Int)).f1.f3, .int .i64 (rd_T66 l0 (kk : Int)).f1.f4, .int .i64 (rd_T66 l0 (kk : Int)).f1.f5]] (by rfl) rfl rfl (by (try simp only [List.map_toArray, List.map_cons, List.map_nil]); first | done | rfl) ?_
          refine (spec_IsValidOp.calls (rd_T66 l0 (kk : Int)).f1.f0 (rd_T66 l0 (kk : Int)).f1.f1 (rd_T66 l0 (kk : Int)).f1.f2 (rd_T66 l0 (kk : Int)).f1.f3 (rd_T66 l0 (kk : Int)).f1.f4 (rd_T66 l0 (kk : Int)).f1.f5 false _ hv).mono ?_
          rintro e w' ⟨rfl, hb⟩
          refine ⟨_, rfl, ?_⟩
          have HB1 := Aside0.mk (below_step HB.out hb)
          clear HB
          have HB := HB1
          clear HB1
          obtain ⟨s0, s1, s2, s3, s4, s5, s6, s7⟩ := hHeld
          refine hK.out _ _ ⟨uJ hb s0, uJ hb s1, uJ hb s2, uJ hb s3, uJ hb s4, uJ hb s5, uJ hb s6, fun h0 => uJ hb (s7 h0)⟩ (fun hHeld => ?_)
          clear hK K hb s0 s1 s2 s3 s4 s5 s6 s7
          refine norm_ (a' := ?_) ?_ ?_
          rotate_left
          · show Act.put _ (some 23) _ = _; simp only [Act.put, uY, uZ, vA, uB, uD]; rfl
          refine uC (i := 14) (N := some 24) (v := ?_) (a' := ?_) (bA_spec 34 32767) rfl rfl (by kernel_rfl) (fun _ _ _ h => h) (Or.inl ⟨by rfl, ?_⟩) ?_ ?_
          rotate_left
          · intro w'; go_simp; with_reducible rfl
          rotate_left
          · simp only [Act.put, uY, uZ, vA, uB, uD]; rfl
          refine uC (i := 15) (N := some 25) (v := ?_) (a' := ?_) (bA_spec 34 65535) rfl rfl (by kernel_rfl) (fun _ _ _ h => h) (Or.inl ⟨by rfl, ?_⟩) ?_ ?_
          rotate_left
          · intro w'; go_simp; with_reducible rfl
          rotate_left
          · simp only [Act.put, uY, uZ, vA, uB, uD]; rfl
          refine uC (i := 16) (N := some 26) (v := ?_) (a' := ?_) (bA_spec 34 131071) rfl rfl (by kernel_rfl) (fun _ _ _ h => h) (Or.inl ⟨by rfl, ?_⟩) ?_ ?_
          rotate_left
          · intro w'; go_simp; with_reducible rfl
          rotate_left
          · simp only [Act.put, uY, uZ, vA, uB, uD]; rfl
          refine uC (i := 17) (N := some 27) (v := undef) (a' := ?_) (bA_spec 34 262143) rfl rfl (by kernel_rfl) (fun _ _ _ h => h) (Or.inr ⟨by rfl, rfl⟩) ?_ ?_
          rotate_left
          · simp only [Act.put, uY, uZ, vA]; rfl
          refine uC (i := 18) (N := some 28) (v := undef) (a' := ?_) (bA_spec 34 524287) rfl rfl (by kernel_rfl) (fun _ _ _ h => h) (Or.inr ⟨by rfl, rfl⟩) ?_ ?_
          rotate_left
          · simp only [Act.put, uY, uZ, vA]; rfl
          refine uC (i := 19) (N := some 29) (v := undef) (a' := ?_) (bA_spec 34 1048575) rfl rfl (by kernel_rfl) (fun _ _ _ h => h) (Or.inr ⟨by rfl, rfl⟩) ?_ ?_
          rotate_left
          · simp only [Act.put, uY, uZ, vA]; rfl
          refine uC (i := 20) (N := some 30) (v := undef) (a' := ?_) (bA_spec 34 2097151) rfl rfl (by kernel_rfl) (fun _ _ _ h => h) (Or.inr ⟨by rfl, rfl⟩) ?_ ?_
          rotate_left
          · simp only [Act.put, uY, uZ, vA]; rfl
          refine uC (i := 21) (N := some 31) (v := undef) (a' := ?_) (bA_spec 34 4194303) rfl rfl (by kernel_rfl) (fun _ _ _ h => h) (Or.inr ⟨by rfl, rfl⟩) ?_ ?_
          rotate_left
          · simp only [Act.put, uY, uZ, vA]; rfl
          refine uC (i := 22) (N := some 32) (v := undef) (a' := ?_) (bA_spec 34 8388607) rfl rfl (by kernel_rfl) (fun _ _ _ h => h) (Or.inr ⟨by rfl, rfl⟩) ?_ ?_
          rotate_left
          · simp only [Act.put, uY, uZ, vA]; rfl
          refine uC (i := 23) (N := some 33) (v := undef) (a' := ?_) (bA_spec 34 16777215) rfl rfl (by kernel_rfl) (fun _ _ _ h => h) (Or.inr ⟨by rfl, rfl⟩) ?_ ?_
          rotate_left
          · simp only [Act.put, uY, uZ, vA]; rfl
          refine uC (i := 24) (N := some 34) (v := undef) (a' := ?_) (bA_spec 34 33554431) rfl rfl (by kernel_rfl) (fun _ _ _ h => h) (Or.inr ⟨by rfl, rfl⟩) ?_ ?_
          rotate_left
          · simp only [Act.put, uY, uZ, vA]; rfl
          refine uC (i := 25) (N := some 35) (v := undef) (a' := ?_) (bA_spec 34 67108863) rfl rfl (by kernel_rfl) (fun _ _ _ h => h) (Or.inr ⟨by rfl, rfl⟩) ?_ ?_
          rotate_left
          · simp only [Act.put, uY, uZ, vA]; rfl
          refine uC (i := 26) (N := some 36) (v := undef) (a' := ?_) (bA_spec 34 134217727) rfl rfl (by kernel_rfl) (fun _ _ _ h => h) (Or.inr ⟨by rfl, rfl⟩) ?_ ?_
          rotate_left
          · simp only [Act.put, uY, uZ, vA]; rfl
          refine uC (i := 27) (N := some 37) (v := undef) (a' := ?_) (bA_spec 34 268435455) rfl rfl (by kernel_rfl) (fun _ _ _ h => h) (Or.inr ⟨by rfl, rfl⟩) ?_ ?_
          rotate_left
          · simp only [Act.put, uY, uZ, vA]; rfl
          refine uC (i := 28) (N := some 38) (v := undef) (a' := ?_) (bA_spec 34 536870911) rfl rfl (by kernel_rfl) (fun _ _ _ h => h) (Or.inr ⟨by rfl, rfl⟩) ?_ ?_
          rotate_left
          · simp only [Act.put, uY, uZ, vA]; rfl
          refine uC (i := 29) (N := some 39) (v := undef) (a' := ?_) (bA_spec 34 1073741823) rfl rfl (by kernel_rfl) (fun _ _ _ h => h) (Or.inr ⟨by rfl, rfl⟩) ?_ ?_
          rotate_left
          · simp only [Act.put, uY, uZ, vA]; rfl
          refine uC (i := 30) (N := some 40) (v := undef) (a' := ?_) (bA_spec 34 2147483647) rfl rfl (by kernel_rfl) (fun _ _ _ h => h) (Or.inr ⟨by rfl, rfl⟩) ?_ ?_
          rotate_left
          · simp only [Act.put, uY, uZ, vA]; rfl
          refine uC (i := 31) (N := some 41) (v := undef) (a' := ?_) (bA_spec 34 4294967295) rfl rfl (by kernel_rfl) (fun _ _ _ h => h) (Or.inr ⟨by rfl, rfl⟩) ?_ ?_
          rotate_left
          · simp only [Act.put, uY, uZ, vA]; rfl
          refine uC (i := 32) (N := some 42) (v := undef) (a' := ?_) (bA_spec 34 8589934591) rfl rfl (by kernel_rfl) (fun _ _ _ h => h) (Or.inr ⟨by rfl, rfl⟩) ?_ ?_
          rotate_left
          · simp only [Act.put, uY, uZ, vA]; rfl
          refine uC (i := 33) (N := some 43) (v := ?_) (a' := ?_) (bA_spec 34 17179869183) rfl rfl (by kernel_rfl) (fun _ _ _ h => h) (Or.inl ⟨by rfl, ?_⟩) ?_ ?_
          rotate_left
          · intro w'; go_simp; with_reducible rfl
          rotate_left
          · simp only [Act.put, uY, uZ, vA, uB, uD]; rfl
          refine done_ (by kernel_rfl) ?_
          go_wp2
          go_ret
          exact ⟨by rw [HNO.out (spec_IsValidOp.f (rd_T66 l0 (kk : Int)).f1.f0 (rd_T66 l0 (kk : Int)).f1.f1 (rd_T66 l0 (kk : Int)).f1.f2 (rd_T66 l0 (kk : Int)).f1.f3 (rd_T66 l0 (kk : Int)).f1.f4 (rd_T66 l0 (kk : Int)).f1.f5 = some true) (fun h => h.2.1) (by rw [hv]; simp)]; rfl, by first | exact HB.out | (rw [← World.drewN_drewN]; exact HB.out)⟩
      · refine one_ (i := 5) (N := some 15) (bA_spec 34 63) rfl rfl (by kernel_rfl) (by decide) (fun K hK => ?_)
        refine goes_ Tryd.func48 (by kernel_rfl) rfl #[.int .i64 (rd_T66 l0 (kk : Int)).f0, .int .i64 1, .int .i64 20] (by rfl) rfl rfl (by (try simp only [List.map_toArray, List.map_cons, List.map_nil]); first | done | rfl) ?_
        refine (spec_l1In.no_ h1 _).mono ?_
        rintro e w' ⟨rfl, ⟨nd5, rfl⟩⟩
        refine ⟨_, rfl, ?_⟩
        have HB1 := Aside0.mk (pw_below_drewN HB.out nd5)
        clear HB
        have HB := HB1
        clear HB1
        refine hK.out _ _ hHeld (fun hHeld => ?_)
        clear hK K
        refine norm_ (a' := ?_) ?_ ?_
        rotate_left
        · show Act.put _ (some 15) _ = _; simp only [Act.put, uY, uZ, vA, uB, uD]; rfl
        refine uC (i := 6) (N := some 16) (v := ?_) (a' := ?_) (bA_spec 34 127) rfl rfl (by kernel_rfl) (fun _ _ _ h => h) (Or.inl ⟨by rfl, ?_⟩) ?_ ?_
        rotate_left
        · intro w'; go_simp; with_reducible rfl
        rotate_left
        · simp only [Act.put, uY, uZ, vA, uB, uD]; rfl
        refine uC (i := 7) (N := some 17) (v := ?_) (a' := ?_) (bA_spec 34 255) rfl rfl (by kernel_rfl) (fun _ _ _ h => h) (Or.inl ⟨by rfl, ?_⟩) ?_ ?_
        rotate_left
        · intro w'; go_simp; with_reducible rfl
        rotate_left
        · simp only [Act.put, uY, uZ, vA, uB, uD]; rfl
        refine uC (i := 8) (N := some 18) (v := undef) (a' := ?_) (bA_spec 34 511) rfl rfl (by kernel_rfl) (fun _ _ _ h => h) (Or.inr ⟨by rfl, rfl⟩) ?_ ?_
        rotate_left
        · simp only [Act.put, uY, uZ, vA]; rfl
        refine uC (i := 9) (N := some 19) (v := undef) (a' := ?_) (bA_spec 34 1023) rfl rfl (by kernel_rfl) (fun _ _ _ h => h) (Or.inr ⟨by rfl, rfl⟩) ?_ ?_
        rotate_left
        · simp only [Act.put, uY, uZ, vA]; rfl
        refine uC (i := 10) (N := some 20) (v := undef) (a' := ?_) (bA_spec 34 2047) rfl rfl (by kernel_rfl) (fun _ _ _ h => h) (Or.inr ⟨by rfl, rfl⟩) ?_ ?_
        rotate_left
        · simp only [Act.put, uY, uZ, vA]; rfl
        refine uC (i := 11) (N := some 21) (v := undef) (a' := ?_) (bA_spec 34 4095) rfl rfl (by kernel_rfl) (fun _ _ _ h => h) (Or.inr ⟨by rfl, rfl⟩) ?_ ?_
        rotate_left
        · simp only [Act.put, uY, uZ, vA]; rfl
        refine uC (i := 12) (N := some 22) (v := undef) (a' := ?_) (bA_spec 34 8191) rfl rfl (by kernel_rfl) (fun _ _ _ h => h) (Or.inr ⟨by rfl, rfl⟩) ?_ ?_
        rotate_left
        · simp only [Act.put, uY, uZ, vA]; rfl
        refine uC (i := 13) (N := some 23) (v := undef) (a' := ?_) (bA_spec 34 16383) rfl rfl (by kernel_rfl) (fun _ _ _ h => h) (Or.inr ⟨by rfl, rfl⟩) ?_ ?_
        rotate_left
        · simp only [Act.put, uY, uZ, vA]; rfl
        refine uC (i := 14) (N := some 24) (v := undef) (a' := ?_) (bA_spec 34 32767) rfl rfl (by kernel_rfl) (fun _ _ _ h => h) (Or.inr ⟨by rfl, rfl⟩) ?_ ?_
        rotate_left
        · simp only [Act.put, uY, uZ, vA]; rfl
        refine uC (i := 15) (N := some 25) (v := ?_) (a' := ?_) (bA_spec 34 65535) rfl rfl (by kernel_rfl) (fun _ _ _ h => h) (Or.inl ⟨by rfl, ?_⟩) ?_ ?_
        rotate_left
        · intro w'; go_simp; with_reducible rfl
        rotate_left
        · simp only [Act.put, uY, uZ, vA, uB, uD]; rfl
        refine uC (i := 16) (N := some 26) (v := ?_) (a' := ?_) (bA_spec 34 131071) rfl rfl (by kernel_rfl) (fun _ _ _ h => h) (Or.inl ⟨by rfl, ?_⟩) ?_ ?_
        rotate_left
        · intro w'; go_simp; with_reducible rfl
        rotate_left
        · simp only [Act.put, uY, uZ, vA, uB, uD]; rfl
        refine uC (i := 17) (N := some 27) (v := undef) (a' := ?_) (bA_spec 34 262143) rfl rfl (by kernel_rfl) (fun _ _ _ h => h) (Or.inr ⟨by rfl, rfl⟩) ?_ ?_
        rotate_left
        · simp only [Act.put, uY, uZ, vA]; rfl
        refine uC (i := 18) (N := some 28) (v := undef) (a' := ?_) (bA_spec 34 524287) rfl rfl (by kernel_rfl) (fun _ _ _ h => h) (Or.inr ⟨by rfl, rfl⟩) ?_ ?_
        rotate_left
        · simp only [Act.put, uY, uZ, vA]; rfl
        refine uC (i := 19) (N := some 29) (v := undef) (a' := ?_) (bA_spec 34 1048575) rfl rfl (by kernel_rfl) (fun _ _ _ h => h) (Or.inr ⟨by rfl, rfl⟩) ?_ ?_
        rotate_left
        · simp only [Act.put, uY, uZ, vA]; rfl
        refine uC (i := 20) (N := some 30) (v := undef) (a' := ?_) (bA_spec 34 2097151) rfl rfl (by kernel_rfl) (fun _ _ _ h => h) (Or.inr ⟨by rfl, rfl⟩) ?_ ?_
        rotate_left
        · simp only [Act.put, uY, uZ, vA]; rfl
        refine uC (i := 21) (N := some 31) (v := undef) (a' := ?_) (bA_spec 34 4194303) rfl rfl (by kernel_rfl) (fun _ _ _ h => h) (Or.inr ⟨by rfl, rfl⟩) ?_ ?_
        rotate_left
        · simp only [Act.put, uY, uZ, vA]; rfl
        refine uC (i := 22) (N := some 32) (v := undef) (a' := ?_) (bA_spec 34 8388607) rfl rfl (by kernel_rfl) (fun _ _ _ h => h) (Or.inr ⟨by rfl, rfl⟩) ?_ ?_
        rotate_left
        · simp only [Act.put, uY, uZ, vA]; rfl
        refine uC (i := 23) (N := some 33) (v := undef) (a' := ?_) (bA_spec 34 16777215) rfl rfl (by kernel_rfl) (fun _ _ _ h => h) (Or.inr ⟨by rfl, rfl⟩) ?_ ?_
        rotate_left
        · simp only [Act.put, uY, uZ, vA]; rfl
        refine uC (i := 24) (N := some 34) (v := undef) (a' := ?_) (bA_spec 34 33554431) rfl rfl (by kernel_rfl) (fun _ _ _ h => h) (Or.inr ⟨by rfl, rfl⟩) ?_ ?_
        rotate_left
        · simp only [Act.put, uY, uZ, vA]; rfl
        refine uC (i := 25) (N := some 35) (v := undef) (a' := ?_) (bA_spec 34 67108863) rfl rfl (by kernel_rfl) (fun _ _ _ h => h) (Or.inr ⟨by rfl, rfl⟩) ?_ ?_
        rotate_left
        · simp only [Act.put, uY, uZ, vA]; rfl
        refine uC (i := 26) (N := some 36) (v := undef) (a' := ?_) (bA_spec 34 134217727) rfl rfl (by kernel_rfl) (fun _ _ _ h => h) (Or.inr ⟨by rfl, rfl⟩) ?_ ?_
        rotate_left
        · simp only [Act.put, uY, uZ, vA]; rfl
        refine uC (i := 27) (N := some 37) (v := undef) (a' := ?_) (bA_spec 34 268435455) rfl rfl (by kernel_rfl) (fun _ _ _ h => h) (Or.inr ⟨by rfl, rfl⟩) ?_ ?_
        rotate_left
        · simp only [Act.put, uY, uZ, vA]; rfl
        refine uC (i := 28) (N := some 38) (v := undef) (a' := ?_) (bA_spec 34 536870911) rfl rfl (by kernel_rfl) (fun _ _ _ h => h) (Or.inr ⟨by rfl, rfl⟩) ?_ ?_
        rotate_left
        · simp only [Act.put, uY, uZ, vA]; rfl
        refine uC (i := 29) (N := some 39) (v := undef) (a' := ?_) (bA_spec 34 1073741823) rfl rfl (by kernel_rfl) (fun _ _ _ h => h) (Or.inr ⟨by rfl, rfl⟩) ?_ ?_
        rotate_left
        · simp only [Act.put, uY, uZ, vA]; rfl
        refine uC (i := 30) (N := some 40) (v := undef) (a' := ?_) (bA_spec 34 2147483647) rfl rfl (by kernel_rfl) (fun _ _ _ h => h) (Or.inr ⟨by rfl, rfl⟩) ?_ ?_
        rotate_left
        · simp only [Act.put, uY, uZ, vA]; rfl
        refine uC (i := 31) (N := some 41) (v := undef) (a' := ?_) (bA_spec 34 4294967295) rfl rfl (by kernel_rfl) (fun _ _ _ h => h) (Or.inr ⟨by rfl, rfl⟩) ?_ ?_
        rotate_left
        · simp only [Act.put, uY, uZ, vA]; rfl
        refine uC (i := 32) (N := some 42) (v := undef) (a' := ?_) (bA_spec 34 8589934591) rfl rfl (by kernel_rfl) (fun _ _ _ h => h) (Or.inr ⟨by rfl, rfl⟩) ?_ ?_
        rotate_left
        · simp only [Act.put, uY, uZ, vA]; rfl
        refine uC (i := 33) (N := some 43) (v := ?_) (a' := ?_) (bA_spec 34 17179869183) rfl rfl (by kernel_rfl) (fun _ _ _ h => h) (Or.inl ⟨by rfl, ?_⟩) ?_ ?_
        rotate_left
        · intro w'; go_simp; with_reducible rfl
        rotate_left
        · simp only [Act.put, uY, uZ, vA, uB, uD]; rfl
        refine done_ (by kernel_rfl) ?_
        go_wp2
        go_ret
        exact ⟨by rw [HNO.out (1 ≤ (rd_T66 l0 (kk : Int)).f0 ∧ (rd_T66 l0 (kk : Int)).f0 ≤ 20) (fun h => h.1) h1]; rfl, by first | exact HB.out | (rw [← World.drewN_drewN]; exact HB.out)⟩
    · have hltb := eq_false hlt
      have hall : ∀ j, j < l0.length → okE_spec l0 j := fun j hj => HA.out j (by have := HK.out; omega)
      have HALL := Aside0.mk hall
      clear hall HA
      go_wp2
      go_ret
      have hfin : decide ((l0.length : Int) ≤ 16) = V := by
        rw [← HV.out, Bool.eq_iff_iff, decide_eq_true_eq, decide_eq_true_eq]
        exact ⟨fun h => ⟨by omega, HALL.out⟩, fun h => by have := h.1; omega⟩
      exact ⟨by first | (rw [← hfin]; rfl) | (rw [hfin]; rfl), HB.out⟩


/-! ### spec_Checksum: function 46 -/
def spec_Checksum.l0 : Nat → ByteArray → Int → Int → Option (Int)
  | 0, _, _, _ => none
  | k + 1, x0, x3, x4 => if x4 < (x0.size : Int) then (if 0 ≤ x4 then (spec_Checksum.l0 k x0 (Int.tmod (wrap64 ((wrap64 ((wrap64 (x3 * 257)) + (wrap64 (bt x0 x4)))) + 1)) 9949) (wrap64 (x4 + 1))) else (none)) else (some x3)
def spec_Checksum.f (k : Nat) (a0 : ByteArray) : Option (Int) := spec_Checksum.l0 k a0 5 0
theorem spec_Checksum.mono_l : ∀ k, (∀ y0 y1 y2, uF (spec_Checksum.l0 k y0 y1 y2) (spec_Checksum.l0 (k + 1) y0 y1 y2))
  | 0 => fun _ _ _ r h => by simp [spec_Checksum.l0] at h
  | k + 1 => by
    have ih0 := spec_Checksum.mono_l k
    intro y0 y1 y2
    unfold spec_Checksum.l0
    repeat' first
    | (with_reducible exact ih0 _ _ _)
    | (with_reducible exact uF.refl _)
    | (with_reducible exact uF.none _)
    | (with_reducible refine uF.ite ?_ ?_)
    | (with_reducible refine uF.bind ?_ (fun _ => ?_))
    | exact ih0 _ _ _
    | exact uF.none _
    | refine uF.ite ?_ ?_
    | refine uF.bind ?_ (fun _ => ?_)
theorem spec_Checksum.mono : ∀ a0 k, uF (spec_Checksum.f k a0) (spec_Checksum.f (k + 1) a0) := by
  intro a0 k
  have ih0 := spec_Checksum.mono_l k
  unfold spec_Checksum.f
  repeat' first
      | (with_reducible exact ih0 _ _ _)
      | (with_reducible exact uF.refl _)
      | (with_reducible exact uF.none _)
      | (with_reducible refine uF.ite ?_ ?_)
      | (with_reducible refine uF.bind ?_ (fun _ => ?_))
      | exact ih0 _ _ _
      | exact uF.none _
      | refine uF.ite ?_ ?_
      | refine uF.bind ?_ (fun _ => ?_)
set_option maxHeartbeats 8000000 in
set_option maxRecDepth 100000 in
theorem spec_Checksum.calls (k : Nat) (a0 : ByteArray) (r : Int) (w : World) (h : spec_Checksum.f k a0 = some r) :
    Calls Tryd.prog 46 #[.string a0] w fun e w' => e = .returned (.int .i64 r) ∧ Drawn0 w w' := by
  have H : (spec_Checksum.l0 k a0 5 0) = some r := h
  clear h
  have H' := Aside0.mk H
  clear H
  go_enter Tryd.func46, Tryd.ntmps46
  go_wp2
  go_loopg [3, 4] k (fun kq v3 v4 w' => ∃ (x3_1 : Int) (x4_1 : Int), v3 = .int .i64 x3_1 ∧ v4 = .int .i64 x4_1 ∧ Aside0 (spec_Checksum.l0 kq a0 x3_1 x4_1 = some r) ∧ Aside0 (kq ≤ k) ∧ Drawn0 w w')
  case atStart => exact ⟨(5), (0), q10, q10, H', ⟨Nat.le_refl _⟩, q33⟩
  case round =>
    clear H'
    obtain ⟨x3_1, x4_1, rfl, rfl, HA, HK1, ⟨m1, rfl⟩⟩ := hrel
    cases gk with
    | zero => exact absurd HA.out (by simp [spec_Checksum.l0])
    | succ k1 =>
      have H := HA.out
      clear HA
      simp only [spec_Checksum.l0] at H
      by_cases c2 : x4_1 < (a0.size : Int)
      rotate_left
      · rw [if_neg c2] at H
        have c2b0 : decide (x4_1 < (a0.size : Int)) = false := decide_eq_false c2
        clear c2
        obtain rfl := Option.some.inj H
        go_wp2
        go_ret
        exact ⟨q10, q33⟩
      rw [if_pos c2] at H
      have c2b0 : decide (x4_1 < (a0.size : Int)) = true := decide_eq_true c2
      clear c2
      by_cases c3 : 0 ≤ x4_1
      rotate_left
      · rw [if_neg c3] at H
        exact absurd H (by simp)
      rw [if_pos c3] at H
      have c3b0 : decide (0 ≤ x4_1) = true := decide_eq_true c3
      clear c3
      have H' := Aside0.mk H
      clear H
      have p4 : 0 ≤ (x4_1 : Int) := of_decide_eq_true q9
      have q4 : x4_1 < (a0.size : Int) := of_decide_eq_true q9
      have hx4 := bt_at a0 x4_1
      replace p4 := eq_true p4
      replace q4 := eq_true q4
      go_wp2
      go_roundg k1
      case measure => have := HK1.out; omega
      case rel => exact ⟨(Int.tmod (wrap64 ((wrap64 ((wrap64 (x3_1 * 257)) + (wrap64 (bt a0 x4_1)))) + 1)) 9949), (wrap64 (x4_1 + 1)), q10, q10, H', ⟨by have := HK1.out; omega⟩, q33⟩

/-! ### spec_FormatInt: function 90 -/
def spec_FormatInt.l0 : Nat → Int → ByteArray → Bool → Option (ByteArray)
  | 0, _, _, _ => none
  | k + 1, x0, x3, x4 => if x0 = 0 then (if x4 = true then (if 1 + x3.size ≤ 9223372036854775807 then (some ((⟨#[45]⟩ : ByteArray) ++ x3)) else (none)) else (some x3)) else (if (Int.tmod x0 10) < 0 then ((some (([(wrap64 (48 + (wrap64 (-(Int.tmod x0 10))))) % 256] : List Int) : List Int)).bind fun y373 => (if (strOfNums y373).size + x3.size ≤ 9223372036854775807 then (spec_FormatInt.l0 k (wrap64 (Int.tdiv x0 10)) ((strOfNums y373) ++ x3) x4) else (none))) else ((some (([(wrap64 (48 + (Int.tmod x0 10))) % 256] : List Int) : List Int)).bind fun y376 => (if (strOfNums y376).size + x3.size ≤ 9223372036854775807 then (spec_FormatInt.l0 k (wrap64 (Int.tdiv x0 10)) ((strOfNums y376) ++ x3) x4) else (none))))
def spec_FormatInt.f (k : Nat) (a0 : Int) : Option (ByteArray) := if a0 = 0 then (some (⟨#[48]⟩ : ByteArray)) else (spec_FormatInt.l0 k a0 (⟨#[]⟩ : ByteArray) (decide (a0 < 0)))
theorem spec_FormatInt.mono_l : ∀ k, (∀ y0 y1 y2, uF (spec_FormatInt.l0 k y0 y1 y2) (spec_FormatInt.l0 (k + 1) y0 y1 y2))
  | 0 => fun _ _ _ r h => by simp [spec_FormatInt.l0] at h
  | k + 1 => by
    have ih0 := spec_FormatInt.mono_l k
    intro y0 y1 y2
    unfold spec_FormatInt.l0
    repeat' first
    | (with_reducible exact ih0 _ _ _)
    | (with_reducible exact uF.refl _)
    | (with_reducible exact uF.none _)
    | (with_reducible refine uF.ite ?_ ?_)
    | (with_reducible refine uF.bind ?_ (fun _ => ?_))
    | exact ih0 _ _ _
    | exact uF.none _
    | refine uF.ite ?_ ?_
    | refine uF.bind ?_ (fun _ => ?_)
theorem spec_FormatInt.mono : ∀ a0 k, uF (spec_FormatInt.f k a0) (spec_FormatInt.f (k + 1) a0) := by
  intro a0 k
  have ih0 := spec_FormatInt.mono_l k
  unfold spec_FormatInt.f
  repeat' first
      | (with_reducible exact ih0 _ _ _)
      | (with_reducible exact uF.refl _)
      | (with_reducible exact uF.none _)
      | (with_reducible refine uF.ite ?_ ?_)
      | (with_reducible refine uF.bind ?_ (fun _ => ?_))
      | exact ih0 _ _ _
      | exact uF.none _
      | refine uF.ite ?_ ?_
      | refine uF.bind ?_ (fun _ => ?_)
set_option maxHeartbeats 8000000 in
set_option maxRecDepth 100000 in
theorem spec_FormatInt.calls (k : Nat) (a0 : Int) (r : ByteArray) (w : World) (h : spec_FormatInt.f k a0 = some r) :
    Calls Tryd.prog 90 #[.int .i64 a0] w fun e w' => e = .returned (.string r) ∧ Below w.heap.size w w' := by
  have HB := Aside0.mk (Below.refl w.heap.size w)
  have H : (if a0 = 0 then (some (⟨#[48]⟩ : ByteArray)) else (spec_FormatInt.l0 k a0 (⟨#[]⟩ : ByteArray) (decide (a0 < 0)))) = some r := h
  clear h
  by_cases c2 : a0 = 0
  · rw [if_pos c2] at H
    have c2b0 : (a0 == 0) = true := beq_iff_eq.mpr c2
    have c2b1 : (a0 != 0) = false := bne_eq_false_iff_eq.mpr c2
    clear c2
    obtain rfl := Option.some.inj H
    go_enter Tryd.func90, Tryd.ntmps90
    go_wp2
    go_ret
    exact ⟨q2, q0⟩
  rw [if_neg c2] at H
  have c2b0 : (a0 == 0) = false := beq_eq_false_iff_ne.mpr c2
  have c2b1 : (a0 != 0) = true := bne_iff_ne.mpr c2
  have H' := Aside0.mk H
  clear H
  go_enter Tryd.func90, Tryd.ntmps90
  go_wp2
  go_loopg [0, 3] k (fun kq v0 v3 w' => ∃ (x0_1 : Int) (x3_1 : ByteArray), v0 = .int .i64 x0_1 ∧ v3 = .string x3_1 ∧ Aside0 (spec_FormatInt.l0 kq x0_1 x3_1 (decide (a0 < 0)) = some r) ∧ Aside0 (kq ≤ k) ∧ Aside0 (Below w.heap.size w w'))
  case atStart => exact ⟨(a0), ((⟨#[]⟩ : ByteArray)), q10, q10, H', ⟨Nat.le_refl _⟩, ⟨q0⟩⟩
  case round =>
    clear H'
    try clear c2
    try clear c2b0
    try clear c2b1
    try clear p2
    obtain ⟨x0_1, x3_1, rfl, rfl, HA, HK1, HB⟩ := hrel
    cases gk with
    | zero => exact absurd HA.out (by simp [spec_FormatInt.l0])
    | succ k1 =>
      have H := HA.out
      clear HA
      simp only [spec_FormatInt.l0] at H
      by_cases c3 : x0_1 = 0
      · rw [if_pos c3] at H
        have c3b0 : (x0_1 == 0) = true := beq_iff_eq.mpr c3
        have c3b1 : (x0_1 != 0) = false := bne_eq_false_iff_eq.mpr c3
        clear c3
        by_cases c4 : (decide (a0 < 0)) = true
        rotate_left
        · rw [if_neg c4] at H
          have c4b0 : (decide (a0 < 0)) = false := by simpa using c4
          clear c4
          (first | rw [c4b0] | (simp only [uB, uD]; rw [c4b0]) | skip)
          obtain rfl := Option.some.inj H
          go_wp2
          go_ret
          exact ⟨q2, q0⟩
        rw [if_pos c4] at H
        have c4b0 : (decide (a0 < 0)) = true := c4
        clear c4
        (first | rw [c4b0] | (simp only [uB, uD]; rw [c4b0]) | skip)
        by_cases c5 : 1 + x3_1.size ≤ 9223372036854775807
        rotate_left
        · rw [if_neg c5] at H
          exact absurd H (by simp)
        rw [if_pos c5] at H
        have c5b0 := eq_true c5
        have c5b1 : decide (1 + x3_1.size ≤ 9223372036854775807) = true := decide_eq_true c5
        try have c5b2 : (9223372036854775807 < 1 + x3_1.size) = False := eq_false (Nat.not_lt.2 c5)
        obtain rfl := Option.some.inj H
        go_wp2
        go_ret
        exact ⟨q2, q0⟩
      rw [if_neg c3] at H
      have c3b0 : (x0_1 == 0) = false := beq_eq_false_iff_ne.mpr c3
      have c3b1 : (x0_1 != 0) = true := bne_iff_ne.mpr c3
      by_cases c6 : (Int.tmod x0_1 10) < 0
      rotate_left
      · rw [if_neg c6] at H
        have c6b0 : decide ((Int.tmod x0_1 10) < 0) = false := decide_eq_false c6
        clear c6
        obtain ⟨y376, hy376⟩ : ∃ y_ : List Int, y_ = (([(wrap64 (48 + (Int.tmod x0_1 10))) % 256] : List Int)) := ⟨_, rfl⟩
        replace H : (if (strOfNums y376).size + x3_1.size ≤ 9223372036854775807 then (spec_FormatInt.l0 k1 (wrap64 (Int.tdiv x0_1 10)) ((strOfNums y376) ++ x3_1) (decide (a0 < 0))) else (none)) = some r := by first | (rw [hy376]; with_reducible exact H) | (have H2_ := (Option.bind_some _ _).symm.trans H; rw [hy376]; with_reducible exact H2_) | (have H2_ := (Option.bind_some _ _).symm.trans H; with_reducible exact H2_) | with_reducible exact H | (rw [hy376]; exact H) | exact H | rfl
        have Ny376 := Aside0.mk hy376
        clear hy376
        by_cases c11 : (strOfNums y376).size + x3_1.size ≤ 9223372036854775807
        rotate_left
        · rw [if_neg c11] at H
          exact absurd H (by simp)
        rw [if_pos c11] at H
        have c11b0 := eq_true c11
        have c11b1 : decide ((strOfNums y376).size + x3_1.size ≤ 9223372036854775807) = true := decide_eq_true c11
        try have c11b2 : (9223372036854775807 < (strOfNums y376).size + x3_1.size) = False := eq_false (Nat.not_lt.2 c11)
        have H' := Aside0.mk H
        clear H
        go_wp2_with (first | ((with_reducible refine uR (N := 21) rfl ?_); refine Kd.R_lit (Kd.int .u8) _ 5 ?hg (N := 21) ?hd (xs := ([(wrap64 (48 + (Int.tmod x0_1 10))) % 256] : List Int)) (inner := [.int .u8 ((wrap64 (48 + (Int.tmod x0_1 10))) % 256)]) (ok := fun _ => True) (okp := fun _ => True) ?hr ?hp (fun _ hk => hk) trivial (Below.refl _ _) (Nat.le_refl _) (by simp) ?_; (case hd => rfl); (case hg => rfl); (case hr => first | (go_simp; done) | (go_simp; rfl)); (case hp => exact (Reps.one (show Kd.M (Kd.int .u8) _ _ _ ((wrap64 (48 + (Int.tmod x0_1 10))) % 256) [.int .u8 ((wrap64 (48 + (Int.tmod x0_1 10))) % 256)] from rfl) (Reps.none _ _))); intro v377 w12 ho13 hb hg_ hnew_; clear hg_ hnew_; (first | rw [← Ny376.out] at ho13 | (simp only [Int.reduceToNat] at ho13; rw [← Ny376.out] at ho13)); have HO378 := Aside0.mk (Kd.uX ho13 (uU q0)); replace HB := uQ HB hb; clear hb ho13; have hcv14 := own_string (P := Tryd.prog) Tryd.underlying22 Tryd.underlying5 Tryd.underlying9 (Kd.own_of_R HO378.out)))
        go_roundg k1
        case measure => have := HK1.out; omega
        case rel => exact ⟨(wrap64 (Int.tdiv x0_1 10)), ((strOfNums y376) ++ x3_1), q10, q10, H', ⟨by have := HK1.out; omega⟩, ⟨q0⟩⟩
      rw [if_pos c6] at H
      have c6b0 : decide ((Int.tmod x0_1 10) < 0) = true := decide_eq_true c6
      clear c6
      obtain ⟨y373, hy373⟩ : ∃ y_ : List Int, y_ = (([(wrap64 (48 + (wrap64 (-(Int.tmod x0_1 10))))) % 256] : List Int)) := ⟨_, rfl⟩
      replace H : (if (strOfNums y373).size + x3_1.size ≤ 9223372036854775807 then (spec_FormatInt.l0 k1 (wrap64 (Int.tdiv x0_1 10)) ((strOfNums y373) ++ x3_1) (decide (a0 < 0))) else (none)) = some r := by first | (rw [hy373]; with_reducible exact H) | (have H2_ := (Option.bind_some _ _).symm.trans H; rw [hy373]; with_reducible exact H2_) | (have H2_ := (Option.bind_some _ _).symm.trans H; with_reducible exact H2_) | with_reducible exact H | (rw [hy373]; exact H) | exact H | rfl
      have Ny373 := Aside0.mk hy373
      clear hy373
      by_cases c7 : (strOfNums y373).size + x3_1.size ≤ 9223372036854775807
      rotate_left
      · rw [if_neg c7] at H
        exact absurd H (by simp)
      rw [if_pos c7] at H
      have c7b0 := eq_true c7
      have c7b1 : decide ((strOfNums y373).size + x3_1.size ≤ 9223372036854775807) = true := decide_eq_true c7
      try have c7b2 : (9223372036854775807 < (strOfNums y373).size + x3_1.size) = False := eq_false (Nat.not_lt.2 c7)
      have H' := Aside0.mk H
      clear H
      go_wp2_with (first | ((with_reducible refine uR (N := 21) rfl ?_); refine Kd.R_lit (Kd.int .u8) _ 5 ?hg (N := 21) ?hd (xs := ([(wrap64 (48 + (wrap64 (-(Int.tmod x0_1 10))))) % 256] : List Int)) (inner := [.int .u8 ((wrap64 (48 + (wrap64 (-(Int.tmod x0_1 10))))) % 256)]) (ok := fun _ => True) (okp := fun _ => True) ?hr ?hp (fun _ hk => hk) trivial (Below.refl _ _) (Nat.le_refl _) (by simp) ?_; (case hd => rfl); (case hg => rfl); (case hr => first | (go_simp; done) | (go_simp; rfl)); (case hp => exact (Reps.one (show Kd.M (Kd.int .u8) _ _ _ ((wrap64 (48 + (wrap64 (-(Int.tmod x0_1 10))))) % 256) [.int .u8 ((wrap64 (48 + (wrap64 (-(Int.tmod x0_1 10))))) % 256)] from rfl) (Reps.none _ _))); intro v374 w8 ho9 hb hg_ hnew_; clear hg_ hnew_; (first | rw [← Ny373.out] at ho9 | (simp only [Int.reduceToNat] at ho9; rw [← Ny373.out] at ho9)); have HO375 := Aside0.mk (Kd.uX ho9 (uU q0)); replace HB := uQ HB hb; clear hb ho9; have hcv10 := own_string (P := Tryd.prog) Tryd.underlying22 Tryd.underlying5 Tryd.underlying9 (Kd.own_of_R HO375.out)))
      go_roundg k1
      case measure => have := HK1.out; omega
      case rel => exact ⟨(wrap64 (Int.tdiv x0_1 10)), ((strOfNums y373) ++ x3_1), q10, q10, H', ⟨by have := HK1.out; omega⟩, ⟨q0⟩⟩

end Go.Proofs.YtcikahnmiiichaaDoor.G
