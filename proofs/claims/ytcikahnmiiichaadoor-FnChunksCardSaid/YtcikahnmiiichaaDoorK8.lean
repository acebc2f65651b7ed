/- Go functions as Lean functions, and the proof that the code comes to them: written by a program of this session out of the translation. -/
import Derived.Test.YtcikahnmiiichaaDoorK0
import Derived.Test.YtcikahnmiiichaaDoorK1
import Derived.Test.YtcikahnmiiichaaDoorK7
namespace Go.Proofs.YtcikahnmiiichaaDoor.K
open List renaming setIfInBounds_toArray → vZ, set_cons_zero → yA, set_cons_succ → yB
open Go.World renaming block_lt_of_cell? → yF
open Go.Proofs.YtcikahnmiiichaaDoor.Given
open Go.RowKit Go.Proofs.YtcikahnmiiichaaDoorW.PrintWords Go.Proofs.YtcikahnmiiichaaDoorW.PrintLast Go.Proofs.YtcikahnmiiichaaDoorW.PrintMore
attribute [local go_sem] max2_int min2_int max_two min_two vW vV max_four min_four   -- for this text's walks alone
set_option linter.unusedVariables false
set_option linter.unusedSimpArgs false

/-! ### spec_IsLog: function 15 -/
def bA_spec (n m : Nat) : Array Bool := ((List.range n).map fun i => m.testBit i).toArray
theorem spec_l1In.yes_ {a b c : Int} (h : b ≤ a ∧ a ≤ c) (w : World) : Calls Tryd.prog 48 #[.int .i64 a, .int .i64 b, .int .i64 c] w fun e w' => e = .returned (.bool true) ∧ Drawn0 w w' := spec_l1In.calls a b c true w (by unfold spec_l1In.f; first | (rw [if_pos (show a ≥ b from h.1), decide_eq_true h.2]) | simp [h.1, h.2])
theorem spec_l1In.no_ {a b c : Int} (h : ¬ (b ≤ a ∧ a ≤ c)) (w : World) : Calls Tryd.prog 48 #[.int .i64 a, .int .i64 b, .int .i64 c] w fun e w' => e = .returned (.bool false) ∧ Drawn0 w w' := spec_l1In.calls a b c false w (by
  unfold spec_l1In.f
  by_cases h1 : a ≥ b
  · first | (rw [if_pos h1, decide_eq_false (fun h2 => h ⟨h1, h2⟩)]) | (have h2 : ¬ a ≤ c := fun h2 => h ⟨h1, h2⟩; simp [h1, h2])
  · simp [h1])
def okE_spec (xs : List S66) (j : Nat) : Prop := (1 ≤ (rd_T66 xs (j : Int)).f0 ∧ (rd_T66 xs (j : Int)).f0 ≤ 20) ∧ spec_IsValidOp.f (rd_T66 xs (j : Int)).f1.f0 (rd_T66 xs (j : Int)).f1.f1 (rd_T66 xs (j : Int)).f1.f2 (rd_T66 xs (j : Int)).f1.f3 (rd_T66 xs (j : Int)).f1.f4 (rd_T66 xs (j : Int)).f1.f5 = some true ∧ (0 < j → (rd_T66 xs ((j : Int) - 1)).f0 ≤ (rd_T66 xs (j : Int)).f0)
instance okE_spec_dec (xs : List S66) (j : Nat) : Decidable (okE_spec xs j) := inferInstanceAs (Decidable (_ ∧ _ ∧ (_ → _)))
def vL_spec (xs : List S66) : Prop := xs.length ≤ 16 ∧ ∀ j, j < xs.length → okE_spec xs j
instance vL_spec_dec (xs : List S66) : Decidable (vL_spec xs) := inferInstanceAs (Decidable (_ ∧ ∀ j, j < _ → _))
theorem spec_bindT {A B : Type} {o : Option A} {g : A → Option B} (ho : ∃ b, o = some b) (hg : ∀ b, ∃ r, g b = some r) : ∃ r, o.bind g = some r := by
  obtain ⟨b, rfl⟩ := ho
  exact hg b
theorem spec_iteT {B : Type} {p : Prop} [Decidable p] {a b : Option B} (ha : ∃ r, a = some r) (hb : ∃ r, b = some r) : ∃ r, (if p then a else b) = some r := by
  split <;> assumption
theorem spec_IsValidOp.tot (a b c d e f : Int) : ∃ r, spec_IsValidOp.f a b c d e f = some r := by
  unfold spec_IsValidOp.f spec_l1In.f
  repeat' (first | exact ⟨_, rfl⟩ | refine spec_iteT ?_ ?_ | refine spec_bindT ?_ (fun _ => ?_))
def spec_IsLog.f (k : Nat) (l0 : List S66) : Option Bool := some (decide (vL_spec l0))
theorem spec_IsLog.mono : ∀ a0 k, uA (spec_IsLog.f k a0) (spec_IsLog.f (k + 1) a0) := fun _ _ => uA.refl _
set_option maxHeartbeats 8000000 in
set_option maxRecDepth 100000 in
theorem spec_IsLog.calls (k : Nat) (A0 : Option Addr) (c0 : Nat) (l0 : List (S66)) (r : Bool) (w : World) (hr0 : Kd.C k66 w A0 l0.length l0) (hc0 : l0.length ≤ c0) (h : spec_IsLog.f k l0 = some r) :
    Calls Tryd.prog 15 #[.slice A0 l0.length c0] w fun e w' => e = .returned (.bool r) ∧ Below w.heap.size w w' := by
  obtain rfl := Option.some.inj h
  clear h
  have HR0 := Aside0.mk hr0
  have HL1 := Aside0.mk hr0.2.1
  have HC0 := Aside0.mk hc0
  clear hr0 hc0
  generalize hV : decide (vL_spec l0) = V
  have HV := Aside0.mk hV
  clear hV
  have HB := Aside0.mk (Below.refl w.heap.size w)
  go_enter Tryd.func15, Tryd.ntmps15
  go_wp2
  go_loopg [3] l0.length (fun gg s wr => ∃ kk : Nat, s = .int .i64 kk ∧ Aside0 (kk ≤ l0.length ∧ l0.length - kk ≤ gg) ∧ Aside0 (Below w.heap.size w wr) ∧ Aside0 (∀ j, j < kk → okE_spec l0 j))
  case atStart => exact ⟨0, rfl, ⟨by omega, by omega⟩, HB, ⟨fun j hj => by omega⟩⟩
  case round =>
    clear HB
    obtain ⟨kk, rfl, HK, HB, HA⟩ := hrel
    have hkz : (0 : Int) ≤ (kk : Int) := by omega
    by_cases hlt : (kk : Int) < (l0.length : Int)
    · obtain ⟨ad2, e2, hx_0, hx_1, hx_2, hx_3, hx_4, hx_5, hx_6⟩ := at_T66 HR0.out (kk : Int) hkz hlt
      subst e2
      simp only [Int.toNat_natCast] at hx_0 hx_1 hx_2 hx_3 hx_4 hx_5 hx_6
      replace hx_0 := (HB.out.cell (yF w _ hx_0)).trans hx_0
      replace hx_1 := (HB.out.cell (yF w _ hx_1)).trans hx_1
      replace hx_2 := (HB.out.cell (yF w _ hx_2)).trans hx_2
      replace hx_3 := (HB.out.cell (yF w _ hx_3)).trans hx_3
      replace hx_4 := (HB.out.cell (yF w _ hx_4)).trans hx_4
      replace hx_5 := (HB.out.cell (yF w _ hx_5)).trans hx_5
      replace hx_6 := (HB.out.cell (yF w _ hx_6)).trans hx_6
      have hltb := eq_true hlt
      have hkzb := eq_true hkz
      have hnot : ∀ (p : Prop), (okE_spec l0 kk → p) → ¬ p → V = false := fun p h hp => by rw [← HV.out]; exact decide_eq_false (fun h2 => hp (h (h2.2 kk (by omega))))
      have HNO := Aside0.mk hnot
      clear hnot
      have e1 : wrap64 ((kk : Int) - 1) = (kk : Int) - 1 := by have := HL1.out; unfold wrap64; omega
      have e1b := vM ((kk : Int) - 1)
      rw [e1] at e1b
      go_wp2
      obtain ⟨pv, HPV2⟩ : ∃ pv : Int, Aside0 (0 < kk → wr.cell? (ad2.add ((kk - 1) * 7)) = some (.int .i64 pv) ∧ pv = (rd_T66 l0 ((kk : Int) - 1)).f0) := by
        by_cases h0 : 0 < kk
        · obtain ⟨ad3, e3, hy, _⟩ := at_T66 HR0.out ((kk : Int) - 1) (by omega) (by omega)
          cases e3
          rw [show ((kk : Int) - 1).toNat = kk - 1 by omega] at hy
          exact ⟨_, ⟨fun _ => ⟨(HB.out.cell (yF w _ hy)).trans hy, rfl⟩⟩⟩
        · exact ⟨0, ⟨fun h => absurd h h0⟩⟩
      refine start_ (n := 34) (S := fun w' => w'.cell? (ad2.add (kk * 7)) = some (.int .i64 (rd_T66 l0 (kk : Int)).f0) ∧ w'.cell? ⟨(ad2.add (kk * 7)).block, (ad2.add (kk * 7)).off + 1, none⟩ = some (.int .i64 (rd_T66 l0 (kk : Int)).f1.f0) ∧ w'.cell? ⟨(ad2.add (kk * 7)).block, (ad2.add (kk * 7)).off + 2, none⟩ = some (.int .i64 (rd_T66 l0 (kk : Int)).f1.f1) ∧ w'.cell? ⟨(ad2.add (kk * 7)).block, (ad2.add (kk * 7)).off + 3, none⟩ = some (.int .i64 (rd_T66 l0 (kk : Int)).f1.f2) ∧ w'.cell? ⟨(ad2.add (kk * 7)).block, (ad2.add (kk * 7)).off + 4, none⟩ = some (.int .i64 (rd_T66 l0 (kk : Int)).f1.f3) ∧ w'.cell? ⟨(ad2.add (kk * 7)).block, (ad2.add (kk * 7)).off + 5, none⟩ = some (.int .i64 (rd_T66 l0 (kk : Int)).f1.f4) ∧ w'.cell? ⟨(ad2.add (kk * 7)).block, (ad2.add (kk * 7)).off + 6, none⟩ = some (.int .i64 (rd_T66 l0 (kk : Int)).f1.f5) ∧ (0 < kk → w'.cell? (ad2.add ((kk - 1) * 7)) = some (.int .i64 pv))) (ds := []) (bA_spec 34 0) (by kernel_rfl) rfl rfl ⟨hx_0, hx_1, hx_2, hx_3, hx_4, hx_5, hx_6, fun h => (HPV2.out h).1⟩ (fun hHeld => ?_)
      have HB1 := Aside0.mk (vL HB.out)
      clear HB hx_0 hx_1 hx_2 hx_3 hx_4 hx_5 hx_6
      have HB := HB1
      clear HB1
      refine uU 0 (some 10) (bA_spec 34 1) ?_
      refine uU 1 (some 11) (bA_spec 34 3) ?_
      refine uU 2 (some 12) (bA_spec 34 7) ?_
      refine uU 3 (some 13) (bA_spec 34 15) ?_
      refine take_ (i := 4) (N := some 14) (v := ?_) (a' := ?_) (bA_spec 34 31) rfl rfl (by kernel_rfl) (fun _ _ _ h => h) (Or.inl ⟨by rfl, ?_⟩) hHeld ?_ ?_
      rotate_left
      · rintro w' ⟨s0, s1, s2, s3, s4, s5, s6, s7⟩; clear s7; go_simp; with_reducible rfl
      rotate_left
      · simp only [Act.put, vZ, yA, yB, vM, vO]; rfl
      by_cases h1 : 1 ≤ (rd_T66 l0 (kk : Int)).f0 ∧ (rd_T66 l0 (kk : Int)).f0 ≤ 20
      · refine one_ (i := 5) (N := some 15) (bA_spec 34 63) rfl rfl (by kernel_rfl) (by decide) (fun K hK => ?_)
        refine goesT Tryd.func48 #[.int .i64 (rd_T66 l0 (kk : Int)).f0, .int .i64 1, .int .i64 20] ?_
        refine (spec_l1In.yes_ h1 _).mono ?_
        rintro e w' ⟨rfl, ⟨nd5, rfl⟩⟩
        refine ⟨_, rfl, ?_⟩
        have HB1 := Aside0.mk (vX HB.out nd5)
        clear HB
        have HB := HB1
        clear HB1
        refine hK.out _ _ hHeld (fun hHeld => ?_)
        clear hK K
        refine norm_ (a' := ?_) ?_ ?_
        rotate_left
        · show Act.put _ (some 15) _ = _; simp only [Act.put, vZ, yA, yB, vM, vO]; rfl
        refine uU 6 (some 16) (bA_spec 34 127) ?_
        refine uU 7 (some 17) (bA_spec 34 255) ?_
        refine uU 8 (some 18) (bA_spec 34 511) ?_
        refine uU 9 (some 19) (bA_spec 34 1023) ?_
        refine uU 10 (some 20) (bA_spec 34 2047) ?_
        refine uU 11 (some 21) (bA_spec 34 4095) ?_
        refine take_ (i := 12) (N := some 22) (v := ?_) (a' := ?_) (bA_spec 34 8191) rfl rfl (by kernel_rfl) (fun _ _ _ h => h) (Or.inl ⟨by rfl, ?_⟩) hHeld ?_ ?_
        rotate_left
        · rintro w' ⟨s0, s1, s2, s3, s4, s5, s6, s7⟩; clear s7; go_simp; with_reducible rfl
        rotate_left
        · simp only [Act.put, vZ, yA, yB, vM, vO]; rfl
        obtain ⟨vb, hv⟩ := spec_IsValidOp.tot (rd_T66 l0 (kk : Int)).f1.f0 (rd_T66 l0 (kk : Int)).f1.f1 (rd_T66 l0 (kk : Int)).f1.f2 (rd_T66 l0 (kk : Int)).f1.f3 (rd_T66 l0 (kk : Int)).f1.f4 (rd_T66 l0 (kk : Int)).f1.f5
        rcases Bool.eq_false_or_eq_true vb with rfl | rfl
        · refine one_ (i := 13) (N := some 23) (bA_spec 34 16383) rfl rfl (by kernel_rfl) (by decide) (fun K hK => ?_)
          refine goesT Tryd.func49 #[.agg #[.int .i64 (rd_T66 l0 (kk : Int)).f1.f0, .int .i64 (rd_T66 l0 (kk : Int)).f1.f1, .int .i64 (rd_T66 l0 (kk : Int)).f1.f2, .int .i64 (rd_T66 l0 (kk : Int)).f1.f3, .int .i64 (rd_T66 l0 (kk : Int)).f1.f4, .int .i64 (rd_T66 l0 (kk : Int)).f1.f5]] ?_
          refine (spec_IsValidOp.calls (rd_T66 l0 (kk : Int)).f1.f0 (rd_T66 l0 (kk : Int)).f1.f1 (rd_T66 l0 (kk : Int)).f1.f2 (rd_T66 l0 (kk : Int)).f1.f3 (rd_T66 l0 (kk : Int)).f1.f4 (rd_T66 l0 (kk : Int)).f1.f5 true _ hv).mono ?_
          rintro e w' ⟨rfl, hb⟩
          refine ⟨_, rfl, ?_⟩
          have HB1 := Aside0.mk (below_step HB.out hb)
          clear HB
          have HB := HB1
          clear HB1
          obtain ⟨s0, s1, s2, s3, s4, s5, s6, s7⟩ := hHeld
          refine hK.out _ _ ⟨vP hb s0, vP hb s1, vP hb s2, vP hb s3, vP hb s4, vP hb s5, vP hb s6, fun h0 => vP hb (s7 h0)⟩ (fun hHeld => ?_)
          clear hK K hb s0 s1 s2 s3 s4 s5 s6 s7
          refine norm_ (a' := ?_) ?_ ?_
          rotate_left
          · show Act.put _ (some 23) _ = _; simp only [Act.put, vZ, yA, yB, vM, vO]; rfl
          refine uU 14 (some 24) (bA_spec 34 32767) ?_
          refine uU 15 (some 25) (bA_spec 34 65535) ?_
          refine uU 16 (some 26) (bA_spec 34 131071) ?_
          refine uU 17 (some 27) (bA_spec 34 262143) ?_
          by_cases h0 : 0 < kk
          · have hp0 := eq_true (show (kk : Int) > 0 by omega)
            have hp3 := eq_true (show (0 : Int) < (kk : Int) by omega)
            have hp1 := eq_true (show (0 : Int) ≤ (kk : Int) - 1 by omega)
            have hp5 := eq_true (show (1 : Int) ≤ (kk : Int) by omega)
            have hp2 := eq_true (show (kk : Int) - 1 < (l0.length : Int) by omega)
            refine uU 18 (some 28) (bA_spec 34 524287) ?_
            refine uU 19 (some 29) (bA_spec 34 1048575) ?_
            refine uU 20 (some 30) (bA_spec 34 2097151) ?_
            refine uU 21 (some 31) (bA_spec 34 4194303) ?_
            refine uU 22 (some 32) (bA_spec 34 8388607) ?_
            refine uU 23 (some 33) (bA_spec 34 16777215) ?_
            refine uU 24 (some 34) (bA_spec 34 33554431) ?_
            refine take_ (i := 25) (N := some 35) (v := ?_) (a' := ?_) (bA_spec 34 67108863) rfl rfl (by kernel_rfl) (fun _ _ _ h => h) (Or.inl ⟨by rfl, ?_⟩) hHeld ?_ ?_
            rotate_left
            · rintro w' ⟨s0, s1, s2, s3, s4, s5, s6, s7⟩; replace s7 := s7 h0; go_simp; with_reducible rfl
            rotate_left
            · simp only [Act.put, vZ, yA, yB, vM, vO]; rfl
            refine uU 26 (some 36) (bA_spec 34 134217727) ?_
            refine uU 27 (some 37) (bA_spec 34 268435455) ?_
            refine uU 28 (some 38) (bA_spec 34 536870911) ?_
            refine uU 29 (some 39) (bA_spec 34 1073741823) ?_
            refine take_ (i := 30) (N := some 40) (v := ?_) (a' := ?_) (bA_spec 34 2147483647) rfl rfl (by kernel_rfl) (fun _ _ _ h => h) (Or.inl ⟨by rfl, ?_⟩) hHeld ?_ ?_
            rotate_left
            · rintro w' ⟨s0, s1, s2, s3, s4, s5, s6, s7⟩; clear s7; go_simp; with_reducible rfl
            rotate_left
            · simp only [Act.put, vZ, yA, yB, vM, vO]; rfl
            by_cases h4 : pv ≤ (rd_T66 l0 (kk : Int)).f0
            · have h4c := eq_false (show ¬ (pv > (rd_T66 l0 (kk : Int)).f0) by omega)
              have h4d := decide_eq_false (show ¬ (pv > (rd_T66 l0 (kk : Int)).f0) by omega)
              have h4e := eq_false (show ¬ ((rd_T66 l0 (kk : Int)).f0 < pv) by omega)
              refine uU 31 (some 41) (bA_spec 34 4294967295) ?_
              refine uU 32 (some 42) (bA_spec 34 8589934591) ?_
              refine uU 33 (some 43) (bA_spec 34 17179869183) ?_
              refine done_ (by kernel_rfl) ?_
              go_wp2
              go_roundg (l0.length - (kk + 1))
              case measure => have := HK.out; omega
              case rel =>
                refine ⟨kk + 1, by first | (rw [show wrap64 ((kk : Int) + 1) = ((kk + 1 : Nat) : Int) by have := HL1.out; unfold wrap64; omega]) | rfl, ⟨by have := HK.out; omega, by have := HK.out; omega⟩, HB, ⟨fun j hj => ?_⟩⟩
                rcases Nat.lt_succ_iff_lt_or_eq.1 hj with hj | rfl
                · exact HA.out j hj
                · exact ⟨h1, hv, fun h => by first | exact absurd h h0 | (rw [← (HPV2.out h).2]; exact h4)⟩
            · have h4c := eq_true (show pv > (rd_T66 l0 (kk : Int)).f0 by omega)
              have h4d := decide_eq_true (show pv > (rd_T66 l0 (kk : Int)).f0 by omega)
              have h4e := eq_true (show (rd_T66 l0 (kk : Int)).f0 < pv by omega)
              refine uU 31 (some 41) (bA_spec 34 4294967295) ?_
              refine uU 32 (some 42) (bA_spec 34 8589934591) ?_
              refine uU 33 (some 43) (bA_spec 34 17179869183) ?_
              refine done_ (by kernel_rfl) ?_
              go_wp2
              go_ret
              exact ⟨by rw [HNO.out (pv ≤ (rd_T66 l0 (kk : Int)).f0) (fun h => by rw [(HPV2.out h0).2]; exact h.2.2 h0) (by omega)]; rfl, by first | exact HB.out | (rw [← World.drewN_drewN]; exact HB.out)⟩
          · have hp0 := eq_false (show ¬ ((kk : Int) > 0) by omega)
            have hp3 := eq_false (show ¬ ((0 : Int) < (kk : Int)) by omega)
            refine uU 18 (some 28) (bA_spec 34 524287) ?_
            refine uU 19 (some 29) (bA_spec 34 1048575) ?_
            refine uP 20 (some 30) (bA_spec 34 2097151) ?_
            refine uP 21 (some 31) (bA_spec 34 4194303) ?_
            refine uP 22 (some 32) (bA_spec 34 8388607) ?_
            refine uP 23 (some 33) (bA_spec 34 16777215) ?_
            refine uP 24 (some 34) (bA_spec 34 33554431) ?_
            refine uP 25 (some 35) (bA_spec 34 67108863) ?_
            refine uP 26 (some 36) (bA_spec 34 134217727) ?_
            refine uP 27 (some 37) (bA_spec 34 268435455) ?_
            refine uP 28 (some 38) (bA_spec 34 536870911) ?_
            refine uP 29 (some 39) (bA_spec 34 1073741823) ?_
            refine uP 30 (some 40) (bA_spec 34 2147483647) ?_
            refine uP 31 (some 41) (bA_spec 34 4294967295) ?_
            refine uU 32 (some 42) (bA_spec 34 8589934591) ?_
            refine uU 33 (some 43) (bA_spec 34 17179869183) ?_
            refine done_ (by kernel_rfl) ?_
            go_wp2
            go_roundg (l0.length - (kk + 1))
            case measure => have := HK.out; omega
            case rel =>
              refine ⟨kk + 1, by first | (rw [show wrap64 ((kk : Int) + 1) = ((kk + 1 : Nat) : Int) by have := HL1.out; unfold wrap64; omega]) | rfl, ⟨by have := HK.out; omega, by have := HK.out; omega⟩, HB, ⟨fun j hj => ?_⟩⟩
              rcases Nat.lt_succ_iff_lt_or_eq.1 hj with hj | rfl
              · exact HA.out j hj
              · exact ⟨h1, hv, fun h => by first | exact absurd h h0 | (rw [← (HPV2.out h).2]; exact h4)⟩
        · refine one_ (i := 13) (N := some 23) (bA_spec 34 16383) rfl rfl (by kernel_rfl) (by decide) (fun K hK => ?_)
          refine goesT Tryd.func49 #[.agg #[.int .i64 (rd_T66 l0 (kk : Int)).f1.f0, .int .i64 (rd_T66 l0 (kk : Int)).f1.f1, .int .i64 (rd_T66 l0 (kk : Int)).f1.f2, .int .i64 (rd_T66 l0 (kk : Int)).f1.f3, .int .i64 (rd_T66 l0 (kk : Int)).f1.f4, .int .i64 (rd_T66 l0 (kk : Int)).f1.f5]] ?_
          refine (spec_IsValidOp.calls (rd_T66 l0 (kk : Int)).f1.f0 (rd_T66 l0 (kk : Int)).f1.f1 (rd_T66 l0 (kk : Int)).f1.f2 (rd_T66 l0 (kk : Int)).f1.f3 (rd_T66 l0 (kk : Int)).f1.f4 (rd_T66 l0 (kk : Int)).f1.f5 false _ hv).mono ?_
          rintro e w' ⟨rfl, hb⟩
          refine ⟨_, rfl, ?_⟩
          have HB1 := Aside0.mk (below_step HB.out hb)
          clear HB
          have HB := HB1
          clear HB1
          obtain ⟨s0, s1, s2, s3, s4, s5, s6, s7⟩ := hHeld
          refine hK.out _ _ ⟨vP hb s0, vP hb s1, vP hb s2, vP hb s3, vP hb s4, vP hb s5, vP hb s6, fun h0 => vP hb (s7 h0)⟩ (fun hHeld => ?_)
          clear hK K hb s0 s1 s2 s3 s4 s5 s6 s7
          refine norm_ (a' := ?_) ?_ ?_
          rotate_left
          · show Act.put _ (some 23) _ = _; simp only [Act.put, vZ, yA, yB, vM, vO]; rfl
          refine uU 14 (some 24) (bA_spec 34 32767) ?_
          refine uU 15 (some 25) (bA_spec 34 65535) ?_
          refine uU 16 (some 26) (bA_spec 34 131071) ?_
          refine uP 17 (some 27) (bA_spec 34 262143) ?_
          refine uP 18 (some 28) (bA_spec 34 524287) ?_
          refine uP 19 (some 29) (bA_spec 34 1048575) ?_
          refine uP 20 (some 30) (bA_spec 34 2097151) ?_
          refine uP 21 (some 31) (bA_spec 34 4194303) ?_
          refine uP 22 (some 32) (bA_spec 34 8388607) ?_
          refine uP 23 (some 33) (bA_spec 34 16777215) ?_
          refine uP 24 (some 34) (bA_spec 34 33554431) ?_
          refine uP 25 (some 35) (bA_spec 34 67108863) ?_
          refine uP 26 (some 36) (bA_spec 34 134217727) ?_
          refine uP 27 (some 37) (bA_spec 34 268435455) ?_
          refine uP 28 (some 38) (bA_spec 34 536870911) ?_
          refine uP 29 (some 39) (bA_spec 34 1073741823) ?_
          refine uP 30 (some 40) (bA_spec 34 2147483647) ?_
          refine uP 31 (some 41) (bA_spec 34 4294967295) ?_
          refine uP 32 (some 42) (bA_spec 34 8589934591) ?_
          refine uU 33 (some 43) (bA_spec 34 17179869183) ?_
          refine done_ (by kernel_rfl) ?_
          go_wp2
          go_ret
          exact ⟨by rw [HNO.out (spec_IsValidOp.f (rd_T66 l0 (kk : Int)).f1.f0 (rd_T66 l0 (kk : Int)).f1.f1 (rd_T66 l0 (kk : Int)).f1.f2 (rd_T66 l0 (kk : Int)).f1.f3 (rd_T66 l0 (kk : Int)).f1.f4 (rd_T66 l0 (kk : Int)).f1.f5 = some true) (fun h => h.2.1) (by rw [hv]; simp)]; rfl, by first | exact HB.out | (rw [← World.drewN_drewN]; exact HB.out)⟩
      · refine one_ (i := 5) (N := some 15) (bA_spec 34 63) rfl rfl (by kernel_rfl) (by decide) (fun K hK => ?_)
        refine goesT Tryd.func48 #[.int .i64 (rd_T66 l0 (kk : Int)).f0, .int .i64 1, .int .i64 20] ?_
        refine (spec_l1In.no_ h1 _).mono ?_
        rintro e w' ⟨rfl, ⟨nd5, rfl⟩⟩
        refine ⟨_, rfl, ?_⟩
        have HB1 := Aside0.mk (vX HB.out nd5)
        clear HB
        have HB := HB1
        clear HB1
        refine hK.out _ _ hHeld (fun hHeld => ?_)
        clear hK K
        refine norm_ (a' := ?_) ?_ ?_
        rotate_left
        · show Act.put _ (some 15) _ = _; simp only [Act.put, vZ, yA, yB, vM, vO]; rfl
        refine uU 6 (some 16) (bA_spec 34 127) ?_
        refine uU 7 (some 17) (bA_spec 34 255) ?_
        refine uP 8 (some 18) (bA_spec 34 511) ?_
        refine uP 9 (some 19) (bA_spec 34 1023) ?_
        refine uP 10 (some 20) (bA_spec 34 2047) ?_
        refine uP 11 (some 21) (bA_spec 34 4095) ?_
        refine uP 12 (some 22) (bA_spec 34 8191) ?_
        refine uP 13 (some 23) (bA_spec 34 16383) ?_
        refine uP 14 (some 24) (bA_spec 34 32767) ?_
        refine uU 15 (some 25) (bA_spec 34 65535) ?_
        refine uU 16 (some 26) (bA_spec 34 131071) ?_
        refine uP 17 (some 27) (bA_spec 34 262143) ?_
        refine uP 18 (some 28) (bA_spec 34 524287) ?_
        refine uP 19 (some 29) (bA_spec 34 1048575) ?_
        refine uP 20 (some 30) (bA_spec 34 2097151) ?_
        refine uP 21 (some 31) (bA_spec 34 4194303) ?_
        refine uP 22 (some 32) (bA_spec 34 8388607) ?_
        refine uP 23 (some 33) (bA_spec 34 16777215) ?_
        refine uP 24 (some 34) (bA_spec 34 33554431) ?_
        refine uP 25 (some 35) (bA_spec 34 67108863) ?_
        refine uP 26 (some 36) (bA_spec 34 134217727) ?_
        refine uP 27 (some 37) (bA_spec 34 268435455) ?_
        refine uP 28 (some 38) (bA_spec 34 536870911) ?_
        refine uP 29 (some 39) (bA_spec 34 1073741823) ?_
        refine uP 30 (some 40) (bA_spec 34 2147483647) ?_
        refine uP 31 (some 41) (bA_spec 34 4294967295) ?_
        refine uP 32 (some 42) (bA_spec 34 8589934591) ?_
        refine uU 33 (some 43) (bA_spec 34 17179869183) ?_
        refine done_ (by kernel_rfl) ?_
        go_wp2
        go_ret
        exact ⟨by rw [HNO.out (1 ≤ (rd_T66 l0 (kk : Int)).f0 ∧ (rd_T66 l0 (kk : Int)).f0 ≤ 20) (fun h => h.1) h1]; rfl, by first | exact HB.out | (rw [← World.drewN_drewN]; exact HB.out)⟩
    · have hltb := eq_false hlt
      have hall : ∀ j, j < l0.length → okE_spec l0 j := fun j hj => HA.out j (by have := HK.out; omega)
      have HALL := Aside0.mk hall
      clear hall HA
      go_wp2
      go_ret
      have hfin : decide ((l0.length : Int) ≤ 16) = V := by
        rw [← HV.out, Bool.eq_iff_iff, decide_eq_true_eq, decide_eq_true_eq]
        exact ⟨fun h => ⟨by omega, HALL.out⟩, fun h => by have := h.1; omega⟩
      exact ⟨by first | (rw [← hfin]; rfl) | (rw [hfin]; rfl), HB.out⟩


end Go.Proofs.YtcikahnmiiichaaDoor.K
