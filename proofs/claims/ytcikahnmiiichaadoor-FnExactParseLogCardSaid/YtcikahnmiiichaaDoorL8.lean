/- Go functions as Lean functions, and the proof that the code comes to them: written by a program of this session out of the translation. -/
import Derived.Test.YtcikahnmiiichaaDoorL0
import Derived.Test.YtcikahnmiiichaaDoorL7
namespace Go.Proofs.YtcikahnmiiichaaDoor.L
open List renaming setIfInBounds_toArray → vD, set_cons_zero → vE, set_cons_succ → vF
open Go.World renaming block_lt_of_cell? → vJ
open Go.Proofs.YtcikahnmiiichaaDoor.Given
open Go.RowKit Go.Proofs.YtcikahnmiiichaaDoorW.PrintWords Go.Proofs.YtcikahnmiiichaaDoorW.PrintLast Go.Proofs.YtcikahnmiiichaaDoorW.PrintMore
attribute [local go_sem] max2_int min2_int max_two min_two max_three min_three max_four min_four   -- for this text's walks alone
set_option linter.unusedVariables false
set_option linter.unusedSimpArgs false

/-! ### impl_IsLog: function 43 -/
def bA_impl (n m : Nat) : Array Bool := ((List.range n).map fun i => m.testBit i).toArray
theorem impl_within.yes_ {a b c : Int} (h : b ≤ a ∧ a ≤ c) (w : World) : Calls Tryd.prog 55 #[.int .i64 a, .int .i64 b, .int .i64 c] w fun e w' => e = .returned (.bool true) ∧ Drawn0 w w' := impl_within.calls a b c true w (by unfold impl_within.f; first | (rw [if_pos (show a ≥ b from h.1), decide_eq_true h.2]) | simp [h.1, h.2])
theorem impl_within.no_ {a b c : Int} (h : ¬ (b ≤ a ∧ a ≤ c)) (w : World) : Calls Tryd.prog 55 #[.int .i64 a, .int .i64 b, .int .i64 c] w fun e w' => e = .returned (.bool false) ∧ Drawn0 w w' := impl_within.calls a b c false w (by
  unfold impl_within.f
  by_cases h1 : a ≥ b
  · first | (rw [if_pos h1, decide_eq_false (fun h2 => h ⟨h1, h2⟩)]) | (have h2 : ¬ a ≤ c := fun h2 => h ⟨h1, h2⟩; simp [h1, h2])
  · simp [h1])
def okE_impl (xs : List S66) (j : Nat) : Prop := (1 ≤ (rd_T66 xs (j : Int)).f0 ∧ (rd_T66 xs (j : Int)).f0 ≤ 20) ∧ impl_IsValidOp.f (rd_T66 xs (j : Int)).f1.f0 (rd_T66 xs (j : Int)).f1.f1 (rd_T66 xs (j : Int)).f1.f2 (rd_T66 xs (j : Int)).f1.f3 (rd_T66 xs (j : Int)).f1.f4 (rd_T66 xs (j : Int)).f1.f5 = some true ∧ (0 < j → (rd_T66 xs ((j : Int) - 1)).f0 ≤ (rd_T66 xs (j : Int)).f0)
instance okE_impl_dec (xs : List S66) (j : Nat) : Decidable (okE_impl xs j) := inferInstanceAs (Decidable (_ ∧ _ ∧ (_ → _)))
def vL_impl (xs : List S66) : Prop := xs.length ≤ 16 ∧ ∀ j, j < xs.length → okE_impl xs j
instance vL_impl_dec (xs : List S66) : Decidable (vL_impl xs) := inferInstanceAs (Decidable (_ ∧ ∀ j, j < _ → _))
theorem impl_bindT {A B : Type} {o : Option A} {g : A → Option B} (ho : ∃ b, o = some b) (hg : ∀ b, ∃ r, g b = some r) : ∃ r, o.bind g = some r := by
  obtain ⟨b, rfl⟩ := ho
  exact hg b
theorem impl_iteT {B : Type} {p : Prop} [Decidable p] {a b : Option B} (ha : ∃ r, a = some r) (hb : ∃ r, b = some r) : ∃ r, (if p then a else b) = some r := by
  split <;> assumption
theorem impl_IsValidOp.tot (a b c d e f : Int) : ∃ r, impl_IsValidOp.f a b c d e f = some r := by
  unfold impl_IsValidOp.f impl_within.f
  repeat' (first | exact ⟨_, rfl⟩ | refine impl_iteT ?_ ?_ | refine impl_bindT ?_ (fun _ => ?_))
def impl_IsLog.f (k : Nat) (l0 : List S66) : Option Bool := some (decide (vL_impl l0))
theorem impl_IsLog.mono : ∀ a0 k, uE (impl_IsLog.f k a0) (impl_IsLog.f (k + 1) a0) := fun _ _ => uE.refl _
set_option maxHeartbeats 8000000 in
set_option maxRecDepth 100000 in
theorem impl_IsLog.calls (k : Nat) (A0 : Option Addr) (c0 : Nat) (l0 : List (S66)) (r : Bool) (w : World) (hr0 : Kd.C k66 w A0 l0.length l0) (hc0 : l0.length ≤ c0) (h : impl_IsLog.f k l0 = some r) :
    Calls Tryd.prog 43 #[.slice A0 l0.length c0] w fun e w' => e = .returned (.bool r) ∧ Below w.heap.size w w' := by
  obtain rfl := Option.some.inj h
  clear h
  have HR0 := Aside0.mk hr0
  have HL1 := Aside0.mk hr0.2.1
  have HC0 := Aside0.mk hc0
  clear hr0 hc0
  generalize hV : decide (vL_impl l0) = V
  have HV := Aside0.mk hV
  clear hV
  have HB := Aside0.mk (Below.refl w.heap.size w)
  go_enter Tryd.func43, Tryd.ntmps43
  go_wp2
  go_loopg [7] l0.length (fun gg s wr => ∃ kk : Nat, s = .int .i64 kk ∧ Aside0 (kk ≤ l0.length ∧ l0.length - kk ≤ gg) ∧ Aside0 (Below w.heap.size w wr) ∧ Aside0 (∀ j, j < kk → okE_impl l0 j))
  case atStart => exact ⟨0, rfl, ⟨by omega, by omega⟩, HB, ⟨fun j hj => by omega⟩⟩
  case round =>
    clear HB
    obtain ⟨kk, rfl, HK, HB, HA⟩ := hrel
    have hkz : (0 : Int) ≤ (kk : Int) := by omega
    by_cases hlt : (kk : Int) < (l0.length : Int)
    · obtain ⟨ad2, e2, hx_0, hx_1, hx_2, hx_3, hx_4, hx_5, hx_6⟩ := at_T66 HR0.out (kk : Int) hkz hlt
      subst e2
      simp only [Int.toNat_natCast] at hx_0 hx_1 hx_2 hx_3 hx_4 hx_5 hx_6
      replace hx_0 := (HB.out.cell (vJ w _ hx_0)).trans hx_0
      replace hx_1 := (HB.out.cell (vJ w _ hx_1)).trans hx_1
      replace hx_2 := (HB.out.cell (vJ w _ hx_2)).trans hx_2
      replace hx_3 := (HB.out.cell (vJ w _ hx_3)).trans hx_3
      replace hx_4 := (HB.out.cell (vJ w _ hx_4)).trans hx_4
      replace hx_5 := (HB.out.cell (vJ w _ hx_5)).trans hx_5
      replace hx_6 := (HB.out.cell (vJ w _ hx_6)).trans hx_6
      have hltb := eq_true hlt
      have hkzb := eq_true hkz
      have hnot : ∀ (p : Prop), (okE_impl l0 kk → p) → ¬ p → V = false := fun p h hp => by rw [← HV.out]; exact decide_eq_false (fun h2 => hp (h (h2.2 kk (by omega))))
      have HNO := Aside0.mk hnot
      clear hnot
      have e1 : wrap64 ((kk : Int) - 1) = (kk : Int) - 1 := by have := HL1.out; unfold wrap64; omega
      have e1b := uI ((kk : Int) - 1)
      rw [e1] at e1b
      go_wp2_with (first
        | ((with_reducible refine gate_dst (N := 4) rfl ?_); refine box_event ?hg (N := 4) ?hd (cs := #[.int .i64 0, .int .i64 0, .int .i64 0, .int .i64 0, .int .i64 0, .int .i64 0, .int .i64 0]) (t := 66) ?hr ?_; (case hd => rfl); (case hg => rfl); (case hr => first | (go_simp; done) | (go_simp; rfl)); intro gS hg wS hbox hb; have BS := Aside0.mk hbox; have HB1 := Aside0.mk (below_step HB.out hb); have GS := Aside0.mk (show w.heap.size ≤ gS by rw [hg]; exact HB.out.size); clear hbox hb hg HB hx_0 hx_1 hx_2 hx_3 hx_4 hx_5 hx_6; have HB := HB1; clear HB1; have hcS_0 : wS.cell? ⟨gS, 0, none⟩ = some (.int .i64 0) := (uA BS.out 0).trans rfl; have hfS_0 := vC BS.out 0; have hcS_1 : wS.cell? ⟨gS, 1, none⟩ = some (.int .i64 0) := (uA BS.out 1).trans rfl; have hfS_1 := vC BS.out 1; have hcS_2 : wS.cell? ⟨gS, 2, none⟩ = some (.int .i64 0) := (uA BS.out 2).trans rfl; have hfS_2 := vC BS.out 2; have hcS_3 : wS.cell? ⟨gS, 3, none⟩ = some (.int .i64 0) := (uA BS.out 3).trans rfl; have hfS_3 := vC BS.out 3; have hcS_4 : wS.cell? ⟨gS, 4, none⟩ = some (.int .i64 0) := (uA BS.out 4).trans rfl; have hfS_4 := vC BS.out 4; have hcS_5 : wS.cell? ⟨gS, 5, none⟩ = some (.int .i64 0) := (uA BS.out 5).trans rfl; have hfS_5 := vC BS.out 5; have hcS_6 : wS.cell? ⟨gS, 6, none⟩ = some (.int .i64 0) := (uA BS.out 6).trans rfl; have hfS_6 := vC BS.out 6)
        | ((with_reducible refine gate_store (t := 66) (p := 4) rfl ?_); refine store_event (t := 66) (p := 4) (v := ?vo_1) (w1 := (((((((wS.setCell ⟨gS, 0, none⟩ (.int .i64 (rd_T66 l0 (kk : Int)).f0)).setCell ⟨gS, 1, none⟩ (.int .i64 (rd_T66 l0 (kk : Int)).f1.f0)).setCell ⟨gS, 2, none⟩ (.int .i64 (rd_T66 l0 (kk : Int)).f1.f1)).setCell ⟨gS, 3, none⟩ (.int .i64 (rd_T66 l0 (kk : Int)).f1.f2)).setCell ⟨gS, 4, none⟩ (.int .i64 (rd_T66 l0 (kk : Int)).f1.f3)).setCell ⟨gS, 5, none⟩ (.int .i64 (rd_T66 l0 (kk : Int)).f1.f4)).setCell ⟨gS, 6, none⟩ (.int .i64 (rd_T66 l0 (kk : Int)).f1.f5))) ?hg ?ho ?hn ?hr ?_; (case ho => rfl); (case hg => rfl); (case hn => rfl); (case hr => first | (go_simp; done) | (go_simp; rfl)); intro wG hw_; clear hcS_0 hfS_0 hcS_1 hfS_1 hcS_2 hfS_2 hcS_3 hfS_3 hcS_4 hfS_4 hcS_5 hfS_5 hcS_6 hfS_6; have BS1 := Aside0.mk (show wG.heap[gS]? = some (.cells #[.int .i64 (rd_T66 l0 (kk : Int)).f0, .int .i64 (rd_T66 l0 (kk : Int)).f1.f0, .int .i64 (rd_T66 l0 (kk : Int)).f1.f1, .int .i64 (rd_T66 l0 (kk : Int)).f1.f2, .int .i64 (rd_T66 l0 (kk : Int)).f1.f3, .int .i64 (rd_T66 l0 (kk : Int)).f1.f4, .int .i64 (rd_T66 l0 (kk : Int)).f1.f5] 66 (0, 0)) from hw_ ▸ (uP (uP (uP (uP (uP (uP (uP BS.out 0 _ rfl) 1 _ rfl) 2 _ rfl) 3 _ rfl) 4 _ rfl) 5 _ rfl) 6 _ rfl)); have HB1 := Aside0.mk (show Below w.heap.size w wG from hw_ ▸ (below_set (below_set (below_set (below_set (below_set (below_set (below_set HB.out GS.out) GS.out) GS.out) GS.out) GS.out) GS.out) GS.out)); clear hw_ BS HB; have BS := BS1; have HB := HB1; clear BS1 HB1))
      obtain ⟨pv, HPV2⟩ : ∃ pv : Int, Aside0 (0 < kk → wG.cell? (ad2.add ((kk - 1) * 7)) = some (.int .i64 pv) ∧ pv = (rd_T66 l0 ((kk : Int) - 1)).f0) := by
        by_cases h0 : 0 < kk
        · obtain ⟨ad3, e3, hy, _⟩ := at_T66 HR0.out ((kk : Int) - 1) (by omega) (by omega)
          cases e3
          rw [show ((kk : Int) - 1).toNat = kk - 1 by omega] at hy
          exact ⟨_, ⟨fun _ => ⟨(HB.out.cell (vJ w _ hy)).trans hy, rfl⟩⟩⟩
        · exact ⟨0, ⟨fun h => absurd h h0⟩⟩
      refine start_ (n := 25) (S := fun w' => w'.cell? ⟨gS, 0, none⟩ = some (.int .i64 (rd_T66 l0 (kk : Int)).f0) ∧ w'.cell? ⟨gS, 1, none⟩ = some (.int .i64 (rd_T66 l0 (kk : Int)).f1.f0) ∧ w'.cell? ⟨gS, 2, none⟩ = some (.int .i64 (rd_T66 l0 (kk : Int)).f1.f1) ∧ w'.cell? ⟨gS, 3, none⟩ = some (.int .i64 (rd_T66 l0 (kk : Int)).f1.f2) ∧ w'.cell? ⟨gS, 4, none⟩ = some (.int .i64 (rd_T66 l0 (kk : Int)).f1.f3) ∧ w'.cell? ⟨gS, 5, none⟩ = some (.int .i64 (rd_T66 l0 (kk : Int)).f1.f4) ∧ w'.cell? ⟨gS, 6, none⟩ = some (.int .i64 (rd_T66 l0 (kk : Int)).f1.f5) ∧ (0 < kk → w'.cell? (ad2.add ((kk - 1) * 7)) = some (.int .i64 pv))) (ds := []) (bA_impl 25 0) (by kernel_rfl) rfl rfl ⟨(uA BS.out 0).trans rfl, (uA BS.out 1).trans rfl, (uA BS.out 2).trans rfl, (uA BS.out 3).trans rfl, (uA BS.out 4).trans rfl, (uA BS.out 5).trans rfl, (uA BS.out 6).trans rfl, fun h => (HPV2.out h).1⟩ (fun hHeld => ?_)
      have HB1 := Aside0.mk (vB HB.out)
      clear HB
      have HB := HB1
      clear HB1
      refine uH (i := 0) (N := some 12) (v := ?_) (a' := ?_) (bA_impl 25 1) rfl rfl (by kernel_rfl) (fun _ _ _ h => h) (Or.inl ⟨by rfl, ?_⟩) ?_ ?_
      rotate_left
      · intro w'; go_simp; with_reducible rfl
      rotate_left
      · simp only [Act.put, vD, vE, vF, uI, uO]; rfl
      refine take_ (i := 1) (N := some 13) (v := ?_) (a' := ?_) (bA_impl 25 3) rfl rfl (by kernel_rfl) (fun _ _ _ h => h) (Or.inl ⟨by rfl, ?_⟩) hHeld ?_ ?_
      rotate_left
      · rintro w' ⟨s0, s1, s2, s3, s4, s5, s6, s7⟩; clear s7; go_simp; with_reducible rfl
      rotate_left
      · simp only [Act.put, vD, vE, vF, uI, uO]; rfl
      by_cases h1 : 1 ≤ (rd_T66 l0 (kk : Int)).f0 ∧ (rd_T66 l0 (kk : Int)).f0 ≤ 20
      · refine one_ (i := 2) (N := some 14) (bA_impl 25 7) rfl rfl (by kernel_rfl) (by decide) (fun K hK => ?_)
        refine goes_ Tryd.func55 (by kernel_rfl) rfl #[.int .i64 (rd_T66 l0 (kk : Int)).f0, .int .i64 1, .int .i64 20] (by rfl) rfl rfl (by (try simp only [List.map_toArray, List.map_cons, List.map_nil]); first | done | rfl) ?_
        refine (impl_within.yes_ h1 _).mono ?_
        rintro e w' ⟨rfl, ⟨nd2, rfl⟩⟩
        refine ⟨_, rfl, ?_⟩
        have HB1 := Aside0.mk (pw_below_drewN HB.out nd2)
        clear HB
        have HB := HB1
        clear HB1
        refine hK.out _ _ hHeld (fun hHeld => ?_)
        clear hK K
        refine uZ (a' := ?_) ?_ ?_
        rotate_left
        · show Act.put _ (some 14) _ = _; simp only [Act.put, vD, vE, vF, uI, uO]; rfl
        refine uH (i := 3) (N := some 15) (v := ?_) (a' := ?_) (bA_impl 25 15) rfl rfl (by kernel_rfl) (fun _ _ _ h => h) (Or.inl ⟨by rfl, ?_⟩) ?_ ?_
        rotate_left
        · intro w'; go_simp; with_reducible rfl
        rotate_left
        · simp only [Act.put, vD, vE, vF, uI, uO]; rfl
        refine uH (i := 4) (N := some 16) (v := ?_) (a' := ?_) (bA_impl 25 31) rfl rfl (by kernel_rfl) (fun _ _ _ h => h) (Or.inl ⟨by rfl, ?_⟩) ?_ ?_
        rotate_left
        · intro w'; go_simp; with_reducible rfl
        rotate_left
        · simp only [Act.put, vD, vE, vF, uI, uO]; rfl
        refine uH (i := 5) (N := some 17) (v := ?_) (a' := ?_) (bA_impl 25 63) rfl rfl (by kernel_rfl) (fun _ _ _ h => h) (Or.inl ⟨by rfl, ?_⟩) ?_ ?_
        rotate_left
        · intro w'; go_simp; with_reducible rfl
        rotate_left
        · simp only [Act.put, vD, vE, vF, uI, uO]; rfl
        by_cases h0 : 0 < kk
        · have hp0 := eq_true (show (kk : Int) > 0 by omega)
          have hp3 := eq_true (show (0 : Int) < (kk : Int) by omega)
          have hp1 := eq_true (show (0 : Int) ≤ (kk : Int) - 1 by omega)
          have hp5 := eq_true (show (1 : Int) ≤ (kk : Int) by omega)
          have hp2 := eq_true (show (kk : Int) - 1 < (l0.length : Int) by omega)
          refine uH (i := 6) (N := some 18) (v := ?_) (a' := ?_) (bA_impl 25 127) rfl rfl (by kernel_rfl) (fun _ _ _ h => h) (Or.inl ⟨by rfl, ?_⟩) ?_ ?_
          rotate_left
          · intro w'; go_simp; with_reducible rfl
          rotate_left
          · simp only [Act.put, vD, vE, vF, uI, uO]; rfl
          refine uH (i := 7) (N := some 19) (v := ?_) (a' := ?_) (bA_impl 25 255) rfl rfl (by kernel_rfl) (fun _ _ _ h => h) (Or.inl ⟨by rfl, ?_⟩) ?_ ?_
          rotate_left
          · intro w'; go_simp; with_reducible rfl
          rotate_left
          · simp only [Act.put, vD, vE, vF, uI, uO]; rfl
          refine uH (i := 8) (N := some 20) (v := ?_) (a' := ?_) (bA_impl 25 511) rfl rfl (by kernel_rfl) (fun _ _ _ h => h) (Or.inl ⟨by rfl, ?_⟩) ?_ ?_
          rotate_left
          · intro w'; go_simp; with_reducible rfl
          rotate_left
          · simp only [Act.put, vD, vE, vF, uI, uO]; rfl
          refine take_ (i := 9) (N := some 21) (v := ?_) (a' := ?_) (bA_impl 25 1023) rfl rfl (by kernel_rfl) (fun _ _ _ h => h) (Or.inl ⟨by rfl, ?_⟩) hHeld ?_ ?_
          rotate_left
          · rintro w' ⟨s0, s1, s2, s3, s4, s5, s6, s7⟩; clear s7; go_simp; with_reducible rfl
          rotate_left
          · simp only [Act.put, vD, vE, vF, uI, uO]; rfl
          refine uH (i := 10) (N := some 22) (v := ?_) (a' := ?_) (bA_impl 25 2047) rfl rfl (by kernel_rfl) (fun _ _ _ h => h) (Or.inl ⟨by rfl, ?_⟩) ?_ ?_
          rotate_left
          · intro w'; go_simp; with_reducible rfl
          rotate_left
          · simp only [Act.put, vD, vE, vF, uI, uO]; rfl
          refine uH (i := 11) (N := some 23) (v := ?_) (a' := ?_) (bA_impl 25 4095) rfl rfl (by kernel_rfl) (fun _ _ _ h => h) (Or.inl ⟨by rfl, ?_⟩) ?_ ?_
          rotate_left
          · intro w'; go_simp; with_reducible rfl
          rotate_left
          · simp only [Act.put, vD, vE, vF, uI, uO]; rfl
          refine uH (i := 12) (N := some 24) (v := ?_) (a' := ?_) (bA_impl 25 8191) rfl rfl (by kernel_rfl) (fun _ _ _ h => h) (Or.inl ⟨by rfl, ?_⟩) ?_ ?_
          rotate_left
          · intro w'; go_simp; with_reducible rfl
          rotate_left
          · simp only [Act.put, vD, vE, vF, uI, uO]; rfl
          refine uH (i := 13) (N := some 25) (v := ?_) (a' := ?_) (bA_impl 25 16383) rfl rfl (by kernel_rfl) (fun _ _ _ h => h) (Or.inl ⟨by rfl, ?_⟩) ?_ ?_
          rotate_left
          · intro w'; go_simp; with_reducible rfl
          rotate_left
          · simp only [Act.put, vD, vE, vF, uI, uO]; rfl
          refine uH (i := 14) (N := some 26) (v := ?_) (a' := ?_) (bA_impl 25 32767) rfl rfl (by kernel_rfl) (fun _ _ _ h => h) (Or.inl ⟨by rfl, ?_⟩) ?_ ?_
          rotate_left
          · intro w'; go_simp; with_reducible rfl
          rotate_left
          · simp only [Act.put, vD, vE, vF, uI, uO]; rfl
          refine take_ (i := 15) (N := some 27) (v := ?_) (a' := ?_) (bA_impl 25 65535) rfl rfl (by kernel_rfl) (fun _ _ _ h => h) (Or.inl ⟨by rfl, ?_⟩) hHeld ?_ ?_
          rotate_left
          · rintro w' ⟨s0, s1, s2, s3, s4, s5, s6, s7⟩; replace s7 := s7 h0; go_simp; with_reducible rfl
          rotate_left
          · simp only [Act.put, vD, vE, vF, uI, uO]; rfl
          by_cases h4 : pv ≤ (rd_T66 l0 (kk : Int)).f0
          · have h4e := eq_false (show ¬ ((rd_T66 l0 (kk : Int)).f0 < pv) by omega)
            have h4d := decide_eq_false (show ¬ ((rd_T66 l0 (kk : Int)).f0 < pv) by omega)
            refine uH (i := 16) (N := some 28) (v := ?_) (a' := ?_) (bA_impl 25 131071) rfl rfl (by kernel_rfl) (fun _ _ _ h => h) (Or.inl ⟨by rfl, ?_⟩) ?_ ?_
            rotate_left
            · intro w'; go_simp; with_reducible rfl
            rotate_left
            · simp only [Act.put, vD, vE, vF, uI, uO]; rfl
            refine uH (i := 17) (N := some 29) (v := ?_) (a' := ?_) (bA_impl 25 262143) rfl rfl (by kernel_rfl) (fun _ _ _ h => h) (Or.inl ⟨by rfl, ?_⟩) ?_ ?_
            rotate_left
            · intro w'; go_simp; with_reducible rfl
            rotate_left
            · simp only [Act.put, vD, vE, vF, uI, uO]; rfl
            refine uH (i := 18) (N := some 30) (v := ?_) (a' := ?_) (bA_impl 25 524287) rfl rfl (by kernel_rfl) (fun _ _ _ h => h) (Or.inl ⟨by rfl, ?_⟩) ?_ ?_
            rotate_left
            · intro w'; go_simp; with_reducible rfl
            rotate_left
            · simp only [Act.put, vD, vE, vF, uI, uO]; rfl
            refine uH (i := 19) (N := some 31) (v := ?_) (a' := ?_) (bA_impl 25 1048575) rfl rfl (by kernel_rfl) (fun _ _ _ h => h) (Or.inl ⟨by rfl, ?_⟩) ?_ ?_
            rotate_left
            · intro w'; go_simp; with_reducible rfl
            rotate_left
            · simp only [Act.put, vD, vE, vF, uI, uO]; rfl
            refine uH (i := 20) (N := some 32) (v := ?_) (a' := ?_) (bA_impl 25 2097151) rfl rfl (by kernel_rfl) (fun _ _ _ h => h) (Or.inl ⟨by rfl, ?_⟩) ?_ ?_
            rotate_left
            · intro w'; go_simp; with_reducible rfl
            rotate_left
            · simp only [Act.put, vD, vE, vF, uI, uO]; rfl
            refine take_ (i := 21) (N := some 33) (v := ?_) (a' := ?_) (bA_impl 25 4194303) rfl rfl (by kernel_rfl) (fun _ _ _ h => h) (Or.inl ⟨by rfl, ?_⟩) hHeld ?_ ?_
            rotate_left
            · rintro w' ⟨s0, s1, s2, s3, s4, s5, s6, s7⟩; clear s7; go_simp; with_reducible rfl
            rotate_left
            · simp only [Act.put, vD, vE, vF, uI, uO]; rfl
            obtain ⟨vb, hv⟩ := impl_IsValidOp.tot (rd_T66 l0 (kk : Int)).f1.f0 (rd_T66 l0 (kk : Int)).f1.f1 (rd_T66 l0 (kk : Int)).f1.f2 (rd_T66 l0 (kk : Int)).f1.f3 (rd_T66 l0 (kk : Int)).f1.f4 (rd_T66 l0 (kk : Int)).f1.f5
            rcases Bool.eq_false_or_eq_true vb with rfl | rfl
            · refine one_ (i := 22) (N := some 34) (bA_impl 25 8388607) rfl rfl (by kernel_rfl) (by decide) (fun K hK => ?_)
              refine goes_ Tryd.func86 (by kernel_rfl) rfl #[.agg #[.int .i64 (rd_T66 l0 (kk : Int)).f1.f0, .int .i64 (rd_T66 l0 (kk : Int)).f1.f1, .int .i64 (rd_T66 l0 (kk : Int)).f1.f2, .int .i64 (rd_T66 l0 (kk : Int)).f1.f3, .int .i64 (rd_T66 l0 (kk : Int)).f1.f4, .int .i64 (rd_T66 l0 (kk : Int)).f1.f5]] (by rfl) rfl rfl (by (try simp only [List.map_toArray, List.map_cons, List.map_nil]); first | done | rfl) ?_
              refine (impl_IsValidOp.calls (rd_T66 l0 (kk : Int)).f1.f0 (rd_T66 l0 (kk : Int)).f1.f1 (rd_T66 l0 (kk : Int)).f1.f2 (rd_T66 l0 (kk : Int)).f1.f3 (rd_T66 l0 (kk : Int)).f1.f4 (rd_T66 l0 (kk : Int)).f1.f5 true _ hv).mono ?_
              rintro e w' ⟨rfl, hb⟩
              refine ⟨_, rfl, ?_⟩
              have HB1 := Aside0.mk (below_step HB.out hb)
              clear HB
              have HB := HB1
              clear HB1
              obtain ⟨s0, s1, s2, s3, s4, s5, s6, s7⟩ := hHeld
              refine hK.out _ _ ⟨uN hb s0, uN hb s1, uN hb s2, uN hb s3, uN hb s4, uN hb s5, uN hb s6, fun h0 => uN hb (s7 h0)⟩ (fun hHeld => ?_)
              clear hK K hb s0 s1 s2 s3 s4 s5 s6 s7
              refine uZ (a' := ?_) ?_ ?_
              rotate_left
              · show Act.put _ (some 34) _ = _; simp only [Act.put, vD, vE, vF, uI, uO]; rfl
              refine uH (i := 23) (N := some 35) (v := ?_) (a' := ?_) (bA_impl 25 16777215) rfl rfl (by kernel_rfl) (fun _ _ _ h => h) (Or.inl ⟨by rfl, ?_⟩) ?_ ?_
              rotate_left
              · intro w'; go_simp; with_reducible rfl
              rotate_left
              · simp only [Act.put, vD, vE, vF, uI, uO]; rfl
              refine uH (i := 24) (N := some 36) (v := ?_) (a' := ?_) (bA_impl 25 33554431) rfl rfl (by kernel_rfl) (fun _ _ _ h => h) (Or.inl ⟨by rfl, ?_⟩) ?_ ?_
              rotate_left
              · intro w'; go_simp; with_reducible rfl
              rotate_left
              · simp only [Act.put, vD, vE, vF, uI, uO]; rfl
              refine done_ (by kernel_rfl) ?_
              go_wp2
              go_roundg (l0.length - (kk + 1))
              case measure => have := HK.out; omega
              case rel =>
                refine ⟨kk + 1, by first | (rw [show wrap64 ((kk : Int) + 1) = ((kk + 1 : Nat) : Int) by have := HL1.out; unfold wrap64; omega]) | rfl, ⟨by have := HK.out; omega, by have := HK.out; omega⟩, HB, ⟨fun j hj => ?_⟩⟩
                rcases Nat.lt_succ_iff_lt_or_eq.1 hj with hj | rfl
                · exact HA.out j hj
                · exact ⟨h1, hv, fun h => by first | exact absurd h h0 | (rw [← (HPV2.out h).2]; exact h4)⟩
            · refine one_ (i := 22) (N := some 34) (bA_impl 25 8388607) rfl rfl (by kernel_rfl) (by decide) (fun K hK => ?_)
              refine goes_ Tryd.func86 (by kernel_rfl) rfl #[.agg #[.int .i64 (rd_T66 l0 (kk : Int)).f1.f0, .int .i64 (rd_T66 l0 (kk : Int)).f1.f1, .int .i64 (rd_T66 l0 (kk : Int)).f1.f2, .int .i64 (rd_T66 l0 (kk : Int)).f1.f3, .int .i64 (rd_T66 l0 (kk : Int)).f1.f4, .int .i64 (rd_T66 l0 (kk : Int)).f1.f5]] (by rfl) rfl rfl (by (try simp only [List.map_toArray, List.map_cons, List.map_nil]); first | done | rfl) ?_
              refine (impl_IsValidOp.calls (rd_T66 l0 (kk : Int)).f1.f0 (rd_T66 l0 (kk : Int)).f1.f1 (rd_T66 l0 (kk : Int)).f1.f2 (rd_T66 l0 (kk : Int)).f1.f3 (rd_T66 l0 (kk : Int)).f1.f4 (rd_T66 l0 (kk : Int)).f1.f5 false _ hv).mono ?_
              rintro e w' ⟨rfl, hb⟩
              refine ⟨_, rfl, ?_⟩
              have HB1 := Aside0.mk (below_step HB.out hb)
              clear HB
              have HB := HB1
              clear HB1
              obtain ⟨s0, s1, s2, s3, s4, s5, s6, s7⟩ := hHeld
              refine hK.out _ _ ⟨uN hb s0, uN hb s1, uN hb s2, uN hb s3, uN hb s4, uN hb s5, uN hb s6, fun h0 => uN hb (s7 h0)⟩ (fun hHeld => ?_)
              clear hK K hb s0 s1 s2 s3 s4 s5 s6 s7
              refine uZ (a' := ?_) ?_ ?_
              rotate_left
              · show Act.put _ (some 34) _ = _; simp only [Act.put, vD, vE, vF, uI, uO]; rfl
              refine uH (i := 23) (N := some 35) (v := ?_) (a' := ?_) (bA_impl 25 16777215) rfl rfl (by kernel_rfl) (fun _ _ _ h => h) (Or.inl ⟨by rfl, ?_⟩) ?_ ?_
              rotate_left
              · intro w'; go_simp; with_reducible rfl
              rotate_left
              · simp only [Act.put, vD, vE, vF, uI, uO]; rfl
              refine uH (i := 24) (N := some 36) (v := ?_) (a' := ?_) (bA_impl 25 33554431) rfl rfl (by kernel_rfl) (fun _ _ _ h => h) (Or.inl ⟨by rfl, ?_⟩) ?_ ?_
              rotate_left
              · intro w'; go_simp; with_reducible rfl
              rotate_left
              · simp only [Act.put, vD, vE, vF, uI, uO]; rfl
              refine done_ (by kernel_rfl) ?_
              go_wp2
              go_ret
              exact ⟨by rw [HNO.out (impl_IsValidOp.f (rd_T66 l0 (kk : Int)).f1.f0 (rd_T66 l0 (kk : Int)).f1.f1 (rd_T66 l0 (kk : Int)).f1.f2 (rd_T66 l0 (kk : Int)).f1.f3 (rd_T66 l0 (kk : Int)).f1.f4 (rd_T66 l0 (kk : Int)).f1.f5 = some true) (fun h => h.2.1) (by rw [hv]; simp)]; rfl, by first | exact HB.out | (rw [← World.drewN_drewN]; exact HB.out)⟩
          · have h4e := eq_true (show (rd_T66 l0 (kk : Int)).f0 < pv by omega)
            have h4d := decide_eq_true (show (rd_T66 l0 (kk : Int)).f0 < pv by omega)
            refine uH (i := 16) (N := some 28) (v := ?_) (a' := ?_) (bA_impl 25 131071) rfl rfl (by kernel_rfl) (fun _ _ _ h => h) (Or.inl ⟨by rfl, ?_⟩) ?_ ?_
            rotate_left
            · intro w'; go_simp; with_reducible rfl
            rotate_left
            · simp only [Act.put, vD, vE, vF, uI, uO]; rfl
            refine uH (i := 17) (N := some 29) (v := ?_) (a' := ?_) (bA_impl 25 262143) rfl rfl (by kernel_rfl) (fun _ _ _ h => h) (Or.inl ⟨by rfl, ?_⟩) ?_ ?_
            rotate_left
            · intro w'; go_simp; with_reducible rfl
            rotate_left
            · simp only [Act.put, vD, vE, vF, uI, uO]; rfl
            refine uH (i := 18) (N := some 30) (v := ?_) (a' := ?_) (bA_impl 25 524287) rfl rfl (by kernel_rfl) (fun _ _ _ h => h) (Or.inl ⟨by rfl, ?_⟩) ?_ ?_
            rotate_left
            · intro w'; go_simp; with_reducible rfl
            rotate_left
            · simp only [Act.put, vD, vE, vF, uI, uO]; rfl
            refine uH (i := 19) (N := some 31) (v := ?_) (a' := ?_) (bA_impl 25 1048575) rfl rfl (by kernel_rfl) (fun _ _ _ h => h) (Or.inl ⟨by rfl, ?_⟩) ?_ ?_
            rotate_left
            · intro w'; go_simp; with_reducible rfl
            rotate_left
            · simp only [Act.put, vD, vE, vF, uI, uO]; rfl
            refine uH (i := 20) (N := some 32) (v := undef) (a' := ?_) (bA_impl 25 2097151) rfl rfl (by kernel_rfl) (fun _ _ _ h => h) (Or.inr ⟨by rfl, rfl⟩) ?_ ?_
            rotate_left
            · simp only [Act.put, vD, vE, vF]; rfl
            refine uH (i := 21) (N := some 33) (v := undef) (a' := ?_) (bA_impl 25 4194303) rfl rfl (by kernel_rfl) (fun _ _ _ h => h) (Or.inr ⟨by rfl, rfl⟩) ?_ ?_
            rotate_left
            · simp only [Act.put, vD, vE, vF]; rfl
            refine uH (i := 22) (N := some 34) (v := undef) (a' := ?_) (bA_impl 25 8388607) rfl rfl (by kernel_rfl) (fun _ _ _ h => h) (Or.inr ⟨by rfl, rfl⟩) ?_ ?_
            rotate_left
            · simp only [Act.put, vD, vE, vF]; rfl
            refine uH (i := 23) (N := some 35) (v := undef) (a' := ?_) (bA_impl 25 16777215) rfl rfl (by kernel_rfl) (fun _ _ _ h => h) (Or.inr ⟨by rfl, rfl⟩) ?_ ?_
            rotate_left
            · simp only [Act.put, vD, vE, vF]; rfl
            refine uH (i := 24) (N := some 36) (v := ?_) (a' := ?_) (bA_impl 25 33554431) rfl rfl (by kernel_rfl) (fun _ _ _ h => h) (Or.inl ⟨by rfl, ?_⟩) ?_ ?_
            rotate_left
            · intro w'; go_simp; with_reducible rfl
            rotate_left
            · simp only [Act.put, vD, vE, vF, uI, uO]; rfl
            refine done_ (by kernel_rfl) ?_
            go_wp2
            go_ret
            exact ⟨by rw [HNO.out (pv ≤ (rd_T66 l0 (kk : Int)).f0) (fun h => by rw [(HPV2.out h0).2]; exact h.2.2 h0) (by omega)]; rfl, by first | exact HB.out | (rw [← World.drewN_drewN]; exact HB.out)⟩
        · have hp0 := eq_false (show ¬ ((kk : Int) > 0) by omega)
          have hp3 := eq_false (show ¬ ((0 : Int) < (kk : Int)) by omega)
          refine uH (i := 6) (N := some 18) (v := ?_) (a' := ?_) (bA_impl 25 127) rfl rfl (by kernel_rfl) (fun _ _ _ h => h) (Or.inl ⟨by rfl, ?_⟩) ?_ ?_
          rotate_left
          · intro w'; go_simp; with_reducible rfl
          rotate_left
          · simp only [Act.put, vD, vE, vF, uI, uO]; rfl
          refine uH (i := 7) (N := some 19) (v := ?_) (a' := ?_) (bA_impl 25 255) rfl rfl (by kernel_rfl) (fun _ _ _ h => h) (Or.inl ⟨by rfl, ?_⟩) ?_ ?_
          rotate_left
          · intro w'; go_simp; with_reducible rfl
          rotate_left
          · simp only [Act.put, vD, vE, vF, uI, uO]; rfl
          refine uH (i := 8) (N := some 20) (v := undef) (a' := ?_) (bA_impl 25 511) rfl rfl (by kernel_rfl) (fun _ _ _ h => h) (Or.inr ⟨by rfl, rfl⟩) ?_ ?_
          rotate_left
          · simp only [Act.put, vD, vE, vF]; rfl
          refine uH (i := 9) (N := some 21) (v := undef) (a' := ?_) (bA_impl 25 1023) rfl rfl (by kernel_rfl) (fun _ _ _ h => h) (Or.inr ⟨by rfl, rfl⟩) ?_ ?_
          rotate_left
          · simp only [Act.put, vD, vE, vF]; rfl
          refine uH (i := 10) (N := some 22) (v := undef) (a' := ?_) (bA_impl 25 2047) rfl rfl (by kernel_rfl) (fun _ _ _ h => h) (Or.inr ⟨by rfl, rfl⟩) ?_ ?_
          rotate_left
          · simp only [Act.put, vD, vE, vF]; rfl
          refine uH (i := 11) (N := some 23) (v := undef) (a' := ?_) (bA_impl 25 4095) rfl rfl (by kernel_rfl) (fun _ _ _ h => h) (Or.inr ⟨by rfl, rfl⟩) ?_ ?_
          rotate_left
          · simp only [Act.put, vD, vE, vF]; rfl
          refine uH (i := 12) (N := some 24) (v := undef) (a' := ?_) (bA_impl 25 8191) rfl rfl (by kernel_rfl) (fun _ _ _ h => h) (Or.inr ⟨by rfl, rfl⟩) ?_ ?_
          rotate_left
          · simp only [Act.put, vD, vE, vF]; rfl
          refine uH (i := 13) (N := some 25) (v := undef) (a' := ?_) (bA_impl 25 16383) rfl rfl (by kernel_rfl) (fun _ _ _ h => h) (Or.inr ⟨by rfl, rfl⟩) ?_ ?_
          rotate_left
          · simp only [Act.put, vD, vE, vF]; rfl
          refine uH (i := 14) (N := some 26) (v := undef) (a' := ?_) (bA_impl 25 32767) rfl rfl (by kernel_rfl) (fun _ _ _ h => h) (Or.inr ⟨by rfl, rfl⟩) ?_ ?_
          rotate_left
          · simp only [Act.put, vD, vE, vF]; rfl
          refine uH (i := 15) (N := some 27) (v := undef) (a' := ?_) (bA_impl 25 65535) rfl rfl (by kernel_rfl) (fun _ _ _ h => h) (Or.inr ⟨by rfl, rfl⟩) ?_ ?_
          rotate_left
          · simp only [Act.put, vD, vE, vF]; rfl
          refine uH (i := 16) (N := some 28) (v := undef) (a' := ?_) (bA_impl 25 131071) rfl rfl (by kernel_rfl) (fun _ _ _ h => h) (Or.inr ⟨by rfl, rfl⟩) ?_ ?_
          rotate_left
          · simp only [Act.put, vD, vE, vF]; rfl
          refine uH (i := 17) (N := some 29) (v := ?_) (a' := ?_) (bA_impl 25 262143) rfl rfl (by kernel_rfl) (fun _ _ _ h => h) (Or.inl ⟨by rfl, ?_⟩) ?_ ?_
          rotate_left
          · intro w'; go_simp; with_reducible rfl
          rotate_left
          · simp only [Act.put, vD, vE, vF, uI, uO]; rfl
          refine uH (i := 18) (N := some 30) (v := ?_) (a' := ?_) (bA_impl 25 524287) rfl rfl (by kernel_rfl) (fun _ _ _ h => h) (Or.inl ⟨by rfl, ?_⟩) ?_ ?_
          rotate_left
          · intro w'; go_simp; with_reducible rfl
          rotate_left
          · simp only [Act.put, vD, vE, vF, uI, uO]; rfl
          refine uH (i := 19) (N := some 31) (v := ?_) (a' := ?_) (bA_impl 25 1048575) rfl rfl (by kernel_rfl) (fun _ _ _ h => h) (Or.inl ⟨by rfl, ?_⟩) ?_ ?_
          rotate_left
          · intro w'; go_simp; with_reducible rfl
          rotate_left
          · simp only [Act.put, vD, vE, vF, uI, uO]; rfl
          refine uH (i := 20) (N := some 32) (v := ?_) (a' := ?_) (bA_impl 25 2097151) rfl rfl (by kernel_rfl) (fun _ _ _ h => h) (Or.inl ⟨by rfl, ?_⟩) ?_ ?_
          rotate_left
          · intro w'; go_simp; with_reducible rfl
          rotate_left
          · simp only [Act.put, vD, vE, vF, uI, uO]; rfl
          refine take_ (i := 21) (N := some 33) (v := ?_) (a' := ?_) (bA_impl 25 4194303) rfl rfl (by kernel_rfl) (fun _ _ _ h => h) (Or.inl ⟨by rfl, ?_⟩) hHeld ?_ ?_
          rotate_left
          · rintro w' ⟨s0, s1, s2, s3, s4, s5, s6, s7⟩; clear s7; go_simp; with_reducible rfl
          rotate_left
          · simp only [Act.put, vD, vE, vF, uI, uO]; rfl
          obtain ⟨vb, hv⟩ := impl_IsValidOp.tot (rd_T66 l0 (kk : Int)).f1.f0 (rd_T66 l0 (kk : Int)).f1.f1 (rd_T66 l0 (kk : Int)).f1.f2 (rd_T66 l0 (kk : Int)).f1.f3 (rd_T66 l0 (kk : Int)).f1.f4 (rd_T66 l0 (kk : Int)).f1.f5
          rcases Bool.eq_false_or_eq_true vb with rfl | rfl
          · refine one_ (i := 22) (N := some 34) (bA_impl 25 8388607) rfl rfl (by kernel_rfl) (by decide) (fun K hK => ?_)
            refine goes_ Tryd.func86 (by kernel_rfl) rfl #[.agg #[.int .i64 (rd_T66 l0 (kk : Int)).f1.f0, .int .i64 (rd_T66 l0 (kk : Int)).f1.f1, .int .i64 (rd_T66 l0 (kk : Int)).f1.f2, .int .i64 (rd_T66 l0 (kk : Int)).f1.f3, .int .i64 (rd_T66 l0 (kk : Int)).f1.f4, .int .i64 (rd_T66 l0 (kk : Int)).f1.f5]] (by rfl) rfl rfl (by (try simp only [List.map_toArray, List.map_cons, List.map_nil]); first | done | rfl) ?_
            refine (impl_IsValidOp.calls (rd_T66 l0 (kk : Int)).f1.f0 (rd_T66 l0 (kk : Int)).f1.f1 (rd_T66 l0 (kk : Int)).f1.f2 (rd_T66 l0 (kk : Int)).f1.f3 (rd_T66 l0 (kk : Int)).f1.f4 (rd_T66 l0 (kk : Int)).f1.f5 true _ hv).mono ?_
            rintro e w' ⟨rfl, hb⟩
            refine ⟨_, rfl, ?_⟩
            have HB1 := Aside0.mk (below_step HB.out hb)
            clear HB
            have HB := HB1
            clear HB1
            obtain ⟨s0, s1, s2, s3, s4, s5, s6, s7⟩ := hHeld
            refine hK.out _ _ ⟨uN hb s0, uN hb s1, uN hb s2, uN hb s3, uN hb s4, uN hb s5, uN hb s6, fun h0 => uN hb (s7 h0)⟩ (fun hHeld => ?_)
            clear hK K hb s0 s1 s2 s3 s4 s5 s6 s7
            refine uZ (a' := ?_) ?_ ?_
            rotate_left
            · show Act.put _ (some 34) _ = _; simp only [Act.put, vD, vE, vF, uI, uO]; rfl
            refine uH (i := 23) (N := some 35) (v := ?_) (a' := ?_) (bA_impl 25 16777215) rfl rfl (by kernel_rfl) (fun _ _ _ h => h) (Or.inl ⟨by rfl, ?_⟩) ?_ ?_
            rotate_left
            · intro w'; go_simp; with_reducible rfl
            rotate_left
            · simp only [Act.put, vD, vE, vF, uI, uO]; rfl
            refine uH (i := 24) (N := some 36) (v := ?_) (a' := ?_) (bA_impl 25 33554431) rfl rfl (by kernel_rfl) (fun _ _ _ h => h) (Or.inl ⟨by rfl, ?_⟩) ?_ ?_
            rotate_left
            · intro w'; go_simp; with_reducible rfl
            rotate_left
            · simp only [Act.put, vD, vE, vF, uI, uO]; rfl
            refine done_ (by kernel_rfl) ?_
            go_wp2
            go_roundg (l0.length - (kk + 1))
            case measure => have := HK.out; omega
            case rel =>
              refine ⟨kk + 1, by first | (rw [show wrap64 ((kk : Int) + 1) = ((kk + 1 : Nat) : Int) by have := HL1.out; unfold wrap64; omega]) | rfl, ⟨by have := HK.out; omega, by have := HK.out; omega⟩, HB, ⟨fun j hj => ?_⟩⟩
              rcases Nat.lt_succ_iff_lt_or_eq.1 hj with hj | rfl
              · exact HA.out j hj
              · exact ⟨h1, hv, fun h => by first | exact absurd h h0 | (rw [← (HPV2.out h).2]; exact h4)⟩
          · refine one_ (i := 22) (N := some 34) (bA_impl 25 8388607) rfl rfl (by kernel_rfl) (by decide) (fun K hK => ?_)
            refine goes_ Tryd.func86 (by kernel_rfl) rfl #[.agg #[.int .i64 (rd_T66 l0 (kk : Int)).f1.f0, .int .i64 (rd_T66 l0 (kk : Int)).f1.f1, .int .i64 (rd_T66 l0 (kk : Int)).f1.f2, .int .i64 (rd_T66 l0 (kk : Int)).f1.f3, .int .i64 (rd_T66 l0 (kk : Int)).f1.f4, .int .i64 (rd_T66 l0 (kk : Int)).f1.f5]] (by rfl) rfl rfl (by (try simp only [List.map_toArray, List.map_cons, List.map_nil]); first | done | rfl) ?_
            refine (impl_IsValidOp.calls (rd_T66 l0 (kk : Int)).f1.f0 (rd_T66 l0 (kk : Int)).f1.f1 (rd_T66 l0 (kk : Int)).f1.f2 (rd_T66 l0 (kk : Int)).f1.f3 (rd_T66 l0 (kk : Int)).f1.f4 (rd_T66 l0 (kk : Int)).f1.f5 false _ hv).mono ?_
            rintro e w' ⟨rfl, hb⟩
            refine ⟨_, rfl, ?_⟩
            have HB1 := Aside0.mk (below_step HB.out hb)
            clear HB
            have HB := HB1
            clear HB1
            obtain ⟨s0, s1, s2, s3, s4, s5, s6, s7⟩ := hHeld
            refine hK.out _ _ ⟨uN hb s0, uN hb s1, uN hb s2, uN hb s3, uN hb s4, uN hb s5, uN hb s6, fun h0 => uN hb (s7 h0)⟩ (fun hHeld => ?_)
            clear hK K hb s0 s1 s2 s3 s4 s5 s6 s7
            refine uZ (a' := ?_) ?_ ?_
            rotate_left
            · show Act.put _ (some 34) _ = _; simp only [Act.put, vD, vE, vF, uI, uO]; rfl
            refine uH (i := 23) (N := some 35) (v := ?_) (a' := ?_) (bA_impl 25 16777215) rfl rfl (by kernel_rfl) (fun _ _ _ h => h) (Or.inl ⟨by rfl, ?_⟩) ?_ ?_
            rotate_left
            · intro w'; go_simp; with_reducible rfl
            rotate_left
            · simp only [Act.put, vD, vE, vF, uI, uO]; rfl
            refine uH (i := 24) (N := some 36) (v := ?_) (a' := ?_) (bA_impl 25 33554431) rfl rfl (by kernel_rfl) (fun _ _ _ h => h) (Or.inl ⟨by rfl, ?_⟩) ?_ ?_
            rotate_left
            · intro w'; go_simp; with_reducible rfl
            rotate_left
            · simp only [Act.put, vD, vE, vF, uI, uO]; rfl
            refine done_ (by kernel_rfl) ?_
            go_wp2
            go_ret
            exact ⟨by rw [HNO.out (impl_IsValidOp.f (rd_T66 l0 (kk : Int)).f1.f0 (rd_T66 l0 (kk : Int)).f1.f1 (rd_T66 l0 (kk : Int)).f1.f2 (rd_T66 l0 (kk : Int)).f1.f3 (rd_T66 l0 (kk : Int)).f1.f4 (rd_T66 l0 (kk : Int)).f1.f5 = some true) (fun h => h.2.1) (by rw [hv]; simp)]; rfl, by first | exact HB.out | (rw [← World.drewN_drewN]; exact HB.out)⟩
      · refine one_ (i := 2) (N := some 14) (bA_impl 25 7) rfl rfl (by kernel_rfl) (by decide) (fun K hK => ?_)
        refine goes_ Tryd.func55 (by kernel_rfl) rfl #[.int .i64 (rd_T66 l0 (kk : Int)).f0, .int .i64 1, .int .i64 20] (by rfl) rfl rfl (by (try simp only [List.map_toArray, List.map_cons, List.map_nil]); first | done | rfl) ?_
        refine (impl_within.no_ h1 _).mono ?_
        rintro e w' ⟨rfl, ⟨nd2, rfl⟩⟩
        refine ⟨_, rfl, ?_⟩
        have HB1 := Aside0.mk (pw_below_drewN HB.out nd2)
        clear HB
        have HB := HB1
        clear HB1
        refine hK.out _ _ hHeld (fun hHeld => ?_)
        clear hK K
        refine uZ (a' := ?_) ?_ ?_
        rotate_left
        · show Act.put _ (some 14) _ = _; simp only [Act.put, vD, vE, vF, uI, uO]; rfl
        refine uH (i := 3) (N := some 15) (v := ?_) (a' := ?_) (bA_impl 25 15) rfl rfl (by kernel_rfl) (fun _ _ _ h => h) (Or.inl ⟨by rfl, ?_⟩) ?_ ?_
        rotate_left
        · intro w'; go_simp; with_reducible rfl
        rotate_left
        · simp only [Act.put, vD, vE, vF, uI, uO]; rfl
        refine uH (i := 4) (N := some 16) (v := ?_) (a' := ?_) (bA_impl 25 31) rfl rfl (by kernel_rfl) (fun _ _ _ h => h) (Or.inl ⟨by rfl, ?_⟩) ?_ ?_
        rotate_left
        · intro w'; go_simp; with_reducible rfl
        rotate_left
        · simp only [Act.put, vD, vE, vF, uI, uO]; rfl
        refine uH (i := 5) (N := some 17) (v := undef) (a' := ?_) (bA_impl 25 63) rfl rfl (by kernel_rfl) (fun _ _ _ h => h) (Or.inr ⟨by rfl, rfl⟩) ?_ ?_
        rotate_left
        · simp only [Act.put, vD, vE, vF]; rfl
        refine uH (i := 6) (N := some 18) (v := undef) (a' := ?_) (bA_impl 25 127) rfl rfl (by kernel_rfl) (fun _ _ _ h => h) (Or.inr ⟨by rfl, rfl⟩) ?_ ?_
        rotate_left
        · simp only [Act.put, vD, vE, vF]; rfl
        refine uH (i := 7) (N := some 19) (v := undef) (a' := ?_) (bA_impl 25 255) rfl rfl (by kernel_rfl) (fun _ _ _ h => h) (Or.inr ⟨by rfl, rfl⟩) ?_ ?_
        rotate_left
        · simp only [Act.put, vD, vE, vF]; rfl
        refine uH (i := 8) (N := some 20) (v := undef) (a' := ?_) (bA_impl 25 511) rfl rfl (by kernel_rfl) (fun _ _ _ h => h) (Or.inr ⟨by rfl, rfl⟩) ?_ ?_
        rotate_left
        · simp only [Act.put, vD, vE, vF]; rfl
        refine uH (i := 9) (N := some 21) (v := undef) (a' := ?_) (bA_impl 25 1023) rfl rfl (by kernel_rfl) (fun _ _ _ h => h) (Or.inr ⟨by rfl, rfl⟩) ?_ ?_
        rotate_left
        · simp only [Act.put, vD, vE, vF]; rfl
        refine uH (i := 10) (N := some 22) (v := undef) (a' := ?_) (bA_impl 25 2047) rfl rfl (by kernel_rfl) (fun _ _ _ h => h) (Or.inr ⟨by rfl, rfl⟩) ?_ ?_
        rotate_left
        · simp only [Act.put, vD, vE, vF]; rfl
        refine uH (i := 11) (N := some 23) (v := undef) (a' := ?_) (bA_impl 25 4095) rfl rfl (by kernel_rfl) (fun _ _ _ h => h) (Or.inr ⟨by rfl, rfl⟩) ?_ ?_
        rotate_left
        · simp only [Act.put, vD, vE, vF]; rfl
        refine uH (i := 12) (N := some 24) (v := undef) (a' := ?_) (bA_impl 25 8191) rfl rfl (by kernel_rfl) (fun _ _ _ h => h) (Or.inr ⟨by rfl, rfl⟩) ?_ ?_
        rotate_left
        · simp only [Act.put, vD, vE, vF]; rfl
        refine uH (i := 13) (N := some 25) (v := undef) (a' := ?_) (bA_impl 25 16383) rfl rfl (by kernel_rfl) (fun _ _ _ h => h) (Or.inr ⟨by rfl, rfl⟩) ?_ ?_
        rotate_left
        · simp only [Act.put, vD, vE, vF]; rfl
        refine uH (i := 14) (N := some 26) (v := undef) (a' := ?_) (bA_impl 25 32767) rfl rfl (by kernel_rfl) (fun _ _ _ h => h) (Or.inr ⟨by rfl, rfl⟩) ?_ ?_
        rotate_left
        · simp only [Act.put, vD, vE, vF]; rfl
        refine uH (i := 15) (N := some 27) (v := undef) (a' := ?_) (bA_impl 25 65535) rfl rfl (by kernel_rfl) (fun _ _ _ h => h) (Or.inr ⟨by rfl, rfl⟩) ?_ ?_
        rotate_left
        · simp only [Act.put, vD, vE, vF]; rfl
        refine uH (i := 16) (N := some 28) (v := undef) (a' := ?_) (bA_impl 25 131071) rfl rfl (by kernel_rfl) (fun _ _ _ h => h) (Or.inr ⟨by rfl, rfl⟩) ?_ ?_
        rotate_left
        · simp only [Act.put, vD, vE, vF]; rfl
        refine uH (i := 17) (N := some 29) (v := undef) (a' := ?_) (bA_impl 25 262143) rfl rfl (by kernel_rfl) (fun _ _ _ h => h) (Or.inr ⟨by rfl, rfl⟩) ?_ ?_
        rotate_left
        · simp only [Act.put, vD, vE, vF]; rfl
        refine uH (i := 18) (N := some 30) (v := ?_) (a' := ?_) (bA_impl 25 524287) rfl rfl (by kernel_rfl) (fun _ _ _ h => h) (Or.inl ⟨by rfl, ?_⟩) ?_ ?_
        rotate_left
        · intro w'; go_simp; with_reducible rfl
        rotate_left
        · simp only [Act.put, vD, vE, vF, uI, uO]; rfl
        refine uH (i := 19) (N := some 31) (v := ?_) (a' := ?_) (bA_impl 25 1048575) rfl rfl (by kernel_rfl) (fun _ _ _ h => h) (Or.inl ⟨by rfl, ?_⟩) ?_ ?_
        rotate_left
        · intro w'; go_simp; with_reducible rfl
        rotate_left
        · simp only [Act.put, vD, vE, vF, uI, uO]; rfl
        refine uH (i := 20) (N := some 32) (v := undef) (a' := ?_) (bA_impl 25 2097151) rfl rfl (by kernel_rfl) (fun _ _ _ h => h) (Or.inr ⟨by rfl, rfl⟩) ?_ ?_
        rotate_left
        · simp only [Act.put, vD, vE, vF]; rfl
        refine uH (i := 21) (N := some 33) (v := undef) (a' := ?_) (bA_impl 25 4194303) rfl rfl (by kernel_rfl) (fun _ _ _ h => h) (Or.inr ⟨by rfl, rfl⟩) ?_ ?_
        rotate_left
        · simp only [Act.put, vD, vE, vF]; rfl
        refine uH (i := 22) (N := some 34) (v := undef) (a' := ?_) (bA_impl 25 8388607) rfl rfl (by kernel_rfl) (fun _ _ _ h => h) (Or.inr ⟨by rfl, rfl⟩) ?_ ?_
        rotate_left
        · simp only [Act.put, vD, vE, vF]; rfl
        refine uH (i := 23) (N := some 35) (v := undef) (a' := ?_) (bA_impl 25 16777215) rfl rfl (by kernel_rfl) (fun _ _ _ h => h) (Or.inr ⟨by rfl, rfl⟩) ?_ ?_
        rotate_left
        · simp only [Act.put, vD, vE, vF]; rfl
        refine uH (i := 24) (N := some 36) (v := ?_) (a' := ?_) (bA_impl 25 33554431) rfl rfl (by kernel_rfl) (fun _ _ _ h => h) (Or.inl ⟨by rfl, ?_⟩) ?_ ?_
        rotate_left
        · intro w'; go_simp; with_reducible rfl
        rotate_left
        · simp only [Act.put, vD, vE, vF, uI, uO]; rfl
        refine done_ (by kernel_rfl) ?_
        go_wp2
        go_ret
        exact ⟨by rw [HNO.out (1 ≤ (rd_T66 l0 (kk : Int)).f0 ∧ (rd_T66 l0 (kk : Int)).f0 ≤ 20) (fun h => h.1) h1]; rfl, by first | exact HB.out | (rw [← World.drewN_drewN]; exact HB.out)⟩
    · have hltb := eq_false hlt
      have hall : ∀ j, j < l0.length → okE_impl l0 j := fun j hj => HA.out j (by have := HK.out; omega)
      have HALL := Aside0.mk hall
      clear hall HA
      go_wp2
      go_ret
      have hfin : decide ((l0.length : Int) ≤ 16) = V := by
        rw [← HV.out, Bool.eq_iff_iff, decide_eq_true_eq, decide_eq_true_eq]
        exact ⟨fun h => ⟨by omega, HALL.out⟩, fun h => by have := h.1; omega⟩
      exact ⟨by first | (rw [← hfin]; rfl) | (rw [hfin]; rfl), HB.out⟩


/-! ### impl_FormatInt: function 87 -/
def impl_FormatInt.f (a0 : Int) : Option (ByteArray) := (strconv_Itoa.f a0).bind fun t203 => (some t203)
set_option maxHeartbeats 8000000 in
set_option maxRecDepth 100000 in
theorem impl_FormatInt.calls (a0 : Int) (r : ByteArray) (w : World) (hWF : WF w) (h : impl_FormatInt.f a0 = some r) :
    Calls Tryd.prog 87 #[.int .i64 a0] w fun e w' => e = .returned (.string r) ∧ Below w.heap.size w w' := by
  have HB := Aside0.mk (Below.refl w.heap.size w)
  have H : ((strconv_Itoa.f a0).bind fun t203 => (some t203)) = some r := h
  clear h
  replace H := Option.bind_eq_some_iff.mp H
  obtain ⟨t203, A20, H⟩ := H
  try dsimp only at H
  have A2 := Aside0.mk A20
  clear A20
  obtain rfl := Option.some.inj H
  go_enter Tryd.func87, Tryd.ntmps87
  go_wp2_with (first | ((with_reducible refine uM (f := 112) rfl ?_); refine uY (some 4) Tryd.func112 #[.int .i64 a0] ?_; (with_reducible refine (strconv_Itoa.calls a0 t203 _ ?side1 A2.out).mono ?_); (case side1 => exact cq18); rintro e w3 ⟨rfl, hb⟩; refine ⟨_, rfl, ?_⟩; replace HB := uR HB hb; (try clear hb)))
  go_ret
  exact ⟨cq3, cq1⟩

end Go.Proofs.YtcikahnmiiichaaDoor.L
