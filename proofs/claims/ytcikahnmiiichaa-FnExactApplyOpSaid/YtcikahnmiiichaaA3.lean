/- Go functions as Lean functions, and the proof that the code comes to them: written by a program of this session out of the translation. -/
import Derived.Test.YtcikahnmiiichaaA0
import Derived.Test.YtcikahnmiiichaaA2
namespace Go.Proofs.Ytcikahnmiiichaa.A
open Go.RowKit Go.Proofs.YtcikahnmiiichaaW.PrintWords Go.Proofs.YtcikahnmiiichaaW.PrintLast Go.Proofs.YtcikahnmiiichaaW.PrintMore
attribute [local go_sem] max2_int min2_int max_two min_two max_three min_three max_four min_four   -- for this text's walks alone
set_option linter.unusedVariables false
set_option linter.unusedSimpArgs false

/-! ### spec_IsValidMachine: function 21 -/
/-- Which of n are done, by a number's bits. -/
def bA (n m : Nat) : Array Bool := ((List.range n).map fun i => m.testBit i).toArray
/-- Is this session one of a machine, behind the one before it? -/
def okS_ (xs : List S49) (j : Nat) : Prop := (0 ≤ (rd_T49 xs (j : Int)).f0 ∧ (rd_T49 xs (j : Int)).f0 ≤ 2) ∧ (1 ≤ (rd_T49 xs (j : Int)).f1 ∧ (rd_T49 xs (j : Int)).f1 ≤ 99) ∧ (0 ≤ (rd_T49 xs (j : Int)).f2.f1 ∧ (rd_T49 xs (j : Int)).f2.f1 ≤ 9) ∧ (0 < j → (rd_T49 xs ((j : Int) - 1)).f0 < (rd_T49 xs (j : Int)).f0)
instance okS_dec (xs : List S49) (j : Nat) : Decidable (okS_ xs j) := inferInstanceAs (Decidable (_ ∧ _ ∧ _ ∧ (_ → _)))
/-- Is this a machine? -/
def vM_ (os : List Int) (xs : List S49) : Prop := os.length = 3 ∧ (∀ j, j < os.length → 0 ≤ rd os (j : Int) ∧ rd os (j : Int) ≤ 9) ∧ ∀ j, j < xs.length → okS_ xs j
instance vM_dec (os : List Int) (xs : List S49) : Decidable (vM_ os xs) := inferInstanceAs (Decidable (_ ∧ (∀ j, j < _ → _) ∧ ∀ j, j < _ → _))
theorem spec_l1In.yes {a b c : Int} (h : b ≤ a ∧ a ≤ c) (w : World) : Calls Try.prog 66 #[.int .i64 a, .int .i64 b, .int .i64 c] w fun e w' => e = .returned (.bool true) ∧ Drawn0 w w' := spec_l1In.calls a b c true w (by unfold spec_l1In.f; rw [if_pos (show a ≥ b from h.1), decide_eq_true h.2])
theorem spec_l1In.no {a b c : Int} (h : ¬ (b ≤ a ∧ a ≤ c)) (w : World) : Calls Try.prog 66 #[.int .i64 a, .int .i64 b, .int .i64 c] w fun e w' => e = .returned (.bool false) ∧ Drawn0 w w' := spec_l1In.calls a b c false w (by
  unfold spec_l1In.f
  by_cases h1 : a ≥ b
  · rw [if_pos h1, decide_eq_false (fun h2 => h ⟨h1, h2⟩)]
  · rw [if_neg h1])
theorem spec_l1In.yesq {a b c : Int} (h : b ≤ a ∧ a ≤ c) (w : World) (n : Nat) : Calls Try.prog 66 #[.int .i64 a, .int .i64 b, .int .i64 c] (w.drewN n) fun e w'' => e = .returned (.bool true) ∧ ∃ m, w'' = w.drewN m := (spec_l1In.yes h _).mono (by rintro e w' ⟨he, ⟨m, rfl⟩⟩; exact ⟨he, n + m, World.drewN_drewN ..⟩)
theorem spec_l1In.noq {a b c : Int} (h : ¬ (b ≤ a ∧ a ≤ c)) (w : World) (n : Nat) : Calls Try.prog 66 #[.int .i64 a, .int .i64 b, .int .i64 c] (w.drewN n) fun e w'' => e = .returned (.bool false) ∧ ∃ m, w'' = w.drewN m := (spec_l1In.no h _).mono (by rintro e w' ⟨he, ⟨m, rfl⟩⟩; exact ⟨he, n + m, World.drewN_drewN ..⟩)
def spec_IsValidMachine.f (k : Nat) (l0_0 : List Int) (l0_1 : List S49) : Option Bool := some (decide (vM_ l0_0 l0_1))
theorem spec_IsValidMachine.mono : ∀ a0 a1 k, LeO (spec_IsValidMachine.f k a0 a1) (spec_IsValidMachine.f (k + 1) a0 a1) := fun _ _ _ => LeO.refl _
set_option maxHeartbeats 8000000 in
set_option maxRecDepth 100000 in
theorem spec_IsValidMachine.calls (k : Nat) (A0_0 : Option Addr) (c0_0 : Nat) (l0_0 : List Int) (A0_1 : Option Addr) (c0_1 : Nat) (l0_1 : List (S49)) (r : Bool) (w : World) (hr0_0 : Kd.C (Kd.int .i64) w A0_0 l0_0.length l0_0) (hc0_0 : l0_0.length ≤ c0_0) (hr0_1 : Kd.C k49 w A0_1 l0_1.length l0_1) (hc0_1 : l0_1.length ≤ c0_1) (h : spec_IsValidMachine.f k l0_0 l0_1 = some r) :
    Calls Try.prog 21 #[.agg #[.slice A0_0 l0_0.length c0_0, .slice A0_1 l0_1.length c0_1]] w fun e w' => e = .returned (.bool r) ∧ Below w.heap.size w w' := by
  obtain rfl := Option.some.inj h
  clear h
  have hu31 := Try.underlying31
  have HR0_0 := Aside0.mk hr0_0
  have HR0_1 := Aside0.mk hr0_1
  have HL0 := Aside0.mk hr0_0.2.1
  have HL1 := Aside0.mk hr0_1.2.1
  clear hr0_0 hc0_0 hr0_1 hc0_1
  have HV := Aside0.mk (show decide (vM_ l0_0 l0_1) = decide (vM_ l0_0 l0_1) from rfl)
  generalize hV : decide (vM_ l0_0 l0_1) = V at HV ⊢
  replace HV := Aside0.mk hV
  clear hV
  go_enter Try.func21, Try.ntmps21
  go_wp2_with ((with_reducible refine gate_dst (N := 1) rfl ?_); refine box_event ?hg (N := 1) ?hd (cs := #[.slice A0_0 l0_0.length c0_0, .slice A0_1 l0_1.length c0_1]) (t := 31) ?hr ?_; (case hd => rfl); (case hg => rfl); (case hr => first | (go_simp; done) | (go_simp; rfl)); intro gM hg wM hbox hb; have BM := Aside0.mk hbox; have HB := Aside0.mk hb; have HG := Aside0.mk (show w.heap.size ≤ gM by omega); have hcM_0 : wM.cell? ⟨gM, 0, none⟩ = some (.slice A0_0 l0_0.length c0_0) := (blk_cell BM.out 0).trans rfl; have hcM_1 : wM.cell? ⟨gM, 1, none⟩ = some (.slice A0_1 l0_1.length c0_1) := (blk_cell BM.out 1).trans rfl; clear hbox hb hg)
  clear hcM_0 hcM_1
  go_loopg [3] l0_0.length (fun gg s wr => ∃ kk : Nat, s = .int .i64 kk ∧ Aside0 (kk ≤ l0_0.length ∧ l0_0.length - kk ≤ gg) ∧ Aside0 (wr.heap[gM]? = some (.cells #[.slice A0_0 l0_0.length c0_0, .slice A0_1 l0_1.length c0_1] 31 (0, 0))) ∧ Aside0 (Below w.heap.size w wr) ∧ Aside0 (∀ j, j < kk → 0 ≤ rd l0_0 (j : Int) ∧ rd l0_0 (j : Int) ≤ 9))
  case atStart => exact ⟨0, rfl, ⟨by omega, by omega⟩, BM, HB, ⟨fun j hj => by omega⟩⟩
  case round =>
    clear BM HB
    obtain ⟨kk, rfl, HK, BM, HB, HA⟩ := hrel
    have hcM_0 : wr.cell? ⟨gM, 0, none⟩ = some (.slice A0_0 l0_0.length c0_0) := (blk_cell BM.out 0).trans rfl
    have hcM_1 : wr.cell? ⟨gM, 1, none⟩ = some (.slice A0_1 l0_1.length c0_1) := (blk_cell BM.out 1).trans rfl
    have hkz : (0 : Int) ≤ (kk : Int) := by omega
    by_cases hlt : (kk : Int) < (l0_0.length : Int)
    · obtain ⟨ad2, e2, hx_0⟩ := Kd.at_int HR0_0.out (kk : Int) hkz hlt
      subst e2
      simp only [Int.toNat_natCast] at hx_0
      replace hx_0 := (HB.out.cell (World.block_lt_of_cell? w _ hx_0)).trans hx_0
      have hltb := eq_true hlt
      have hkzb := eq_true hkz
      by_cases h1 : 0 ≤ rd l0_0 (kk : Int) ∧ rd l0_0 (kk : Int) ≤ 9
      · go_wp2_with (go_at_call 66; refine (spec_l1In.yes h1 _).mono ?_; rintro e w' ⟨rfl, ⟨nd, rfl⟩⟩)
        go_roundg (l0_0.length - (kk + 1))
        case measure => have := HK.out; omega
        case rel =>
          refine ⟨kk + 1, by rw [show wrap64 ((kk : Int) + 1) = ((kk + 1 : Nat) : Int) by have := HL0.out; unfold wrap64; omega], ⟨by omega, by omega⟩, ⟨BM.out⟩, ⟨pw_below_drewN HB.out _⟩, ⟨fun j hj => ?_⟩⟩
          rcases Nat.lt_succ_iff_lt_or_eq.1 hj with hj | rfl
          · exact HA.out j hj
          · exact h1
      · go_wp2_with (go_at_call 66; refine (spec_l1In.no h1 _).mono ?_; rintro e w' ⟨rfl, ⟨nd, rfl⟩⟩)
        go_ret
        exact ⟨by rw [← HV.out, decide_eq_false (fun h => h1 (h.2.1 kk (by omega)))]; rfl, pw_below_drewN HB.out _⟩
    · have hltb := eq_false hlt
      have hall : ∀ j, j < l0_0.length → 0 ≤ rd l0_0 (j : Int) ∧ rd l0_0 (j : Int) ≤ 9 := fun j hj => HA.out j (by have := HK.out; omega)
      have HO := Aside0.mk hall
      clear hall HA HK
      go_wp2
      clear hcM_0 hcM_1 hltb hlt hkz
      go_loopg [4] l0_1.length (fun gg s wr => ∃ kk : Nat, s = .int .i64 kk ∧ Aside0 (kk ≤ l0_1.length ∧ l0_1.length - kk ≤ gg) ∧ Aside0 (wr.heap[gM]? = some (.cells #[.slice A0_0 l0_0.length c0_0, .slice A0_1 l0_1.length c0_1] 31 (0, 0))) ∧ Aside0 (Below w.heap.size w wr) ∧ Aside0 (∀ j, j < kk → okS_ l0_1 j))
      case atStart => exact ⟨0, rfl, ⟨by omega, by omega⟩, BM, HB, ⟨fun j hj => by omega⟩⟩
      case round =>
        clear BM HB
        obtain ⟨kk, rfl, HK, BM, HB, HA⟩ := hrel
        have hcM_0 : wr.cell? ⟨gM, 0, none⟩ = some (.slice A0_0 l0_0.length c0_0) := (blk_cell BM.out 0).trans rfl
        have hcM_1 : wr.cell? ⟨gM, 1, none⟩ = some (.slice A0_1 l0_1.length c0_1) := (blk_cell BM.out 1).trans rfl
        have hkz : (0 : Int) ≤ (kk : Int) := by omega
        by_cases hlt : (kk : Int) < (l0_1.length : Int)
        · obtain ⟨ad2, e2, hx_0, hx_1, hx_2, hx_3⟩ := at_T49 HR0_1.out (kk : Int) hkz hlt
          subst e2
          simp only [Int.toNat_natCast] at hx_0 hx_1 hx_2 hx_3
          replace hx_0 := (HB.out.cell (World.block_lt_of_cell? w _ hx_0)).trans hx_0
          replace hx_1 := (HB.out.cell (World.block_lt_of_cell? w _ hx_1)).trans hx_1
          replace hx_2 := (HB.out.cell (World.block_lt_of_cell? w _ hx_2)).trans hx_2
          replace hx_3 := (HB.out.cell (World.block_lt_of_cell? w _ hx_3)).trans hx_3
          have hltb := eq_true hlt
          have hkzb := eq_true hkz
          go_wp2_with (first
            | ((with_reducible refine gate_dst (N := 5) rfl ?_); refine box_event ?hg (N := 5) ?hd (cs := #[.int .i64 0, .int .i64 0, .bool false, .int .i64 0]) (t := 49) ?hr ?_; (case hd => rfl); (case hg => rfl); (case hr => first | (go_simp; done) | (go_simp; rfl)); intro gS hg wS hbox hb; have NE := Aside0.mk (show gM ≠ gS by rw [hg]; exact Nat.ne_of_lt (blk_lt BM.out)); have BM1 := Aside0.mk (blk_below BM.out hb); have BS := Aside0.mk hbox; have HB1 := Aside0.mk (below_step HB.out hb); have GS := Aside0.mk (show w.heap.size ≤ gS by rw [hg]; exact HB.out.size); clear hbox hb hg BM HB hcM_0 hcM_1 hx_0 hx_1 hx_2 hx_3; have BM := BM1; have HB := HB1; clear BM1 HB1; have hcS_0 : wS.cell? ⟨gS, 0, none⟩ = some (.int .i64 0) := (blk_cell BS.out 0).trans rfl; have hcS_1 : wS.cell? ⟨gS, 1, none⟩ = some (.int .i64 0) := (blk_cell BS.out 1).trans rfl; have hcS_2 : wS.cell? ⟨gS, 2, none⟩ = some (.bool false) := (blk_cell BS.out 2).trans rfl; have hcS_3 : wS.cell? ⟨gS, 3, none⟩ = some (.int .i64 0) := (blk_cell BS.out 3).trans rfl; have hfS_0 := blk_frozen BS.out 0; have hfS_1 := blk_frozen BS.out 1; have hfS_2 := blk_frozen BS.out 2; have hfS_3 := blk_frozen BS.out 3)
            | ((with_reducible refine gate_store (t := 49) (p := 5) rfl ?_); refine store_event (t := 49) (p := 5) (v := ?vo_1) (w1 := ((((wS.setCell ⟨gS, 0, none⟩ (.int .i64 (rd_T49 l0_1 (kk : Int)).f0)).setCell ⟨gS, 1, none⟩ (.int .i64 (rd_T49 l0_1 (kk : Int)).f1)).setCell ⟨gS, 2, none⟩ (.bool (rd_T49 l0_1 (kk : Int)).f2.f0)).setCell ⟨gS, 3, none⟩ (.int .i64 (rd_T49 l0_1 (kk : Int)).f2.f1))) ?hg ?ho ?hn ?hr ?_; (case ho => rfl); (case hg => rfl); (case hn => rfl); (case hr => first | (go_simp; done) | (go_simp; rfl)); intro wG hw_; clear hcS_0 hcS_1 hcS_2 hcS_3 hfS_0 hfS_1 hfS_2 hfS_3; have BM1 := Aside0.mk (show wG.heap[gM]? = some (.cells #[.slice A0_0 l0_0.length c0_0, .slice (some ad2) l0_1.length c0_1] 31 (0, 0)) from hw_ ▸ blk_far (blk_far (blk_far (blk_far BM.out NE.out _) NE.out _) NE.out _) NE.out _); have BS1 := Aside0.mk (show wG.heap[gS]? = some (.cells #[.int .i64 (rd_T49 l0_1 (kk : Int)).f0, .int .i64 (rd_T49 l0_1 (kk : Int)).f1, .bool (rd_T49 l0_1 (kk : Int)).f2.f0, .int .i64 (rd_T49 l0_1 (kk : Int)).f2.f1] 49 (0, 0)) from hw_ ▸ blk_put (blk_put (blk_put (blk_put BS.out 0 _ rfl) 1 _ rfl) 2 _ rfl) 3 _ rfl); have HB1 := Aside0.mk (show Below w.heap.size w wG from hw_ ▸ below_set (below_set (below_set (below_set HB.out GS.out) GS.out) GS.out) GS.out); clear hw_ BM BS HB; have BM := BM1; have BS := BS1; have HB := HB1; clear BM1 BS1 HB1))
          have hcS_0 : wG.cell? ⟨gS, 0, none⟩ = some (.int .i64 (rd_T49 l0_1 (kk : Int)).f0) := (blk_cell BS.out 0).trans rfl
          have hcS_1 : wG.cell? ⟨gS, 1, none⟩ = some (.int .i64 (rd_T49 l0_1 (kk : Int)).f1) := (blk_cell BS.out 1).trans rfl
          have hcS_3 : wG.cell? ⟨gS, 3, none⟩ = some (.int .i64 (rd_T49 l0_1 (kk : Int)).f2.f1) := (blk_cell BS.out 3).trans rfl
          have hcM_1 : wG.cell? ⟨gM, 1, none⟩ = some (.slice (some ad2) l0_1.length c0_1) := (blk_cell BM.out 1).trans rfl
          have hnot : ∀ (p : Prop), (okS_ l0_1 kk → p) → ¬ p → V = false := fun p h hp => by rw [← HV.out]; exact decide_eq_false (fun h2 => hp (h (h2.2.2 kk (by omega))))
          have hPREV : 0 < kk → ∃ v, wG.cell? (ad2.add ((kk - 1) * 4)) = some (.int .i64 v) ∧ v = (rd_T49 l0_1 ((kk : Int) - 1)).f0 := fun h => by
            obtain ⟨ad3, e3, hy, _⟩ := at_T49 HR0_1.out ((kk : Int) - 1) (by omega) (by omega)
            cases e3
            rw [show ((kk : Int) - 1).toNat = kk - 1 by omega] at hy
            exact ⟨_, (HB.out.cell (World.block_lt_of_cell? w _ hy)).trans hy, rfl⟩
          have HPV := Aside0.mk @hPREV
          have HNO := Aside0.mk hnot
          clear hPREV hnot hcS_0 hcS_1 hcS_3 hcM_1
          have e1 : wrap64 ((kk : Int) - 1) = (kk : Int) - 1 := by have := HL1.out; unfold wrap64; omega
          have e1b := i64_w ((kk : Int) - 1)
          rw [e1] at e1b
          obtain ⟨pv, HPV2⟩ : ∃ pv : Int, Aside0 (0 < kk → wG.cell? (ad2.add ((kk - 1) * 4)) = some (.int .i64 pv) ∧ pv = (rd_T49 l0_1 ((kk : Int) - 1)).f0) := by
            by_cases h0 : 0 < kk
            · obtain ⟨v, h1, h2⟩ := HPV.out h0
              exact ⟨v, ⟨fun _ => ⟨h1, h2⟩⟩⟩
            · exact ⟨0, ⟨fun h => absurd h h0⟩⟩
          refine start_ (n := 33) (S := fun w' => w'.cell? ⟨gS, 0, none⟩ = some (.int .i64 (rd_T49 l0_1 (kk : Int)).f0) ∧ w'.cell? ⟨gS, 1, none⟩ = some (.int .i64 (rd_T49 l0_1 (kk : Int)).f1) ∧ w'.cell? ⟨gS, 3, none⟩ = some (.int .i64 (rd_T49 l0_1 (kk : Int)).f2.f1) ∧ w'.cell? ⟨gM, 1, none⟩ = some (.slice (some ad2) l0_1.length c0_1) ∧ (0 < kk → w'.cell? (ad2.add ((kk - 1) * 4)) = some (.int .i64 pv))) (ds := []) (bA 33 0) (by kernel_rfl) rfl rfl ⟨(blk_cell BS.out 0).trans rfl, (blk_cell BS.out 1).trans rfl, (blk_cell BS.out 3).trans rfl, (blk_cell BM.out 1).trans rfl, fun h => (HPV2.out h).1⟩ (fun hHeld => ?_)
          refine pureTk 0 (some 32) (bA 33 1) ?_
          refine take_ (i := 1) (N := some 33) (v := ?_) (a' := ?_) (bA 33 3) rfl rfl (by kernel_rfl) (fun _ _ _ h => h) (Or.inl ⟨by rfl, ?_⟩) hHeld ?_ ?_
          rotate_left
          · rintro w' ⟨s0, s1, s2, s3, s4⟩; clear s4; go_simp; with_reducible rfl
          rotate_left
          · simp only [Act.put, List.setIfInBounds_toArray, List.set_cons_zero, List.set_cons_succ, i64_w, i32_w]; rfl
          by_cases h1 : 0 ≤ (rd_T49 l0_1 (kk : Int)).f0 ∧ (rd_T49 l0_1 (kk : Int)).f0 ≤ 2
          · refine one_ (i := 2) (N := some 34) (bA 33 7) rfl rfl (by kernel_rfl) (by decide) (fun K hK => ?_)
            refine goesT Try.func66 #[.int .i64 (rd_T49 l0_1 (kk : Int)).f0, .int .i64 0, .int .i64 2] ?_
            refine (spec_l1In.yes h1 _).mono ?_
            rintro e w' ⟨rfl, ⟨nd2, rfl⟩⟩
            refine ⟨_, rfl, ?_⟩
            refine hK.out _ _ hHeld (fun hHeld => ?_)
            clear hK K
            refine norm_ (a' := ?_) ?_ ?_
            rotate_left
            · show Act.put _ (some 34) _ = _; simp only [Act.put, List.setIfInBounds_toArray, List.set_cons_zero, List.set_cons_succ, i64_w, i32_w]; rfl
            refine pureTk 3 (some 35) (bA 33 15) ?_
            refine pureTk 4 (some 36) (bA 33 31) ?_
            refine pureTk 5 (some 37) (bA 33 63) ?_
            refine take_ (i := 6) (N := some 38) (v := ?_) (a' := ?_) (bA 33 127) rfl rfl (by kernel_rfl) (fun _ _ _ h => h) (Or.inl ⟨by rfl, ?_⟩) hHeld ?_ ?_
            rotate_left
            · rintro w' ⟨s0, s1, s2, s3, s4⟩; clear s4; go_simp; with_reducible rfl
            rotate_left
            · simp only [Act.put, List.setIfInBounds_toArray, List.set_cons_zero, List.set_cons_succ, i64_w, i32_w]; rfl
            by_cases h2 : 1 ≤ (rd_T49 l0_1 (kk : Int)).f1 ∧ (rd_T49 l0_1 (kk : Int)).f1 ≤ 99
            · refine one_ (i := 7) (N := some 39) (bA 33 255) rfl rfl (by kernel_rfl) (by decide) (fun K hK => ?_)
              refine goesT Try.func66 #[.int .i64 (rd_T49 l0_1 (kk : Int)).f1, .int .i64 1, .int .i64 99] ?_
              refine (spec_l1In.yes h2 _).mono ?_
              rintro e w' ⟨rfl, ⟨nd7, rfl⟩⟩
              refine ⟨_, rfl, ?_⟩
              refine hK.out _ _ hHeld (fun hHeld => ?_)
              clear hK K
              refine norm_ (a' := ?_) ?_ ?_
              rotate_left
              · show Act.put _ (some 39) _ = _; simp only [Act.put, List.setIfInBounds_toArray, List.set_cons_zero, List.set_cons_succ, i64_w, i32_w]; rfl
              refine pureTk 8 (some 40) (bA 33 511) ?_
              refine pureTk 9 (some 41) (bA 33 1023) ?_
              refine pureTk 10 (some 42) (bA 33 2047) ?_
              refine pureTk 11 (some 43) (bA 33 4095) ?_
              refine pureTk 12 (some 44) (bA 33 8191) ?_
              refine take_ (i := 13) (N := some 45) (v := ?_) (a' := ?_) (bA 33 16383) rfl rfl (by kernel_rfl) (fun _ _ _ h => h) (Or.inl ⟨by rfl, ?_⟩) hHeld ?_ ?_
              rotate_left
              · rintro w' ⟨s0, s1, s2, s3, s4⟩; clear s4; go_simp; with_reducible rfl
              rotate_left
              · simp only [Act.put, List.setIfInBounds_toArray, List.set_cons_zero, List.set_cons_succ, i64_w, i32_w]; rfl
              by_cases h3 : 0 ≤ (rd_T49 l0_1 (kk : Int)).f2.f1 ∧ (rd_T49 l0_1 (kk : Int)).f2.f1 ≤ 9
              · refine one_ (i := 14) (N := some 46) (bA 33 32767) rfl rfl (by kernel_rfl) (by decide) (fun K hK => ?_)
                refine goesT Try.func66 #[.int .i64 (rd_T49 l0_1 (kk : Int)).f2.f1, .int .i64 0, .int .i64 9] ?_
                refine (spec_l1In.yes h3 _).mono ?_
                rintro e w' ⟨rfl, ⟨nd14, rfl⟩⟩
                refine ⟨_, rfl, ?_⟩
                refine hK.out _ _ hHeld (fun hHeld => ?_)
                clear hK K
                refine norm_ (a' := ?_) ?_ ?_
                rotate_left
                · show Act.put _ (some 46) _ = _; simp only [Act.put, List.setIfInBounds_toArray, List.set_cons_zero, List.set_cons_succ, i64_w, i32_w]; rfl
                refine pureTk 15 (some 47) (bA 33 65535) ?_
                refine pureTk 16 (some 48) (bA 33 131071) ?_
                refine pureTk 17 (some 49) (bA 33 262143) ?_
                refine pureTk 18 (some 50) (bA 33 524287) ?_
                by_cases h0 : 0 < kk
                · have hp0 := eq_true (show (kk : Int) > 0 by omega)
                  have hp3 := eq_true (show (0 : Int) < (kk : Int) by omega)
                  have hp1 := eq_true (show (0 : Int) ≤ (kk : Int) - 1 by omega)
                  have hp5 := eq_true (show (1 : Int) ≤ (kk : Int) by omega)
                  have hp2 := eq_true (show (kk : Int) - 1 < (l0_1.length : Int) by omega)
                  refine pureTk 19 (some 51) (bA 33 1048575) ?_
                  refine pureTk 20 (some 52) (bA 33 2097151) ?_
                  refine pureTk 21 (some 53) (bA 33 4194303) ?_
                  refine take_ (i := 22) (N := some 54) (v := ?_) (a' := ?_) (bA 33 8388607) rfl rfl (by kernel_rfl) (fun _ _ _ h => h) (Or.inl ⟨by rfl, ?_⟩) hHeld ?_ ?_
                  rotate_left
                  · rintro w' ⟨s0, s1, s2, s3, s4⟩; clear s4; go_simp; with_reducible rfl
                  rotate_left
                  · simp only [Act.put, List.setIfInBounds_toArray, List.set_cons_zero, List.set_cons_succ, i64_w, i32_w]; rfl
                  refine pureTk 23 (some 55) (bA 33 16777215) ?_
                  refine pureTk 24 (some 56) (bA 33 33554431) ?_
                  refine pureTk 25 (some 57) (bA 33 67108863) ?_
                  refine pureTk 26 (some 58) (bA 33 134217727) ?_
                  refine take_ (i := 27) (N := some 59) (v := ?_) (a' := ?_) (bA 33 268435455) rfl rfl (by kernel_rfl) (fun _ _ _ h => h) (Or.inl ⟨by rfl, ?_⟩) hHeld ?_ ?_
                  rotate_left
                  · rintro w' ⟨s0, s1, s2, s3, s4⟩; replace s4 := s4 h0; go_simp; with_reducible rfl
                  rotate_left
                  · simp only [Act.put, List.setIfInBounds_toArray, List.set_cons_zero, List.set_cons_succ, i64_w, i32_w]; rfl
                  refine pureTk 28 (some 60) (bA 33 536870911) ?_
                  refine take_ (i := 29) (N := some 61) (v := ?_) (a' := ?_) (bA 33 1073741823) rfl rfl (by kernel_rfl) (fun _ _ _ h => h) (Or.inl ⟨by rfl, ?_⟩) hHeld ?_ ?_
                  rotate_left
                  · rintro w' ⟨s0, s1, s2, s3, s4⟩; clear s4; go_simp; with_reducible rfl
                  rotate_left
                  · simp only [Act.put, List.setIfInBounds_toArray, List.set_cons_zero, List.set_cons_succ, i64_w, i32_w]; rfl
                  by_cases h4 : pv < (rd_T49 l0_1 (kk : Int)).f0
                  · have h4c := eq_false (show ¬ (pv ≥ (rd_T49 l0_1 (kk : Int)).f0) by omega)
                    have h4d := decide_eq_false (show ¬ (pv ≥ (rd_T49 l0_1 (kk : Int)).f0) by omega)
                    refine pureTk 30 (some 62) (bA 33 2147483647) ?_
                    refine pureTk 31 (some 63) (bA 33 4294967295) ?_
                    refine pureTk 32 (some 64) (bA 33 8589934591) ?_
                    refine done_ (by kernel_rfl) ?_
                    go_wp2
                    go_roundg (l0_1.length - (kk + 1))
                    case measure => have := HK.out; omega
                    case rel =>
                      refine ⟨kk + 1, by first | (rw [show wrap64 ((kk : Int) + 1) = ((kk + 1 : Nat) : Int) by have := HL1.out; unfold wrap64; omega]) | rfl, ⟨by have := HK.out; omega, by have := HK.out; omega⟩, ⟨BM.out⟩, ⟨by repeat (first | exact HB.out | apply pw_below_drewN | apply below_drew1)⟩, ⟨fun j hj => ?_⟩⟩
                      rcases Nat.lt_succ_iff_lt_or_eq.1 hj with hj | rfl
                      · exact HA.out j hj
                      · exact ⟨h1, h2, h3, fun h => by first | exact absurd h h0 | (rw [← (HPV2.out h).2]; exact h4)⟩
                  · have h4c := eq_true (show pv ≥ (rd_T49 l0_1 (kk : Int)).f0 by omega)
                    have h4d := decide_eq_true (show pv ≥ (rd_T49 l0_1 (kk : Int)).f0 by omega)
                    refine pureTk 30 (some 62) (bA 33 2147483647) ?_
                    refine pureTk 31 (some 63) (bA 33 4294967295) ?_
                    refine pureTk 32 (some 64) (bA 33 8589934591) ?_
                    refine done_ (by kernel_rfl) ?_
                    go_wp2
                    go_ret
                    exact ⟨by rw [HNO.out (pv < (rd_T49 l0_1 (kk : Int)).f0) (fun h => by rw [(HPV2.out h0).2]; exact h.2.2.2 h0) (by omega)]; rfl, by repeat (first | exact HB.out | apply pw_below_drewN | apply below_drew1)⟩
                · have hp0 := eq_false (show ¬ ((kk : Int) > 0) by omega)
                  have hp3 := eq_false (show ¬ ((0 : Int) < (kk : Int)) by omega)
                  refine pureTk 19 (some 51) (bA 33 1048575) ?_
                  refine pureTk 20 (some 52) (bA 33 2097151) ?_
                  refine pureUh 21 (some 53) (bA 33 4194303) ?_
                  refine pureUh 22 (some 54) (bA 33 8388607) ?_
                  refine pureUh 23 (some 55) (bA 33 16777215) ?_
                  refine pureUh 24 (some 56) (bA 33 33554431) ?_
                  refine pureUh 25 (some 57) (bA 33 67108863) ?_
                  refine pureUh 26 (some 58) (bA 33 134217727) ?_
                  refine pureUh 27 (some 59) (bA 33 268435455) ?_
                  refine pureUh 28 (some 60) (bA 33 536870911) ?_
                  refine pureUh 29 (some 61) (bA 33 1073741823) ?_
                  refine pureUh 30 (some 62) (bA 33 2147483647) ?_
                  refine pureTk 31 (some 63) (bA 33 4294967295) ?_
                  refine pureTk 32 (some 64) (bA 33 8589934591) ?_
                  refine done_ (by kernel_rfl) ?_
                  go_wp2
                  go_roundg (l0_1.length - (kk + 1))
                  case measure => have := HK.out; omega
                  case rel =>
                    refine ⟨kk + 1, by first | (rw [show wrap64 ((kk : Int) + 1) = ((kk + 1 : Nat) : Int) by have := HL1.out; unfold wrap64; omega]) | rfl, ⟨by have := HK.out; omega, by have := HK.out; omega⟩, ⟨BM.out⟩, ⟨by repeat (first | exact HB.out | apply pw_below_drewN | apply below_drew1)⟩, ⟨fun j hj => ?_⟩⟩
                    rcases Nat.lt_succ_iff_lt_or_eq.1 hj with hj | rfl
                    · exact HA.out j hj
                    · exact ⟨h1, h2, h3, fun h => by first | exact absurd h h0 | (rw [← (HPV2.out h).2]; exact h4)⟩
              · refine one_ (i := 14) (N := some 46) (bA 33 32767) rfl rfl (by kernel_rfl) (by decide) (fun K hK => ?_)
                refine goesT Try.func66 #[.int .i64 (rd_T49 l0_1 (kk : Int)).f2.f1, .int .i64 0, .int .i64 9] ?_
                refine (spec_l1In.no h3 _).mono ?_
                rintro e w' ⟨rfl, ⟨nd14, rfl⟩⟩
                refine ⟨_, rfl, ?_⟩
                refine hK.out _ _ hHeld (fun hHeld => ?_)
                clear hK K
                refine norm_ (a' := ?_) ?_ ?_
                rotate_left
                · show Act.put _ (some 46) _ = _; simp only [Act.put, List.setIfInBounds_toArray, List.set_cons_zero, List.set_cons_succ, i64_w, i32_w]; rfl
                refine pureTk 15 (some 47) (bA 33 65535) ?_
                refine pureTk 16 (some 48) (bA 33 131071) ?_
                refine pureTk 17 (some 49) (bA 33 262143) ?_
                refine pureUh 18 (some 50) (bA 33 524287) ?_
                refine pureUh 19 (some 51) (bA 33 1048575) ?_
                refine pureUh 20 (some 52) (bA 33 2097151) ?_
                refine pureUh 21 (some 53) (bA 33 4194303) ?_
                refine pureUh 22 (some 54) (bA 33 8388607) ?_
                refine pureUh 23 (some 55) (bA 33 16777215) ?_
                refine pureUh 24 (some 56) (bA 33 33554431) ?_
                refine pureUh 25 (some 57) (bA 33 67108863) ?_
                refine pureUh 26 (some 58) (bA 33 134217727) ?_
                refine pureUh 27 (some 59) (bA 33 268435455) ?_
                refine pureUh 28 (some 60) (bA 33 536870911) ?_
                refine pureUh 29 (some 61) (bA 33 1073741823) ?_
                refine pureUh 30 (some 62) (bA 33 2147483647) ?_
                refine pureUh 31 (some 63) (bA 33 4294967295) ?_
                refine pureTk 32 (some 64) (bA 33 8589934591) ?_
                refine done_ (by kernel_rfl) ?_
                go_wp2
                go_ret
                exact ⟨by rw [HNO.out (0 ≤ (rd_T49 l0_1 (kk : Int)).f2.f1 ∧ (rd_T49 l0_1 (kk : Int)).f2.f1 ≤ 9) (fun h => h.2.2.1) h3]; rfl, by repeat (first | exact HB.out | apply pw_below_drewN | apply below_drew1)⟩
            · refine one_ (i := 7) (N := some 39) (bA 33 255) rfl rfl (by kernel_rfl) (by decide) (fun K hK => ?_)
              refine goesT Try.func66 #[.int .i64 (rd_T49 l0_1 (kk : Int)).f1, .int .i64 1, .int .i64 99] ?_
              refine (spec_l1In.no h2 _).mono ?_
              rintro e w' ⟨rfl, ⟨nd7, rfl⟩⟩
              refine ⟨_, rfl, ?_⟩
              refine hK.out _ _ hHeld (fun hHeld => ?_)
              clear hK K
              refine norm_ (a' := ?_) ?_ ?_
              rotate_left
              · show Act.put _ (some 39) _ = _; simp only [Act.put, List.setIfInBounds_toArray, List.set_cons_zero, List.set_cons_succ, i64_w, i32_w]; rfl
              refine pureTk 8 (some 40) (bA 33 511) ?_
              refine pureTk 9 (some 41) (bA 33 1023) ?_
              refine pureTk 10 (some 42) (bA 33 2047) ?_
              refine pureUh 11 (some 43) (bA 33 4095) ?_
              refine pureUh 12 (some 44) (bA 33 8191) ?_
              refine pureUh 13 (some 45) (bA 33 16383) ?_
              refine pureUh 14 (some 46) (bA 33 32767) ?_
              refine pureUh 15 (some 47) (bA 33 65535) ?_
              refine pureTk 16 (some 48) (bA 33 131071) ?_
              refine pureTk 17 (some 49) (bA 33 262143) ?_
              refine pureUh 18 (some 50) (bA 33 524287) ?_
              refine pureUh 19 (some 51) (bA 33 1048575) ?_
              refine pureUh 20 (some 52) (bA 33 2097151) ?_
              refine pureUh 21 (some 53) (bA 33 4194303) ?_
              refine pureUh 22 (some 54) (bA 33 8388607) ?_
              refine pureUh 23 (some 55) (bA 33 16777215) ?_
              refine pureUh 24 (some 56) (bA 33 33554431) ?_
              refine pureUh 25 (some 57) (bA 33 67108863) ?_
              refine pureUh 26 (some 58) (bA 33 134217727) ?_
              refine pureUh 27 (some 59) (bA 33 268435455) ?_
              refine pureUh 28 (some 60) (bA 33 536870911) ?_
              refine pureUh 29 (some 61) (bA 33 1073741823) ?_
              refine pureUh 30 (some 62) (bA 33 2147483647) ?_
              refine pureUh 31 (some 63) (bA 33 4294967295) ?_
              refine pureTk 32 (some 64) (bA 33 8589934591) ?_
              refine done_ (by kernel_rfl) ?_
              go_wp2
              go_ret
              exact ⟨by rw [HNO.out (1 ≤ (rd_T49 l0_1 (kk : Int)).f1 ∧ (rd_T49 l0_1 (kk : Int)).f1 ≤ 99) (fun h => h.2.1) h2]; rfl, by repeat (first | exact HB.out | apply pw_below_drewN | apply below_drew1)⟩
          · refine one_ (i := 2) (N := some 34) (bA 33 7) rfl rfl (by kernel_rfl) (by decide) (fun K hK => ?_)
            refine goesT Try.func66 #[.int .i64 (rd_T49 l0_1 (kk : Int)).f0, .int .i64 0, .int .i64 2] ?_
            refine (spec_l1In.no h1 _).mono ?_
            rintro e w' ⟨rfl, ⟨nd2, rfl⟩⟩
            refine ⟨_, rfl, ?_⟩
            refine hK.out _ _ hHeld (fun hHeld => ?_)
            clear hK K
            refine norm_ (a' := ?_) ?_ ?_
            rotate_left
            · show Act.put _ (some 34) _ = _; simp only [Act.put, List.setIfInBounds_toArray, List.set_cons_zero, List.set_cons_succ, i64_w, i32_w]; rfl
            refine pureTk 3 (some 35) (bA 33 15) ?_
            refine pureTk 4 (some 36) (bA 33 31) ?_
            refine pureUh 5 (some 37) (bA 33 63) ?_
            refine pureUh 6 (some 38) (bA 33 127) ?_
            refine pureUh 7 (some 39) (bA 33 255) ?_
            refine pureUh 8 (some 40) (bA 33 511) ?_
            refine pureTk 9 (some 41) (bA 33 1023) ?_
            refine pureTk 10 (some 42) (bA 33 2047) ?_
            refine pureUh 11 (some 43) (bA 33 4095) ?_
            refine pureUh 12 (some 44) (bA 33 8191) ?_
            refine pureUh 13 (some 45) (bA 33 16383) ?_
            refine pureUh 14 (some 46) (bA 33 32767) ?_
            refine pureUh 15 (some 47) (bA 33 65535) ?_
            refine pureTk 16 (some 48) (bA 33 131071) ?_
            refine pureTk 17 (some 49) (bA 33 262143) ?_
            refine pureUh 18 (some 50) (bA 33 524287) ?_
            refine pureUh 19 (some 51) (bA 33 1048575) ?_
            refine pureUh 20 (some 52) (bA 33 2097151) ?_
            refine pureUh 21 (some 53) (bA 33 4194303) ?_
            refine pureUh 22 (some 54) (bA 33 8388607) ?_
            refine pureUh 23 (some 55) (bA 33 16777215) ?_
            refine pureUh 24 (some 56) (bA 33 33554431) ?_
            refine pureUh 25 (some 57) (bA 33 67108863) ?_
            refine pureUh 26 (some 58) (bA 33 134217727) ?_
            refine pureUh 27 (some 59) (bA 33 268435455) ?_
            refine pureUh 28 (some 60) (bA 33 536870911) ?_
            refine pureUh 29 (some 61) (bA 33 1073741823) ?_
            refine pureUh 30 (some 62) (bA 33 2147483647) ?_
            refine pureUh 31 (some 63) (bA 33 4294967295) ?_
            refine pureTk 32 (some 64) (bA 33 8589934591) ?_
            refine done_ (by kernel_rfl) ?_
            go_wp2
            go_ret
            exact ⟨by rw [HNO.out (0 ≤ (rd_T49 l0_1 (kk : Int)).f0 ∧ (rd_T49 l0_1 (kk : Int)).f0 ≤ 2) (fun h => h.1) h1]; rfl, by repeat (first | exact HB.out | apply pw_below_drewN | apply below_drew1)⟩
        · have hltb := eq_false hlt
          have hall : ∀ j, j < l0_1.length → okS_ l0_1 j := fun j hj => HA.out j (by have := HK.out; omega)
          have HALL := Aside0.mk hall
          clear hall HA
          go_wp2
          go_ret
          have hfin : ((l0_0.length : Int) == 3) = V := by
            rw [← HV.out, Bool.eq_iff_iff, beq_iff_eq, decide_eq_true_eq]
            exact ⟨fun h => ⟨by omega, HO.out, HALL.out⟩, fun h => by have := h.1; omega⟩
          rw [hfin]
          exact ⟨rfl, HB.out⟩


/-! ### spec_IsValidOp: function 45 -/
def spec_IsValidOp.f (a0_0 : Int) (a0_1 : Int) (a0_2 : Int) (a0_3 : Int) (a0_4 : Int) (a0_5 : Int) : Option (Bool) := (spec_l1In.f a0_0 0 2).bind fun t153 => (if t153 = true then ((spec_l1In.f a0_1 1 99).bind fun t154 => (if t154 = true then ((spec_l1In.f a0_3 0 2).bind fun t155 => (if t155 = true then ((spec_l1In.f a0_5 0 9).bind fun t156 => (if t156 = true then (if a0_2 = 1 then (if a0_4 = 0 then (some true) else (if a0_2 = 2 then ((spec_l1In.f a0_4 0 9).bind fun t157 => (some t157)) else (some false))) else (if a0_2 = 2 then ((spec_l1In.f a0_4 0 9).bind fun t158 => (some t158)) else (some false))) else (some false))) else (some false))) else (some false))) else (some false))
set_option maxHeartbeats 8000000 in
set_option maxRecDepth 100000 in
theorem spec_IsValidOp.calls (a0_0 : Int) (a0_1 : Int) (a0_2 : Int) (a0_3 : Int) (a0_4 : Int) (a0_5 : Int) (r : Bool) (w : World) (h : spec_IsValidOp.f a0_0 a0_1 a0_2 a0_3 a0_4 a0_5 = some r) :
    Calls Try.prog 45 #[.agg #[.int .i64 a0_0, .int .i64 a0_1, .int .i64 a0_2, .int .i64 a0_3, .int .i64 a0_4, .int .i64 a0_5]] w fun e w' => e = .returned (.bool r) ∧ Below w.heap.size w w' := by
  have hu37 := Try.underlying37
  have HB := Aside0.mk (Below.refl w.heap.size w)
  have H : ((spec_l1In.f a0_0 0 2).bind fun t153 => (if t153 = true then ((spec_l1In.f a0_1 1 99).bind fun t154 => (if t154 = true then ((spec_l1In.f a0_3 0 2).bind fun t155 => (if t155 = true then ((spec_l1In.f a0_5 0 9).bind fun t156 => (if t156 = true then (if a0_2 = 1 then (if a0_4 = 0 then (some true) else (if a0_2 = 2 then ((spec_l1In.f a0_4 0 9).bind fun t157 => (some t157)) else (some false))) else (if a0_2 = 2 then ((spec_l1In.f a0_4 0 9).bind fun t158 => (some t158)) else (some false))) else (some false))) else (some false))) else (some false))) else (some false))) = some r := h
  clear h
  replace H := Option.bind_eq_some_iff.mp H
  obtain ⟨t153, A20, H⟩ := H
  try dsimp only at H
  have A2 := Aside0.mk A20
  clear A20
  go_enter Try.func45, Try.ntmps45
  go_wp2_with (first | ((with_reducible refine gate_dst (N := 1) rfl ?_); refine bxe 1 #[.int .i64 a0_0, .int .i64 a0_1, .int .i64 a0_2, .int .i64 a0_3, .int .i64 a0_4, .int .i64 a0_5] 37 ?_; intro gb152 hg w32 hbox hb; have BK152 := Aside0.mk (hbox); have GW152 := tGe HB hg; have GE152 := tGe HB hg; replace HB := tBel HB hb; clear hb hbox hg; obtain ⟨hcz33_0, hcz33_1, hcz33_2, hcz33_3, hcz33_4, hcz33_5, hfz33_0, hfz33_1, hfz33_2, hfz33_3, hfz33_4, hfz33_5⟩ := cz6 BK152; refine ?roundEnd))
  case roundEnd =>
  by_cases c3 : t153 = true
  rotate_left
  · replace c3 := Bool.eq_false_iff.mpr c3
    subst c3
    try rw [if_neg (show ¬ (false = true) by decide)] at H
    obtain rfl := Option.some.inj H
    go_wp2_with (first | ((with_reducible refine gate_callee (f := 66) rfl ?_); refine goesM (some 5) Try.func66 #[.int .i64 a0_0, .int .i64 0, .int .i64 2] ?_; (with_reducible refine (spec_l1In.calls a0_0 0 2 false _ A2.out).mono ?_); rintro e w' ⟨rfl, ⟨nd, rfl⟩⟩; refine ⟨_, rfl, ?_⟩))
    go_ret
    exact ⟨cq1, cq0⟩
  subst c3
  try rw [if_pos rfl] at H
  replace H := Option.bind_eq_some_iff.mp H
  obtain ⟨t154, A40, H⟩ := H
  try dsimp only at H
  have A4 := Aside0.mk A40
  clear A40
  go_wp2_with (first | ((with_reducible refine gate_callee (f := 66) rfl ?_); refine goesM (some 5) Try.func66 #[.int .i64 a0_0, .int .i64 0, .int .i64 2] ?_; (with_reducible refine (spec_l1In.calls a0_0 0 2 true _ A2.out).mono ?_); rintro e w' ⟨rfl, ⟨nd, rfl⟩⟩; refine ⟨_, rfl, ?_⟩; refine ?roundEnd))
  case roundEnd =>
  by_cases c5 : t154 = true
  rotate_left
  · replace c5 := Bool.eq_false_iff.mpr c5
    subst c5
    try rw [if_neg (show ¬ (false = true) by decide)] at H
    obtain rfl := Option.some.inj H
    go_wp2_with (first | (go_at_call 66; (with_reducible refine (spec_l1In.calls a0_1 1 99 false _ A4.out).mono ?_); rintro e w' ⟨rfl, ⟨nd, rfl⟩⟩))
    go_ret
    exact ⟨cq1, cq0⟩
  subst c5
  try rw [if_pos rfl] at H
  replace H := Option.bind_eq_some_iff.mp H
  obtain ⟨t155, A60, H⟩ := H
  try dsimp only at H
  have A6 := Aside0.mk A60
  clear A60
  go_wp2_with (first | (go_at_call 66; (with_reducible refine (spec_l1In.calls a0_1 1 99 true _ A4.out).mono ?_); rintro e w' ⟨rfl, ⟨nd, rfl⟩⟩; refine ?roundEnd))
  case roundEnd =>
  by_cases c7 : t155 = true
  rotate_left
  · replace c7 := Bool.eq_false_iff.mpr c7
    subst c7
    try rw [if_neg (show ¬ (false = true) by decide)] at H
    obtain rfl := Option.some.inj H
    go_wp2_with (first | (go_at_call 66; (with_reducible refine (spec_l1In.calls a0_3 0 2 false _ A6.out).mono ?_); rintro e w' ⟨rfl, ⟨nd, rfl⟩⟩))
    go_ret
    exact ⟨cq1, cq0⟩
  subst c7
  try rw [if_pos rfl] at H
  replace H := Option.bind_eq_some_iff.mp H
  obtain ⟨t156, A80, H⟩ := H
  try dsimp only at H
  have A8 := Aside0.mk A80
  clear A80
  go_wp2_with (first | (go_at_call 66; (with_reducible refine (spec_l1In.calls a0_3 0 2 true _ A6.out).mono ?_); rintro e w' ⟨rfl, ⟨nd, rfl⟩⟩; refine ?roundEnd))
  case roundEnd =>
  by_cases c9 : t156 = true
  rotate_left
  · replace c9 := Bool.eq_false_iff.mpr c9
    subst c9
    try rw [if_neg (show ¬ (false = true) by decide)] at H
    obtain rfl := Option.some.inj H
    go_wp2_with (first | (go_at_call 66; (with_reducible refine (spec_l1In.calls a0_5 0 9 false _ A8.out).mono ?_); rintro e w' ⟨rfl, ⟨nd, rfl⟩⟩))
    go_ret
    exact ⟨cq1, cq0⟩
  subst c9
  try rw [if_pos rfl] at H
  go_wp2_with (first | (go_at_call 66; (with_reducible refine (spec_l1In.calls a0_5 0 9 true _ A8.out).mono ?_); rintro e w' ⟨rfl, ⟨nd, rfl⟩⟩; refine ?roundEnd))
  case roundEnd =>
  by_cases c10 : a0_2 = 1
  rotate_left
  · rw [if_neg c10] at H
    have c10b0 := beq_eq_false_iff_ne.mpr c10
    have c10b1 := bne_iff_ne.mpr c10
    by_cases c20 : a0_2 = 2
    rotate_left
    · rw [if_neg c20] at H
      have c20b0 := beq_eq_false_iff_ne.mpr c20
      have c20b1 := bne_iff_ne.mpr c20
      obtain rfl := Option.some.inj H
      go_wp2
      go_ret
      exact ⟨cq1, cq0⟩
    rw [if_pos c20] at H
    have c20b0 := beq_iff_eq.mpr c20
    have c20b1 := bne_eq_false_iff_eq.mpr c20
    clear c20
    replace H := Option.bind_eq_some_iff.mp H
    obtain ⟨t158, A210, H⟩ := H
    try dsimp only at H
    have A21 := Aside0.mk A210
    clear A210
    obtain rfl := Option.some.inj H
    go_wp2_with (first | (go_at_call 66; (with_reducible refine (spec_l1In.calls a0_4 0 9 t158 _ A21.out).mono ?_); rintro e w' ⟨rfl, ⟨nd, rfl⟩⟩))
    go_ret
    exact ⟨cq1, cq0⟩
  rw [if_pos c10] at H
  have c10b0 := beq_iff_eq.mpr c10
  have c10b1 := bne_eq_false_iff_eq.mpr c10
  clear c10
  by_cases c11 : a0_4 = 0
  · rw [if_pos c11] at H
    have c11b0 := beq_iff_eq.mpr c11
    have c11b1 := bne_eq_false_iff_eq.mpr c11
    clear c11
    obtain rfl := Option.some.inj H
    go_wp2
    go_ret
    exact ⟨cq1, cq0⟩
  rw [if_neg c11] at H
  have c11b0 := beq_eq_false_iff_ne.mpr c11
  have c11b1 := bne_iff_ne.mpr c11
  by_cases c14 : a0_2 = 2
  rotate_left
  · rw [if_neg c14] at H
    have c14b0 := beq_eq_false_iff_ne.mpr c14
    have c14b1 := bne_iff_ne.mpr c14
    obtain rfl := Option.some.inj H
    go_wp2
    go_ret
    exact ⟨cq1, cq0⟩
  rw [if_pos c14] at H
  have c14b0 := beq_iff_eq.mpr c14
  have c14b1 := bne_eq_false_iff_eq.mpr c14
  clear c14
  replace H := Option.bind_eq_some_iff.mp H
  obtain ⟨t157, A150, H⟩ := H
  try dsimp only at H
  have A15 := Aside0.mk A150
  clear A150
  obtain rfl := Option.some.inj H
  go_wp2_with (first | (go_at_call 66; (with_reducible refine (spec_l1In.calls a0_4 0 9 t157 _ A15.out).mono ?_); rintro e w' ⟨rfl, ⟨nd, rfl⟩⟩))
  go_ret
  exact ⟨cq1, cq0⟩

end Go.Proofs.Ytcikahnmiiichaa.A
