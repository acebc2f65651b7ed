/- For every list the law FnExactAreServers returns true; no conditions. -/
import Derived.Test.YtcnfpepnjjijlaaQFnExactAreServers
import Derived.Test.YtcnfpepnjjijlaaCom
set_option linter.unusedVariables false
set_option linter.unusedSimpArgs false
namespace Go.Proofs.Ytcnfpepnjjijlaa.Pure
open Go.RowKit Go.Proofs.Ytcnfpepnjjijlaa.B Go.Proofs.YtcnfpepnjjijlaaW.PrintWords Go.Proofs.YtcnfpepnjjijlaaW.PrintLast
open Go.Proofs.Ytcnfpepnjjijlaa.Opens
open Go.Proofs.Ytcnfpepnjjijlaa.Com

theorem laws_toIntS.ev (xs : List Int) (hn : xs.length ≤ 35184372088832) : Ev (fun k => laws_toIntS.f k xs) xs := by
  have key : ∀ (d i : Nat) (ys : List Int), i + d = xs.length → ys.length = xs.length → ys.take i = xs.take i → Ev (fun k => laws_toIntS.l0 k xs ys (i : Int)) xs := by
    intro d
    induction d with
    | zero =>
      intro i ys h1 h2 h3
      refine ev_shift ?_
      simp only [laws_toIntS.l0, if_neg (show ¬ ((i : Int) < (xs.length : Int)) by omega)]
      refine ev_some ?_
      rw [List.take_of_length_le (by omega), List.take_of_length_le (by omega)] at h3
      exact h3
    | succ d ih =>
      intro i ys h1 h2 h3
      refine ev_shift ?_
      simp only [laws_toIntS.l0, if_pos (show (i : Int) < (xs.length : Int) by omega), if_pos (show (0 : Int) ≤ (i : Int) by omega), if_pos (show (i : Int) < (ys.length : Int) by omega),
        w64 (show -9223372036854775808 ≤ (i : Int) + 1 by omega) (by omega), Int.toNat_natCast, rd_get xs i (by omega)]
      have := ih (i + 1) (ys.set i xs[i]) (by omega) (by simpa using h2) (by
        rw [List.take_succ_eq_append_getElem (by simp; omega), List.take_succ_eq_append_getElem (show i < xs.length by omega), List.take_set_of_le (Nat.le_refl _), h3]
        simp)
      simpa using this
  have h0 := key xs.length 0 (List.replicate xs.length 0) (by omega) (by simp) (by simp)
  refine Ev.congr (fun k => ?_) h0
  simp only [laws_toIntS.f, if_pos (show (0 : Int) ≤ (xs.length : Int) by omega), Int.toNat_natCast, if_pos hn]
  rfl

theorem laws_eqIntS.ev (xs ys : List Int) (hn : xs.length ≤ 9223372036854775806) : ∃ b, Ev (fun k => laws_eqIntS.f k xs ys) b ∧ (b = true ↔ xs = ys) := by
  by_cases hl : xs.length = ys.length
  · obtain ⟨b, hb, hq⟩ := all_loop (fun k i => laws_eqIntS.l0 k xs ys i) (fun i => rd xs (i : Int) = rd ys (i : Int)) xs.length
      (fun k => by simp only [laws_eqIntS.l0, if_neg (show ¬ ((xs.length : Int) < (xs.length : Int)) by omega)])
      (fun i hi => by
        by_cases h : rd xs (i : Int) = rd ys (i : Int)
        · exact .inl ⟨h, 0, fun k _ => by simp only [laws_eqIntS.l0, if_pos (show (i : Int) < (xs.length : Int) by omega), if_pos (show (0 : Int) ≤ (i : Int) by omega), if_pos (show (i : Int) < (ys.length : Int) by omega), if_pos h, w64 (show -9223372036854775808 ≤ (i : Int) + 1 by omega) (by omega)]⟩
        · exact .inr ⟨h, 0, fun k _ => by simp only [laws_eqIntS.l0, if_pos (show (i : Int) < (xs.length : Int) by omega), if_pos (show (0 : Int) ≤ (i : Int) by omega), if_pos (show (i : Int) < (ys.length : Int) by omega), if_neg h]⟩)
      xs.length 0 (by omega)
    refine ⟨b, ?_, hq.trans ?_⟩
    · refine Ev.congr (fun k => ?_) hb
      simp only [laws_eqIntS.f, if_pos (show (xs.length : Int) = (ys.length : Int) by omega)]
      rfl
    · constructor
      · intro h
        refine List.ext_getElem hl (fun i h1 h2 => ?_)
        have := h i (by omega) h1
        rwa [rd_get xs i h1, rd_get ys i h2] at this
      · intro h; subst h; intro j _ _; rfl
  · refine ⟨false, ev_val (fun k => ?_), ?_⟩
    · simp only [laws_eqIntS.f, if_neg (show ¬ ((xs.length : Int) = (ys.length : Int)) by omega)]
    · constructor
      · intro h; cases h
      · intro h; subst h; exact absurd rfl hl
theorem laws_eqIntS.same (xs : List Int) (hn : xs.length ≤ 9223372036854775806) : Ev (fun k => laws_eqIntS.f k xs xs) true := by
  obtain ⟨b, hb, hq⟩ := laws_eqIntS.ev xs xs hn
  exact ev_eq hb (hq.2 rfl)

theorem spec_l1In.val (a b c : Int) : spec_l1In.f a b c = some (decide (b ≤ a ∧ a ≤ c)) := by
  unfold spec_l1In.f
  by_cases h : b ≤ a <;> simp [h]

theorem spec_AreServers.ev (xs : List Int) (hn : xs.length ≤ 9223372036854775806) :
    ∃ b, Ev (fun k => spec_AreServers.f k xs) b ∧ (b = true ↔ ∀ j : Nat, j < xs.length → (0 ≤ rd xs (j : Int) ∧ rd xs (j : Int) ≤ 4) ∧ (0 < j → rd xs ((j : Int) - 1) < rd xs (j : Int))) := by
  obtain ⟨b, hb, hq⟩ := all_loop (fun k i => spec_AreServers.l0 k xs i) (fun j => (0 ≤ rd xs (j : Int) ∧ rd xs (j : Int) ≤ 4) ∧ (0 < j → rd xs ((j : Int) - 1) < rd xs (j : Int))) xs.length
    (fun k => by simp only [spec_AreServers.l0, if_neg (show ¬ ((xs.length : Int) < (xs.length : Int)) by omega)])
    (fun i hi => by
      have e1 := w64 (show -9223372036854775808 ≤ (i : Int) + 1 by omega) (by omega)
      have e2 := w64 (show -9223372036854775808 ≤ (i : Int) - 1 by omega) (by omega)
      by_cases h : 0 ≤ rd xs (i : Int) ∧ rd xs (i : Int) ≤ 4
      · by_cases h0 : 0 < i
        · by_cases h2 : rd xs ((i : Int) - 1) < rd xs (i : Int)
          · exact .inl ⟨⟨h, fun _ => h2⟩, 0, fun k _ => by simp only [spec_AreServers.l0, if_pos (show (i : Int) < (xs.length : Int) by omega), if_pos (show (0 : Int) ≤ (i : Int) by omega), spec_l1In.val, Option.bind_some, decide_eq_true h, if_true, e1, e2, if_pos (show (i : Int) > 0 by omega), if_pos (show (0 : Int) ≤ (i : Int) - 1 by omega), if_pos (show (i : Int) - 1 < (xs.length : Int) by omega), if_neg (show ¬ (rd xs ((i : Int) - 1) ≥ rd xs (i : Int)) by omega)]⟩
          · exact .inr ⟨fun hh => h2 (hh.2 h0), 0, fun k _ => by simp only [spec_AreServers.l0, if_pos (show (i : Int) < (xs.length : Int) by omega), if_pos (show (0 : Int) ≤ (i : Int) by omega), spec_l1In.val, Option.bind_some, decide_eq_true h, if_true, e1, e2, if_pos (show (i : Int) > 0 by omega), if_pos (show (0 : Int) ≤ (i : Int) - 1 by omega), if_pos (show (i : Int) - 1 < (xs.length : Int) by omega), if_pos (show rd xs ((i : Int) - 1) ≥ rd xs (i : Int) by omega)]⟩
        · exact .inl ⟨⟨h, fun h1 => absurd h1 h0⟩, 0, fun k _ => by simp only [spec_AreServers.l0, if_pos (show (i : Int) < (xs.length : Int) by omega), if_pos (show (0 : Int) ≤ (i : Int) by omega), spec_l1In.val, Option.bind_some, decide_eq_true h, if_true, e1, e2, if_neg (show ¬ ((i : Int) > 0) by omega)]⟩
      · exact .inr ⟨fun hh => h hh.1, 0, fun k _ => by simp only [spec_AreServers.l0, if_pos (show (i : Int) < (xs.length : Int) by omega), if_pos (show (0 : Int) ≤ (i : Int) by omega), spec_l1In.val, Option.bind_some, decide_eq_false h, if_neg (show ¬ (false = true) by decide)]⟩)
    xs.length 0 (by omega)
  exact ⟨b, hb, hq.trans ⟨fun h j hj => h j (by omega) hj, fun h j _ hj => h j hj⟩⟩

theorem impl_within.val (a b c : Int) : impl_within.f a b c = some (decide (b ≤ a ∧ a ≤ c)) := by
  unfold impl_within.f
  by_cases h : b ≤ a <;> simp [h]

theorem impl_AreServers.ev (xs : List Int) (hn : xs.length ≤ 9223372036854775806) :
    ∃ b, Ev (fun k => impl_AreServers.f k xs) b ∧ (b = true ↔ ∀ j : Nat, j < xs.length → (0 ≤ rd xs (j : Int) ∧ rd xs (j : Int) ≤ 4) ∧ (0 < j → rd xs ((j : Int) - 1) < rd xs (j : Int))) := by
  obtain ⟨b, hb, hq⟩ := all_loop (fun k i => impl_AreServers.l0 k xs xs (xs.length : Int) i) (fun j => (0 ≤ rd xs (j : Int) ∧ rd xs (j : Int) ≤ 4) ∧ (0 < j → rd xs ((j : Int) - 1) < rd xs (j : Int))) xs.length
    (fun k => by simp only [impl_AreServers.l0, if_neg (show ¬ ((xs.length : Int) < (xs.length : Int)) by omega)])
    (fun i hi => by
      have e1 := w64 (show -9223372036854775808 ≤ (i : Int) + 1 by omega) (by omega)
      have e2 := w64 (show -9223372036854775808 ≤ (i : Int) - 1 by omega) (by omega)
      by_cases h : 0 ≤ rd xs (i : Int) ∧ rd xs (i : Int) ≤ 4
      · by_cases h0 : 0 < i
        · by_cases h2 : rd xs ((i : Int) - 1) < rd xs (i : Int)
          · exact .inl ⟨⟨h, fun _ => h2⟩, 0, fun k _ => by simp only [impl_AreServers.l0, if_pos (show (i : Int) < (xs.length : Int) by omega), if_pos (show (0 : Int) ≤ (i : Int) by omega), impl_within.val, Option.bind_some, decide_eq_true h, if_true, e1, e2, if_pos (show (i : Int) > 0 by omega), if_pos (show (0 : Int) ≤ (i : Int) - 1 by omega), if_pos (show (i : Int) - 1 < (xs.length : Int) by omega), if_neg (show ¬ (rd xs (i : Int) ≤ rd xs ((i : Int) - 1)) by omega)]⟩
          · exact .inr ⟨fun hh => h2 (hh.2 h0), 0, fun k _ => by simp only [impl_AreServers.l0, if_pos (show (i : Int) < (xs.length : Int) by omega), if_pos (show (0 : Int) ≤ (i : Int) by omega), impl_within.val, Option.bind_some, decide_eq_true h, if_true, e1, e2, if_pos (show (i : Int) > 0 by omega), if_pos (show (0 : Int) ≤ (i : Int) - 1 by omega), if_pos (show (i : Int) - 1 < (xs.length : Int) by omega), if_pos (show rd xs (i : Int) ≤ rd xs ((i : Int) - 1) by omega)]⟩
        · exact .inl ⟨⟨h, fun h1 => absurd h1 h0⟩, 0, fun k _ => by simp only [impl_AreServers.l0, if_pos (show (i : Int) < (xs.length : Int) by omega), if_pos (show (0 : Int) ≤ (i : Int) by omega), impl_within.val, Option.bind_some, decide_eq_true h, if_true, e1, e2, if_neg (show ¬ ((i : Int) > 0) by omega)]⟩
      · exact .inr ⟨fun hh => h hh.1, 0, fun k _ => by simp only [impl_AreServers.l0, if_pos (show (i : Int) < (xs.length : Int) by omega), if_pos (show (0 : Int) ≤ (i : Int) by omega), impl_within.val, Option.bind_some, decide_eq_false h, if_neg (show ¬ (false = true) by decide)]⟩)
    xs.length 0 (by omega)
  exact ⟨b, hb, hq.trans ⟨fun h j hj => h j (by omega) hj, fun h j _ hj => h j hj⟩⟩

theorem FnExactAreServers : FnExactAreServersPure := by
  intro l h1 h2 h3
  refine Ev.rounds (g := fun k => laws_FnExactAreServers.f k l) ?_
  by_cases hb : (l.length : Int) > 1048576
  · simp only [laws_FnExactAreServers.f, if_pos hb]; exact Ev.now _
  · simp only [laws_FnExactAreServers.f, if_neg hb]
    have hT := laws_toIntS.ev l (by omega)
    obtain ⟨b, hb1, hq1⟩ := spec_AreServers.ev l (by omega)
    obtain ⟨c, hc1, hq2⟩ := impl_AreServers.ev l (by omega)
    obtain rfl : c = b := by rw [Bool.eq_iff_iff, hq1, hq2]
    refine Ev.bind hT (Ev.bind hb1 (Ev.bind hT (Ev.bind hc1 ?_)))
    simp only [bne_self_eq_false, Bool.false_eq_true, if_false]
    refine Ev.bind hT (Ev.bind (laws_eqIntS.same l (by omega)) ?_)
    exact ev_val (fun _ => by simp)

end Go.Proofs.Ytcnfpepnjjijlaa.Pure
