/- For every two lists the law FnExactEqualServers returns true; no conditions. -/
import Derived.Test.YtgannaafabhopaaQFnExactEqualServers
import Derived.Test.YtgannaafabhopaaCom
set_option linter.unusedVariables false
set_option linter.unusedSimpArgs false
namespace Go.Proofs.Ytgannaafabhopaa.Pure
open Go.RowKit Go.Proofs.Ytgannaafabhopaa.A Go.Proofs.YtgannaafabhopaaW.PrintWords Go.Proofs.YtgannaafabhopaaW.PrintLast
open Go.Proofs.Ytgannaafabhopaa.Opens
open Go.Proofs.Ytgannaafabhopaa.Com

theorem spec_EqualServers.ev (xs ys : List Int) (hn : xs.length ≤ 9223372036854775806) : ∃ b, Ev (fun k => spec_EqualServers.f k xs ys) b ∧ (b = true ↔ xs = ys) := by
  by_cases hl : xs.length = ys.length
  · obtain ⟨b, hb, hq⟩ := eq_loop (fun k i => spec_EqualServers.l0 k xs ys i) xs ys hl
      (fun k => by simp only [spec_EqualServers.l0, if_neg (show ¬ ((xs.length : Int) < (xs.length : Int)) by omega)])
      (fun i h1 h2 => by
        by_cases h : xs[i] = ys[i]
        · exact .inl ⟨h, 0, fun k _ => by simp only [spec_EqualServers.l0, if_pos (show (i : Int) < (xs.length : Int) by omega), if_pos (show (0 : Int) ≤ (i : Int) by omega), if_pos (show (i : Int) < (ys.length : Int) by omega), rd_get xs i h1, rd_get ys i h2, if_pos h, w64 (show -9223372036854775808 ≤ (i : Int) + 1 by omega) (by omega)]⟩
        · exact .inr ⟨h, 0, fun k _ => by simp only [spec_EqualServers.l0, if_pos (show (i : Int) < (xs.length : Int) by omega), if_pos (show (0 : Int) ≤ (i : Int) by omega), if_pos (show (i : Int) < (ys.length : Int) by omega), rd_get xs i h1, rd_get ys i h2, if_neg h]⟩)
    refine ⟨b, ?_, hq⟩
    refine Ev.congr (fun k => ?_) hb
    simp only [spec_EqualServers.f, if_pos (show (xs.length : Int) = (ys.length : Int) by omega)]
  · refine ⟨false, ev_val (fun k => ?_), ?_⟩
    · simp only [spec_EqualServers.f, if_neg (show ¬ ((xs.length : Int) = (ys.length : Int)) by omega)]
    · constructor
      · intro h; cases h
      · intro h; subst h; exact absurd rfl hl

theorem laws_toIntS.ev (xs : List Int) (hn : xs.length ≤ 35184372088832) : Ev (fun k => laws_toIntS.f k xs) xs := by
  have key : ∀ (d i : Nat) (ys : List Int), i + d = xs.length → ys.length = xs.length → ys.take i = xs.take i → Ev (fun k => laws_toIntS.l0 k xs ys (i : Int)) xs := by
    intro d
    induction d with
    | zero =>
      intro i ys h1 h2 h3
      refine ev_shift ?_
      simp only [laws_toIntS.l0, if_neg (show ¬ ((i : Int) < (xs.length : Int)) by omega)]
      refine ev_some ?_
      rw [List.take_of_length_le (by omega), List.take_of_length_le (by omega)] at h3
      exact h3
    | succ d ih =>
      intro i ys h1 h2 h3
      refine ev_shift ?_
      simp only [laws_toIntS.l0, if_pos (show (i : Int) < (xs.length : Int) by omega), if_pos (show (0 : Int) ≤ (i : Int) by omega), if_pos (show (i : Int) < (ys.length : Int) by omega),
        w64 (show -9223372036854775808 ≤ (i : Int) + 1 by omega) (by omega), Int.toNat_natCast, rd_get xs i (by omega)]
      have := ih (i + 1) (ys.set i xs[i]) (by omega) (by simpa using h2) (by
        rw [List.take_succ_eq_append_getElem (by simp; omega), List.take_succ_eq_append_getElem (show i < xs.length by omega), List.take_set_of_le (Nat.le_refl _), h3]
        simp)
      simpa using this
  have h0 := key xs.length 0 (List.replicate xs.length 0) (by omega) (by simp) (by simp)
  refine Ev.congr (fun k => ?_) h0
  simp only [laws_toIntS.f, if_pos (show (0 : Int) ≤ (xs.length : Int) by omega), Int.toNat_natCast, if_pos hn]
  rfl

theorem slices_Equal_int_int.ev (xs ys : List Int) (hn : xs.length ≤ 9223372036854775806) : ∃ b, Ev (fun k => slices_Equal_int_int.f k xs ys) b ∧ (b = true ↔ xs = ys) := by
  by_cases hl : xs.length = ys.length
  · obtain ⟨b, hb, hq⟩ := eq_loop (fun k i => slices_Equal_int_int.l0 k xs ys (xs.length : Int) i) xs ys hl
      (fun k => by simp only [slices_Equal_int_int.l0, if_neg (show ¬ ((xs.length : Int) < (xs.length : Int)) by omega)])
      (fun i h1 h2 => by
        by_cases h : xs[i] = ys[i]
        · exact .inl ⟨h, 0, fun k _ => by simp only [slices_Equal_int_int.l0, if_pos (show (i : Int) < (xs.length : Int) by omega), if_pos (show (0 : Int) ≤ (i : Int) by omega), if_pos (show (i : Int) < (ys.length : Int) by omega), rd_get xs i h1, rd_get ys i h2, if_pos h, w64 (show -9223372036854775808 ≤ (i : Int) + 1 by omega) (by omega)]⟩
        · exact .inr ⟨h, 0, fun k _ => by simp only [slices_Equal_int_int.l0, if_pos (show (i : Int) < (xs.length : Int) by omega), if_pos (show (0 : Int) ≤ (i : Int) by omega), if_pos (show (i : Int) < (ys.length : Int) by omega), rd_get xs i h1, rd_get ys i h2, if_neg h]⟩)
    refine ⟨b, ?_, hq⟩
    refine Ev.congr (fun k => ?_) hb
    simp only [slices_Equal_int_int.f, if_pos (show (xs.length : Int) = (ys.length : Int) by omega)]
  · refine ⟨false, ev_val (fun k => ?_), ?_⟩
    · simp only [slices_Equal_int_int.f, if_neg (show ¬ ((xs.length : Int) = (ys.length : Int)) by omega)]
    · constructor
      · intro h; cases h
      · intro h; subst h; exact absurd rfl hl

theorem impl_EqualServers.ev (xs ys : List Int) (hn : xs.length ≤ 9223372036854775806) : ∃ b, Ev (fun k => impl_EqualServers.f k xs ys) b ∧ (b = true ↔ xs = ys) := by
  obtain ⟨b, hb, hq⟩ := slices_Equal_int_int.ev xs ys hn
  exact ⟨b, Ev.bind hb (Ev.now _), hq⟩

theorem laws_eqIntS.ev (xs ys : List Int) (hn : xs.length ≤ 9223372036854775806) : ∃ b, Ev (fun k => laws_eqIntS.f k xs ys) b ∧ (b = true ↔ xs = ys) := by
  by_cases hl : xs.length = ys.length
  · obtain ⟨b, hb, hq⟩ := all_loop (fun k i => laws_eqIntS.l0 k xs ys i) (fun i => rd xs (i : Int) = rd ys (i : Int)) xs.length
      (fun k => by simp only [laws_eqIntS.l0, if_neg (show ¬ ((xs.length : Int) < (xs.length : Int)) by omega)])
      (fun i hi => by
        by_cases h : rd xs (i : Int) = rd ys (i : Int)
        · exact .inl ⟨h, 0, fun k _ => by simp only [laws_eqIntS.l0, if_pos (show (i : Int) < (xs.length : Int) by omega), if_pos (show (0 : Int) ≤ (i : Int) by omega), if_pos (show (i : Int) < (ys.length : Int) by omega), if_pos h, w64 (show -9223372036854775808 ≤ (i : Int) + 1 by omega) (by omega)]⟩
        · exact .inr ⟨h, 0, fun k _ => by simp only [laws_eqIntS.l0, if_pos (show (i : Int) < (xs.length : Int) by omega), if_pos (show (0 : Int) ≤ (i : Int) by omega), if_pos (show (i : Int) < (ys.length : Int) by omega), if_neg h]⟩)
      xs.length 0 (by omega)
    refine ⟨b, ?_, hq.trans ?_⟩
    · refine Ev.congr (fun k => ?_) hb
      simp only [laws_eqIntS.f, if_pos (show (xs.length : Int) = (ys.length : Int) by omega)]
      rfl
    · constructor
      · intro h
        refine List.ext_getElem hl (fun i h1 h2 => ?_)
        have := h i (by omega) h1
        rwa [rd_get xs i h1, rd_get ys i h2] at this
      · intro h; subst h; intro j _ _; rfl
  · refine ⟨false, ev_val (fun k => ?_), ?_⟩
    · simp only [laws_eqIntS.f, if_neg (show ¬ ((xs.length : Int) = (ys.length : Int)) by omega)]
    · constructor
      · intro h; cases h
      · intro h; subst h; exact absurd rfl hl
theorem laws_eqIntS.same (xs : List Int) (hn : xs.length ≤ 9223372036854775806) : Ev (fun k => laws_eqIntS.f k xs xs) true := by
  obtain ⟨b, hb, hq⟩ := laws_eqIntS.ev xs xs hn
  exact ev_eq hb (hq.2 rfl)

theorem FnExactEqualServers : FnExactEqualServersPure := by
  intro l m h1 h2 h3 h4 h5 h6
  refine Ev.rounds (g := fun k => laws_FnExactEqualServers.f k l m) ?_
  by_cases hb : (l.length : Int) > 1048576
  · simp only [laws_FnExactEqualServers.f, if_pos hb]; exact Ev.now _
  · by_cases hc : (m.length : Int) > 1048576
    · simp only [laws_FnExactEqualServers.f, if_neg hb, if_pos hc]; exact Ev.now _
    · simp only [laws_FnExactEqualServers.f, if_neg hb, if_neg hc]
      have hT := laws_toIntS.ev l (by omega)
      have hU := laws_toIntS.ev m (by omega)
      obtain ⟨b, hb1, hq1⟩ := spec_EqualServers.ev l m (by omega)
      obtain ⟨c, hc1, hq2⟩ := impl_EqualServers.ev l m (by omega)
      obtain rfl : c = b := by rw [Bool.eq_iff_iff, hq1, hq2]
      refine Ev.bind hT (Ev.bind hU (Ev.bind hb1 (Ev.bind hT (Ev.bind hU (Ev.bind hc1 ?_)))))
      simp only [bne_self_eq_false, Bool.false_eq_true, if_false]
      refine Ev.bind hT (Ev.bind (laws_eqIntS.same l (by omega)) ?_)
      simp only [if_true]
      refine Ev.bind hU (Ev.bind (laws_eqIntS.same m (by omega)) ?_)
      exact ev_val (fun _ => by simp)

end Go.Proofs.Ytgannaafabhopaa.Pure
