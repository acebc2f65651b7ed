/- For every two lists the law FnExactFirstDifference returns true; no conditions. -/
import Derived.Test.YtcnfpepnjjijlaaQFnExactFirstDifference
import Derived.Test.YtcnfpepnjjijlaaCom
set_option linter.unusedVariables false
set_option linter.unusedSimpArgs false
namespace Go.Proofs.Ytcnfpepnjjijlaa.Pure
open Go.RowKit Go.Proofs.Ytcnfpepnjjijlaa.B Go.Proofs.YtcnfpepnjjijlaaW.PrintWords Go.Proofs.YtcnfpepnjjijlaaW.PrintLast
open Go.Proofs.Ytcnfpepnjjijlaa.Opens
open Go.Proofs.Ytcnfpepnjjijlaa.Com

theorem laws_toIntS.ev (xs : List Int) (hn : xs.length ≤ 35184372088832) : Ev (fun k => laws_toIntS.f k xs) xs := by
  have key : ∀ (d i : Nat) (ys : List Int), i + d = xs.length → ys.length = xs.length → ys.take i = xs.take i → Ev (fun k => laws_toIntS.l0 k xs ys (i : Int)) xs := by
    intro d
    induction d with
    | zero =>
      intro i ys h1 h2 h3
      refine ev_shift ?_
      simp only [laws_toIntS.l0, if_neg (show ¬ ((i : Int) < (xs.length : Int)) by omega)]
      refine ev_some ?_
      rw [List.take_of_length_le (by omega), List.take_of_length_le (by omega)] at h3
      exact h3
    | succ d ih =>
      intro i ys h1 h2 h3
      refine ev_shift ?_
      simp only [laws_toIntS.l0, if_pos (show (i : Int) < (xs.length : Int) by omega), if_pos (show (0 : Int) ≤ (i : Int) by omega), if_pos (show (i : Int) < (ys.length : Int) by omega),
        w64 (show -9223372036854775808 ≤ (i : Int) + 1 by omega) (by omega), Int.toNat_natCast, rd_get xs i (by omega)]
      have := ih (i + 1) (ys.set i xs[i]) (by omega) (by simpa using h2) (by
        rw [List.take_succ_eq_append_getElem (by simp; omega), List.take_succ_eq_append_getElem (show i < xs.length by omega), List.take_set_of_le (Nat.le_refl _), h3]
        simp)
      simpa using this
  have h0 := key xs.length 0 (List.replicate xs.length 0) (by omega) (by simp) (by simp)
  refine Ev.congr (fun k => ?_) h0
  simp only [laws_toIntS.f, if_pos (show (0 : Int) ≤ (xs.length : Int) by omega), Int.toNat_natCast, if_pos hn]
  rfl

theorem laws_eqIntS.ev (xs ys : List Int) (hn : xs.length ≤ 9223372036854775806) : ∃ b, Ev (fun k => laws_eqIntS.f k xs ys) b ∧ (b = true ↔ xs = ys) := by
  by_cases hl : xs.length = ys.length
  · obtain ⟨b, hb, hq⟩ := all_loop (fun k i => laws_eqIntS.l0 k xs ys i) (fun i => rd xs (i : Int) = rd ys (i : Int)) xs.length
      (fun k => by simp only [laws_eqIntS.l0, if_neg (show ¬ ((xs.length : Int) < (xs.length : Int)) by omega)])
      (fun i hi => by
        by_cases h : rd xs (i : Int) = rd ys (i : Int)
        · exact .inl ⟨h, 0, fun k _ => by simp only [laws_eqIntS.l0, if_pos (show (i : Int) < (xs.length : Int) by omega), if_pos (show (0 : Int) ≤ (i : Int) by omega), if_pos (show (i : Int) < (ys.length : Int) by omega), if_pos h, w64 (show -9223372036854775808 ≤ (i : Int) + 1 by omega) (by omega)]⟩
        · exact .inr ⟨h, 0, fun k _ => by simp only [laws_eqIntS.l0, if_pos (show (i : Int) < (xs.length : Int) by omega), if_pos (show (0 : Int) ≤ (i : Int) by omega), if_pos (show (i : Int) < (ys.length : Int) by omega), if_neg h]⟩)
      xs.length 0 (by omega)
    refine ⟨b, ?_, hq.trans ?_⟩
    · refine Ev.congr (fun k => ?_) hb
      simp only [laws_eqIntS.f, if_pos (show (xs.length : Int) = (ys.length : Int) by omega)]
      rfl
    · constructor
      · intro h
        refine List.ext_getElem hl (fun i h1 h2 => ?_)
        have := h i (by omega) h1
        rwa [rd_get xs i h1, rd_get ys i h2] at this
      · intro h; subst h; intro j _ _; rfl
  · refine ⟨false, ev_val (fun k => ?_), ?_⟩
    · simp only [laws_eqIntS.f, if_neg (show ¬ ((xs.length : Int) = (ys.length : Int)) by omega)]
    · constructor
      · intro h; cases h
      · intro h; subst h; exact absurd rfl hl
theorem laws_eqIntS.same (xs : List Int) (hn : xs.length ≤ 9223372036854775806) : Ev (fun k => laws_eqIntS.f k xs xs) true := by
  obtain ⟨b, hb, hq⟩ := laws_eqIntS.ev xs xs hn
  exact ev_eq hb (hq.2 rfl)

/-- Where two lists part. -/
def firstDiff : List Int → List Int → Int → Int
  | [], [], _ => -1
  | [], _ :: _, i => i
  | _ :: _, [], i => i
  | x :: xs, y :: ys, i => if x = y then firstDiff xs ys (i + 1) else i

theorem spec_FirstDifference.ev (xs ys : List Int) (hx : xs.length ≤ 9223372036854775806) (hy : ys.length ≤ 9223372036854775806) : Ev (fun k => spec_FirstDifference.f k xs ys) (firstDiff xs ys 0) := by
  have key : ∀ (d i : Nat), i + d = min xs.length ys.length → Ev (fun k => spec_FirstDifference.l0 k xs ys (i : Int)) (firstDiff (xs.drop i) (ys.drop i) (i : Int)) := by
    intro d
    induction d with
    | zero =>
      intro i h
      have hend : ¬ ((i : Int) < (xs.length : Int) ∧ (i : Int) < (ys.length : Int)) := by omega
      have hj : Ev (fun k => spec_FirstDifference.j1 k xs ys (i : Int) false) (firstDiff (xs.drop i) (ys.drop i) (i : Int)) := by
        refine ev_shift ?_
        simp only [spec_FirstDifference.j1, Bool.false_eq_true, if_false]
        by_cases he : (xs.length : Int) = (ys.length : Int)
        · simp only [if_pos he]
          refine ev_some ?_
          rw [List.drop_eq_nil_of_le (by omega), List.drop_eq_nil_of_le (by omega)]; rfl
        · simp only [if_neg he]
          rcases Nat.lt_or_ge xs.length ys.length with hl | hl
          · simp only [if_neg (show ¬ ((ys.length : Int) < (xs.length : Int)) by omega)]
            refine ev_some ?_
            rw [List.drop_eq_nil_of_le (show xs.length ≤ i by omega), List.drop_eq_getElem_cons (show i < ys.length by omega)]
            simp only [firstDiff]; omega
          · simp only [if_pos (show (ys.length : Int) < (xs.length : Int) by omega)]
            refine ev_some ?_
            rw [List.drop_eq_nil_of_le (show ys.length ≤ i by omega), List.drop_eq_getElem_cons (show i < xs.length by omega)]
            simp only [firstDiff]; omega
      refine ev_shift ?_
      by_cases h1 : (i : Int) < (xs.length : Int)
      · simp only [spec_FirstDifference.l0, if_pos h1, decide_eq_false (show ¬ ((i : Int) < (ys.length : Int)) from fun h2 => hend ⟨h1, h2⟩)]
        exact hj
      · simp only [spec_FirstDifference.l0, if_neg h1]
        exact hj
    | succ d ih =>
      intro i h
      have := ih (i + 1) (by omega)
      refine ev_shift ?_
      simp only [spec_FirstDifference.l0, if_pos (show (i : Int) < (xs.length : Int) by omega), decide_eq_true (show (i : Int) < (ys.length : Int) by omega)]
      refine ev_shift ?_
      simp only [spec_FirstDifference.j1, if_true, if_pos (show (i : Int) < (xs.length : Int) by omega), if_pos (show (i : Int) < (ys.length : Int) by omega), if_pos (show (0 : Int) ≤ (i : Int) by omega), w64 (show -9223372036854775808 ≤ (i : Int) + 1 by omega) (by omega)]
      rw [drop_cons_rd xs i (by omega), drop_cons_rd ys i (by omega)]
      by_cases he : rd xs (i : Int) = rd ys (i : Int)
      · simp only [if_pos he, firstDiff]
        simpa using this
      · simp only [if_neg he, firstDiff]
        exact Ev.now _
  simpa [spec_FirstDifference.f] using key (min xs.length ys.length) 0 (by omega)

theorem impl_FirstDifference.ev (xs ys : List Int) (hx : xs.length ≤ 9223372036854775806) (hy : ys.length ≤ 9223372036854775806) : Ev (fun k => impl_FirstDifference.f k xs ys) (firstDiff xs ys 0) := by
  have key : ∀ (d i : Nat), i + d = min xs.length ys.length → Ev (fun k => impl_FirstDifference.l0 k xs ys ((min xs.length ys.length : Nat) : Int) ((min xs.length ys.length : Nat) : Int) (i : Int)) (firstDiff (xs.drop i) (ys.drop i) (i : Int)) := by
    intro d
    induction d with
    | zero =>
      intro i h
      refine ev_shift ?_
      simp only [impl_FirstDifference.l0, if_neg (show ¬ ((i : Int) < ((min xs.length ys.length : Nat) : Int)) by omega)]
      by_cases he : (xs.length : Int) = (ys.length : Int)
      · simp only [if_pos he]
        refine ev_some ?_
        rw [List.drop_eq_nil_of_le (by omega), List.drop_eq_nil_of_le (by omega)]; rfl
      · simp only [if_neg he]
        refine ev_some ?_
        rcases Nat.lt_or_ge xs.length ys.length with hl | hl
        · rw [List.drop_eq_nil_of_le (show xs.length ≤ i by omega), List.drop_eq_getElem_cons (show i < ys.length by omega)]
          simp only [firstDiff]; omega
        · rw [List.drop_eq_nil_of_le (show ys.length ≤ i by omega), List.drop_eq_getElem_cons (show i < xs.length by omega)]
          simp only [firstDiff]; omega
    | succ d ih =>
      intro i h
      have := ih (i + 1) (by omega)
      refine ev_shift ?_
      simp only [impl_FirstDifference.l0, if_pos (show (i : Int) < ((min xs.length ys.length : Nat) : Int) by omega), if_pos (show (i : Int) < (xs.length : Int) by omega), if_pos (show (i : Int) < (ys.length : Int) by omega), if_pos (show (0 : Int) ≤ (i : Int) by omega), w64 (show -9223372036854775808 ≤ (i : Int) + 1 by omega) (by omega)]
      rw [drop_cons_rd xs i (by omega), drop_cons_rd ys i (by omega)]
      by_cases he : rd xs (i : Int) = rd ys (i : Int)
      · simp only [if_pos he, firstDiff]
        simpa using this
      · simp only [if_neg he, firstDiff]
        exact Ev.now _
  have := key (min xs.length ys.length) 0 (by omega)
  rw [List.drop_zero, List.drop_zero] at this
  by_cases hl : (ys.length : Int) < (xs.length : Int)
  · simp only [impl_FirstDifference.f, if_pos hl]
    rw [show ((min xs.length ys.length : Nat) : Int) = (ys.length : Int) by omega] at this
    exact this
  · simp only [impl_FirstDifference.f, if_neg hl]
    rw [show ((min xs.length ys.length : Nat) : Int) = (xs.length : Int) by omega] at this
    exact this

theorem FnExactFirstDifference : FnExactFirstDifferencePure := by
  intro l m h1 h2 h3 h4 h5 h6
  refine Ev.rounds (g := fun k => laws_FnExactFirstDifference.f k l m) ?_
  by_cases hb : (l.length : Int) > 1048576
  · simp only [laws_FnExactFirstDifference.f, if_pos hb]; exact Ev.now _
  · by_cases hc : (m.length : Int) > 1048576
    · simp only [laws_FnExactFirstDifference.f, if_neg hb, if_pos hc]; exact Ev.now _
    · simp only [laws_FnExactFirstDifference.f, if_neg hb, if_neg hc]
      have hT := laws_toIntS.ev l (by omega)
      have hU := laws_toIntS.ev m (by omega)
      refine Ev.bind hT (Ev.bind hU (Ev.bind (spec_FirstDifference.ev l m (by omega) (by omega)) (Ev.bind hT (Ev.bind hU (Ev.bind (impl_FirstDifference.ev l m (by omega) (by omega)) ?_)))))
      simp only [if_true]
      refine Ev.bind hT (Ev.bind (laws_eqIntS.same l (by omega)) ?_)
      simp only [if_true]
      refine Ev.bind hU (Ev.bind (laws_eqIntS.same m (by omega)) ?_)
      exact ev_val (fun _ => by simp)

end Go.Proofs.Ytcnfpepnjjijlaa.Pure
