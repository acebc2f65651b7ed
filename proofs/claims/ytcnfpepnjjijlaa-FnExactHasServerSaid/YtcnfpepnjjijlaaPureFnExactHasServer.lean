/- For every list and number the law FnExactHasServer returns true; no conditions. -/
import Derived.Test.YtcnfpepnjjijlaaQFnExactHasServer
import Derived.Test.YtcnfpepnjjijlaaCom
set_option linter.unusedVariables false
set_option linter.unusedSimpArgs false
namespace Go.Proofs.Ytcnfpepnjjijlaa.Pure
open Go.RowKit Go.Proofs.Ytcnfpepnjjijlaa.B Go.Proofs.YtcnfpepnjjijlaaW.PrintWords Go.Proofs.YtcnfpepnjjijlaaW.PrintLast
open Go.Proofs.Ytcnfpepnjjijlaa.Opens
open Go.Proofs.Ytcnfpepnjjijlaa.Com

theorem laws_toIntS.ev (xs : List Int) (hn : xs.length ≤ 35184372088832) : Ev (fun k => laws_toIntS.f k xs) xs := by
  have key : ∀ (d i : Nat) (ys : List Int), i + d = xs.length → ys.length = xs.length → ys.take i = xs.take i → Ev (fun k => laws_toIntS.l0 k xs ys (i : Int)) xs := by
    intro d
    induction d with
    | zero =>
      intro i ys h1 h2 h3
      refine ev_shift ?_
      simp only [laws_toIntS.l0, if_neg (show ¬ ((i : Int) < (xs.length : Int)) by omega)]
      refine ev_some ?_
      rw [List.take_of_length_le (by omega), List.take_of_length_le (by omega)] at h3
      exact h3
    | succ d ih =>
      intro i ys h1 h2 h3
      refine ev_shift ?_
      simp only [laws_toIntS.l0, if_pos (show (i : Int) < (xs.length : Int) by omega), if_pos (show (0 : Int) ≤ (i : Int) by omega), if_pos (show (i : Int) < (ys.length : Int) by omega),
        w64 (show -9223372036854775808 ≤ (i : Int) + 1 by omega) (by omega), Int.toNat_natCast, rd_get xs i (by omega)]
      have := ih (i + 1) (ys.set i xs[i]) (by omega) (by simpa using h2) (by
        rw [List.take_succ_eq_append_getElem (by simp; omega), List.take_succ_eq_append_getElem (show i < xs.length by omega), List.take_set_of_le (Nat.le_refl _), h3]
        simp)
      simpa using this
  have h0 := key xs.length 0 (List.replicate xs.length 0) (by omega) (by simp) (by simp)
  refine Ev.congr (fun k => ?_) h0
  simp only [laws_toIntS.f, if_pos (show (0 : Int) ≤ (xs.length : Int) by omega), Int.toNat_natCast, if_pos hn]
  rfl

theorem laws_eqIntS.ev (xs ys : List Int) (hn : xs.length ≤ 9223372036854775806) : ∃ b, Ev (fun k => laws_eqIntS.f k xs ys) b ∧ (b = true ↔ xs = ys) := by
  by_cases hl : xs.length = ys.length
  · obtain ⟨b, hb, hq⟩ := all_loop (fun k i => laws_eqIntS.l0 k xs ys i) (fun i => rd xs (i : Int) = rd ys (i : Int)) xs.length
      (fun k => by simp only [laws_eqIntS.l0, if_neg (show ¬ ((xs.length : Int) < (xs.length : Int)) by omega)])
      (fun i hi => by
        by_cases h : rd xs (i : Int) = rd ys (i : Int)
        · exact .inl ⟨h, 0, fun k _ => by simp only [laws_eqIntS.l0, if_pos (show (i : Int) < (xs.length : Int) by omega), if_pos (show (0 : Int) ≤ (i : Int) by omega), if_pos (show (i : Int) < (ys.length : Int) by omega), if_pos h, w64 (show -9223372036854775808 ≤ (i : Int) + 1 by omega) (by omega)]⟩
        · exact .inr ⟨h, 0, fun k _ => by simp only [laws_eqIntS.l0, if_pos (show (i : Int) < (xs.length : Int) by omega), if_pos (show (0 : Int) ≤ (i : Int) by omega), if_pos (show (i : Int) < (ys.length : Int) by omega), if_neg h]⟩)
      xs.length 0 (by omega)
    refine ⟨b, ?_, hq.trans ?_⟩
    · refine Ev.congr (fun k => ?_) hb
      simp only [laws_eqIntS.f, if_pos (show (xs.length : Int) = (ys.length : Int) by omega)]
      rfl
    · constructor
      · intro h
        refine List.ext_getElem hl (fun i h1 h2 => ?_)
        have := h i (by omega) h1
        rwa [rd_get xs i h1, rd_get ys i h2] at this
      · intro h; subst h; intro j _ _; rfl
  · refine ⟨false, ev_val (fun k => ?_), ?_⟩
    · simp only [laws_eqIntS.f, if_neg (show ¬ ((xs.length : Int) = (ys.length : Int)) by omega)]
    · constructor
      · intro h; cases h
      · intro h; subst h; exact absurd rfl hl
theorem laws_eqIntS.same (xs : List Int) (hn : xs.length ≤ 9223372036854775806) : Ev (fun k => laws_eqIntS.f k xs xs) true := by
  obtain ⟨b, hb, hq⟩ := laws_eqIntS.ev xs xs hn
  exact ev_eq hb (hq.2 rfl)

theorem spec_HasServer.ev (xs : List Int) (a : Int) (hn : xs.length ≤ 9223372036854775806) : Ev (fun k => spec_HasServer.f k xs a) (xs.contains a) := by
  have key : ∀ d i : Nat, i + d = xs.length → Ev (fun k => spec_HasServer.l0 k xs a (i : Int)) ((xs.drop i).contains a) := by
    intro d
    induction d with
    | zero =>
      intro i h
      refine ev_shift ?_
      simp only [spec_HasServer.l0, if_neg (show ¬ ((i : Int) < (xs.length : Int)) by omega)]
      refine ev_some ?_
      rw [List.drop_eq_nil_of_le (by omega)]; rfl
    | succ d ih =>
      intro i h
      have hi := ih (i + 1) (by omega)
      refine ev_shift ?_
      simp only [spec_HasServer.l0, if_pos (show (i : Int) < (xs.length : Int) by omega), if_pos (show (0 : Int) ≤ (i : Int) by omega), w64 (show -9223372036854775808 ≤ (i : Int) + 1 by omega) (by omega)]
      rw [drop_cons_rd xs i (by omega)]
      by_cases he : rd xs (i : Int) = a
      · simp only [if_pos he]
        exact ev_some (by simp [he])
      · simp only [if_neg he]
        have e : (rd xs (i : Int) :: xs.drop (i + 1)).contains a = (xs.drop (i + 1)).contains a := by
          have : (a == rd xs (i : Int)) = false := by simpa using fun h => he h.symm
          rw [List.contains_cons, this, Bool.false_or]
        rw [e]
        simpa using hi
  have := key xs.length 0 (by omega)
  simpa [spec_HasServer.f] using this

theorem slices_Index_int_int.ev (xs : List Int) (a : Int) (hn : xs.length ≤ 9223372036854775806) :
    ∃ r : Int, Ev (fun k => slices_Index_int_int.f k xs a) r ∧ (r ≥ 0 ↔ xs.contains a = true) := by
  have key : ∀ d i : Nat, i + d = xs.length → ∃ r : Int, Ev (fun k => slices_Index_int_int.l0 k xs a (xs.length : Int) (i : Int)) r ∧ (r ≥ 0 ↔ (xs.drop i).contains a = true) := by
    intro d
    induction d with
    | zero =>
      intro i h
      refine ⟨-1, ev_shift ?_, ?_⟩
      · simp only [slices_Index_int_int.l0, if_neg (show ¬ ((i : Int) < (xs.length : Int)) by omega)]
        exact Ev.now _
      · rw [List.drop_eq_nil_of_le (by omega)]; simp
    | succ d ih =>
      intro i h
      obtain ⟨r, hr, hq⟩ := ih (i + 1) (by omega)
      by_cases he : a = rd xs (i : Int)
      · refine ⟨i, ev_shift ?_, ?_⟩
        · simp only [slices_Index_int_int.l0, if_pos (show (i : Int) < (xs.length : Int) by omega), if_pos (show (0 : Int) ≤ (i : Int) by omega), if_pos he]
          exact Ev.now _
        · rw [drop_cons_rd xs i (by omega)]
          simp [← he]
      · refine ⟨r, ev_shift ?_, ?_⟩
        · simp only [slices_Index_int_int.l0, if_pos (show (i : Int) < (xs.length : Int) by omega), if_pos (show (0 : Int) ≤ (i : Int) by omega), if_neg he, w64 (show -9223372036854775808 ≤ (i : Int) + 1 by omega) (by omega)]
          simpa using hr
        · rw [drop_cons_rd xs i (by omega), hq]
          simp [he]
  obtain ⟨r, hr, hq⟩ := key xs.length 0 (by omega)
  exact ⟨r, by simpa [slices_Index_int_int.f] using hr, by simpa using hq⟩

theorem slices_Contains_int_int.ev (xs : List Int) (a : Int) (hn : xs.length ≤ 9223372036854775806) : Ev (fun k => slices_Contains_int_int.f k xs a) (xs.contains a) := by
  obtain ⟨r, hr, hq⟩ := slices_Index_int_int.ev xs a hn
  refine Ev.bind hr (ev_some ?_)
  rw [Bool.eq_iff_iff, ← hq, decide_eq_true_iff]

theorem impl_HasServer.ev (xs : List Int) (a : Int) (hn : xs.length ≤ 9223372036854775806) : Ev (fun k => impl_HasServer.f k xs a) (xs.contains a) :=
  Ev.bind (slices_Contains_int_int.ev xs a hn) (Ev.now _)

theorem FnExactHasServer : FnExactHasServerPure := by
  intro l a h1 h2 h3 h4
  refine Ev.rounds (g := fun k => laws_FnExactHasServer.f k l a) ?_
  by_cases hb : (l.length : Int) > 1048576
  · simp only [laws_FnExactHasServer.f, if_pos hb]; exact Ev.now _
  · simp only [laws_FnExactHasServer.f, if_neg hb]
    have hT := laws_toIntS.ev l (by omega)
    refine Ev.bind hT (Ev.bind (spec_HasServer.ev l a (by omega)) (Ev.bind hT (Ev.bind (impl_HasServer.ev l a (by omega)) ?_)))
    simp only [bne_self_eq_false, Bool.false_eq_true, if_false]
    refine Ev.bind hT (Ev.bind (laws_eqIntS.same l (by omega)) ?_)
    exact ev_val (fun _ => by simp)

end Go.Proofs.Ytcnfpepnjjijlaa.Pure
