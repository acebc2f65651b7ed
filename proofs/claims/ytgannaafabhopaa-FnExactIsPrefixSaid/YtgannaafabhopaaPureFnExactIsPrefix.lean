/- For every two logs the law FnExactIsPrefix returns true; no conditions. -/
import Derived.Test.YtgannaafabhopaaQFnExactIsPrefix
import Derived.Test.YtgannaafabhopaaCom
set_option linter.unusedVariables false
set_option linter.unusedSimpArgs false
namespace Go.Proofs.Ytgannaafabhopaa.Pure
open Go.RowKit Go.Proofs.Ytgannaafabhopaa.A Go.Proofs.YtgannaafabhopaaW.PrintWords Go.Proofs.YtgannaafabhopaaW.PrintLast
open Go.Proofs.Ytgannaafabhopaa.Opens
open Go.Proofs.Ytgannaafabhopaa.Com

theorem laws_szEntryS.val (xs : List S79) (a : Int) (hn : xs.length ≤ maxLen) (h0 : 0 ≤ a) (h1 : a ≤ 1048576) :
    ∃ r, laws_szEntryS.f xs a = some r ∧ (¬ r < 0 → r = a - xs.length ∧ (xs.length : Int) ≤ a) := by
  unfold maxLen at hn
  unfold laws_szEntryS.f
  rw [w64 (show -9223372036854775808 ≤ a - (xs.length : Int) by omega) (by omega)]
  by_cases h : a - (xs.length : Int) < 0
  · exact ⟨-1, by rw [if_pos h], fun h' => by omega⟩
  · exact ⟨_, by rw [if_neg h], fun h' => ⟨rfl, by omega⟩⟩

theorem rdE (xs : List S75) (i : Nat) (h : i < xs.length) : rd_T75 xs (i : Int) = xs[i] := by simp [rd_T75, h]
theorem rdLE (xs : List S79) (i : Nat) (h : i < xs.length) : rd_T79 xs (i : Int) = xs[i] := by simp [rd_T79, h]
/-- An entry of the laws, as one of the program. -/
def toE (x : S79) : S75 := ⟨x.f0, ⟨x.f1.f0, x.f1.f1, x.f1.f2, x.f1.f3, x.f1.f4, x.f1.f5⟩⟩
theorem ent_eq (x y : S75) : x = y ↔ x.f0 = y.f0 ∧ x.f1.f0 = y.f1.f0 ∧ x.f1.f1 = y.f1.f1 ∧ x.f1.f2 = y.f1.f2 ∧ x.f1.f3 = y.f1.f3 ∧ x.f1.f4 = y.f1.f4 ∧ x.f1.f5 = y.f1.f5 := by
  constructor
  · intro h; subst h; simp
  · rintro ⟨h0, h1, h2, h3, h4, h5, h6⟩
    obtain ⟨a, ⟨b, c, d, e, f, g⟩⟩ := x
    obtain ⟨a', ⟨b', c', d', e', f', g'⟩⟩ := y
    simp_all

/-- How long two logs agree. -/
def cpl : List S75 → List S75 → Nat
  | x :: xs, y :: ys => if x.f0 = y.f0 ∧ x.f1.f0 = y.f1.f0 ∧ x.f1.f1 = y.f1.f1 ∧ x.f1.f2 = y.f1.f2 ∧ x.f1.f3 = y.f1.f3 ∧ x.f1.f4 = y.f1.f4 ∧ x.f1.f5 = y.f1.f5 then cpl xs ys + 1 else 0
  | _, _ => 0
theorem cpl_nil_right (xs : List S75) : cpl xs [] = 0 := by cases xs <;> rfl
theorem ent_test (x y : S75) : ((x.f0 == y.f0 && (x.f1.f0 == y.f1.f0 && (x.f1.f1 == y.f1.f1 && (x.f1.f2 == y.f1.f2 && (x.f1.f3 == y.f1.f3 && (x.f1.f4 == y.f1.f4 && x.f1.f5 == y.f1.f5)))))) = true) ↔ (x.f0 = y.f0 ∧ x.f1.f0 = y.f1.f0 ∧ x.f1.f1 = y.f1.f1 ∧ x.f1.f2 = y.f1.f2 ∧ x.f1.f3 = y.f1.f3 ∧ x.f1.f4 = y.f1.f4 ∧ x.f1.f5 = y.f1.f5) := by
  simp only [Bool.and_eq_true, beq_iff_eq]

theorem spec_CommonPrefix.ev (xs ys : List S75) (hx : xs.length ≤ 9223372036854775806) : Ev (fun k => spec_CommonPrefix.f k xs ys) (cpl xs ys : Int) := by
  have key : ∀ (d i : Nat), i + d = xs.length → Ev (fun k => spec_CommonPrefix.l0 k xs ys (i : Int)) ((i : Int) + (cpl (xs.drop i) (ys.drop i) : Int)) := by
    intro d
    induction d with
    | zero =>
      intro i h
      refine ev_shift ?_
      simp only [spec_CommonPrefix.l0, if_neg (show ¬ ((i : Int) < (xs.length : Int)) by omega)]
      exact ev_some (by rw [List.drop_eq_nil_of_le (show xs.length ≤ i by omega)]; simp [cpl])
    | succ d ih =>
      intro i h
      have h1 : i < xs.length := by omega
      refine ev_shift ?_
      by_cases h2 : i < ys.length
      · have := ih (i + 1) (by omega)
        simp only [spec_CommonPrefix.l0, if_pos (show (i : Int) < (xs.length : Int) by omega), if_pos (show (i : Int) < (ys.length : Int) by omega), if_pos (show (0 : Int) ≤ (i : Int) by omega), w64 (show -9223372036854775808 ≤ (i : Int) + 1 by omega) (by omega), rdE xs i h1, rdE ys i h2, ent_test]
        rw [List.drop_eq_getElem_cons h1, List.drop_eq_getElem_cons h2]
        by_cases hc : xs[i].f0 = ys[i].f0 ∧ xs[i].f1.f0 = ys[i].f1.f0 ∧ xs[i].f1.f1 = ys[i].f1.f1 ∧ xs[i].f1.f2 = ys[i].f1.f2 ∧ xs[i].f1.f3 = ys[i].f1.f3 ∧ xs[i].f1.f4 = ys[i].f1.f4 ∧ xs[i].f1.f5 = ys[i].f1.f5
        · simp only [if_pos hc, cpl]
          refine ev_eq (by simpa using this) (by omega)
        · simp only [if_neg hc, cpl]
          exact ev_some (by omega)
      · simp only [spec_CommonPrefix.l0, if_pos (show (i : Int) < (xs.length : Int) by omega), if_neg (show ¬ ((i : Int) < (ys.length : Int)) by omega)]
        exact ev_some (by rw [List.drop_eq_nil_of_le (show ys.length ≤ i by omega), cpl_nil_right]; simp)
  have := key xs.length 0 (by omega)
  simpa [spec_CommonPrefix.f] using this

theorem laws_toOp.val (a b c d e f : Int) : laws_toOp.f a b c d e f = some (a, b, c, d, e, f) := rfl

theorem laws_toEntry.val (x a b c d e f : Int) : laws_toEntry.f x a b c d e f = some (x, a, b, c, d, e, f) := rfl

theorem laws_toEntryS.ev (xs : List S79) (hn : xs.length ≤ 5026338869833) : Ev (fun k => laws_toEntryS.f k xs) (xs.map toE) := by
  have := map_loop (fun k ys i => laws_toEntryS.l0 k xs ys i) toE xs
    (fun k ys _ => by simp only [laws_toEntryS.l0, if_neg (show ¬ ((xs.length : Int) < (xs.length : Int)) by omega)])
    (fun i h ys k hy => by
      simp only [laws_toEntryS.l0, if_pos (show (i : Int) < (xs.length : Int) by omega), if_pos (show (0 : Int) ≤ (i : Int) by omega), if_pos (show (i : Int) < (ys.length : Int) by omega),
        laws_toEntry.val, Option.bind_some, rdLE xs i h, Int.toNat_natCast, w64 (show -9223372036854775808 ≤ (i : Int) + 1 by omega) (by omega), toE])
    (List.replicate xs.length z75) (by simp)
  refine Ev.congr (fun k => ?_) this
  simp only [laws_toEntryS.f, if_pos (show (0 : Int) ≤ (xs.length : Int) by omega), Int.toNat_natCast, if_pos hn]

theorem impl_CommonPrefix.ev (xs ys : List S75) (hx : xs.length ≤ 9223372036854775806) : Ev (fun k => impl_CommonPrefix.f k xs ys) (cpl xs ys : Int) := by
  have key : ∀ (d i : Nat), i + d = xs.length → Ev (fun k => impl_CommonPrefix.l0 k xs ys (i : Int)) ((i : Int) + (cpl (xs.drop i) (ys.drop i) : Int)) := by
    intro d
    induction d with
    | zero =>
      intro i h
      refine ev_shift ?_
      simp only [impl_CommonPrefix.l0, if_neg (show ¬ ((i : Int) < (xs.length : Int)) by omega)]
      exact ev_some (by rw [List.drop_eq_nil_of_le (show xs.length ≤ i by omega)]; simp [cpl])
    | succ d ih =>
      intro i h
      have h1 : i < xs.length := by omega
      refine ev_shift ?_
      by_cases h2 : i < ys.length
      · have := ih (i + 1) (by omega)
        simp only [impl_CommonPrefix.l0, if_pos (show (i : Int) < (xs.length : Int) by omega), if_pos (show (i : Int) < (ys.length : Int) by omega), if_pos (show (0 : Int) ≤ (i : Int) by omega), w64 (show -9223372036854775808 ≤ (i : Int) + 1 by omega) (by omega), rdE xs i h1, rdE ys i h2, ent_test]
        rw [List.drop_eq_getElem_cons h1, List.drop_eq_getElem_cons h2]
        by_cases hc : xs[i].f0 = ys[i].f0 ∧ xs[i].f1.f0 = ys[i].f1.f0 ∧ xs[i].f1.f1 = ys[i].f1.f1 ∧ xs[i].f1.f2 = ys[i].f1.f2 ∧ xs[i].f1.f3 = ys[i].f1.f3 ∧ xs[i].f1.f4 = ys[i].f1.f4 ∧ xs[i].f1.f5 = ys[i].f1.f5
        · simp only [if_pos hc, cpl]
          refine ev_eq (by simpa using this) (by omega)
        · simp only [if_neg hc, cpl]
          exact ev_some (by omega)
      · simp only [impl_CommonPrefix.l0, if_pos (show (i : Int) < (xs.length : Int) by omega), if_neg (show ¬ ((i : Int) < (ys.length : Int)) by omega)]
        exact ev_some (by rw [List.drop_eq_nil_of_le (show ys.length ≤ i by omega), cpl_nil_right]; simp)
  have := key xs.length 0 (by omega)
  simpa [impl_CommonPrefix.f] using this

theorem laws_eqOp.val (a b c d e f a' b' c' d' e' f' : Int) : laws_eqOp.f a b c d e f a' b' c' d' e' f' = some (decide (a = a' ∧ b = b' ∧ c = c' ∧ d = d' ∧ e = e' ∧ f = f')) := by
  unfold laws_eqOp.f
  by_cases h1 : a = a' <;> by_cases h2 : b = b' <;> by_cases h3 : c = c' <;> by_cases h4 : d = d' <;> by_cases h5 : e = e' <;> by_cases h6 : f = f' <;> simp [h1, h2, h3, h4, h5, h6]

theorem laws_eqEntry.val (x y : S75) : ∃ b, laws_eqEntry.f x.f0 x.f1.f0 x.f1.f1 x.f1.f2 x.f1.f3 x.f1.f4 x.f1.f5 y.f0 y.f1.f0 y.f1.f1 y.f1.f2 y.f1.f3 y.f1.f4 y.f1.f5 = some b ∧ (b = true ↔ x = y) := by
  unfold laws_eqEntry.f
  rw [ent_eq]
  by_cases h : x.f0 = y.f0
  · rw [if_pos h, laws_eqOp.val]
    simp only [Option.bind_some]
    by_cases h2 : x.f1.f0 = y.f1.f0 ∧ x.f1.f1 = y.f1.f1 ∧ x.f1.f2 = y.f1.f2 ∧ x.f1.f3 = y.f1.f3 ∧ x.f1.f4 = y.f1.f4 ∧ x.f1.f5 = y.f1.f5
    · exact ⟨true, by rw [if_pos (decide_eq_true h2)], by simp only [true_iff]; exact ⟨h, h2⟩⟩
    · exact ⟨false, by rw [if_neg (by simpa using h2)], by simp only [Bool.false_eq_true, false_iff]; exact fun h' => h2 h'.2⟩
  · exact ⟨false, by rw [if_neg h], by simp only [Bool.false_eq_true, false_iff]; exact fun h' => h h'.1⟩

theorem laws_eqEntryS.ev (xs ys : List S75) (hn : xs.length ≤ 9223372036854775806) : ∃ b, Ev (fun k => laws_eqEntryS.f k xs ys) b ∧ (b = true ↔ xs = ys) := by
  by_cases hl : xs.length = ys.length
  · obtain ⟨b, hb, hq⟩ := eq_loop (fun k i => laws_eqEntryS.l0 k xs ys i) xs ys hl
      (fun k => by simp only [laws_eqEntryS.l0, if_neg (show ¬ ((xs.length : Int) < (xs.length : Int)) by omega)])
      (fun i h1 h2 => by
        obtain ⟨b, hb, hq⟩ := laws_eqEntry.val xs[i] ys[i]
        cases b with
        | true => exact .inl ⟨hq.1 rfl, 0, fun k _ => by simp only [laws_eqEntryS.l0, if_pos (show (i : Int) < (xs.length : Int) by omega), if_pos (show (0 : Int) ≤ (i : Int) by omega), if_pos (show (i : Int) < (ys.length : Int) by omega), rdE xs i h1, rdE ys i h2, hb, Option.bind_some, if_true, w64 (show -9223372036854775808 ≤ (i : Int) + 1 by omega) (by omega)]⟩
        | false => exact .inr ⟨fun h => by simpa using hq.2 h, 0, fun k _ => by simp only [laws_eqEntryS.l0, if_pos (show (i : Int) < (xs.length : Int) by omega), if_pos (show (0 : Int) ≤ (i : Int) by omega), if_pos (show (i : Int) < (ys.length : Int) by omega), rdE xs i h1, rdE ys i h2, hb, Option.bind_some, Bool.false_eq_true, if_false]⟩)
    refine ⟨b, ?_, hq⟩
    refine Ev.congr (fun k => ?_) hb
    simp only [laws_eqEntryS.f, if_pos (show (xs.length : Int) = (ys.length : Int) by omega)]
  · refine ⟨false, ev_val (fun k => ?_), ?_⟩
    · simp only [laws_eqEntryS.f, if_neg (show ¬ ((xs.length : Int) = (ys.length : Int)) by omega)]
    · constructor
      · intro h; cases h
      · intro h; subst h; exact absurd rfl hl
theorem laws_eqEntryS.same (xs : List S75) (hn : xs.length ≤ 9223372036854775806) : Ev (fun k => laws_eqEntryS.f k xs xs) true := by
  obtain ⟨b, hb, hq⟩ := laws_eqEntryS.ev xs xs hn
  exact ev_eq hb (hq.2 rfl)

theorem spec_IsPrefix.ev (xs ys : List S75) (hx : xs.length ≤ 9223372036854775806) : Ev (fun k => spec_IsPrefix.f k xs ys) ((cpl xs ys : Int) == (xs.length : Int)) :=
  Ev.bind (spec_CommonPrefix.ev xs ys hx) (Ev.now _)

theorem impl_IsPrefix.ev (xs ys : List S75) (hx : xs.length ≤ 9223372036854775806) : Ev (fun k => impl_IsPrefix.f k xs ys) ((cpl xs ys : Int) == (xs.length : Int)) :=
  Ev.bind (impl_CommonPrefix.ev xs ys hx) (Ev.now _)

theorem FnExactIsPrefix : FnExactIsPrefixPure := by
  intro l m h1 h2
  refine Ev.rounds (g := fun k => laws_FnExactIsPrefix.f k l m) ?_
  obtain ⟨r, hr, hq⟩ := laws_szEntryS.val l 1048576 h1.1 (by omega) (by omega)
  simp only [laws_FnExactIsPrefix.f, hr, Option.bind_some]
  by_cases hneg : r < 0
  · simp only [if_pos hneg]; exact Ev.now _
  · obtain ⟨e1, e2⟩ := hq hneg
    simp only [if_neg hneg]
    obtain ⟨r', hr', hq'⟩ := laws_szEntryS.val m r h2.1 (by omega) (by omega)
    simp only [hr', Option.bind_some]
    by_cases hneg' : r' < 0
    · simp only [if_pos hneg']; exact Ev.now _
    · obtain ⟨e3, e4⟩ := hq' hneg'
      simp only [if_neg hneg']
      have hT := laws_toEntryS.ev l (by omega)
      have hU := laws_toEntryS.ev m (by omega)
      have hl : (l.map toE).length ≤ 1048576 := by simp; omega
      have hm : (m.map toE).length ≤ 1048576 := by simp; omega
      refine Ev.bind hT (Ev.bind hU (Ev.bind (spec_IsPrefix.ev _ _ (by omega)) (Ev.bind hT (Ev.bind hU (Ev.bind (impl_IsPrefix.ev _ _ (by omega)) ?_)))))
      simp only [bne_self_eq_false, Bool.false_eq_true, if_false]
      refine Ev.bind hT (Ev.bind (laws_eqEntryS.same _ (by omega)) ?_)
      simp only [if_true]
      refine Ev.bind hU (Ev.bind (laws_eqEntryS.same _ (by omega)) ?_)
      exact ev_val (fun _ => by simp)

end Go.Proofs.Ytgannaafabhopaa.Pure
