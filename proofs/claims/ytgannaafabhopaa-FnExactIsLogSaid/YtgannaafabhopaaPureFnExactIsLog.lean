/- For every log the law FnExactIsLog returns true; no conditions. -/
import Derived.Test.YtgannaafabhopaaQFnExactIsLog
import Derived.Test.YtgannaafabhopaaCom
set_option linter.unusedVariables false
set_option linter.unusedSimpArgs false
namespace Go.Proofs.Ytgannaafabhopaa.Pure
open Go.RowKit Go.Proofs.Ytgannaafabhopaa.I Go.Proofs.YtgannaafabhopaaW.PrintWords Go.Proofs.YtgannaafabhopaaW.PrintLast
open Go.Proofs.Ytgannaafabhopaa.Opens
open Go.Proofs.Ytgannaafabhopaa.Com

theorem laws_szEntryS.val (xs : List S79) (a : Int) (hn : xs.length ≤ maxLen) (h0 : 0 ≤ a) (h1 : a ≤ 1048576) :
    ∃ r, laws_szEntryS.f xs a = some r ∧ (¬ r < 0 → r = a - xs.length ∧ (xs.length : Int) ≤ a) := by
  unfold maxLen at hn
  unfold laws_szEntryS.f
  rw [w64 (show -9223372036854775808 ≤ a - (xs.length : Int) by omega) (by omega)]
  by_cases h : a - (xs.length : Int) < 0
  · exact ⟨-1, by rw [if_pos h], fun h' => by omega⟩
  · exact ⟨_, by rw [if_neg h], fun h' => ⟨rfl, by omega⟩⟩

theorem laws_toOp.val (a b c d e f : Int) : laws_toOp.f a b c d e f = some (a, b, c, d, e, f) := rfl

theorem laws_toEntry.val (x a b c d e f : Int) : laws_toEntry.f x a b c d e f = some (x, a, b, c, d, e, f) := rfl

theorem rdE (xs : List S75) (i : Nat) (h : i < xs.length) : rd_T75 xs (i : Int) = xs[i] := by simp [rd_T75, h]
theorem rdLE (xs : List S79) (i : Nat) (h : i < xs.length) : rd_T79 xs (i : Int) = xs[i] := by simp [rd_T79, h]
/-- An entry of the laws, as one of the program. -/
def toE (x : S79) : S75 := ⟨x.f0, ⟨x.f1.f0, x.f1.f1, x.f1.f2, x.f1.f3, x.f1.f4, x.f1.f5⟩⟩
theorem ent_eq (x y : S75) : x = y ↔ x.f0 = y.f0 ∧ x.f1.f0 = y.f1.f0 ∧ x.f1.f1 = y.f1.f1 ∧ x.f1.f2 = y.f1.f2 ∧ x.f1.f3 = y.f1.f3 ∧ x.f1.f4 = y.f1.f4 ∧ x.f1.f5 = y.f1.f5 := by
  constructor
  · intro h; subst h; simp
  · rintro ⟨h0, h1, h2, h3, h4, h5, h6⟩
    obtain ⟨a, ⟨b, c, d, e, f, g⟩⟩ := x
    obtain ⟨a', ⟨b', c', d', e', f', g'⟩⟩ := y
    simp_all

theorem laws_toEntryS.ev (xs : List S79) (hn : xs.length ≤ 5026338869833) : Ev (fun k => laws_toEntryS.f k xs) (xs.map toE) := by
  have := map_loop (fun k ys i => laws_toEntryS.l0 k xs ys i) toE xs
    (fun k ys _ => by simp only [laws_toEntryS.l0, if_neg (show ¬ ((xs.length : Int) < (xs.length : Int)) by omega)])
    (fun i h ys k hy => by
      simp only [laws_toEntryS.l0, if_pos (show (i : Int) < (xs.length : Int) by omega), if_pos (show (0 : Int) ≤ (i : Int) by omega), if_pos (show (i : Int) < (ys.length : Int) by omega),
        laws_toEntry.val, Option.bind_some, rdLE xs i h, Int.toNat_natCast, w64 (show -9223372036854775808 ≤ (i : Int) + 1 by omega) (by omega), toE])
    (List.replicate xs.length z75) (by simp)
  refine Ev.congr (fun k => ?_) this
  simp only [laws_toEntryS.f, if_pos (show (0 : Int) ≤ (xs.length : Int) by omega), Int.toNat_natCast, if_pos hn]

theorem laws_eqOp.val (a b c d e f a' b' c' d' e' f' : Int) : laws_eqOp.f a b c d e f a' b' c' d' e' f' = some (decide (a = a' ∧ b = b' ∧ c = c' ∧ d = d' ∧ e = e' ∧ f = f')) := by
  unfold laws_eqOp.f
  by_cases h1 : a = a' <;> by_cases h2 : b = b' <;> by_cases h3 : c = c' <;> by_cases h4 : d = d' <;> by_cases h5 : e = e' <;> by_cases h6 : f = f' <;> simp [h1, h2, h3, h4, h5, h6]

theorem laws_eqEntry.val (x y : S75) : ∃ b, laws_eqEntry.f x.f0 x.f1.f0 x.f1.f1 x.f1.f2 x.f1.f3 x.f1.f4 x.f1.f5 y.f0 y.f1.f0 y.f1.f1 y.f1.f2 y.f1.f3 y.f1.f4 y.f1.f5 = some b ∧ (b = true ↔ x = y) := by
  unfold laws_eqEntry.f
  rw [ent_eq]
  by_cases h : x.f0 = y.f0
  · rw [if_pos h, laws_eqOp.val]
    simp only [Option.bind_some]
    by_cases h2 : x.f1.f0 = y.f1.f0 ∧ x.f1.f1 = y.f1.f1 ∧ x.f1.f2 = y.f1.f2 ∧ x.f1.f3 = y.f1.f3 ∧ x.f1.f4 = y.f1.f4 ∧ x.f1.f5 = y.f1.f5
    · exact ⟨true, by rw [if_pos (decide_eq_true h2)], by simp only [true_iff]; exact ⟨h, h2⟩⟩
    · exact ⟨false, by rw [if_neg (by simpa using h2)], by simp only [Bool.false_eq_true, false_iff]; exact fun h' => h2 h'.2⟩
  · exact ⟨false, by rw [if_neg h], by simp only [Bool.false_eq_true, false_iff]; exact fun h' => h h'.1⟩

theorem laws_eqEntryS.ev (xs ys : List S75) (hn : xs.length ≤ 9223372036854775806) : ∃ b, Ev (fun k => laws_eqEntryS.f k xs ys) b ∧ (b = true ↔ xs = ys) := by
  by_cases hl : xs.length = ys.length
  · obtain ⟨b, hb, hq⟩ := eq_loop (fun k i => laws_eqEntryS.l0 k xs ys i) xs ys hl
      (fun k => by simp only [laws_eqEntryS.l0, if_neg (show ¬ ((xs.length : Int) < (xs.length : Int)) by omega)])
      (fun i h1 h2 => by
        obtain ⟨b, hb, hq⟩ := laws_eqEntry.val xs[i] ys[i]
        cases b with
        | true => exact .inl ⟨hq.1 rfl, 0, fun k _ => by simp only [laws_eqEntryS.l0, if_pos (show (i : Int) < (xs.length : Int) by omega), if_pos (show (0 : Int) ≤ (i : Int) by omega), if_pos (show (i : Int) < (ys.length : Int) by omega), rdE xs i h1, rdE ys i h2, hb, Option.bind_some, if_true, w64 (show -9223372036854775808 ≤ (i : Int) + 1 by omega) (by omega)]⟩
        | false => exact .inr ⟨fun h => by simpa using hq.2 h, 0, fun k _ => by simp only [laws_eqEntryS.l0, if_pos (show (i : Int) < (xs.length : Int) by omega), if_pos (show (0 : Int) ≤ (i : Int) by omega), if_pos (show (i : Int) < (ys.length : Int) by omega), rdE xs i h1, rdE ys i h2, hb, Option.bind_some, Bool.false_eq_true, if_false]⟩)
    refine ⟨b, ?_, hq⟩
    refine Ev.congr (fun k => ?_) hb
    simp only [laws_eqEntryS.f, if_pos (show (xs.length : Int) = (ys.length : Int) by omega)]
  · refine ⟨false, ev_val (fun k => ?_), ?_⟩
    · simp only [laws_eqEntryS.f, if_neg (show ¬ ((xs.length : Int) = (ys.length : Int)) by omega)]
    · constructor
      · intro h; cases h
      · intro h; subst h; exact absurd rfl hl
theorem laws_eqEntryS.same (xs : List S75) (hn : xs.length ≤ 9223372036854775806) : Ev (fun k => laws_eqEntryS.f k xs xs) true := by
  obtain ⟨b, hb, hq⟩ := laws_eqEntryS.ev xs xs hn
  exact ev_eq hb (hq.2 rfl)

theorem spec_l1In.val (a b c : Int) : spec_l1In.f a b c = some (decide (b ≤ a ∧ a ≤ c)) := by
  unfold spec_l1In.f
  by_cases h : b ≤ a <;> simp [h]

/-- Is this an operation? -/
def vop (a b c d e f : Int) : Bool := decide ((0 ≤ a ∧ a ≤ 2) ∧ (1 ≤ b ∧ b ≤ 99) ∧ (0 ≤ d ∧ d ≤ 2) ∧ (0 ≤ f ∧ f ≤ 9) ∧ ((c = 1 ∧ e = 0) ∨ (c = 2 ∧ 0 ≤ e ∧ e ≤ 9)))

theorem spec_IsValidOp.val (a b c d e f : Int) : spec_IsValidOp.f a b c d e f = some (vop a b c d e f) := by
  unfold spec_IsValidOp.f vop
  simp only [spec_l1In.val, Option.bind_some]
  by_cases h1 : 0 ≤ a ∧ a ≤ 2
  · by_cases h2 : 1 ≤ b ∧ b ≤ 99
    · by_cases h3 : 0 ≤ d ∧ d ≤ 2
      · by_cases h4 : 0 ≤ f ∧ f ≤ 9
        · simp only [decide_eq_true h1, decide_eq_true h2, decide_eq_true h3, decide_eq_true h4, if_true]
          by_cases hc : c = 1
          · by_cases he : e = 0
            · simp [hc, he, h1, h2, h3, h4]
            · simp [hc, he, h1, h2, h3, h4]
          · by_cases hc2 : c = 2
            · simp [hc2, h1, h2, h3, h4]
            · simp [hc, hc2]
        · simp only [decide_eq_true h1, decide_eq_true h2, decide_eq_true h3, decide_eq_false h4, if_true, Bool.false_eq_true, if_false]
          simp; intros; omega
      · simp only [decide_eq_true h1, decide_eq_true h2, decide_eq_false h3, if_true, Bool.false_eq_true, if_false]
        simp; intros; omega
    · simp only [decide_eq_true h1, decide_eq_false h2, if_true, Bool.false_eq_true, if_false]
      simp; intros; omega
  · simp only [decide_eq_false h1, Bool.false_eq_true, if_false]
    simp; intros; omega

/-- Is this entry one of a log, behind the one before it? -/
def okAt (xs : List S75) (j : Nat) : Prop := (1 ≤ (rd_T75 xs (j : Int)).f0 ∧ (rd_T75 xs (j : Int)).f0 ≤ 20) ∧
  vop (rd_T75 xs (j : Int)).f1.f0 (rd_T75 xs (j : Int)).f1.f1 (rd_T75 xs (j : Int)).f1.f2 (rd_T75 xs (j : Int)).f1.f3 (rd_T75 xs (j : Int)).f1.f4 (rd_T75 xs (j : Int)).f1.f5 = true ∧
  (0 < j → (rd_T75 xs ((j : Int) - 1)).f0 ≤ (rd_T75 xs (j : Int)).f0)
/-- Is this a log? -/
def isLog (xs : List S75) : Prop := (∀ j, j < xs.length → okAt xs j) ∧ xs.length ≤ 16

theorem spec_IsLog.ev (xs : List S75) (hn : xs.length ≤ 9223372036854775806) : ∃ b, Ev (fun k => spec_IsLog.f k xs) b ∧ (b = true ↔ isLog xs) := by
  obtain ⟨b, hb, hq⟩ := all_loop_end (fun k i => spec_IsLog.l0 k xs i) (okAt xs) xs.length (decide ((xs.length : Int) ≤ 16))
    (fun k => by simp only [spec_IsLog.l0, if_neg (show ¬ ((xs.length : Int) < (xs.length : Int)) by omega)])
    (fun i hi => by
      have e1 := w64 (show -9223372036854775808 ≤ (i : Int) + 1 by omega) (by omega)
      have e2 := w64 (show -9223372036854775808 ≤ (i : Int) - 1 by omega) (by omega)
      by_cases h : 1 ≤ (rd_T75 xs (i : Int)).f0 ∧ (rd_T75 xs (i : Int)).f0 ≤ 20
      · cases hv : vop (rd_T75 xs (i : Int)).f1.f0 (rd_T75 xs (i : Int)).f1.f1 (rd_T75 xs (i : Int)).f1.f2 (rd_T75 xs (i : Int)).f1.f3 (rd_T75 xs (i : Int)).f1.f4 (rd_T75 xs (i : Int)).f1.f5 with
        | true =>
          by_cases h0 : 0 < i
          · by_cases h2 : (rd_T75 xs ((i : Int) - 1)).f0 ≤ (rd_T75 xs (i : Int)).f0
            · exact .inl ⟨⟨h, hv, fun _ => h2⟩, 0, fun k _ => by simp only [spec_IsLog.l0, if_pos (show (i : Int) < (xs.length : Int) by omega), if_pos (show (0 : Int) ≤ (i : Int) by omega), spec_l1In.val, spec_IsValidOp.val, hv, Option.bind_some, decide_eq_true h, if_true, e1, e2, if_pos (show (i : Int) > 0 by omega), if_pos (show (0 : Int) ≤ (i : Int) - 1 by omega), if_pos (show (i : Int) - 1 < (xs.length : Int) by omega), if_neg (show ¬ ((rd_T75 xs ((i : Int) - 1)).f0 > (rd_T75 xs (i : Int)).f0) by omega)]⟩
            · exact .inr ⟨fun hh => h2 (hh.2.2 h0), 0, fun k _ => by simp only [spec_IsLog.l0, if_pos (show (i : Int) < (xs.length : Int) by omega), if_pos (show (0 : Int) ≤ (i : Int) by omega), spec_l1In.val, spec_IsValidOp.val, hv, Option.bind_some, decide_eq_true h, if_true, e1, e2, if_pos (show (i : Int) > 0 by omega), if_pos (show (0 : Int) ≤ (i : Int) - 1 by omega), if_pos (show (i : Int) - 1 < (xs.length : Int) by omega), if_pos (show (rd_T75 xs ((i : Int) - 1)).f0 > (rd_T75 xs (i : Int)).f0 by omega)]⟩
          · exact .inl ⟨⟨h, hv, fun h1 => absurd h1 h0⟩, 0, fun k _ => by simp only [spec_IsLog.l0, if_pos (show (i : Int) < (xs.length : Int) by omega), if_pos (show (0 : Int) ≤ (i : Int) by omega), spec_l1In.val, spec_IsValidOp.val, hv, Option.bind_some, decide_eq_true h, if_true, e1, e2, if_neg (show ¬ ((i : Int) > 0) by omega)]⟩
        | false => exact .inr ⟨fun hh => by have hx := hh.2.1; rw [hv] at hx; exact absurd hx (by decide), 0, fun k _ => by simp only [spec_IsLog.l0, if_pos (show (i : Int) < (xs.length : Int) by omega), if_pos (show (0 : Int) ≤ (i : Int) by omega), spec_l1In.val, spec_IsValidOp.val, hv, Option.bind_some, decide_eq_true h, if_true, Bool.false_eq_true, if_false]⟩
      · exact .inr ⟨fun hh => h hh.1, 0, fun k _ => by simp only [spec_IsLog.l0, if_pos (show (i : Int) < (xs.length : Int) by omega), if_pos (show (0 : Int) ≤ (i : Int) by omega), spec_l1In.val, Option.bind_some, decide_eq_false h, Bool.false_eq_true, if_false]⟩)
  refine ⟨b, hb, hq.trans ?_⟩
  rw [isLog, decide_eq_true_iff]
  exact ⟨fun h => ⟨h.1, by omega⟩, fun h => ⟨h.1, by omega⟩⟩

theorem impl_within.val (a b c : Int) : impl_within.f a b c = some (decide (b ≤ a ∧ a ≤ c)) := by
  unfold impl_within.f
  by_cases h : b ≤ a <;> simp [h]

theorem impl_IsValidOp.val (a b c d e f : Int) : impl_IsValidOp.f a b c d e f = some (vop a b c d e f) := by
  unfold impl_IsValidOp.f vop
  simp only [impl_within.val, Option.bind_some]
  by_cases h1 : 0 ≤ a ∧ a ≤ 2
  · by_cases h2 : 1 ≤ b ∧ b ≤ 99
    · by_cases h3 : 0 ≤ d ∧ d ≤ 2
      · by_cases h4 : 0 ≤ f ∧ f ≤ 9
        · simp only [decide_eq_true h1, decide_eq_true h2, decide_eq_true h3, decide_eq_true h4, if_true]
          by_cases hc : c = 1
          · by_cases he : e = 0
            · simp [hc, he, h1, h2, h3, h4]
            · simp [hc, he, h1, h2, h3, h4]
          · by_cases hc2 : c = 2
            · simp [hc2, h1, h2, h3, h4]
            · simp [hc, hc2]
        · simp only [decide_eq_true h1, decide_eq_true h2, decide_eq_true h3, decide_eq_false h4, if_true, Bool.false_eq_true, if_false]
          simp; intros; omega
      · simp only [decide_eq_true h1, decide_eq_true h2, decide_eq_false h3, if_true, Bool.false_eq_true, if_false]
        simp; intros; omega
    · simp only [decide_eq_true h1, decide_eq_false h2, if_true, Bool.false_eq_true, if_false]
      simp; intros; omega
  · simp only [decide_eq_false h1, Bool.false_eq_true, if_false]
    simp; intros; omega

theorem impl_IsLog.ev (xs : List S75) (hn : xs.length ≤ 9223372036854775806) : ∃ b, Ev (fun k => impl_IsLog.f k xs) b ∧ (b = true ↔ isLog xs) := by
  obtain ⟨b, hb, hq⟩ := all_loop_end (fun k i => impl_IsLog.l0 k xs xs (xs.length : Int) i) (okAt xs) xs.length (decide ((xs.length : Int) ≤ 16))
    (fun k => by simp only [impl_IsLog.l0, if_neg (show ¬ ((xs.length : Int) < (xs.length : Int)) by omega)])
    (fun i hi => by
      have e1 := w64 (show -9223372036854775808 ≤ (i : Int) + 1 by omega) (by omega)
      have e2 := w64 (show -9223372036854775808 ≤ (i : Int) - 1 by omega) (by omega)
      by_cases h : 1 ≤ (rd_T75 xs (i : Int)).f0 ∧ (rd_T75 xs (i : Int)).f0 ≤ 20
      · cases hv : vop (rd_T75 xs (i : Int)).f1.f0 (rd_T75 xs (i : Int)).f1.f1 (rd_T75 xs (i : Int)).f1.f2 (rd_T75 xs (i : Int)).f1.f3 (rd_T75 xs (i : Int)).f1.f4 (rd_T75 xs (i : Int)).f1.f5 with
        | true =>
          by_cases h0 : 0 < i
          · by_cases h2 : (rd_T75 xs ((i : Int) - 1)).f0 ≤ (rd_T75 xs (i : Int)).f0
            · exact .inl ⟨⟨h, hv, fun _ => h2⟩, 0, fun k _ => by simp only [impl_IsLog.l0, if_pos (show (i : Int) < (xs.length : Int) by omega), if_pos (show (0 : Int) ≤ (i : Int) by omega), impl_within.val, impl_IsValidOp.val, hv, Option.bind_some, decide_eq_true h, if_true, e1, e2, if_pos (show (i : Int) > 0 by omega), if_pos (show (0 : Int) ≤ (i : Int) - 1 by omega), if_pos (show (i : Int) - 1 < (xs.length : Int) by omega), if_neg (show ¬ ((rd_T75 xs (i : Int)).f0 < (rd_T75 xs ((i : Int) - 1)).f0) by omega)]⟩
            · exact .inr ⟨fun hh => h2 (hh.2.2 h0), 0, fun k _ => by simp only [impl_IsLog.l0, if_pos (show (i : Int) < (xs.length : Int) by omega), if_pos (show (0 : Int) ≤ (i : Int) by omega), impl_within.val, impl_IsValidOp.val, hv, Option.bind_some, decide_eq_true h, if_true, e1, e2, if_pos (show (i : Int) > 0 by omega), if_pos (show (0 : Int) ≤ (i : Int) - 1 by omega), if_pos (show (i : Int) - 1 < (xs.length : Int) by omega), if_pos (show (rd_T75 xs (i : Int)).f0 < (rd_T75 xs ((i : Int) - 1)).f0 by omega)]⟩
          · exact .inl ⟨⟨h, hv, fun h1 => absurd h1 h0⟩, 0, fun k _ => by simp only [impl_IsLog.l0, if_pos (show (i : Int) < (xs.length : Int) by omega), if_pos (show (0 : Int) ≤ (i : Int) by omega), impl_within.val, impl_IsValidOp.val, hv, Option.bind_some, decide_eq_true h, if_true, e1, e2, if_neg (show ¬ ((i : Int) > 0) by omega)]⟩
        | false =>
          have hno : ¬ okAt xs i := fun hh => by have hx := hh.2.1; rw [hv] at hx; exact absurd hx (by decide)
          by_cases h0 : 0 < i
          · by_cases h2 : (rd_T75 xs ((i : Int) - 1)).f0 ≤ (rd_T75 xs (i : Int)).f0
            · exact .inr ⟨hno, 0, fun k _ => by simp only [impl_IsLog.l0, if_pos (show (i : Int) < (xs.length : Int) by omega), if_pos (show (0 : Int) ≤ (i : Int) by omega), impl_within.val, impl_IsValidOp.val, hv, Option.bind_some, decide_eq_true h, if_true, e1, e2, if_pos (show (i : Int) > 0 by omega), if_pos (show (0 : Int) ≤ (i : Int) - 1 by omega), if_pos (show (i : Int) - 1 < (xs.length : Int) by omega), if_neg (show ¬ ((rd_T75 xs (i : Int)).f0 < (rd_T75 xs ((i : Int) - 1)).f0) by omega), Bool.false_eq_true, if_false]⟩
            · exact .inr ⟨hno, 0, fun k _ => by simp only [impl_IsLog.l0, if_pos (show (i : Int) < (xs.length : Int) by omega), if_pos (show (0 : Int) ≤ (i : Int) by omega), impl_within.val, impl_IsValidOp.val, hv, Option.bind_some, decide_eq_true h, if_true, e1, e2, if_pos (show (i : Int) > 0 by omega), if_pos (show (0 : Int) ≤ (i : Int) - 1 by omega), if_pos (show (i : Int) - 1 < (xs.length : Int) by omega), if_pos (show (rd_T75 xs (i : Int)).f0 < (rd_T75 xs ((i : Int) - 1)).f0 by omega)]⟩
          · exact .inr ⟨hno, 0, fun k _ => by simp only [impl_IsLog.l0, if_pos (show (i : Int) < (xs.length : Int) by omega), if_pos (show (0 : Int) ≤ (i : Int) by omega), impl_within.val, impl_IsValidOp.val, hv, Option.bind_some, decide_eq_true h, if_true, e1, e2, if_neg (show ¬ ((i : Int) > 0) by omega), Bool.false_eq_true, if_false]⟩
      · exact .inr ⟨fun hh => h hh.1, 0, fun k _ => by simp only [impl_IsLog.l0, if_pos (show (i : Int) < (xs.length : Int) by omega), if_pos (show (0 : Int) ≤ (i : Int) by omega), impl_within.val, Option.bind_some, decide_eq_false h, Bool.false_eq_true, if_false]⟩)
  refine ⟨b, hb, hq.trans ?_⟩
  rw [isLog, decide_eq_true_iff]
  exact ⟨fun h => ⟨h.1, by omega⟩, fun h => ⟨h.1, by omega⟩⟩

theorem FnExactIsLog : FnExactIsLogPure := by
  intro l h1
  refine Ev.rounds (g := fun k => laws_FnExactIsLog.f k l) ?_
  obtain ⟨r, hr, hq⟩ := laws_szEntryS.val l 1048576 h1.1 (by omega) (by omega)
  simp only [laws_FnExactIsLog.f, hr, Option.bind_some]
  by_cases hneg : r < 0
  · simp only [if_pos hneg]; exact Ev.now _
  · obtain ⟨e1, e2⟩ := hq hneg
    simp only [if_neg hneg]
    have hT := laws_toEntryS.ev l (by omega)
    have hl : (l.map toE).length ≤ 1048576 := by simp; omega
    obtain ⟨b, hb1, hq1⟩ := spec_IsLog.ev (l.map toE) (by omega)
    obtain ⟨c, hc1, hq2⟩ := impl_IsLog.ev (l.map toE) (by omega)
    obtain rfl : c = b := by rw [Bool.eq_iff_iff, hq1, hq2]
    refine Ev.bind hT (Ev.bind hb1 (Ev.bind hT (Ev.bind hc1 ?_)))
    simp only [bne_self_eq_false, Bool.false_eq_true, if_false]
    refine Ev.bind hT (Ev.bind (laws_eqEntryS.same _ (by omega)) ?_)
    exact ev_val (fun _ => by simp)

end Go.Proofs.Ytgannaafabhopaa.Pure
