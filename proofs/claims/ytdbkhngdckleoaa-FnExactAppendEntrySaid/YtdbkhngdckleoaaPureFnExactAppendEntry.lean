/- For every log and entry the law FnExactAppendEntry returns true; no conditions. -/
import Derived.Test.YtdbkhngdckleoaaQFnExactAppendEntry
import Derived.Test.YtdbkhngdckleoaaACom
set_option linter.unusedVariables false
set_option linter.unusedSimpArgs false
namespace Go.Proofs.Ytdbkhngdckleoaa.Pure
open Go.RowKit Go.Proofs.Ytdbkhngdckleoaa.A Go.Proofs.YtdbkhngdckleoaaW.PrintWords Go.Proofs.YtdbkhngdckleoaaW.PrintLast
open Go.Proofs.Ytdbkhngdckleoaa.Opens
open Go.Proofs.Ytdbkhngdckleoaa.Com
open Classical in

theorem laws_szEntryS.val (xs : List S32) (a : Int) (hn : xs.length ≤ maxLen) (h0 : 0 ≤ a) (h1 : a ≤ 1048576) :
    ∃ r, laws_szEntryS.f xs a = some r ∧ (¬ r < 0 → r = a - xs.length ∧ (xs.length : Int) ≤ a) := by
  unfold maxLen at hn
  unfold laws_szEntryS.f
  rw [w64 (show -9223372036854775808 ≤ a - (xs.length : Int) by omega) (by omega)]
  by_cases h : a - (xs.length : Int) < 0
  · exact ⟨-1, by rw [if_pos h], fun h' => by omega⟩
  · exact ⟨_, by rw [if_neg h], fun h' => ⟨rfl, by omega⟩⟩

theorem laws_toOp.val (a b c d e f : Int) : laws_toOp.f a b c d e f = some (a, b, c, d, e, f) := rfl

theorem laws_toEntry.val (x a b c d e f : Int) : laws_toEntry.f x a b c d e f = some (x, a, b, c, d, e, f) := rfl

theorem rdE (xs : List S37) (i : Nat) (h : i < xs.length) : rd_T37 xs (i : Int) = xs[i] := by simp [rd_T37, h]
theorem rdLE (xs : List S32) (i : Nat) (h : i < xs.length) : rd_T32 xs (i : Int) = xs[i] := by simp [rd_T32, h]
/-- An entry of the laws, as one of the program. -/
def toE (x : S32) : S37 := ⟨x.f0, ⟨x.f1.f0, x.f1.f1, x.f1.f2, x.f1.f3, x.f1.f4, x.f1.f5⟩⟩
theorem ent_eq (x y : S37) : x = y ↔ x.f0 = y.f0 ∧ x.f1.f0 = y.f1.f0 ∧ x.f1.f1 = y.f1.f1 ∧ x.f1.f2 = y.f1.f2 ∧ x.f1.f3 = y.f1.f3 ∧ x.f1.f4 = y.f1.f4 ∧ x.f1.f5 = y.f1.f5 := by
  constructor
  · intro h; subst h; simp
  · rintro ⟨h0, h1, h2, h3, h4, h5, h6⟩
    obtain ⟨a, ⟨b, c, d, e, f, g⟩⟩ := x
    obtain ⟨a', ⟨b', c', d', e', f', g'⟩⟩ := y
    simp_all

theorem laws_toEntryS.ev (xs : List S32) (hn : xs.length ≤ 5026338869833) : Ev (fun k => laws_toEntryS.f k xs) (xs.map toE) := by
  have := map_loop (fun k ys i => laws_toEntryS.l0 k xs ys i) toE xs
    (fun k ys _ => by simp only [laws_toEntryS.l0, if_neg (show ¬ ((xs.length : Int) < (xs.length : Int)) by omega)])
    (fun i h ys k hy => by
      simp only [laws_toEntryS.l0, if_pos (show (i : Int) < (xs.length : Int) by omega), if_pos (show (0 : Int) ≤ (i : Int) by omega), if_pos (show (i : Int) < (ys.length : Int) by omega),
        laws_toEntry.val, Option.bind_some, rdLE xs i h, Int.toNat_natCast, w64 (show -9223372036854775808 ≤ (i : Int) + 1 by omega) (by omega), toE])
    (List.replicate xs.length z37) (by simp)
  refine Ev.congr (fun k => ?_) this
  simp only [laws_toEntryS.f, if_pos (show (0 : Int) ≤ (xs.length : Int) by omega), Int.toNat_natCast, if_pos hn]

theorem laws_eqOp.val (a b c d e f a' b' c' d' e' f' : Int) : laws_eqOp.f a b c d e f a' b' c' d' e' f' = some (decide (a = a' ∧ b = b' ∧ c = c' ∧ d = d' ∧ e = e' ∧ f = f')) := by
  unfold laws_eqOp.f
  by_cases h1 : a = a' <;> by_cases h2 : b = b' <;> by_cases h3 : c = c' <;> by_cases h4 : d = d' <;> by_cases h5 : e = e' <;> by_cases h6 : f = f' <;> simp [h1, h2, h3, h4, h5, h6]

theorem laws_eqEntry.val (x y : S37) : ∃ b, laws_eqEntry.f x.f0 x.f1.f0 x.f1.f1 x.f1.f2 x.f1.f3 x.f1.f4 x.f1.f5 y.f0 y.f1.f0 y.f1.f1 y.f1.f2 y.f1.f3 y.f1.f4 y.f1.f5 = some b ∧ (b = true ↔ x = y) := by
  unfold laws_eqEntry.f
  rw [ent_eq]
  by_cases h : x.f0 = y.f0
  · rw [if_pos h, laws_eqOp.val]
    simp only [Option.bind_some]
    by_cases h2 : x.f1.f0 = y.f1.f0 ∧ x.f1.f1 = y.f1.f1 ∧ x.f1.f2 = y.f1.f2 ∧ x.f1.f3 = y.f1.f3 ∧ x.f1.f4 = y.f1.f4 ∧ x.f1.f5 = y.f1.f5
    · exact ⟨true, by rw [if_pos (decide_eq_true h2)], by simp only [true_iff]; exact ⟨h, h2⟩⟩
    · exact ⟨false, by rw [if_neg (by simpa using h2)], by simp only [Bool.false_eq_true, false_iff]; exact fun h' => h2 h'.2⟩
  · exact ⟨false, by rw [if_neg h], by simp only [Bool.false_eq_true, false_iff]; exact fun h' => h h'.1⟩

theorem laws_eqEntryS.ev (xs ys : List S37) (hn : xs.length ≤ 9223372036854775806) : ∃ b, Ev (fun k => laws_eqEntryS.f k xs ys) b ∧ (b = true ↔ xs = ys) := by
  by_cases hl : xs.length = ys.length
  · obtain ⟨b, hb, hq⟩ := eq_loop (fun k i => laws_eqEntryS.l0 k xs ys i) xs ys hl
      (fun k => by simp only [laws_eqEntryS.l0, if_neg (show ¬ ((xs.length : Int) < (xs.length : Int)) by omega)])
      (fun i h1 h2 => by
        obtain ⟨b, hb, hq⟩ := laws_eqEntry.val xs[i] ys[i]
        cases b with
        | true => exact .inl ⟨hq.1 rfl, 0, fun k _ => by simp only [laws_eqEntryS.l0, if_pos (show (i : Int) < (xs.length : Int) by omega), if_pos (show (0 : Int) ≤ (i : Int) by omega), if_pos (show (i : Int) < (ys.length : Int) by omega), rdE xs i h1, rdE ys i h2, hb, Option.bind_some, if_true, w64 (show -9223372036854775808 ≤ (i : Int) + 1 by omega) (by omega)]⟩
        | false => exact .inr ⟨fun h => by simpa using hq.2 h, 0, fun k _ => by simp only [laws_eqEntryS.l0, if_pos (show (i : Int) < (xs.length : Int) by omega), if_pos (show (0 : Int) ≤ (i : Int) by omega), if_pos (show (i : Int) < (ys.length : Int) by omega), rdE xs i h1, rdE ys i h2, hb, Option.bind_some, Bool.false_eq_true, if_false]⟩)
    refine ⟨b, ?_, hq⟩
    refine Ev.congr (fun k => ?_) hb
    simp only [laws_eqEntryS.f, if_pos (show (xs.length : Int) = (ys.length : Int) by omega)]
  · refine ⟨false, ev_val (fun k => ?_), ?_⟩
    · simp only [laws_eqEntryS.f, if_neg (show ¬ ((xs.length : Int) = (ys.length : Int)) by omega)]
    · constructor
      · intro h; cases h
      · intro h; subst h; exact absurd rfl hl
theorem laws_eqEntryS.same (xs : List S37) (hn : xs.length ≤ 9223372036854775806) : Ev (fun k => laws_eqEntryS.f k xs xs) true := by
  obtain ⟨b, hb, hq⟩ := laws_eqEntryS.ev xs xs hn
  exact ev_eq hb (hq.2 rfl)

theorem spec_l5Copy.val (xs : List S37) (h : xs.length < 2513169434916) : spec_l5Copy.f xs = some xs := by
  simp only [spec_l5Copy.f, Option.bind_some, List.length_nil, List.nil_append, if_pos (show 0 + xs.length < 2513169434916 by omega)]

theorem spec_l1In.val (a b c : Int) : spec_l1In.f a b c = some (decide (b ≤ a ∧ a ≤ c)) := by
  unfold spec_l1In.f
  by_cases h : b ≤ a <;> simp [h]

/-- Is this an operation? -/
def vop (a b c d e f : Int) : Bool := decide ((0 ≤ a ∧ a ≤ 2) ∧ (1 ≤ b ∧ b ≤ 99) ∧ (0 ≤ d ∧ d ≤ 2) ∧ (0 ≤ f ∧ f ≤ 9) ∧ ((c = 1 ∧ e = 0) ∨ (c = 2 ∧ 0 ≤ e ∧ e ≤ 9)))

theorem spec_IsValidOp.val (a b c d e f : Int) : spec_IsValidOp.f a b c d e f = some (vop a b c d e f) := by
  unfold spec_IsValidOp.f vop
  simp only [spec_l1In.val, Option.bind_some]
  by_cases h1 : 0 ≤ a ∧ a ≤ 2
  · by_cases h2 : 1 ≤ b ∧ b ≤ 99
    · by_cases h3 : 0 ≤ d ∧ d ≤ 2
      · by_cases h4 : 0 ≤ f ∧ f ≤ 9
        · simp only [decide_eq_true h1, decide_eq_true h2, decide_eq_true h3, decide_eq_true h4, if_true]
          by_cases hc : c = 1
          · by_cases he : e = 0
            · simp [hc, he, h1, h2, h3, h4]
            · simp [hc, he, h1, h2, h3, h4]
          · by_cases hc2 : c = 2
            · simp [hc2, h1, h2, h3, h4]
            · simp [hc, hc2]
        · simp only [decide_eq_true h1, decide_eq_true h2, decide_eq_true h3, decide_eq_false h4, if_true, Bool.false_eq_true, if_false]
          simp; intros; omega
      · simp only [decide_eq_true h1, decide_eq_true h2, decide_eq_false h3, if_true, Bool.false_eq_true, if_false]
        simp; intros; omega
    · simp only [decide_eq_true h1, decide_eq_false h2, if_true, Bool.false_eq_true, if_false]
      simp; intros; omega
  · simp only [decide_eq_false h1, Bool.false_eq_true, if_false]
    simp; intros; omega

/-- Is this entry one of a log, behind the one before it? -/
def okAt (xs : List S37) (j : Nat) : Prop := (1 ≤ (rd_T37 xs (j : Int)).f0 ∧ (rd_T37 xs (j : Int)).f0 ≤ 20) ∧
  vop (rd_T37 xs (j : Int)).f1.f0 (rd_T37 xs (j : Int)).f1.f1 (rd_T37 xs (j : Int)).f1.f2 (rd_T37 xs (j : Int)).f1.f3 (rd_T37 xs (j : Int)).f1.f4 (rd_T37 xs (j : Int)).f1.f5 = true ∧
  (0 < j → (rd_T37 xs ((j : Int) - 1)).f0 ≤ (rd_T37 xs (j : Int)).f0)
/-- Is this a log? -/
def isLog (xs : List S37) : Prop := (∀ j, j < xs.length → okAt xs j) ∧ xs.length ≤ 16

theorem spec_IsLog.ev (xs : List S37) (hn : xs.length ≤ 9223372036854775806) : ∃ b, Ev (fun k => spec_IsLog.f k xs) b ∧ (b = true ↔ isLog xs) := by
  obtain ⟨b, hb, hq⟩ := all_loop_end (fun k i => spec_IsLog.l0 k xs i) (okAt xs) xs.length (decide ((xs.length : Int) ≤ 16))
    (fun k => by simp only [spec_IsLog.l0, if_neg (show ¬ ((xs.length : Int) < (xs.length : Int)) by omega)])
    (fun i hi => by
      have e1 := w64 (show -9223372036854775808 ≤ (i : Int) + 1 by omega) (by omega)
      have e2 := w64 (show -9223372036854775808 ≤ (i : Int) - 1 by omega) (by omega)
      by_cases h : 1 ≤ (rd_T37 xs (i : Int)).f0 ∧ (rd_T37 xs (i : Int)).f0 ≤ 20
      · cases hv : vop (rd_T37 xs (i : Int)).f1.f0 (rd_T37 xs (i : Int)).f1.f1 (rd_T37 xs (i : Int)).f1.f2 (rd_T37 xs (i : Int)).f1.f3 (rd_T37 xs (i : Int)).f1.f4 (rd_T37 xs (i : Int)).f1.f5 with
        | true =>
          by_cases h0 : 0 < i
          · by_cases h2 : (rd_T37 xs ((i : Int) - 1)).f0 ≤ (rd_T37 xs (i : Int)).f0
            · exact .inl ⟨⟨h, hv, fun _ => h2⟩, 0, fun k _ => by simp only [spec_IsLog.l0, if_pos (show (i : Int) < (xs.length : Int) by omega), if_pos (show (0 : Int) ≤ (i : Int) by omega), spec_l1In.val, spec_IsValidOp.val, hv, Option.bind_some, decide_eq_true h, if_true, e1, e2, if_pos (show (i : Int) > 0 by omega), if_pos (show (0 : Int) ≤ (i : Int) - 1 by omega), if_pos (show (i : Int) - 1 < (xs.length : Int) by omega), if_neg (show ¬ ((rd_T37 xs ((i : Int) - 1)).f0 > (rd_T37 xs (i : Int)).f0) by omega)]⟩
            · exact .inr ⟨fun hh => h2 (hh.2.2 h0), 0, fun k _ => by simp only [spec_IsLog.l0, if_pos (show (i : Int) < (xs.length : Int) by omega), if_pos (show (0 : Int) ≤ (i : Int) by omega), spec_l1In.val, spec_IsValidOp.val, hv, Option.bind_some, decide_eq_true h, if_true, e1, e2, if_pos (show (i : Int) > 0 by omega), if_pos (show (0 : Int) ≤ (i : Int) - 1 by omega), if_pos (show (i : Int) - 1 < (xs.length : Int) by omega), if_pos (show (rd_T37 xs ((i : Int) - 1)).f0 > (rd_T37 xs (i : Int)).f0 by omega)]⟩
          · exact .inl ⟨⟨h, hv, fun h1 => absurd h1 h0⟩, 0, fun k _ => by simp only [spec_IsLog.l0, if_pos (show (i : Int) < (xs.length : Int) by omega), if_pos (show (0 : Int) ≤ (i : Int) by omega), spec_l1In.val, spec_IsValidOp.val, hv, Option.bind_some, decide_eq_true h, if_true, e1, e2, if_neg (show ¬ ((i : Int) > 0) by omega)]⟩
        | false => exact .inr ⟨fun hh => by have hx := hh.2.1; rw [hv] at hx; exact absurd hx (by decide), 0, fun k _ => by simp only [spec_IsLog.l0, if_pos (show (i : Int) < (xs.length : Int) by omega), if_pos (show (0 : Int) ≤ (i : Int) by omega), spec_l1In.val, spec_IsValidOp.val, hv, Option.bind_some, decide_eq_true h, if_true, Bool.false_eq_true, if_false]⟩
      · exact .inr ⟨fun hh => h hh.1, 0, fun k _ => by simp only [spec_IsLog.l0, if_pos (show (i : Int) < (xs.length : Int) by omega), if_pos (show (0 : Int) ≤ (i : Int) by omega), spec_l1In.val, Option.bind_some, decide_eq_false h, Bool.false_eq_true, if_false]⟩)
  refine ⟨b, hb, hq.trans ?_⟩
  rw [isLog, decide_eq_true_iff]
  exact ⟨fun h => ⟨h.1, by omega⟩, fun h => ⟨h.1, by omega⟩⟩

theorem rdE_app (xs : List S37) (e : S37) (i : Int) (h : i.toNat < xs.length) : rd_T37 (xs ++ [e]) i = rd_T37 xs i := by
  simp only [rd_T37, List.getD_eq_getElem?_getD, List.getElem?_append_left h]
theorem isLog_front (xs : List S37) (e : S37) (h : isLog (xs ++ [e])) : isLog xs := by
  obtain ⟨h1, h2⟩ := h
  simp only [List.length_append, List.length_singleton] at h1 h2
  refine ⟨fun j hj => ?_, by omega⟩
  have := h1 j (by omega)
  simp only [okAt, rdE_app xs e (j : Int) (by omega)] at this
  refine ⟨this.1, this.2.1, fun h0 => ?_⟩
  have h3 := this.2.2 h0
  rwa [rdE_app xs e ((j : Int) - 1) (by omega)] at h3
open Classical in
/-- A log with one entry more, or the log as it was. -/
noncomputable def appE (xs : List S37) (e : S37) : List S37 × Bool := if isLog (xs ++ [e]) then (xs ++ [e], true) else (xs, false)
theorem appE_len (xs : List S37) (e : S37) : (appE xs e).1.length ≤ xs.length + 1 := by unfold appE; split <;> simp

theorem spec_AppendEntry.ev (xs : List S37) (a b c d e f g : Int) (hn : xs.length < 1000000000) : Ev (fun k => spec_AppendEntry.f k xs a b c d e f g) (appE xs ⟨a, ⟨b, c, d, e, f, g⟩⟩) := by
  obtain ⟨p, hp, hp2⟩ := spec_IsLog.ev xs (by omega)
  obtain ⟨q, hq, hq2⟩ := spec_IsLog.ev (xs ++ [⟨a, ⟨b, c, d, e, f, g⟩⟩]) (by simp; omega)
  simp only [spec_AppendEntry.f, spec_l5Copy.val xs (by omega), Option.bind_some, List.length_singleton, if_pos (show xs.length + 1 < 2513169434916 by omega)]
  refine Ev.bind hp ?_
  cases p with
  | true =>
    simp only [if_true]
    refine Ev.bind hq ?_
    cases q with
    | true => simp only [if_true]; exact ev_some (by rw [appE, if_pos (hq2.1 rfl)])
    | false => simp only [Bool.false_eq_true, if_false]; exact ev_some (by rw [appE, if_neg (fun h => by simpa using hq2.2 h)])
  | false => simp only [Bool.false_eq_true, if_false]; exact ev_some (by rw [appE, if_neg (fun h => by simpa using hp2.2 (isLog_front _ _ h))])

theorem impl_within.val (a b c : Int) : impl_within.f a b c = some (decide (b ≤ a ∧ a ≤ c)) := by
  unfold impl_within.f
  by_cases h : b ≤ a <;> simp [h]

theorem impl_IsValidOp.val (a b c d e f : Int) : impl_IsValidOp.f a b c d e f = some (vop a b c d e f) := by
  unfold impl_IsValidOp.f vop
  simp only [impl_within.val, Option.bind_some]
  by_cases h1 : 0 ≤ a ∧ a ≤ 2
  · by_cases h2 : 1 ≤ b ∧ b ≤ 99
    · by_cases h3 : 0 ≤ d ∧ d ≤ 2
      · by_cases h4 : 0 ≤ f ∧ f ≤ 9
        · simp only [decide_eq_true h1, decide_eq_true h2, decide_eq_true h3, decide_eq_true h4, if_true]
          by_cases hc : c = 1
          · by_cases he : e = 0
            · simp [hc, he, h1, h2, h3, h4]
            · simp [hc, he, h1, h2, h3, h4]
          · by_cases hc2 : c = 2
            · simp [hc2, h1, h2, h3, h4]
            · simp [hc, hc2]
        · simp only [decide_eq_true h1, decide_eq_true h2, decide_eq_true h3, decide_eq_false h4, if_true, Bool.false_eq_true, if_false]
          simp; intros; omega
      · simp only [decide_eq_true h1, decide_eq_true h2, decide_eq_false h3, if_true, Bool.false_eq_true, if_false]
        simp; intros; omega
    · simp only [decide_eq_true h1, decide_eq_false h2, if_true, Bool.false_eq_true, if_false]
      simp; intros; omega
  · simp only [decide_eq_false h1, Bool.false_eq_true, if_false]
    simp; intros; omega

theorem impl_IsLog.ev (xs : List S37) (hn : xs.length ≤ 9223372036854775806) : ∃ b, Ev (fun k => impl_IsLog.f k xs) b ∧ (b = true ↔ isLog xs) := by
  obtain ⟨b, hb, hq⟩ := all_loop_end (fun k i => impl_IsLog.l0 k xs xs (xs.length : Int) i) (okAt xs) xs.length (decide ((xs.length : Int) ≤ 16))
    (fun k => by simp only [impl_IsLog.l0, if_neg (show ¬ ((xs.length : Int) < (xs.length : Int)) by omega)])
    (fun i hi => by
      have e1 := w64 (show -9223372036854775808 ≤ (i : Int) + 1 by omega) (by omega)
      have e2 := w64 (show -9223372036854775808 ≤ (i : Int) - 1 by omega) (by omega)
      by_cases h : 1 ≤ (rd_T37 xs (i : Int)).f0 ∧ (rd_T37 xs (i : Int)).f0 ≤ 20
      · cases hv : vop (rd_T37 xs (i : Int)).f1.f0 (rd_T37 xs (i : Int)).f1.f1 (rd_T37 xs (i : Int)).f1.f2 (rd_T37 xs (i : Int)).f1.f3 (rd_T37 xs (i : Int)).f1.f4 (rd_T37 xs (i : Int)).f1.f5 with
        | true =>
          by_cases h0 : 0 < i
          · by_cases h2 : (rd_T37 xs ((i : Int) - 1)).f0 ≤ (rd_T37 xs (i : Int)).f0
            · exact .inl ⟨⟨h, hv, fun _ => h2⟩, 0, fun k _ => by simp only [impl_IsLog.l0, if_pos (show (i : Int) < (xs.length : Int) by omega), if_pos (show (0 : Int) ≤ (i : Int) by omega), impl_within.val, impl_IsValidOp.val, hv, Option.bind_some, decide_eq_true h, if_true, e1, e2, if_pos (show (i : Int) > 0 by omega), if_pos (show (0 : Int) ≤ (i : Int) - 1 by omega), if_pos (show (i : Int) - 1 < (xs.length : Int) by omega), if_neg (show ¬ ((rd_T37 xs (i : Int)).f0 < (rd_T37 xs ((i : Int) - 1)).f0) by omega)]⟩
            · exact .inr ⟨fun hh => h2 (hh.2.2 h0), 0, fun k _ => by simp only [impl_IsLog.l0, if_pos (show (i : Int) < (xs.length : Int) by omega), if_pos (show (0 : Int) ≤ (i : Int) by omega), impl_within.val, impl_IsValidOp.val, hv, Option.bind_some, decide_eq_true h, if_true, e1, e2, if_pos (show (i : Int) > 0 by omega), if_pos (show (0 : Int) ≤ (i : Int) - 1 by omega), if_pos (show (i : Int) - 1 < (xs.length : Int) by omega), if_pos (show (rd_T37 xs (i : Int)).f0 < (rd_T37 xs ((i : Int) - 1)).f0 by omega)]⟩
          · exact .inl ⟨⟨h, hv, fun h1 => absurd h1 h0⟩, 0, fun k _ => by simp only [impl_IsLog.l0, if_pos (show (i : Int) < (xs.length : Int) by omega), if_pos (show (0 : Int) ≤ (i : Int) by omega), impl_within.val, impl_IsValidOp.val, hv, Option.bind_some, decide_eq_true h, if_true, e1, e2, if_neg (show ¬ ((i : Int) > 0) by omega)]⟩
        | false =>
          have hno : ¬ okAt xs i := fun hh => by have hx := hh.2.1; rw [hv] at hx; exact absurd hx (by decide)
          by_cases h0 : 0 < i
          · by_cases h2 : (rd_T37 xs ((i : Int) - 1)).f0 ≤ (rd_T37 xs (i : Int)).f0
            · exact .inr ⟨hno, 0, fun k _ => by simp only [impl_IsLog.l0, if_pos (show (i : Int) < (xs.length : Int) by omega), if_pos (show (0 : Int) ≤ (i : Int) by omega), impl_within.val, impl_IsValidOp.val, hv, Option.bind_some, decide_eq_true h, if_true, e1, e2, if_pos (show (i : Int) > 0 by omega), if_pos (show (0 : Int) ≤ (i : Int) - 1 by omega), if_pos (show (i : Int) - 1 < (xs.length : Int) by omega), if_neg (show ¬ ((rd_T37 xs (i : Int)).f0 < (rd_T37 xs ((i : Int) - 1)).f0) by omega), Bool.false_eq_true, if_false]⟩
            · exact .inr ⟨hno, 0, fun k _ => by simp only [impl_IsLog.l0, if_pos (show (i : Int) < (xs.length : Int) by omega), if_pos (show (0 : Int) ≤ (i : Int) by omega), impl_within.val, impl_IsValidOp.val, hv, Option.bind_some, decide_eq_true h, if_true, e1, e2, if_pos (show (i : Int) > 0 by omega), if_pos (show (0 : Int) ≤ (i : Int) - 1 by omega), if_pos (show (i : Int) - 1 < (xs.length : Int) by omega), if_pos (show (rd_T37 xs (i : Int)).f0 < (rd_T37 xs ((i : Int) - 1)).f0 by omega)]⟩
          · exact .inr ⟨hno, 0, fun k _ => by simp only [impl_IsLog.l0, if_pos (show (i : Int) < (xs.length : Int) by omega), if_pos (show (0 : Int) ≤ (i : Int) by omega), impl_within.val, impl_IsValidOp.val, hv, Option.bind_some, decide_eq_true h, if_true, e1, e2, if_neg (show ¬ ((i : Int) > 0) by omega), Bool.false_eq_true, if_false]⟩
      · exact .inr ⟨fun hh => h hh.1, 0, fun k _ => by simp only [impl_IsLog.l0, if_pos (show (i : Int) < (xs.length : Int) by omega), if_pos (show (0 : Int) ≤ (i : Int) by omega), impl_within.val, Option.bind_some, decide_eq_false h, Bool.false_eq_true, if_false]⟩)
  refine ⟨b, hb, hq.trans ?_⟩
  rw [isLog, decide_eq_true_iff]
  exact ⟨fun h => ⟨h.1, by omega⟩, fun h => ⟨h.1, by omega⟩⟩

theorem slices_Clone_impl_Entry_impl_Entry.val (xs : List S37) (h : xs.length < 2513169434916) : slices_Clone_impl_Entry_impl_Entry.f xs = some xs := by
  simp only [slices_Clone_impl_Entry_impl_Entry.f, if_pos h]

theorem impl_AppendEntry.ev (xs : List S37) (a b c d e f g : Int) (hn : xs.length < 1000000000) : Ev (fun k => impl_AppendEntry.f k xs a b c d e f g) (appE xs ⟨a, ⟨b, c, d, e, f, g⟩⟩) := by
  obtain ⟨q, hq, hq2⟩ := impl_IsLog.ev (xs ++ [⟨a, ⟨b, c, d, e, f, g⟩⟩]) (by simp; omega)
  simp only [impl_AppendEntry.f, slices_Clone_impl_Entry_impl_Entry.val xs (by omega), Option.bind_some, List.length_singleton, if_pos (show xs.length + 1 < 2513169434916 by omega)]
  refine Ev.bind hq ?_
  cases q with
  | true => simp only [if_true]; exact ev_some (by rw [appE, if_pos (hq2.1 rfl)])
  | false => simp only [Bool.false_eq_true, if_false]; exact ev_some (by rw [appE, if_neg (fun h => by simpa using hq2.2 h)])

/-- The mark of an entry. -/
def markE (a : Int) : S37 := ⟨a, ⟨a + 1, a + 2, a + 3, a + 4, a + 5, a + 6⟩⟩
def marksE (n : Nat) (a : Int) : List S37 := (List.range n).map fun (i : Nat) => markE (a + 7 * (i : Int))
theorem marksE_length (n : Nat) (a : Int) : (marksE n a).length = n := by simp [marksE]

theorem laws_markEntryS.ev (xs : List S37) (a : Int) (hn : xs.length ≤ 1048576000) (h0 : 0 ≤ a) (h1 : a ≤ 1048576000000) : Ev (fun k => laws_markEntryS.f k xs a) (a + 7 * xs.length, marksE xs.length a) := by
  have := mark_loop (fun k ys a i => laws_markEntryS.l0 k ys a i) 7 markE ⟨by omega, by omega⟩
    (fun k xs a => by simp only [laws_markEntryS.l0, if_neg (show ¬ ((xs.length : Int) < (xs.length : Int)) by omega)])
    (fun xs a i k hi hi2 ha ha' => by
      have r1 : ∀ (ys : List S37) (v : S37), i < ys.length → rd_T37 (ys.set i v) (i : Int) = v := fun ys v h => by
        rw [rdE _ i (by simpa using h)]; simp
      simp only [laws_markEntryS.l0, if_pos (show (i : Int) < (xs.length : Int) by omega), if_pos (show (0 : Int) ≤ (i : Int) by omega), Int.toNat_natCast, w64 (show -9223372036854775808 ≤ (i : Int) + 1 by omega) (by omega), w64 (show -9223372036854775808 ≤ a + 1 by omega) (by omega), w64 (show -9223372036854775808 ≤ a + 1 + 1 by omega) (by omega), w64 (show -9223372036854775808 ≤ a + 1 + 1 + 1 by omega) (by omega), w64 (show -9223372036854775808 ≤ a + 1 + 1 + 1 + 1 by omega) (by omega), w64 (show -9223372036854775808 ≤ a + 1 + 1 + 1 + 1 + 1 by omega) (by omega), w64 (show -9223372036854775808 ≤ a + 1 + 1 + 1 + 1 + 1 + 1 by omega) (by omega), w64 (show -9223372036854775808 ≤ a + 1 + 1 + 1 + 1 + 1 + 1 + 1 by omega) (by omega), Option.bind_some]
      rw [r1 xs _ hi]
      simp only []
      rw [r1 _ _ (by simpa using hi)]
      simp only []
      rw [r1 _ _ (by simpa using hi)]
      simp only []
      rw [r1 _ _ (by simpa using hi)]
      simp only []
      rw [r1 _ _ (by simpa using hi)]
      simp only []
      rw [r1 _ _ (by simpa using hi)]
      simp only [List.set_set, markE, show a + 1 + 1 = a + 2 by omega, show a + 2 + 1 = a + 3 by omega, show a + 3 + 1 = a + 4 by omega, show a + 4 + 1 = a + 5 by omega, show a + 5 + 1 = a + 6 by omega, show a + 6 + 1 = a + 7 by omega])
    xs a hn h0 h1
  exact this

theorem laws_heldEntryS.ev (n : Nat) (a : Int) (hn : n ≤ 1048576000) (h0 : 0 ≤ a) (h1 : a ≤ 1048576000000) : Ev (fun k => laws_heldEntryS.f k (marksE n a) a) (a + 7 * n) := by
  have := held_loop (fun k a' i => laws_heldEntryS.l0 k (marksE n a) a' i) 7 markE ⟨by omega, by omega⟩ (marksE n a)
    (fun k a' => by simp only [laws_heldEntryS.l0, if_neg (show ¬ (((marksE n a).length : Int) < ((marksE n a).length : Int)) by omega)])
    (fun a' i k hi hi2 ha ha' hx => by
      simp only [laws_heldEntryS.l0, if_pos (show (i : Int) < ((marksE n a).length : Int) by omega), if_pos (show (0 : Int) ≤ (i : Int) by omega), rdE (marksE n a) i hi, hx, markE, w64 (show -9223372036854775808 ≤ (i : Int) + 1 by omega) (by omega), w64 (show -9223372036854775808 ≤ a' + 1 by omega) (by omega), w64 (show -9223372036854775808 ≤ a' + 2 by omega) (by omega), w64 (show -9223372036854775808 ≤ a' + 3 by omega) (by omega), w64 (show -9223372036854775808 ≤ a' + 4 by omega) (by omega), w64 (show -9223372036854775808 ≤ a' + 5 by omega) (by omega), w64 (show -9223372036854775808 ≤ a' + 6 by omega) (by omega), w64 (show -9223372036854775808 ≤ a' + 7 by omega) (by omega), if_true,
        show a' + 1 + 1 = a' + 2 by omega, show a' + 2 + 1 = a' + 3 by omega, show a' + 3 + 1 = a' + 4 by omega, show a' + 4 + 1 = a' + 5 by omega, show a' + 5 + 1 = a' + 6 by omega, show a' + 6 + 1 = a' + 7 by omega])
    a (by rw [marksE_length]; exact hn) h0 h1 (by rw [marksE_length]; rfl)
  rw [marksE_length] at this
  exact this

theorem FnExactAppendEntry : FnExactAppendEntryPure := by
  intro l x h1 h2
  refine Ev.rounds (g := fun k => laws_FnExactAppendEntry.f k l x.f0 x.f1.f0 x.f1.f1 x.f1.f2 x.f1.f3 x.f1.f4 x.f1.f5) ?_
  obtain ⟨r, hr, hq⟩ := laws_szEntryS.val l 1048576 h1.1 (by omega) (by omega)
  simp only [laws_FnExactAppendEntry.f, hr, Option.bind_some]
  by_cases hneg : r < 0
  · simp only [if_pos hneg]; exact Ev.now _
  · obtain ⟨e1, e2⟩ := hq hneg
    simp only [if_neg hneg]
    have hT := laws_toEntryS.ev l (by omega)
    have hl : (l.map toE).length ≤ 1048576 := by simp; omega
    have hlen := appE_len (l.map toE) ⟨x.f0, ⟨x.f1.f0, x.f1.f1, x.f1.f2, x.f1.f3, x.f1.f4, x.f1.f5⟩⟩
    have hS := spec_AppendEntry.ev (l.map toE) x.f0 x.f1.f0 x.f1.f1 x.f1.f2 x.f1.f3 x.f1.f4 x.f1.f5 (by omega)
    have hI := impl_AppendEntry.ev (l.map toE) x.f0 x.f1.f0 x.f1.f1 x.f1.f2 x.f1.f3 x.f1.f4 x.f1.f5 (by omega)
    obtain ⟨⟨z, t⟩, hz⟩ : ∃ z, z = appE (l.map toE) ⟨x.f0, ⟨x.f1.f0, x.f1.f1, x.f1.f2, x.f1.f3, x.f1.f4, x.f1.f5⟩⟩ := ⟨_, rfl⟩
    rw [← hz] at hS hI hlen
    simp only at hlen
    have hm := laws_markEntryS.ev (l.map toE) 1 (by omega) (by omega) (by omega)
    have hmz := laws_markEntryS.ev z 1 (by omega) (by omega) (by omega)
    have hhz := laws_heldEntryS.ev z.length 1 (by omega) (by omega) (by omega)
    refine Ev.bind hT ?_
    simp only [laws_toEntry.val, Option.bind_some]
    refine Ev.bind hS (Ev.bind hT (Ev.bind hI (Ev.bind (laws_eqEntryS.same _ (by simp only; omega)) ?_)))
    simp only [if_true, bne_self_eq_false]
    refine ev_shift ?_
    simp only [laws_FnExactAppendEntry.j0, Bool.false_eq_true, if_false]
    refine Ev.bind hT (Ev.bind (laws_eqEntryS.same _ (by omega)) ?_)
    simp only [if_true]
    refine Ev.bind hm ?_
    simp only [if_neg (show ¬ ((1 : Int) + 7 * ((l.map toE).length : Int) < 0) by omega)]
    refine Ev.bind (laws_eqEntryS.same _ (by omega)) ?_
    simp only [if_true, bne_self_eq_false]
    refine ev_shift ?_
    simp only [laws_FnExactAppendEntry.j1, Bool.false_eq_true, if_false]
    refine Ev.bind hmz (Ev.bind hhz ?_)
    simp only [if_neg (show ¬ ((1 : Int) + 7 * (z.length : Int) < 0) by omega), if_true]
    refine Ev.bind hT ?_
    simp only [laws_toEntry.val, Option.bind_some]
    refine Ev.bind hI (Ev.bind (laws_eqEntryS.same _ (by simp only; omega)) ?_)
    simp only [if_true, bne_self_eq_false]
    refine ev_shift ?_
    simp only [laws_FnExactAppendEntry.j2, Bool.false_eq_true, if_false]
    refine Ev.bind hhz ?_
    simp only [if_neg (show ¬ ((1 : Int) + 7 * (z.length : Int) < 0) by omega), if_true]
    exact Ev.now _

end Go.Proofs.Ytdbkhngdckleoaa.Pure
