/- For every code the law FnLogs returns true; no conditions. -/
import Derived.Test.YtcikahnmiiichaaQFnLogs
import Derived.Test.YtcikahnmiiichaaNCom
set_option linter.unusedVariables false
set_option linter.unusedSimpArgs false
namespace Go.Proofs.Ytcikahnmiiichaa.Pure
open Go.RowKit Go.Proofs.Ytcikahnmiiichaa.N Go.Proofs.YtcikahnmiiichaaW.PrintWords Go.Proofs.YtcikahnmiiichaaW.PrintLast
open Go.Proofs.Ytcikahnmiiichaa.Opens
open Go.Proofs.Ytcikahnmiiichaa.Com


theorem slices_Equal_int_int.ev (xs ys : List Int) (hn : xs.length ≤ 9223372036854775806) : ∃ b, Ev (fun k => slices_Equal_int_int.f k xs ys) b ∧ (b = true ↔ xs = ys) := by
  by_cases hl : xs.length = ys.length
  · obtain ⟨b, hb, hq⟩ := eq_loop (fun k i => slices_Equal_int_int.l0 k xs ys (xs.length : Int) i) xs ys hl
      (fun k => by simp only [slices_Equal_int_int.l0, if_neg (show ¬ ((xs.length : Int) < (xs.length : Int)) by omega)])
      (fun i h1 h2 => by
        by_cases h : xs[i] = ys[i]
        · exact .inl ⟨h, 0, fun k _ => by simp only [slices_Equal_int_int.l0, if_pos (show (i : Int) < (xs.length : Int) by omega), if_pos (show (0 : Int) ≤ (i : Int) by omega), if_pos (show (i : Int) < (ys.length : Int) by omega), rd_get xs i h1, rd_get ys i h2, if_pos h, w64 (show -9223372036854775808 ≤ (i : Int) + 1 by omega) (by omega)]⟩
        · exact .inr ⟨h, 0, fun k _ => by simp only [slices_Equal_int_int.l0, if_pos (show (i : Int) < (xs.length : Int) by omega), if_pos (show (0 : Int) ≤ (i : Int) by omega), if_pos (show (i : Int) < (ys.length : Int) by omega), rd_get xs i h1, rd_get ys i h2, if_neg h]⟩)
    refine ⟨b, ?_, hq⟩
    refine Ev.congr (fun k => ?_) hb
    simp only [slices_Equal_int_int.f, if_pos (show (xs.length : Int) = (ys.length : Int) by omega)]
  · refine ⟨false, ev_val (fun k => ?_), ?_⟩
    · simp only [slices_Equal_int_int.f, if_neg (show ¬ ((xs.length : Int) = (ys.length : Int)) by omega)]
    · constructor
      · intro h; cases h
      · intro h; subst h; exact absurd rfl hl
theorem rdS (xs : List S49) (i : Nat) (h : i < xs.length) : rd_T49 xs (i : Int) = xs[i] := by simp [rd_T49, h]
theorem ses_eq (x y : S49) : x = y ↔ x.f0 = y.f0 ∧ x.f1 = y.f1 ∧ x.f2.f0 = y.f2.f0 ∧ x.f2.f1 = y.f2.f1 := by
  constructor
  · intro h; subst h; simp
  · rintro ⟨h0, h1, h2, h3⟩
    obtain ⟨a, b, ⟨c, d⟩⟩ := x
    obtain ⟨a', b', ⟨c', d'⟩⟩ := y
    simp_all
theorem ses_test (x y : S49) : ((!(x.f0 == y.f0) || (!(x.f1 == y.f1) || ((!(x.f2.f0 == y.f2.f0) || (!(x.f2.f1 == y.f2.f1)))))) = true) ↔ ¬ (x.f0 = y.f0 ∧ x.f1 = y.f1 ∧ x.f2.f0 = y.f2.f0 ∧ x.f2.f1 = y.f2.f1) := by
  simp only [Bool.or_eq_true, Bool.not_eq_true', beq_eq_false_iff_ne, ne_eq]
  constructor
  · rintro (h | h | h | h) ⟨a, b, c, d⟩ <;> exact h (by assumption)
  · intro h
    by_cases a : x.f0 = y.f0
    · by_cases b : x.f1 = y.f1
      · by_cases c : x.f2.f0 = y.f2.f0
        · exact .inr (.inr (.inr fun d => h ⟨a, b, c, d⟩))
        · exact .inr (.inr (.inl c))
      · exact .inr (.inl b)
    · exact .inl a
theorem slices_Equal_impl_Session_impl_Session.ev (xs ys : List S49) (hn : xs.length ≤ 9223372036854775806) : ∃ b, Ev (fun k => slices_Equal_impl_Session_impl_Session.f k xs ys) b ∧ (b = true ↔ xs = ys) := by
  by_cases hl : xs.length = ys.length
  · obtain ⟨b, hb, hq⟩ := eq_loop (fun k i => slices_Equal_impl_Session_impl_Session.l0 k xs ys (xs.length : Int) i) xs ys hl
      (fun k => by simp only [slices_Equal_impl_Session_impl_Session.l0, if_neg (show ¬ ((xs.length : Int) < (xs.length : Int)) by omega)])
      (fun i h1 h2 => by
        by_cases h : xs[i] = ys[i]
        · exact .inl ⟨h, 0, fun k _ => by simp only [slices_Equal_impl_Session_impl_Session.l0, if_pos (show (i : Int) < (xs.length : Int) by omega), if_pos (show (0 : Int) ≤ (i : Int) by omega), if_pos (show (i : Int) < (ys.length : Int) by omega), rdS xs i h1, rdS ys i h2, ses_test, if_neg (show ¬ ¬ (xs[i].f0 = ys[i].f0 ∧ xs[i].f1 = ys[i].f1 ∧ xs[i].f2.f0 = ys[i].f2.f0 ∧ xs[i].f2.f1 = ys[i].f2.f1) from fun h' => h' ((ses_eq _ _).1 h)), w64 (show -9223372036854775808 ≤ (i : Int) + 1 by omega) (by omega)]⟩
        · exact .inr ⟨h, 0, fun k _ => by simp only [slices_Equal_impl_Session_impl_Session.l0, if_pos (show (i : Int) < (xs.length : Int) by omega), if_pos (show (0 : Int) ≤ (i : Int) by omega), if_pos (show (i : Int) < (ys.length : Int) by omega), rdS xs i h1, rdS ys i h2, ses_test, if_pos (show ¬ (xs[i].f0 = ys[i].f0 ∧ xs[i].f1 = ys[i].f1 ∧ xs[i].f2.f0 = ys[i].f2.f0 ∧ xs[i].f2.f1 = ys[i].f2.f1) from fun h' => h ((ses_eq _ _).2 h'))]⟩)
    refine ⟨b, ?_, hq⟩
    refine Ev.congr (fun k => ?_) hb
    simp only [slices_Equal_impl_Session_impl_Session.f, if_pos (show (xs.length : Int) = (ys.length : Int) by omega)]
  · refine ⟨false, ev_val (fun k => ?_), ?_⟩
    · simp only [slices_Equal_impl_Session_impl_Session.f, if_neg (show ¬ ((xs.length : Int) = (ys.length : Int)) by omega)]
    · constructor
      · intro h; cases h
      · intro h; subst h; exact absurd rfl hl
theorem impl_EqualMachines.ev (os : List Int) (xs : List S49) (os' : List Int) (xs' : List S49) (ho : os.length ≤ 9223372036854775806) (hn : xs.length ≤ 9223372036854775806) :
    ∃ b, Ev (fun k => impl_EqualMachines.f k os xs os' xs') b ∧ (b = true ↔ os = os' ∧ xs = xs') := by
  obtain ⟨b, hb, hq⟩ := slices_Equal_int_int.ev os os' ho
  obtain ⟨c, hc, hr⟩ := slices_Equal_impl_Session_impl_Session.ev xs xs' hn
  cases b with
  | true => exact ⟨c, Ev.bind hb (by simp only [if_true]; exact Ev.bind hc (Ev.now _)), hr.trans ⟨fun h => ⟨hq.1 rfl, h⟩, fun h => h.2⟩⟩
  | false => exact ⟨false, Ev.bind hb (ev_val fun _ => by simp), by simp only [Bool.false_eq_true, false_iff]; exact fun h => by simpa using hq.2 h.1⟩
theorem spec_l4Copy.val (os : List Int) (xs : List S49) (h1 : os.length < 17592186044416) (h2 : xs.length < 4398046511104) : spec_l4Copy.f os xs = some (os, xs) := by
  simp only [spec_l4Copy.f, Option.bind_some, List.length_nil, Nat.zero_add, if_pos h1, if_pos h2, List.nil_append]
theorem spec_l1In.val (a b c : Int) : spec_l1In.f a b c = some (decide (b ≤ a ∧ a ≤ c)) := by
  unfold spec_l1In.f
  by_cases h : b ≤ a <;> simp [h]
def okSes (xs : List S49) (j : Nat) : Prop := (0 ≤ (rd_T49 xs (j : Int)).f0 ∧ (rd_T49 xs (j : Int)).f0 ≤ 2) ∧
  (1 ≤ (rd_T49 xs (j : Int)).f1 ∧ (rd_T49 xs (j : Int)).f1 ≤ 99) ∧ (0 ≤ (rd_T49 xs (j : Int)).f2.f1 ∧ (rd_T49 xs (j : Int)).f2.f1 ≤ 9) ∧
  (0 < j → (rd_T49 xs ((j : Int) - 1)).f0 < (rd_T49 xs (j : Int)).f0)
def vMach (os : List Int) (xs : List S49) : Prop := os.length = 3 ∧ (∀ j : Nat, j < os.length → 0 ≤ rd os (j : Int) ∧ rd os (j : Int) ≤ 9) ∧ ∀ j, j < xs.length → okSes xs j
theorem spec_IsValidMachine.ev (os : List Int) (xs : List S49) (h1 : os.length ≤ 9223372036854775806) (h2 : xs.length ≤ 9223372036854775806) : ∃ b, Ev (fun k => spec_IsValidMachine.f k os xs) b ∧ (b = true ↔ vMach os xs) :=
  ⟨decide (vM_ os xs), ev_val fun _ => rfl, decide_eq_true_iff.trans Iff.rfl⟩
def vop (a b c d e f : Int) : Bool := decide ((0 ≤ a ∧ a ≤ 2) ∧ (1 ≤ b ∧ b ≤ 99) ∧ (0 ≤ d ∧ d ≤ 2) ∧ (0 ≤ f ∧ f ≤ 9) ∧ ((c = 1 ∧ e = 0) ∨ (c = 2 ∧ 0 ≤ e ∧ e ≤ 9)))
theorem spec_IsValidOp.val (a b c d e f : Int) : spec_IsValidOp.f a b c d e f = some (vop a b c d e f) := by
  unfold spec_IsValidOp.f vop
  simp only [spec_l1In.val, Option.bind_some]
  by_cases h1 : 0 ≤ a ∧ a ≤ 2
  · by_cases h2 : 1 ≤ b ∧ b ≤ 99
    · by_cases h3 : 0 ≤ d ∧ d ≤ 2
      · by_cases h4 : 0 ≤ f ∧ f ≤ 9
        · simp only [decide_eq_true h1, decide_eq_true h2, decide_eq_true h3, decide_eq_true h4, if_true]
          by_cases hc : c = 1
          · by_cases he : e = 0
            · simp [hc, he, h1, h2, h3, h4]
            · simp [hc, he, h1, h2, h3, h4]
          · by_cases hc2 : c = 2
            · simp [hc2, h1, h2, h3, h4]
            · simp [hc, hc2]
        · simp only [decide_eq_true h1, decide_eq_true h2, decide_eq_true h3, decide_eq_false h4, if_true, Bool.false_eq_true, if_false]
          simp; intros; omega
      · simp only [decide_eq_true h1, decide_eq_true h2, decide_eq_false h3, if_true, Bool.false_eq_true, if_false]
        simp; intros; omega
    · simp only [decide_eq_true h1, decide_eq_false h2, if_true, Bool.false_eq_true, if_false]
      simp; intros; omega
  · simp only [decide_eq_false h1, Bool.false_eq_true, if_false]
    simp; intros; omega
def sesOut : Option S49 → Int × Int × Bool × Int × Bool
  | none => (0, 0, false, 0, false)
  | some s => (s.f0, s.f1, s.f2.f0, s.f2.f1, true)
def sesOf (xs : List S49) (c : Int) : Option S49 := xs.find? fun s => s.f0 == c
theorem spec_SessionOf.ev (os : List Int) (xs : List S49) (c : Int) (hn : xs.length ≤ 9223372036854775806) : Ev (fun k => spec_SessionOf.f k os xs c) (sesOut (sesOf xs c)) := by
  have key : ∀ (d i : Nat), i + d = xs.length → Ev (fun k => spec_SessionOf.l0 k c (i : Int) os xs) (sesOut (sesOf (xs.drop i) c)) := by
    intro d
    induction d with
    | zero =>
      intro i h
      refine ev_shift ?_
      simp only [spec_SessionOf.l0, if_neg (show ¬ ((i : Int) < (xs.length : Int)) by omega)]
      exact ev_some (by rw [List.drop_eq_nil_of_le (show xs.length ≤ i by omega)]; rfl)
    | succ d ih =>
      intro i h
      have h1 : i < xs.length := by omega
      have := ih (i + 1) (by omega)
      refine ev_shift ?_
      simp only [spec_SessionOf.l0, if_pos (show (i : Int) < (xs.length : Int) by omega), if_pos (show (0 : Int) ≤ (i : Int) by omega), w64 (show -9223372036854775808 ≤ (i : Int) + 1 by omega) (by omega), rdS xs i h1]
      rw [List.drop_eq_getElem_cons h1, sesOf, List.find?_cons]
      by_cases hc : xs[i].f0 = c
      · simp only [if_pos hc]
        rw [show (xs[i].f0 == c) = true by simpa using hc]
        exact Ev.now _
      · simp only [if_neg hc]
        rw [show (xs[i].f0 == c) = false by simpa using hc]
        simpa [sesOf] using this
  have := key xs.length 0 (by omega)
  simpa [spec_SessionOf.f] using this
theorem insAt_lt (c : Int) : ∀ xs : List S49, (∃ s ∈ xs, s.f0 = c) → insAt_ c xs < xs.length
  | [], h => by simp at h
  | x :: xs, h => by
    by_cases hx : x.f0 < c
    · have : insAt_ c (x :: xs) = insAt_ c xs + 1 := by simp [insAt_, List.takeWhile_cons, hx]
      rw [this]
      obtain ⟨s, hs, hc⟩ := h
      rcases List.mem_cons.1 hs with rfl | hs
      · omega
      · have := insAt_lt c xs ⟨s, hs, hc⟩
        simp only [List.length_cons]; omega
    · simp [insAt_, List.takeWhile_cons, hx]
theorem sesOut_in (xs : List S49) (c : Int) (h : (sesOut (sesOf xs c)).2.2.2.2 = true) : ∃ s ∈ xs, s.f0 = c := by
  cases hs : sesOf xs c with
  | none => rw [hs] at h; simp [sesOut] at h
  | some s => exact ⟨s, List.mem_of_find?_eq_some hs, by have := List.find?_some hs; simpa using this⟩
def stepR (os : List Int) (xs : List S49) (a b c d e f : Int) : Option (List Int × List S49 × Bool × Int × Bool) :=
  step_ os os xs (sesOut (sesOf xs a)).2.1 (sesOut (sesOf xs a)).2.2.1 (sesOut (sesOf xs a)).2.2.2.1 (sesOut (sesOf xs a)).2.2.2.2 a b c d e f
open Classical in
noncomputable def appR (os : List Int) (xs : List S49) (a b c d e f : Int) : List Int × List S49 × Bool × Int × Bool :=
  if vMach os xs then (if vop a b c d e f = true then (stepR os xs a b c d e f).getD (os, xs, false, 0, false) else (os, xs, false, 0, false)) else (os, xs, false, 0, false)
theorem stepR_some (os : List Int) (xs : List S49) (a b c d e f : Int) (hm : vMach os xs) (hv : vop a b c d e f = true) (hn : xs.length < 1099511627776) : ∃ r, stepR os xs a b c d e f = some r ∧ r.1.length = os.length ∧ r.2.1.length ≤ xs.length + 1 := by
  have hd : 0 ≤ d ∧ d ≤ 2 := by simp only [vop, decide_eq_true_eq] at hv; exact hv.2.2.1
  have ho := hm.1
  unfold stepR step_
  split
  · exact ⟨_, rfl, rfl, by simp⟩
  split
  · exact ⟨_, rfl, rfl, by simp⟩
  rw [if_pos ⟨hd.1, by omega, by omega, hn, fun h => insAt_lt a xs (sesOut_in xs a h)⟩]
  refine ⟨_, rfl, by simp only; split <;> simp, ?_⟩
  simp only [List.length_append, List.length_take, List.length_drop, List.length_singleton]
  have := insAt_le a xs
  split <;> omega
theorem appR_len (os : List Int) (xs : List S49) (a b c d e f : Int) (hn : xs.length < 1099511627776) : (appR os xs a b c d e f).1.length = os.length ∧ (appR os xs a b c d e f).2.1.length ≤ xs.length + 1 := by
  unfold appR
  split
  · split
    · rename_i hm hv
      obtain ⟨r, hr, h1, h2⟩ := stepR_some os xs a b c d e f hm hv hn
      rw [hr]; exact ⟨h1, h2⟩
    · simp
  · simp
theorem spec_ApplyOp.ev (os : List Int) (xs : List S49) (a b c d e f : Int) (ho : os.length < 17592186044416) (hn : xs.length < 1099511627776) : Ev (fun k => spec_ApplyOp.f k os xs a b c d e f) (appR os xs a b c d e f) := by
  obtain ⟨q, hq, hq2⟩ := spec_IsValidMachine.ev os xs (by omega) (by omega)
  simp only [spec_ApplyOp.f, spec_l4Copy.val os xs ho (by omega), Option.bind_some]
  refine Ev.bind hq ?_
  cases q with
  | true =>
    simp only [if_true, spec_IsValidOp.val, Option.bind_some]
    rw [appR, if_pos (hq2.1 rfl)]
    by_cases hv : vop a b c d e f = true
    · rw [if_pos hv]
      simp only [if_pos hv]
      obtain ⟨r, hr, _⟩ := stepR_some os xs a b c d e f (hq2.1 rfl) hv hn
      refine Ev.bind (spec_SessionOf.ev os xs a (by omega)) (ev_val fun _ => ?_)
      rw [hr]; exact hr
    · rw [if_neg hv]
      simp only [if_neg hv]
      exact Ev.now _
  | false =>
    rw [appR, if_neg (show ¬ vMach os xs from fun h => by simpa using hq2.2 h)]
    simp only [Bool.false_eq_true, if_false]
    exact Ev.now _
theorem rdE (xs : List S72) (i : Nat) (h : i < xs.length) : rd_T72 xs (i : Int) = xs[i] := by simp [rd_T72, h]
theorem ent_eq (x y : S72) : x = y ↔ x.f0 = y.f0 ∧ x.f1.f0 = y.f1.f0 ∧ x.f1.f1 = y.f1.f1 ∧ x.f1.f2 = y.f1.f2 ∧ x.f1.f3 = y.f1.f3 ∧ x.f1.f4 = y.f1.f4 ∧ x.f1.f5 = y.f1.f5 := by
  constructor
  · intro h; subst h; simp
  · rintro ⟨h0, h1, h2, h3, h4, h5, h6⟩
    obtain ⟨a, ⟨b, c, d, e, f, g⟩⟩ := x
    obtain ⟨a', ⟨b', c', d', e', f', g'⟩⟩ := y
    simp_all
def okAt (xs : List S72) (j : Nat) : Prop := (1 ≤ (rd_T72 xs (j : Int)).f0 ∧ (rd_T72 xs (j : Int)).f0 ≤ 20) ∧
  vop (rd_T72 xs (j : Int)).f1.f0 (rd_T72 xs (j : Int)).f1.f1 (rd_T72 xs (j : Int)).f1.f2 (rd_T72 xs (j : Int)).f1.f3 (rd_T72 xs (j : Int)).f1.f4 (rd_T72 xs (j : Int)).f1.f5 = true ∧
  (0 < j → (rd_T72 xs ((j : Int) - 1)).f0 ≤ (rd_T72 xs (j : Int)).f0)
def isLog (xs : List S72) : Prop := (∀ j, j < xs.length → okAt xs j) ∧ xs.length ≤ 16
theorem spec_IsLog.ev (xs : List S72) (hn : xs.length ≤ 9223372036854775806) : ∃ b, Ev (fun k => spec_IsLog.f k xs) b ∧ (b = true ↔ isLog xs) := by
  refine ⟨decide (vL_spec xs), ev_val fun _ => rfl, decide_eq_true_iff.trans ?_⟩
  simp only [vL_spec, isLog, okE_spec, okAt, spec_IsValidOp.val, Option.some.injEq]
  exact And.comm
theorem spec_NewMachine.val : spec_NewMachine.f = some ([0, 0, 0], []) := rfl
noncomputable def repl : List S72 → List Int → List S49 → List Int × List S49
  | [], os, xs => (os, xs)
  | e :: es, os, xs => repl es (appR os xs e.f1.f0 e.f1.f1 e.f1.f2 e.f1.f3 e.f1.f4 e.f1.f5).1 (appR os xs e.f1.f0 e.f1.f1 e.f1.f2 e.f1.f3 e.f1.f4 e.f1.f5).2.1
theorem repl_len : ∀ (es : List S72) (os : List Int) (xs : List S49), xs.length + es.length < 1099511627776 → (repl es os xs).1.length = os.length ∧ (repl es os xs).2.length ≤ xs.length + es.length
  | [], os, xs, _ => ⟨rfl, Nat.le_refl _⟩
  | e :: es, os, xs, h => by
    simp only [List.length_cons] at h
    have h1 := appR_len os xs e.f1.f0 e.f1.f1 e.f1.f2 e.f1.f3 e.f1.f4 e.f1.f5 (by omega)
    have h2 := repl_len es (appR os xs e.f1.f0 e.f1.f1 e.f1.f2 e.f1.f3 e.f1.f4 e.f1.f5).1 (appR os xs e.f1.f0 e.f1.f1 e.f1.f2 e.f1.f3 e.f1.f4 e.f1.f5).2.1 (show (appR os xs e.f1.f0 e.f1.f1 e.f1.f2 e.f1.f3 e.f1.f4 e.f1.f5).2.1.length + es.length < 1099511627776 by omega)
    rw [repl]
    exact ⟨h2.1.trans h1.1, by simp only [List.length_cons]; omega⟩
open Classical in
noncomputable def repR (es : List S72) : List Int × List S49 × Bool := if isLog es then ((repl es [0, 0, 0] []).1, (repl es [0, 0, 0] []).2, true) else ([], [], false)
theorem repR_len (es : List S72) : (repR es).1.length ≤ 3 ∧ (repR es).2.1.length ≤ 16 := by
  unfold repR
  split
  · rename_i h
    have := h.2
    have := repl_len es [0, 0, 0] [] (by simp; omega)
    simp only [List.length_cons, List.length_nil] at this ⊢
    omega
  · simp
theorem rep_loop (xs : List S72) (g : Nat → Int → List Int → List S49 → Option (List Int × List S49 × Bool)) (hn : xs.length ≤ 2000000)
    (h0 : ∀ os ss, Ev (fun k => g k (xs.length : Int) os ss) (os, ss, true))
    (h1 : ∀ (i : Nat) (os : List Int) (ss : List S49) (r : List Int × List S49 × Bool), (hi : i < xs.length) → os.length < 1000 → ss.length < 1000000000 → Ev (fun k => g k ((i : Int) + 1) (appR os ss xs[i].f1.f0 xs[i].f1.f1 xs[i].f1.f2 xs[i].f1.f3 xs[i].f1.f4 xs[i].f1.f5).1 (appR os ss xs[i].f1.f0 xs[i].f1.f1 xs[i].f1.f2 xs[i].f1.f3 xs[i].f1.f4 xs[i].f1.f5).2.1) r → Ev (fun k => g k (i : Int) os ss) r) :
    ∀ (d i : Nat) (os : List Int) (ss : List S49), i + d = xs.length → os.length < 1000 → ss.length ≤ i → Ev (fun k => g k (i : Int) os ss) ((repl (xs.drop i) os ss).1, (repl (xs.drop i) os ss).2, true)
  | 0, i, os, ss, h, _, _ => by
    obtain rfl : i = xs.length := by omega
    rw [List.drop_length]
    exact h0 os ss
  | d + 1, i, os, ss, h, h2, h3 => by
    have hl := appR_len os ss xs[i].f1.f0 xs[i].f1.f1 xs[i].f1.f2 xs[i].f1.f3 xs[i].f1.f4 xs[i].f1.f5 (by omega)
    rw [List.drop_eq_getElem_cons (show i < xs.length by omega), repl]
    exact h1 i os ss _ (by omega) h2 (by omega) (rep_loop xs g hn h0 h1 d (i + 1) _ _ (by omega) (by omega) (by omega))
theorem spec_ReplayLog.ev (xs : List S72) (hn : xs.length ≤ 2000000) : Ev (fun k => spec_ReplayLog.f k xs) (repR xs) := by
  obtain ⟨q, hq, hq2⟩ := spec_IsLog.ev xs (by omega)
  simp only [spec_ReplayLog.f, spec_NewMachine.val, Option.bind_some]
  refine Ev.bind hq ?_
  cases q with
  | true =>
    simp only [if_true]
    rw [repR, if_pos (hq2.1 rfl)]
    refine rep_loop xs (fun k i os ss => spec_ReplayLog.l0 k xs i os ss) hn (fun os ss => ev_shift (ev_val fun k => ?_)) (fun i os ss r hi h1 h2 h3 => ev_shift ?_) xs.length 0 [0, 0, 0] [] (by omega) (by simp) (by simp)
    · simp only [spec_ReplayLog.l0, if_neg (show ¬ ((xs.length : Int) < (xs.length : Int)) by omega)]
    · simp only [spec_ReplayLog.l0, if_pos (show (i : Int) < (xs.length : Int) by omega), if_pos (show (0 : Int) ≤ (i : Int) by omega), w64 (show -9223372036854775808 ≤ (i : Int) + 1 by omega) (by omega), rdE xs i hi]
      exact Ev.bind (spec_ApplyOp.ev os ss _ _ _ _ _ _ (by omega) (by omega)) h3
  | false =>
    simp only [Bool.false_eq_true, if_false]
    rw [repR, if_neg (fun h => by simpa using hq2.2 h)]
    exact Ev.now _
open Classical in
noncomputable def resR (xs : List S72) (a : Int) : Bool × Int × Bool :=
  if isLog xs ∧ 0 ≤ a ∧ a ≤ wrap64 ((xs.length : Int) - 1) then
    ((appR (repR (xs.take a.toNat)).1 (repR (xs.take a.toNat)).2.1 (rd_T72 xs a).f1.f0 (rd_T72 xs a).f1.f1 (rd_T72 xs a).f1.f2 (rd_T72 xs a).f1.f3 (rd_T72 xs a).f1.f4 (rd_T72 xs a).f1.f5).2.2.1,
      (appR (repR (xs.take a.toNat)).1 (repR (xs.take a.toNat)).2.1 (rd_T72 xs a).f1.f0 (rd_T72 xs a).f1.f1 (rd_T72 xs a).f1.f2 (rd_T72 xs a).f1.f3 (rd_T72 xs a).f1.f4 (rd_T72 xs a).f1.f5).2.2.2.1,
      (appR (repR (xs.take a.toNat)).1 (repR (xs.take a.toNat)).2.1 (rd_T72 xs a).f1.f0 (rd_T72 xs a).f1.f1 (rd_T72 xs a).f1.f2 (rd_T72 xs a).f1.f3 (rd_T72 xs a).f1.f4 (rd_T72 xs a).f1.f5).2.2.2.2)
  else (false, 0, false)
theorem spec_ResultAt.ev (xs : List S72) (a : Int) (hn : xs.length ≤ 2000000) : Ev (fun k => spec_ResultAt.f k xs a) (resR xs a) := by
  obtain ⟨q, hq, hq2⟩ := spec_IsLog.ev xs (by omega)
  have hw : wrap64 ((xs.length : Int) - 1) = (xs.length : Int) - 1 := w64 (by omega) (by omega)
  have hno : Ev (fun k => spec_ResultAt.j0 k xs a true) (false, 0, false) := ev_shift (ev_val fun k => by simp only [spec_ResultAt.j0, if_true])
  simp only [spec_ResultAt.f]
  refine Ev.bind hq ?_
  cases q with
  | true =>
    simp only [if_true, spec_l1In.val, Option.bind_some]
    by_cases h : 0 ≤ a ∧ a ≤ wrap64 ((xs.length : Int) - 1)
    · rw [resR, if_pos ⟨hq2.1 rfl, h⟩, decide_eq_true h]
      rw [hw] at h
      have hl := repR_len (xs.take a.toNat)
      refine ev_shift ?_
      simp only [spec_ResultAt.j0, Bool.not_true, Bool.false_eq_true, if_false, if_pos h.1, if_pos (show a ≤ (xs.length : Int) by omega), if_pos (show a < (xs.length : Int) by omega)]
      exact Ev.bind (spec_ReplayLog.ev (xs.take a.toNat) (by rw [List.length_take]; omega)) (Ev.bind (spec_ApplyOp.ev _ _ _ _ _ _ _ _ (by omega) (by omega)) (Ev.now _))
    · rw [resR, if_neg (fun h2 => h h2.2), decide_eq_false h]
      exact hno
  | false =>
    simp only [Bool.false_eq_true, if_false]
    rw [resR, if_neg (fun h2 => by simpa using hq2.2 h2.1)]
    exact hno
theorem slices_Clone_int_int.val (xs : List Int) (h : xs.length < 17592186044416) : slices_Clone_int_int.f xs = some xs := by
  simp only [slices_Clone_int_int.f, if_pos h]
theorem slices_Clone_impl_Session_impl_Session.val (xs : List S49) (h : xs.length < 4398046511104) : slices_Clone_impl_Session_impl_Session.f xs = some xs := by
  simp only [slices_Clone_impl_Session_impl_Session.f, if_pos h]
theorem impl_machineCopy.val (os : List Int) (xs : List S49) (h1 : os.length < 17592186044416) (h2 : xs.length < 4398046511104) : impl_machineCopy.f os xs = some (os, xs) := by
  simp only [impl_machineCopy.f, slices_Clone_int_int.val os h1, slices_Clone_impl_Session_impl_Session.val xs h2, Option.bind_some]
theorem impl_within.val (a b c : Int) : impl_within.f a b c = some (decide (b ≤ a ∧ a ≤ c)) := by
  unfold impl_within.f
  by_cases h : b ≤ a <;> simp [h]
theorem impl_IsValidMachine.ev (os : List Int) (xs : List S49) (h1 : os.length ≤ 9223372036854775806) (h2 : xs.length ≤ 9223372036854775806) : ∃ b, Ev (fun k => impl_IsValidMachine.f k os xs) b ∧ (b = true ↔ vMach os xs) :=
  ⟨decide (vM_ os xs), ev_val fun _ => rfl, decide_eq_true_iff.trans Iff.rfl⟩
theorem impl_IsValidOp.val (a b c d e f : Int) : impl_IsValidOp.f a b c d e f = some (vop a b c d e f) := by
  unfold impl_IsValidOp.f vop
  simp only [impl_within.val, Option.bind_some]
  by_cases h1 : 0 ≤ a ∧ a ≤ 2
  · by_cases h2 : 1 ≤ b ∧ b ≤ 99
    · by_cases h3 : 0 ≤ d ∧ d ≤ 2
      · by_cases h4 : 0 ≤ f ∧ f ≤ 9
        · simp only [decide_eq_true h1, decide_eq_true h2, decide_eq_true h3, decide_eq_true h4, if_true]
          by_cases hc : c = 1
          · by_cases he : e = 0
            · simp [hc, he, h1, h2, h3, h4]
            · simp [hc, he, h1, h2, h3, h4]
          · by_cases hc2 : c = 2
            · simp [hc2, h1, h2, h3, h4]
            · simp [hc, hc2]
        · simp only [decide_eq_true h1, decide_eq_true h2, decide_eq_true h3, decide_eq_false h4, if_true, Bool.false_eq_true, if_false]
          simp; intros; omega
      · simp only [decide_eq_true h1, decide_eq_true h2, decide_eq_false h3, if_true, Bool.false_eq_true, if_false]
        simp; intros; omega
    · simp only [decide_eq_true h1, decide_eq_false h2, if_true, Bool.false_eq_true, if_false]
      simp; intros; omega
  · simp only [decide_eq_false h1, Bool.false_eq_true, if_false]
    simp; intros; omega
theorem impl_SessionOf.ev (os : List Int) (xs : List S49) (c : Int) (hn : xs.length ≤ 9223372036854775806) : Ev (fun k => impl_SessionOf.f k os xs c) (sesOut (sesOf xs c)) := by
  have key : ∀ (d i : Nat), i + d = xs.length → Ev (fun k => impl_SessionOf.l0 k c xs (xs.length : Int) (i : Int)) (sesOut (sesOf (xs.drop i) c)) := by
    intro d
    induction d with
    | zero =>
      intro i h
      refine ev_shift ?_
      simp only [impl_SessionOf.l0, if_neg (show ¬ ((i : Int) < (xs.length : Int)) by omega)]
      exact ev_some (by rw [List.drop_eq_nil_of_le (show xs.length ≤ i by omega)]; rfl)
    | succ d ih =>
      intro i h
      have h1 : i < xs.length := by omega
      have := ih (i + 1) (by omega)
      refine ev_shift ?_
      simp only [impl_SessionOf.l0, if_pos (show (i : Int) < (xs.length : Int) by omega), if_pos (show (0 : Int) ≤ (i : Int) by omega), w64 (show -9223372036854775808 ≤ (i : Int) + 1 by omega) (by omega), rdS xs i h1]
      rw [List.drop_eq_getElem_cons h1, sesOf, List.find?_cons]
      by_cases hc : xs[i].f0 = c
      · simp only [if_pos hc]
        rw [show (xs[i].f0 == c) = true by simpa using hc]
        exact Ev.now _
      · simp only [if_neg hc]
        rw [show (xs[i].f0 == c) = false by simpa using hc]
        simpa [sesOf] using this
  have := key xs.length 0 (by omega)
  simpa [impl_SessionOf.f] using this
theorem impl_ApplyOp.ev (os : List Int) (xs : List S49) (a b c d e f : Int) (ho : os.length < 17592186044416) (hn : xs.length < 1099511627776) : Ev (fun k => impl_ApplyOp.f k os xs a b c d e f) (appR os xs a b c d e f) := by
  obtain ⟨q, hq, hq2⟩ := impl_IsValidMachine.ev os xs (by omega) (by omega)
  simp only [impl_ApplyOp.f, impl_machineCopy.val os xs ho (by omega), Option.bind_some]
  refine Ev.bind (impl_SessionOf.ev os xs a (by omega)) (Ev.bind hq ?_)
  cases q with
  | true =>
    simp only [if_true, impl_IsValidOp.val, Option.bind_some]
    rw [appR, if_pos (hq2.1 rfl)]
    by_cases hv : vop a b c d e f = true
    · rw [if_pos hv]
      simp only [if_pos hv]
      obtain ⟨r, hr, _⟩ := stepR_some os xs a b c d e f (hq2.1 rfl) hv hn
      refine ev_val fun _ => ?_
      rw [hr]; exact hr
    · rw [if_neg hv]
      simp only [if_neg hv]
      exact Ev.now _
  | false =>
    rw [appR, if_neg (show ¬ vMach os xs from fun h => by simpa using hq2.2 h)]
    simp only [Bool.false_eq_true, if_false]
    exact Ev.now _
theorem impl_IsLog.ev (xs : List S72) (hn : xs.length ≤ 9223372036854775806) : ∃ b, Ev (fun k => impl_IsLog.f k xs) b ∧ (b = true ↔ isLog xs) := by
  refine ⟨decide (vL_impl xs), ev_val fun _ => rfl, decide_eq_true_iff.trans ?_⟩
  simp only [vL_impl, isLog, okE_impl, okAt, impl_IsValidOp.val, Option.some.injEq]
  exact And.comm
theorem impl_NewMachine.val : impl_NewMachine.f = some ([0, 0, 0], []) := rfl
theorem impl_ReplayLog.ev (xs : List S72) (hn : xs.length ≤ 2000000) : Ev (fun k => impl_ReplayLog.f k xs) (repR xs) := by
  obtain ⟨q, hq, hq2⟩ := impl_IsLog.ev xs (by omega)
  simp only [impl_ReplayLog.f]
  refine Ev.bind hq ?_
  cases q with
  | true =>
    simp only [if_true, impl_NewMachine.val, Option.bind_some]
    rw [repR, if_pos (hq2.1 rfl)]
    refine rep_loop xs (fun k i os ss => impl_ReplayLog.l0 k xs (xs.length : Int) i os ss) hn (fun os ss => ev_shift (ev_val fun k => ?_)) (fun i os ss r hi h1 h2 h3 => ev_shift ?_) xs.length 0 [0, 0, 0] [] (by omega) (by simp) (by simp)
    · simp only [impl_ReplayLog.l0, if_neg (show ¬ ((xs.length : Int) < (xs.length : Int)) by omega)]
    · simp only [impl_ReplayLog.l0, if_pos (show (i : Int) < (xs.length : Int) by omega), if_pos (show (0 : Int) ≤ (i : Int) by omega), w64 (show -9223372036854775808 ≤ (i : Int) + 1 by omega) (by omega), rdE xs i hi]
      exact Ev.bind (impl_ApplyOp.ev os ss _ _ _ _ _ _ (by omega) (by omega)) h3
  | false =>
    simp only [Bool.false_eq_true, if_false]
    rw [repR, if_neg (fun h => by simpa using hq2.2 h)]
    exact Ev.now _
theorem impl_ResultAt.ev (xs : List S72) (a : Int) (hn : xs.length ≤ 2000000) : Ev (fun k => impl_ResultAt.f k xs a) (resR xs a) := by
  obtain ⟨q, hq, hq2⟩ := impl_IsLog.ev xs (by omega)
  have hw : wrap64 ((xs.length : Int) - 1) = (xs.length : Int) - 1 := w64 (by omega) (by omega)
  have hno : Ev (fun k => impl_ResultAt.j0 k xs a true) (false, 0, false) := ev_shift (ev_val fun k => by simp only [impl_ResultAt.j0, if_true])
  simp only [impl_ResultAt.f]
  refine Ev.bind hq ?_
  cases q with
  | true =>
    simp only [if_true, impl_within.val, Option.bind_some]
    by_cases h : 0 ≤ a ∧ a ≤ wrap64 ((xs.length : Int) - 1)
    · rw [resR, if_pos ⟨hq2.1 rfl, h⟩, decide_eq_true h]
      rw [hw] at h
      have hl := repR_len (xs.take a.toNat)
      refine ev_shift ?_
      simp only [impl_ResultAt.j0, Bool.not_true, Bool.false_eq_true, if_false, if_pos h.1, if_pos (show a ≤ (xs.length : Int) by omega), if_pos (show a < (xs.length : Int) by omega)]
      exact Ev.bind (impl_ReplayLog.ev (xs.take a.toNat) (by rw [List.length_take]; omega)) (Ev.bind (impl_ApplyOp.ev _ _ _ _ _ _ _ _ (by omega) (by omega)) (Ev.now _))
    · rw [resR, if_neg (fun h2 => h h2.2), decide_eq_false h]
      exact hno
  | false =>
    simp only [Bool.false_eq_true, if_false]
    rw [resR, if_neg (fun h2 => by simpa using hq2.2 h2.1)]
    exact hno
theorem and255 (x : Int) : 0 ≤ Go.bits .and .i64 x 255 ∧ Go.bits .and .i64 x 255 ≤ 255 := by
  have h : (BitVec.ofInt IntKind.i64.bits x &&& BitVec.ofInt IntKind.i64.bits 255).toNat ≤ 255 := by
    rw [BitVec.toNat_and]
    refine Nat.le_trans Nat.and_le_right ?_
    decide
  simp only [Go.bits]
  rw [Go.IntKind.wrap_i64]
  omega
def CurI (i : Int) : Prop := 0 ≤ i ∧ i ≤ 1048576
theorem cur0 : CurI 0 := ⟨by omega, by omega⟩
theorem spec_l1New.ev (c : List Int) (hc : c.length ≤ 1048576) : ∃ h, Ev (fun k => spec_l1New.f k c) (c, 0, h) := by
  have key : ∀ d i : Nat, i + d = c.length → ∀ h, ∃ h', Ev (fun k => spec_l1New.l0 k c h (i : Int)) (c, 0, h') := by
    intro d
    induction d with
    | zero =>
      intro i hi h
      refine ⟨h, ev_shift (ev_val fun k => ?_)⟩
      simp only [spec_l1New.l0, if_neg (show ¬ ((i : Int) < (c.length : Int)) by omega)]
    | succ d ih =>
      intro i hi h
      by_cases h4 : (i : Int) < 4000
      · obtain ⟨h', hh⟩ := ih (i + 1) (by omega) (Go.bits .and .i64 (wrap64 ((wrap64 ((wrap64 (h * 131)) + (wrap64 (rd c (i : Int))))) + 7)) 1073741823)
        rw [show ((i + 1 : Nat) : Int) = (i : Int) + 1 by omega] at hh
        refine ⟨h', ev_shift (ev_to ⟨0, fun k _ => ?_⟩ hh)⟩
        simp only [spec_l1New.l0, if_pos (show (i : Int) < (c.length : Int) by omega), if_pos h4, if_pos (show (0 : Int) ≤ (i : Int) by omega), w64 (show -9223372036854775808 ≤ (i : Int) + 1 by omega) (by omega)]
      · refine ⟨h, ev_shift (ev_val fun k => ?_)⟩
        simp only [spec_l1New.l0, if_pos (show (i : Int) < (c.length : Int) by omega), if_neg h4]
  exact key c.length 0 (by omega) _
theorem spec_l1Byte.is (c : List Int) (hc : c.length ≤ 1048576) (i h : Int) (hi : CurI i) : ∃ x i' h', spec_l1Byte.f c i h = some (x, i', h') ∧ (0 ≤ x ∧ x ≤ 255) ∧ CurI i' := by
  obtain ⟨h0, h1⟩ := hi
  rw [spec_l1Byte.f]
  by_cases hl : i < (c.length : Int)
  · rw [if_pos hl, if_pos h0, w64 (show -9223372036854775808 ≤ i + 1 by omega) (by omega)]
    exact ⟨_, _, _, rfl, and255 _, by omega, by omega⟩
  · rw [if_neg hl]
    exact ⟨_, _, _, rfl, and255 _, h0, h1⟩
theorem spec_l1Below.is (c : List Int) (hc : c.length ≤ 1048576) (i h n : Int) (hi : CurI i) : ∃ x i' h', spec_l1Below.f c i h n = some (x, i', h') ∧ (n ≤ 0 → x = 0) ∧ (0 < n → 0 ≤ x ∧ x < n) ∧ CurI i' := by
  rw [spec_l1Below.f]
  by_cases h0 : n ≤ 0
  · rw [if_pos h0]
    exact ⟨_, _, _, rfl, fun _ => rfl, fun h => absurd h (by omega), hi⟩
  rw [if_neg h0]
  have hn : 0 < n := by omega
  have hz : ¬ (n = 0) := by omega
  have md : ∀ x : Int, 0 ≤ x → 0 ≤ Int.tmod x n ∧ Int.tmod x n < n := fun x hx => by
    rw [tmod_pos x n hx]; exact ⟨Int.emod_nonneg _ hz, Int.emod_lt_of_pos _ hn⟩
  by_cases h1 : n ≤ 256
  · rw [if_pos h1]
    obtain ⟨x, i', h', e, hx, hi'⟩ := spec_l1Byte.is c hc i h hi
    rw [e]
    simp only [Option.bind_some, if_neg hz]
    exact ⟨_, _, _, rfl, fun h => absurd h h0, fun _ => md x hx.1, hi'⟩
  · rw [if_neg h1]
    obtain ⟨x, i1, g1, e1, hx, hi1⟩ := spec_l1Byte.is c hc i h hi
    obtain ⟨y, i2, g2, e2, hy, hi2⟩ := spec_l1Byte.is c hc i1 g1 hi1
    obtain ⟨z, i3, g3, e3, hz3, hi3⟩ := spec_l1Byte.is c hc i2 g2 hi2
    obtain ⟨w, i4, g4, e4, hw, hi4⟩ := spec_l1Byte.is c hc i3 g3 hi3
    simp only [e1, e2, e3, e4, Option.bind_some, if_neg hz]
    refine ⟨_, _, _, rfl, fun h => absurd h h0, fun _ => md _ ?_, hi4⟩
    simp only [wrap64]
    omega
theorem spec_l1PickInt.is (c : List Int) (hc : c.length ≤ 1048576) (i h : Int) (l : List Int) (hl : 0 < l.length) (hi : CurI i) : ∃ x i' h', spec_l1PickInt.f c i h l = some (x, i', h') ∧ x ∈ l ∧ CurI i' := by
  obtain ⟨x, i', h', e, _, hx, hi'⟩ := spec_l1Below.is c hc i h (l.length : Int) hi
  obtain ⟨h0, h1⟩ := hx (by omega)
  rw [spec_l1PickInt.f, e]
  simp only [Option.bind_some, if_pos h0, if_pos h1]
  refine ⟨_, _, _, rfl, ?_, hi'⟩
  obtain ⟨j, rfl⟩ := Int.eq_ofNat_of_zero_le h0
  rw [rd_get l j (by omega)]
  exact List.getElem_mem _
theorem spec_l1Once.is (c : List Int) (hc : c.length ≤ 1048576) (i h n : Int) (hi : CurI i) : ∃ b i' h', spec_l1Once.f c i h n = some (b, i', h') ∧ CurI i' := by
  obtain ⟨x, i', h', e, _, _, hi'⟩ := spec_l1Below.is c hc i h n hi
  rw [spec_l1Once.f, e]
  exact ⟨_, _, _, rfl, hi'⟩
theorem spec_l3Op.is (c : List Int) (hc : c.length ≤ 1048576) (i h : Int) (hi : CurI i) : ∃ o0 o1 o2 o3 o4 o5 i' h', spec_l3Op.f c i h = some (o0, o1, o2, o3, o4, o5, i', h') ∧ CurI i' := by
  obtain ⟨a, i1, h1, e1, _, _, hi1⟩ := spec_l1Below.is c hc i h 3 hi
  obtain ⟨b, i2, h2, e2, _, _, hi2⟩ := spec_l1Below.is c hc i1 h1 5 hi1
  obtain ⟨d, i3, h3, e3, _, _, hi3⟩ := spec_l1Below.is c hc i2 h2 3 hi2
  obtain ⟨e, i4, h4, e4, _, _, hi4⟩ := spec_l1Below.is c hc i3 h3 10 hi3
  obtain ⟨q, i5, h5, e5, hi5⟩ := spec_l1Once.is c hc i4 h4 3 hi4
  cases q with
  | true =>
    obtain ⟨x, i6, h6, e6, _, hi6⟩ := spec_l1PickInt.is c hc i5 h5 [0, 0, 1, 5, 9] (by simp) hi5
    exact ⟨_, _, _, _, _, _, _, _, by simp only [spec_l3Op.f, e1, e2, e3, e4, e5, e6, Option.bind_some, if_true]; rfl, hi6⟩
  | false => exact ⟨_, _, _, _, _, _, _, _, by simp only [spec_l3Op.f, e1, e2, e3, e4, e5, Option.bind_some, Bool.false_eq_true, if_false]; rfl, hi5⟩
theorem spec_l3Any.is (c : List Int) (hc : c.length ≤ 1048576) (i h : Int) (hi : CurI i) : ∃ o0 o1 o2 o3 o4 o5 i' h', spec_l3Any.f c i h = some (o0, o1, o2, o3, o4, o5, i', h') ∧ CurI i' := by
  obtain ⟨o0, o1, o2, o3, o4, o5, i1, h1, e1, hi1⟩ := spec_l3Op.is c hc i h hi
  obtain ⟨q, i2, h2, e2, _, _, hi2⟩ := spec_l1Below.is c hc i1 h1 14 hi1
  rw [spec_l3Any.f, e1]
  simp only [Option.bind_some, e2]
  by_cases c0 : q = 0
  · obtain ⟨x, i3, h3, e3, _, hi3⟩ := spec_l1PickInt.is c hc i2 h2 [(-1), 2, 3] (by simp) hi2
    simp only [if_pos c0, e3, Option.bind_some]
    exact ⟨_, _, _, _, _, _, _, _, rfl, hi3⟩
  simp only [if_neg c0]
  by_cases c1 : q = 1
  · obtain ⟨x, i3, h3, e3, _, hi3⟩ := spec_l1PickInt.is c hc i2 h2 [0, 99, 100] (by simp) hi2
    simp only [if_pos c1, e3, Option.bind_some]
    exact ⟨_, _, _, _, _, _, _, _, rfl, hi3⟩
  simp only [if_neg c1]
  by_cases c2 : q = 2
  · obtain ⟨x, i3, h3, e3, _, _, hi3⟩ := spec_l1Below.is c hc i2 h2 4 hi2
    simp only [if_pos c2, e3, Option.bind_some]
    exact ⟨_, _, _, _, _, _, _, _, rfl, hi3⟩
  simp only [if_neg c2]
  by_cases c3 : q = 3
  · obtain ⟨x, i3, h3, e3, _, hi3⟩ := spec_l1PickInt.is c hc i2 h2 [(-1), 3] (by simp) hi2
    simp only [if_pos c3, e3, Option.bind_some]
    exact ⟨_, _, _, _, _, _, _, _, rfl, hi3⟩
  simp only [if_neg c3]
  by_cases c4 : q = 4
  · obtain ⟨x, i3, h3, e3, _, hi3⟩ := spec_l1PickInt.is c hc i2 h2 [(-1), 9, 10] (by simp) hi2
    simp only [if_pos c4, e3, Option.bind_some]
    exact ⟨_, _, _, _, _, _, _, _, rfl, hi3⟩
  simp only [if_neg c4]
  by_cases c5 : q = 5
  · obtain ⟨x, i3, h3, e3, _, hi3⟩ := spec_l1PickInt.is c hc i2 h2 [(-1), 0, 9, 10] (by simp) hi2
    simp only [if_pos c5, e3, Option.bind_some]
    exact ⟨_, _, _, _, _, _, _, _, rfl, hi3⟩
  simp only [if_neg c5]
  exact ⟨_, _, _, _, _, _, _, _, rfl, hi2⟩
theorem spec_l5Log.ev (c : List Int) (hc : c.length ≤ 1048576) (i h : Int) (hi : CurI i) : ∃ l i' h', Ev (fun k => spec_l5Log.f k c i h) (l, i', h') ∧ l.length ≤ 7 ∧ CurI i' := by
  have key : ∀ d : Nat, d ≤ 7 → ∀ (acc : List S72) (e : Int), acc.length + d ≤ 7 → ∀ i h : Int, CurI i → ∃ l i' h', Ev (fun k => spec_l5Log.l0 k acc e (d : Int) c i h) (l, i', h') ∧ l.length ≤ 7 ∧ CurI i' := by
    intro d
    induction d with
    | zero =>
      intro _ acc e ha i h hi
      refine ⟨acc, i, h, ev_shift (ev_val fun k => ?_), by omega, hi⟩
      simp only [spec_l5Log.l0, if_neg (show ¬ ((0 : Nat) : Int) > 0 by omega)]
    | succ d ih =>
      intro hd acc e ha i h hi
      obtain ⟨q, i1, h1, e1, hi1⟩ := spec_l1Once.is c hc i h 3 hi
      obtain ⟨o0, o1, o2, o3, o4, o5, i2, h2, e2, hi2⟩ := spec_l3Op.is c hc i1 h1 hi1
      have e4 : wrap64 (((d + 1 : Nat) : Int) - 1) = (d : Int) := by rw [w64 (by omega) (by omega)]; omega
      have step : ∀ e' : Int, ∃ l i' h', Ev (fun k => spec_l5Log.l0 k (acc ++ [(⟨e', (⟨o0, o1, o2, o3, o4, o5⟩ : S37)⟩ : S72)]) e' (d : Int) c i2 h2) (l, i', h') ∧ l.length ≤ 7 ∧ CurI i' := fun e' =>
        ih (by omega) (acc ++ [(⟨e', (⟨o0, o1, o2, o3, o4, o5⟩ : S37)⟩ : S72)]) e' (by simp; omega) i2 h2 hi2
      have hlim : acc.length < 2513169434916 := by omega
      cases q with
      | true =>
        obtain ⟨l, i', h', hl, hp⟩ := step (wrap64 (e + 1))
        refine ⟨l, i', h', ev_shift (ev_to ⟨0, fun k _ => ?_⟩ hl), hp⟩
        simp only [spec_l5Log.l0, if_pos (show ((d + 1 : Nat) : Int) > 0 by omega), e1, Option.bind_some, if_true, e2, if_pos hlim, e4]
      | false =>
        obtain ⟨l, i', h', hl, hp⟩ := step e
        refine ⟨l, i', h', ev_shift (ev_to ⟨0, fun k _ => ?_⟩ hl), hp⟩
        simp only [spec_l5Log.l0, if_pos (show ((d + 1 : Nat) : Int) > 0 by omega), e1, Option.bind_some, Bool.false_eq_true, if_false, e2, if_pos hlim, e4]
  obtain ⟨n, i1, h1, e1, _, hn, hi1⟩ := spec_l1Below.is c hc i h 7 hi
  have hn' := hn (by omega)
  obtain ⟨N, rfl⟩ := Int.eq_ofNat_of_zero_le hn'.1
  obtain ⟨l, i', h', hl, hp⟩ := key N (by omega) [] 1 (by simp; omega) i1 h1 hi1
  refine ⟨l, i', h', ?_, hp⟩
  simp only [spec_l5Log.f, e1, Option.bind_some]
  exact hl
theorem spec_l5Any.ev (c : List Int) (hc : c.length ≤ 1048576) (i h : Int) (hi : CurI i) : ∃ l i' h', Ev (fun k => spec_l5Any.f k c i h) (l, i', h') ∧ l.length ≤ 17 ∧ CurI i' := by
  have key : ∀ d : Nat, ∀ (acc : List S72), acc.length + d = 17 → ∀ i h : Int, CurI i → ∃ l i' h', Ev (fun k => spec_l5Any.l0 k acc c i h) (l, i', h') ∧ l.length ≤ 17 ∧ CurI i' := by
    intro d
    induction d with
    | zero =>
      intro acc ha i h hi
      refine ⟨acc, i, h, ev_shift (ev_val fun k => ?_), by omega, hi⟩
      simp only [spec_l5Any.l0, if_neg (show ¬ ((acc.length : Int) < 17) by omega)]
    | succ d ih =>
      intro acc ha i h hi
      obtain ⟨o0, o1, o2, o3, o4, o5, i2, h2, e2, hi2⟩ := spec_l3Op.is c hc i h hi
      obtain ⟨l, i', h', hl, hp⟩ := ih (acc ++ [(⟨20, (⟨o0, o1, o2, o3, o4, o5⟩ : S37)⟩ : S72)]) (by simp; omega) i2 h2 hi2
      refine ⟨l, i', h', ev_shift (ev_to ⟨0, fun k _ => ?_⟩ hl), hp⟩
      simp only [spec_l5Any.l0, if_pos (show (acc.length : Int) < 17 by omega), e2, Option.bind_some, if_pos (show acc.length < 2513169434916 by omega)]
  obtain ⟨l, i1, h1, e1, hl, hi1⟩ := spec_l5Log.ev c hc i h hi
  obtain ⟨q, i2, h2, e2, _, _, hi2⟩ := spec_l1Below.is c hc i1 h1 14 hi1
  by_cases c0 : q = 0
  · obtain ⟨x, i3, h3, e3, _, hi3⟩ := spec_l1PickInt.is c hc i2 h2 [0, 1, 20, 21] (by simp) hi2
    obtain ⟨o0, o1, o2, o3, o4, o5, i4, h4, e4, hi4⟩ := spec_l3Any.is c hc i3 h3 hi3
    refine ⟨l ++ [(⟨x, (⟨o0, o1, o2, o3, o4, o5⟩ : S37)⟩ : S72)], i4, h4, Ev.bind e1 (ev_val fun k => ?_), by simp; omega, hi4⟩
    simp only [e2, Option.bind_some, if_pos c0, e3, e4, if_pos (show l.length < 2513169434916 by omega)]
  by_cases c1 : q = 1
  · obtain ⟨m, i3, h3, e3, hm, hi3⟩ := key (17 - l.length) l (by omega) i2 h2 hi2
    refine ⟨m, i3, h3, Ev.bind e1 ?_, hm, hi3⟩
    simp only [e2, Option.bind_some, if_neg c0, if_pos c1]
    exact e3
  · refine ⟨l, i2, h2, Ev.bind e1 (ev_val fun k => ?_), by omega, hi2⟩
    simp only [e2, Option.bind_some, if_neg c0, if_neg c1]
theorem spec_l5Copy.val (xs : List S72) (h : xs.length < 2513169434916) : spec_l5Copy.f xs = some xs := by
  simp only [spec_l5Copy.f, Option.bind_some, List.length_nil, List.nil_append, if_pos (show 0 + xs.length < 2513169434916 by omega)]
theorem spec_l5Two.ev (c : List Int) (hc : c.length ≤ 1048576) : ∃ a b, Ev (fun k => spec_l5Two.f k c) (a, b) ∧ a.length ≤ 17 ∧ b.length ≤ 20 := by
  obtain ⟨h, e0⟩ := spec_l1New.ev c hc
  obtain ⟨a, i1, h1, e1, ha, hi1⟩ := spec_l5Any.ev c hc 0 h cur0
  obtain ⟨q, i2, h2, e2, hi2⟩ := spec_l1Once.is c hc i1 h1 3 hi1
  have key : ∀ d : Nat, d ≤ 3 → ∀ (acc : List S72), acc.length + d ≤ 20 → ∀ i h : Int, CurI i → ∃ b, Ev (fun k => spec_l5Two.l0 k a acc (d : Int) c i h) (a, b) ∧ b.length ≤ 20 := by
    intro d
    induction d with
    | zero =>
      intro _ acc hn i h hi
      refine ⟨acc, ev_shift (ev_val fun k => ?_), by omega⟩
      simp only [spec_l5Two.l0, if_neg (show ¬ ((0 : Nat) : Int) > 0 by omega)]
    | succ d ih =>
      intro hd acc hn i h hi
      obtain ⟨o0, o1, o2, o3, o4, o5, i2, h2, e2, hi2⟩ := spec_l3Op.is c hc i h hi
      have e4 : wrap64 (((d + 1 : Nat) : Int) - 1) = (d : Int) := by rw [w64 (by omega) (by omega)]; omega
      obtain ⟨b, hb, hp⟩ := ih (by omega) (acc ++ [(⟨9, (⟨o0, o1, o2, o3, o4, o5⟩ : S37)⟩ : S72)]) (by simp; omega) i2 h2 hi2
      refine ⟨b, ev_shift (ev_to ⟨0, fun k _ => ?_⟩ hb), hp⟩
      simp only [spec_l5Two.l0, if_pos (show ((d + 1 : Nat) : Int) > 0 by omega), e2, Option.bind_some, if_pos (show acc.length < 2513169434916 by omega), e4]
  cases q with
  | true =>
    obtain ⟨b, i3, h3, e3, hb, hi3⟩ := spec_l5Any.ev c hc i2 h2 hi2
    refine ⟨a, b, Ev.bind e0 (Ev.bind e1 ?_), ha, by omega⟩
    simp only [e2, Option.bind_some, if_true]
    exact Ev.bind e3 (Ev.now _)
  | false =>
    obtain ⟨n, i3, h3, e3, _, hn, hi3⟩ := spec_l1Below.is c hc i2 h2 ((a.length : Int) + 1) hi2
    have hn' := hn (by omega)
    obtain ⟨m, i4, h4, e4, _, hm, hi4⟩ := spec_l1Below.is c hc i3 h3 3 hi3
    have hm' := hm (by omega)
    obtain ⟨M, rfl⟩ := Int.eq_ofNat_of_zero_le hm'.1
    have hcp := spec_l5Copy.val (a.take n.toNat) (by rw [List.length_take]; omega)
    obtain ⟨b, hb, hp⟩ := key M (by omega) (a.take n.toNat) (by rw [List.length_take]; omega) i4 h4 hi4
    refine ⟨a, b, Ev.bind e0 (Ev.bind e1 ?_), ha, hp⟩
    simp only [e2, Option.bind_some, Bool.false_eq_true, if_false, w64 (show -9223372036854775808 ≤ (a.length : Int) + 1 by omega) (by omega), e3, if_pos hn'.1, if_pos (show n ≤ (a.length : Int) by omega), hcp, e4]
    exact hb
theorem spec_DrawCommonPrefix.ev (c : List Int) (hc : c.length ≤ 1048576) : ∃ a b, Ev (fun k => spec_DrawCommonPrefix.f k c) (a, b) ∧ a.length ≤ 17 ∧ b.length ≤ 20 := by
  obtain ⟨a, b, e, h⟩ := spec_l5Two.ev c hc
  exact ⟨a, b, Ev.bind e (Ev.now _), h⟩
def cpl : List S72 → List S72 → Nat
  | x :: xs, y :: ys => if x.f0 = y.f0 ∧ x.f1.f0 = y.f1.f0 ∧ x.f1.f1 = y.f1.f1 ∧ x.f1.f2 = y.f1.f2 ∧ x.f1.f3 = y.f1.f3 ∧ x.f1.f4 = y.f1.f4 ∧ x.f1.f5 = y.f1.f5 then cpl xs ys + 1 else 0
  | _, _ => 0
theorem cpl_nil_right (xs : List S72) : cpl xs [] = 0 := by cases xs <;> rfl
theorem ent_test (x y : S72) : ((x.f0 == y.f0 && (x.f1.f0 == y.f1.f0 && (x.f1.f1 == y.f1.f1 && (x.f1.f2 == y.f1.f2 && (x.f1.f3 == y.f1.f3 && (x.f1.f4 == y.f1.f4 && x.f1.f5 == y.f1.f5)))))) = true) ↔ (x.f0 = y.f0 ∧ x.f1.f0 = y.f1.f0 ∧ x.f1.f1 = y.f1.f1 ∧ x.f1.f2 = y.f1.f2 ∧ x.f1.f3 = y.f1.f3 ∧ x.f1.f4 = y.f1.f4 ∧ x.f1.f5 = y.f1.f5) := by
  simp only [Bool.and_eq_true, beq_iff_eq]
theorem impl_CommonPrefix.ev (xs ys : List S72) (hx : xs.length ≤ 9223372036854775806) : Ev (fun k => impl_CommonPrefix.f k xs ys) (cpl xs ys : Int) := by
  have key : ∀ (d i : Nat), i + d = xs.length → Ev (fun k => impl_CommonPrefix.l0 k xs ys (i : Int)) ((i : Int) + (cpl (xs.drop i) (ys.drop i) : Int)) := by
    intro d
    induction d with
    | zero =>
      intro i h
      refine ev_shift ?_
      simp only [impl_CommonPrefix.l0, if_neg (show ¬ ((i : Int) < (xs.length : Int)) by omega)]
      exact ev_some (by rw [List.drop_eq_nil_of_le (show xs.length ≤ i by omega)]; simp [cpl])
    | succ d ih =>
      intro i h
      have h1 : i < xs.length := by omega
      refine ev_shift ?_
      by_cases h2 : i < ys.length
      · have := ih (i + 1) (by omega)
        simp only [impl_CommonPrefix.l0, if_pos (show (i : Int) < (xs.length : Int) by omega), if_pos (show (i : Int) < (ys.length : Int) by omega), if_pos (show (0 : Int) ≤ (i : Int) by omega), w64 (show -9223372036854775808 ≤ (i : Int) + 1 by omega) (by omega), rdE xs i h1, rdE ys i h2, ent_test]
        rw [List.drop_eq_getElem_cons h1, List.drop_eq_getElem_cons h2]
        by_cases hc : xs[i].f0 = ys[i].f0 ∧ xs[i].f1.f0 = ys[i].f1.f0 ∧ xs[i].f1.f1 = ys[i].f1.f1 ∧ xs[i].f1.f2 = ys[i].f1.f2 ∧ xs[i].f1.f3 = ys[i].f1.f3 ∧ xs[i].f1.f4 = ys[i].f1.f4 ∧ xs[i].f1.f5 = ys[i].f1.f5
        · simp only [if_pos hc, cpl]
          refine ev_eq (by simpa using this) (by omega)
        · simp only [if_neg hc, cpl]
          exact ev_some (by omega)
      · simp only [impl_CommonPrefix.l0, if_pos (show (i : Int) < (xs.length : Int) by omega), if_neg (show ¬ ((i : Int) < (ys.length : Int)) by omega)]
        exact ev_some (by rw [List.drop_eq_nil_of_le (show ys.length ≤ i by omega), cpl_nil_right]; simp)
  have := key xs.length 0 (by omega)
  simpa [impl_CommonPrefix.f] using this
theorem spec_CommonPrefix.ev (xs ys : List S72) (hx : xs.length ≤ 9223372036854775806) : Ev (fun k => spec_CommonPrefix.f k xs ys) (cpl xs ys : Int) := by
  have key : ∀ (d i : Nat), i + d = xs.length → Ev (fun k => spec_CommonPrefix.l0 k xs ys (i : Int)) ((i : Int) + (cpl (xs.drop i) (ys.drop i) : Int)) := by
    intro d
    induction d with
    | zero =>
      intro i h
      refine ev_shift ?_
      simp only [spec_CommonPrefix.l0, if_neg (show ¬ ((i : Int) < (xs.length : Int)) by omega)]
      exact ev_some (by rw [List.drop_eq_nil_of_le (show xs.length ≤ i by omega)]; simp [cpl])
    | succ d ih =>
      intro i h
      have h1 : i < xs.length := by omega
      refine ev_shift ?_
      by_cases h2 : i < ys.length
      · have := ih (i + 1) (by omega)
        simp only [spec_CommonPrefix.l0, if_pos (show (i : Int) < (xs.length : Int) by omega), if_pos (show (i : Int) < (ys.length : Int) by omega), if_pos (show (0 : Int) ≤ (i : Int) by omega), w64 (show -9223372036854775808 ≤ (i : Int) + 1 by omega) (by omega), rdE xs i h1, rdE ys i h2, ent_test]
        rw [List.drop_eq_getElem_cons h1, List.drop_eq_getElem_cons h2]
        by_cases hc : xs[i].f0 = ys[i].f0 ∧ xs[i].f1.f0 = ys[i].f1.f0 ∧ xs[i].f1.f1 = ys[i].f1.f1 ∧ xs[i].f1.f2 = ys[i].f1.f2 ∧ xs[i].f1.f3 = ys[i].f1.f3 ∧ xs[i].f1.f4 = ys[i].f1.f4 ∧ xs[i].f1.f5 = ys[i].f1.f5
        · simp only [if_pos hc, cpl]
          refine ev_eq (by simpa using this) (by omega)
        · simp only [if_neg hc, cpl]
          exact ev_some (by omega)
      · simp only [spec_CommonPrefix.l0, if_pos (show (i : Int) < (xs.length : Int) by omega), if_neg (show ¬ ((i : Int) < (ys.length : Int)) by omega)]
        exact ev_some (by rw [List.drop_eq_nil_of_le (show ys.length ≤ i by omega), cpl_nil_right]; simp)
  have := key xs.length 0 (by omega)
  simpa [spec_CommonPrefix.f] using this
theorem impl_IsPrefix.ev (xs ys : List S72) (hx : xs.length ≤ 9223372036854775806) : Ev (fun k => impl_IsPrefix.f k xs ys) ((cpl xs ys : Int) == (xs.length : Int)) :=
  Ev.bind (impl_CommonPrefix.ev xs ys hx) (Ev.now _)
theorem spec_DrawResultAt.ev (c : List Int) (hc : c.length ≤ 1048576) : ∃ l i, Ev (fun k => spec_DrawResultAt.f k c) (l, i) ∧ l.length ≤ 17 := by
  obtain ⟨h, e0⟩ := spec_l1New.ev c hc
  obtain ⟨l, i1, h1, e1, hl, hi1⟩ := spec_l5Any.ev c hc 0 h cur0
  obtain ⟨n, i2, h2, e2, _, _, hi2⟩ := spec_l1Below.is c hc i1 h1 (wrap64 ((l.length : Int) + 2)) hi1
  refine ⟨l, wrap64 (n - 1), Ev.bind e0 (Ev.bind e1 (ev_val fun _ => ?_)), hl⟩
  simp only [e2, Option.bind_some]
theorem spec_DrawAppendEntry.ev (c : List Int) (hc : c.length ≤ 1048576) : ∃ l e o0 o1 o2 o3 o4 o5, Ev (fun k => spec_DrawAppendEntry.f k c) (l, e, o0, o1, o2, o3, o4, o5) ∧ l.length ≤ 17 := by
  obtain ⟨h, e0⟩ := spec_l1New.ev c hc
  obtain ⟨l, i1, h1, e1, hl, hi1⟩ := spec_l5Any.ev c hc 0 h cur0
  obtain ⟨x, i2, h2, e2, _, hi2⟩ := spec_l1PickInt.is c hc i1 h1 [1, 3, 9, 20, 21, 0] (by simp) hi1
  obtain ⟨o0, o1, o2, o3, o4, o5, i3, h3, e3, hi3⟩ := spec_l3Any.is c hc i2 h2 hi2
  refine ⟨l, x, o0, o1, o2, o3, o4, o5, Ev.bind e0 (Ev.bind e1 (ev_val fun _ => ?_)), hl⟩
  simp only [e2, e3, Option.bind_some]
theorem slices_Clone_impl_Entry_impl_Entry.val (xs : List S72) (h : xs.length < 2513169434916) : slices_Clone_impl_Entry_impl_Entry.f xs = some xs := by
  simp only [slices_Clone_impl_Entry_impl_Entry.f, if_pos h]
theorem rdE_app (xs : List S72) (e : S72) (i : Int) (h : i.toNat < xs.length) : rd_T72 (xs ++ [e]) i = rd_T72 xs i := by
  simp only [rd_T72, List.getD_eq_getElem?_getD, List.getElem?_append_left h]
theorem isLog_front (xs : List S72) (e : S72) (h : isLog (xs ++ [e])) : isLog xs := by
  obtain ⟨h1, h2⟩ := h
  simp only [List.length_append, List.length_singleton] at h1 h2
  refine ⟨fun j hj => ?_, by omega⟩
  have := h1 j (by omega)
  simp only [okAt, rdE_app xs e (j : Int) (by omega)] at this
  refine ⟨this.1, this.2.1, fun h0 => ?_⟩
  have h3 := this.2.2 h0
  rwa [rdE_app xs e ((j : Int) - 1) (by omega)] at h3
open Classical in
noncomputable def appE (xs : List S72) (e : S72) : List S72 × Bool := if isLog (xs ++ [e]) then (xs ++ [e], true) else (xs, false)
theorem appE_len (xs : List S72) (e : S72) : (appE xs e).1.length ≤ xs.length + 1 := by unfold appE; split <;> simp
theorem impl_AppendEntry.ev (xs : List S72) (a b c d e f g : Int) (hn : xs.length < 1000000000) : Ev (fun k => impl_AppendEntry.f k xs a b c d e f g) (appE xs ⟨a, ⟨b, c, d, e, f, g⟩⟩) := by
  obtain ⟨q, hq, hq2⟩ := impl_IsLog.ev (xs ++ [⟨a, ⟨b, c, d, e, f, g⟩⟩]) (by simp; omega)
  simp only [impl_AppendEntry.f, slices_Clone_impl_Entry_impl_Entry.val xs (by omega), Option.bind_some, List.length_singleton, if_pos (show xs.length + 1 < 2513169434916 by omega)]
  refine Ev.bind hq ?_
  cases q with
  | true => simp only [if_true]; exact ev_some (by rw [appE, if_pos (hq2.1 rfl)])
  | false => simp only [Bool.false_eq_true, if_false]; exact ev_some (by rw [appE, if_neg (fun h => by simpa using hq2.2 h)])
theorem spec_AppendEntry.ev (xs : List S72) (a b c d e f g : Int) (hn : xs.length < 1000000000) : Ev (fun k => spec_AppendEntry.f k xs a b c d e f g) (appE xs ⟨a, ⟨b, c, d, e, f, g⟩⟩) := by
  obtain ⟨p, hp, hp2⟩ := spec_IsLog.ev xs (by omega)
  obtain ⟨q, hq, hq2⟩ := spec_IsLog.ev (xs ++ [⟨a, ⟨b, c, d, e, f, g⟩⟩]) (by simp; omega)
  simp only [spec_AppendEntry.f, spec_l5Copy.val xs (by omega), Option.bind_some, List.length_singleton, if_pos (show xs.length + 1 < 2513169434916 by omega)]
  refine Ev.bind hp ?_
  cases p with
  | true =>
    simp only [if_true]
    refine Ev.bind hq ?_
    cases q with
    | true => simp only [if_true]; exact ev_some (by rw [appE, if_pos (hq2.1 rfl)])
    | false => simp only [Bool.false_eq_true, if_false]; exact ev_some (by rw [appE, if_neg (fun h => by simpa using hq2.2 h)])
  | false => simp only [Bool.false_eq_true, if_false]; exact ev_some (by rw [appE, if_neg (fun h => by simpa using hp2.2 (isLog_front _ _ h))])
open Classical in
theorem cpl_cons (x y : S72) (xs ys : List S72) : cpl (x :: xs) (y :: ys) = if x = y then cpl xs ys + 1 else 0 := by
  by_cases h : x = y
  · rw [if_pos h]; exact if_pos ((ent_eq x y).1 h)
  · rw [if_neg h]; exact if_neg fun h2 => h ((ent_eq x y).2 h2)
theorem cpl_le : ∀ a b : List S72, cpl a b ≤ a.length ∧ cpl a b ≤ b.length
  | [], b => by simp [cpl]
  | x :: a, [] => by simp [cpl]
  | x :: a, y :: b => by
    have := cpl_le a b
    rw [cpl_cons]
    split <;> simp only [List.length_cons] <;> omega
theorem cpl_comm : ∀ a b : List S72, cpl a b = cpl b a
  | [], b => by rw [cpl_nil_right]; rfl
  | x :: a, [] => by rw [cpl_nil_right]; rfl
  | x :: a, y :: b => by
    rw [cpl_cons, cpl_cons, cpl_comm a b]
    by_cases h : x = y
    · rw [if_pos h, if_pos h.symm]
    · rw [if_neg h, if_neg fun h2 => h h2.symm]
theorem cpl_take : ∀ a b : List S72, cpl (a.take (cpl a b)) b = cpl a b
  | [], b => by simp [cpl]
  | x :: a, [] => by rw [cpl_nil_right, cpl_nil_right]
  | x :: a, y :: b => by
    rw [cpl_cons]
    by_cases h : x = y
    · rw [if_pos h, List.take_succ_cons, cpl_cons, if_pos h, cpl_take a b]
    · rw [if_neg h, List.take_zero]; rfl
theorem cpl_app : ∀ a b : List S72, cpl a (a ++ b) = a.length
  | [], b => by cases b <;> rfl
  | x :: a, b => by rw [List.cons_append, cpl_cons, if_pos rfl, cpl_app a b]; rfl
theorem cpl_self (a : List S72) : cpl a a = a.length := by
  have := cpl_app a []
  rwa [List.append_nil] at this
theorem FnLogs : FnLogsPure := by
  intro c _ _ _
  refine Ev.rounds (g := fun k => laws_FnLogs.f k c) ?_
  by_cases h1 : (c.length : Int) > 1048576
  · simp only [laws_FnLogs.f, laws_big.f, Option.bind_some, decide_eq_true h1, if_true]; exact Ev.now _
  simp only [laws_FnLogs.f, laws_big.f, Option.bind_some, decide_eq_false h1, Bool.false_eq_true, if_false]
  have fin : Ev (fun k => laws_FnLogs.j1 k c false) true := by
    obtain ⟨l, e, o0, o1, o2, o3, o4, o5, hd, hl⟩ := spec_DrawAppendEntry.ev c (by omega)
    have hI := impl_AppendEntry.ev l e o0 o1 o2 o3 o4 o5 (by omega)
    have hS := spec_AppendEntry.ev l e o0 o1 o2 o3 o4 o5 (by omega)
    have hlen := appE_len l (⟨e, (⟨o0, o1, o2, o3, o4, o5⟩ : S37)⟩ : S72)
    have hyes : (appE l (⟨e, (⟨o0, o1, o2, o3, o4, o5⟩ : S37)⟩ : S72)).2 = true → isLog (appE l (⟨e, (⟨o0, o1, o2, o3, o4, o5⟩ : S37)⟩ : S72)).1 ∧ cpl l (appE l (⟨e, (⟨o0, o1, o2, o3, o4, o5⟩ : S37)⟩ : S72)).1 = l.length := by
      intro h
      unfold appE at h ⊢
      split
      · rename_i h2
        exact ⟨h2, cpl_app l _⟩
      · rename_i h2
        rw [if_neg h2] at h
        simp at h
    generalize appE l (⟨e, (⟨o0, o1, o2, o3, o4, o5⟩ : S37)⟩ : S72) = q at hI hS hlen hyes
    obtain ⟨y, t⟩ := q
    simp only at hlen hyes
    refine ev_shift ?_
    simp only [laws_FnLogs.j1, Bool.false_eq_true, if_false]
    refine Ev.bind hd (Ev.bind hI (Ev.bind hS ?_))
    simp only [beq_self_eq_true, if_true]
    have hp := impl_IsPrefix.ev y y (by omega)
    rw [cpl_self, beq_self_eq_true] at hp
    refine Ev.bind hp ?_
    simp only [if_true]
    cases t with
    | false => simp only [Bool.false_eq_true, if_false]; exact Ev.now _
    | true =>
      obtain ⟨hy1, hy2⟩ := hyes rfl
      obtain ⟨b, ib, qb⟩ := impl_IsLog.ev y (by omega)
      obtain rfl : b = true := qb.2 hy1
      simp only [if_true]
      refine Ev.bind ib ?_
      simp only [if_true]
      have hp2 := impl_IsPrefix.ev l y (by omega)
      rw [hy2, beq_self_eq_true] at hp2
      exact Ev.bind hp2 (Ev.now _)
  have mid : Ev (fun k => laws_FnLogs.j0 k c false) true := by
    obtain ⟨l, i, hd, hl⟩ := spec_DrawResultAt.ev c (by omega)
    have hI := impl_ResultAt.ev l i (by omega)
    have hS := spec_ResultAt.ev l i (by omega)
    have hR := impl_ReplayLog.ev l (by omega)
    have hT := spec_ReplayLog.ev l (by omega)
    obtain ⟨hz1, hz2⟩ := repR_len l
    generalize repR l = z at hR hT hz1 hz2
    generalize resR l i = r at hI hS
    obtain ⟨os, xs, b⟩ := z
    obtain ⟨r0, r1, r2⟩ := r
    simp only at hz1 hz2
    obtain ⟨m, hm, hmq⟩ := impl_EqualMachines.ev os xs os xs (by omega) (by omega)
    obtain rfl : m = true := hmq.2 ⟨rfl, rfl⟩
    refine ev_shift ?_
    simp only [laws_FnLogs.j0, Bool.false_eq_true, if_false]
    refine Ev.bind hd (Ev.bind hI (Ev.bind hS (Ev.bind hR (Ev.bind hT ?_))))
    simp only [bne_self_eq_false, Bool.false_eq_true, if_false, beq_self_eq_true, Bool.not_true, Bool.or_self]
    refine Ev.bind hm ?_
    simp only [Bool.not_true]
    exact fin
  obtain ⟨a, b, hd, ha, hb⟩ := spec_DrawCommonPrefix.ev c (by omega)
  have hI := impl_CommonPrefix.ev a b (by omega)
  have hS := spec_CommonPrefix.ev a b (by omega)
  have hI2 := impl_CommonPrefix.ev b a (by omega)
  rw [cpl_comm b a] at hI2
  obtain ⟨n1, n2⟩ := cpl_le a b
  have htl : (a.take (cpl a b)).length = cpl a b := by rw [List.length_take]; omega
  have hp1 := impl_IsPrefix.ev (a.take (cpl a b)) b (by omega)
  rw [cpl_take, htl, beq_self_eq_true] at hp1
  have hp2 := impl_IsPrefix.ev a b (by omega)
  refine Ev.bind hd (Ev.bind hI (Ev.bind hS ?_))
  simp only [if_true]
  refine Ev.bind hI2 ?_
  simp only [if_true, if_neg (show ¬ ((cpl a b : Int) > (a.length : Int)) by omega), if_neg (show ¬ ((cpl a b : Int) > (b.length : Int)) by omega), if_pos (show (0 : Int) ≤ (cpl a b : Int) by omega), if_pos (show (cpl a b : Int) ≤ (a.length : Int) by omega), Int.toNat_natCast]
  refine Ev.bind hp1 ?_
  simp only [if_true]
  refine Ev.bind hp2 ?_
  simp only [bne_self_eq_false]
  exact mid
end Go.Proofs.Ytcikahnmiiichaa.Pure
