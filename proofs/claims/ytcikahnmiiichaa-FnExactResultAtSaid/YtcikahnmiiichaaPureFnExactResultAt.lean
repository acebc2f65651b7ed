/- For every list of entries and index the law FnExactResultAt returns true; no conditions. -/
import Derived.Test.YtcikahnmiiichaaQFnExactResultAt
import Derived.Test.YtcikahnmiiichaaTCom
set_option linter.unusedVariables false
set_option linter.unusedSimpArgs false
namespace Go.Proofs.Ytcikahnmiiichaa.Pure
open Go.RowKit Go.Proofs.Ytcikahnmiiichaa.T Go.Proofs.YtcikahnmiiichaaW.PrintWords Go.Proofs.YtcikahnmiiichaaW.PrintLast
open Go.Proofs.Ytcikahnmiiichaa.Opens
open Go.Proofs.Ytcikahnmiiichaa.Com

theorem laws_eqResult.val (a : Bool) (b : Int) (a' : Bool) (b' : Int) : laws_eqResult.f a b a' b' = some (decide (a = a' ∧ b = b')) := by
  unfold laws_eqResult.f
  by_cases h1 : a = a' <;> by_cases h2 : b = b' <;> simp [h1, h2]

theorem laws_szEntryS.val (xs : List S97) (a : Int) (hn : xs.length ≤ maxLen) (h0 : 0 ≤ a) (h1 : a ≤ 1048576) :
    ∃ r, laws_szEntryS.f xs a = some r ∧ (¬ r < 0 → r = a - xs.length ∧ (xs.length : Int) ≤ a) := by
  unfold maxLen at hn
  unfold laws_szEntryS.f
  rw [w64 (show -9223372036854775808 ≤ a - (xs.length : Int) by omega) (by omega)]
  by_cases h : a - (xs.length : Int) < 0
  · exact ⟨-1, by rw [if_pos h], fun h' => by omega⟩
  · exact ⟨_, by rw [if_neg h], fun h' => ⟨rfl, by omega⟩⟩

theorem spec_l4Copy.val (os : List Int) (xs : List S49) (h1 : os.length < 17592186044416) (h2 : xs.length < 4398046511104) : spec_l4Copy.f os xs = some (os, xs) := by
  simp only [spec_l4Copy.f, Option.bind_some, List.length_nil, Nat.zero_add, if_pos h1, if_pos h2, List.nil_append]

theorem spec_l1In.val (a b c : Int) : spec_l1In.f a b c = some (decide (b ≤ a ∧ a ≤ c)) := by
  unfold spec_l1In.f
  by_cases h : b ≤ a <;> simp [h]

theorem rdS (xs : List S49) (i : Nat) (h : i < xs.length) : rd_T49 xs (i : Int) = xs[i] := by simp [rd_T49, h]
theorem ses_eq (x y : S49) : x = y ↔ x.f0 = y.f0 ∧ x.f1 = y.f1 ∧ x.f2.f0 = y.f2.f0 ∧ x.f2.f1 = y.f2.f1 := by
  constructor
  · intro h; subst h; simp
  · rintro ⟨h0, h1, h2, h3⟩
    obtain ⟨a, b, ⟨c, d⟩⟩ := x
    obtain ⟨a', b', ⟨c', d'⟩⟩ := y
    simp_all

/-- Is this session one of a machine, behind the one before it? -/
def okSes (xs : List S49) (j : Nat) : Prop := (0 ≤ (rd_T49 xs (j : Int)).f0 ∧ (rd_T49 xs (j : Int)).f0 ≤ 2) ∧
  (1 ≤ (rd_T49 xs (j : Int)).f1 ∧ (rd_T49 xs (j : Int)).f1 ≤ 99) ∧ (0 ≤ (rd_T49 xs (j : Int)).f2.f1 ∧ (rd_T49 xs (j : Int)).f2.f1 ≤ 9) ∧
  (0 < j → (rd_T49 xs ((j : Int) - 1)).f0 < (rd_T49 xs (j : Int)).f0)
/-- Is this a machine? -/
def vMach (os : List Int) (xs : List S49) : Prop := os.length = 3 ∧ (∀ j : Nat, j < os.length → 0 ≤ rd os (j : Int) ∧ rd os (j : Int) ≤ 9) ∧ ∀ j, j < xs.length → okSes xs j

theorem spec_IsValidMachine.ev (os : List Int) (xs : List S49) (h1 : os.length ≤ 9223372036854775806) (h2 : xs.length ≤ 9223372036854775806) : ∃ b, Ev (fun k => spec_IsValidMachine.f k os xs) b ∧ (b = true ↔ vMach os xs) :=
  ⟨decide (vM_ os xs), ev_val fun _ => rfl, decide_eq_true_iff.trans Iff.rfl⟩

/-- Is this an operation? -/
def vop (a b c d e f : Int) : Bool := decide ((0 ≤ a ∧ a ≤ 2) ∧ (1 ≤ b ∧ b ≤ 99) ∧ (0 ≤ d ∧ d ≤ 2) ∧ (0 ≤ f ∧ f ≤ 9) ∧ ((c = 1 ∧ e = 0) ∨ (c = 2 ∧ 0 ≤ e ∧ e ≤ 9)))

theorem spec_IsValidOp.val (a b c d e f : Int) : spec_IsValidOp.f a b c d e f = some (vop a b c d e f) := by
  unfold spec_IsValidOp.f vop
  simp only [spec_l1In.val, Option.bind_some]
  by_cases h1 : 0 ≤ a ∧ a ≤ 2
  · by_cases h2 : 1 ≤ b ∧ b ≤ 99
    · by_cases h3 : 0 ≤ d ∧ d ≤ 2
      · by_cases h4 : 0 ≤ f ∧ f ≤ 9
        · simp only [decide_eq_true h1, decide_eq_true h2, decide_eq_true h3, decide_eq_true h4, if_true]
          by_cases hc : c = 1
          · by_cases he : e = 0
            · simp [hc, he, h1, h2, h3, h4]
            · simp [hc, he, h1, h2, h3, h4]
          · by_cases hc2 : c = 2
            · simp [hc2, h1, h2, h3, h4]
            · simp [hc, hc2]
        · simp only [decide_eq_true h1, decide_eq_true h2, decide_eq_true h3, decide_eq_false h4, if_true, Bool.false_eq_true, if_false]
          simp; intros; omega
      · simp only [decide_eq_true h1, decide_eq_true h2, decide_eq_false h3, if_true, Bool.false_eq_true, if_false]
        simp; intros; omega
    · simp only [decide_eq_true h1, decide_eq_false h2, if_true, Bool.false_eq_true, if_false]
      simp; intros; omega
  · simp only [decide_eq_false h1, Bool.false_eq_true, if_false]
    simp; intros; omega

/-- A client's session. -/
def sesOut : Option S49 → Int × Int × Bool × Int × Bool
  | none => (0, 0, false, 0, false)
  | some s => (s.f0, s.f1, s.f2.f0, s.f2.f1, true)
def sesOf (xs : List S49) (c : Int) : Option S49 := xs.find? fun s => s.f0 == c

theorem spec_SessionOf.ev (os : List Int) (xs : List S49) (c : Int) (hn : xs.length ≤ 9223372036854775806) : Ev (fun k => spec_SessionOf.f k os xs c) (sesOut (sesOf xs c)) := by
  have key : ∀ (d i : Nat), i + d = xs.length → Ev (fun k => spec_SessionOf.l0 k c (i : Int) os xs) (sesOut (sesOf (xs.drop i) c)) := by
    intro d
    induction d with
    | zero =>
      intro i h
      refine ev_shift ?_
      simp only [spec_SessionOf.l0, if_neg (show ¬ ((i : Int) < (xs.length : Int)) by omega)]
      exact ev_some (by rw [List.drop_eq_nil_of_le (show xs.length ≤ i by omega)]; rfl)
    | succ d ih =>
      intro i h
      have h1 : i < xs.length := by omega
      have := ih (i + 1) (by omega)
      refine ev_shift ?_
      simp only [spec_SessionOf.l0, if_pos (show (i : Int) < (xs.length : Int) by omega), if_pos (show (0 : Int) ≤ (i : Int) by omega), w64 (show -9223372036854775808 ≤ (i : Int) + 1 by omega) (by omega), rdS xs i h1]
      rw [List.drop_eq_getElem_cons h1, sesOf, List.find?_cons]
      by_cases hc : xs[i].f0 = c
      · simp only [if_pos hc]
        rw [show (xs[i].f0 == c) = true by simpa using hc]
        exact Ev.now _
      · simp only [if_neg hc]
        rw [show (xs[i].f0 == c) = false by simpa using hc]
        simpa [sesOf] using this
  have := key xs.length 0 (by omega)
  simpa [spec_SessionOf.f] using this

theorem insAt_lt (c : Int) : ∀ xs : List S49, (∃ s ∈ xs, s.f0 = c) → insAt_ c xs < xs.length
  | [], h => by simp at h
  | x :: xs, h => by
    by_cases hx : x.f0 < c
    · have : insAt_ c (x :: xs) = insAt_ c xs + 1 := by simp [insAt_, List.takeWhile_cons, hx]
      rw [this]
      obtain ⟨s, hs, hc⟩ := h
      rcases List.mem_cons.1 hs with rfl | hs
      · omega
      · have := insAt_lt c xs ⟨s, hs, hc⟩
        simp only [List.length_cons]; omega
    · simp [insAt_, List.takeWhile_cons, hx]
theorem sesOut_in (xs : List S49) (c : Int) (h : (sesOut (sesOf xs c)).2.2.2.2 = true) : ∃ s ∈ xs, s.f0 = c := by
  cases hs : sesOf xs c with
  | none => rw [hs] at h; simp [sesOut] at h
  | some s => exact ⟨s, List.mem_of_find?_eq_some hs, by have := List.find?_some hs; simpa using this⟩
/-- What an operation does to a machine, where both are valid. -/
def stepR (os : List Int) (xs : List S49) (a b c d e f : Int) : Option (List Int × List S49 × Bool × Int × Bool) :=
  step_ os os xs (sesOut (sesOf xs a)).2.1 (sesOut (sesOf xs a)).2.2.1 (sesOut (sesOf xs a)).2.2.2.1 (sesOut (sesOf xs a)).2.2.2.2 a b c d e f
open Classical in
noncomputable def appR (os : List Int) (xs : List S49) (a b c d e f : Int) : List Int × List S49 × Bool × Int × Bool :=
  if vMach os xs then (if vop a b c d e f = true then (stepR os xs a b c d e f).getD (os, xs, false, 0, false) else (os, xs, false, 0, false)) else (os, xs, false, 0, false)
theorem stepR_some (os : List Int) (xs : List S49) (a b c d e f : Int) (hm : vMach os xs) (hv : vop a b c d e f = true) (hn : xs.length < 1099511627776) : ∃ r, stepR os xs a b c d e f = some r ∧ r.1.length = os.length ∧ r.2.1.length ≤ xs.length + 1 := by
  have hd : 0 ≤ d ∧ d ≤ 2 := by simp only [vop, decide_eq_true_eq] at hv; exact hv.2.2.1
  have ho := hm.1
  unfold stepR step_
  split
  · exact ⟨_, rfl, rfl, by simp⟩
  split
  · exact ⟨_, rfl, rfl, by simp⟩
  rw [if_pos ⟨hd.1, by omega, by omega, hn, fun h => insAt_lt a xs (sesOut_in xs a h)⟩]
  refine ⟨_, rfl, by simp only; split <;> simp, ?_⟩
  simp only [List.length_append, List.length_take, List.length_drop, List.length_singleton]
  have := insAt_le a xs
  split <;> omega
theorem appR_len (os : List Int) (xs : List S49) (a b c d e f : Int) (hn : xs.length < 1099511627776) : (appR os xs a b c d e f).1.length = os.length ∧ (appR os xs a b c d e f).2.1.length ≤ xs.length + 1 := by
  unfold appR
  split
  · split
    · rename_i hm hv
      obtain ⟨r, hr, h1, h2⟩ := stepR_some os xs a b c d e f hm hv hn
      rw [hr]; exact ⟨h1, h2⟩
    · simp
  · simp

theorem spec_ApplyOp.ev (os : List Int) (xs : List S49) (a b c d e f : Int) (ho : os.length < 17592186044416) (hn : xs.length < 1099511627776) : Ev (fun k => spec_ApplyOp.f k os xs a b c d e f) (appR os xs a b c d e f) := by
  obtain ⟨q, hq, hq2⟩ := spec_IsValidMachine.ev os xs (by omega) (by omega)
  simp only [spec_ApplyOp.f, spec_l4Copy.val os xs ho (by omega), Option.bind_some]
  refine Ev.bind hq ?_
  cases q with
  | true =>
    simp only [if_true, spec_IsValidOp.val, Option.bind_some]
    rw [appR, if_pos (hq2.1 rfl)]
    by_cases hv : vop a b c d e f = true
    · rw [if_pos hv]
      simp only [if_pos hv]
      obtain ⟨r, hr, _⟩ := stepR_some os xs a b c d e f (hq2.1 rfl) hv hn
      refine Ev.bind (spec_SessionOf.ev os xs a (by omega)) (ev_val fun _ => ?_)
      rw [hr]; exact hr
    · rw [if_neg hv]
      simp only [if_neg hv]
      exact Ev.now _
  | false =>
    rw [appR, if_neg (show ¬ vMach os xs from fun h => by simpa using hq2.2 h)]
    simp only [Bool.false_eq_true, if_false]
    exact Ev.now _

theorem rdE (xs : List S72) (i : Nat) (h : i < xs.length) : rd_T72 xs (i : Int) = xs[i] := by simp [rd_T72, h]
theorem rdLE (xs : List S97) (i : Nat) (h : i < xs.length) : rd_T97 xs (i : Int) = xs[i] := by simp [rd_T97, h]
/-- An entry of the laws, as one of the program. -/
def toE (x : S97) : S72 := ⟨x.f0, ⟨x.f1.f0, x.f1.f1, x.f1.f2, x.f1.f3, x.f1.f4, x.f1.f5⟩⟩
theorem ent_eq (x y : S72) : x = y ↔ x.f0 = y.f0 ∧ x.f1.f0 = y.f1.f0 ∧ x.f1.f1 = y.f1.f1 ∧ x.f1.f2 = y.f1.f2 ∧ x.f1.f3 = y.f1.f3 ∧ x.f1.f4 = y.f1.f4 ∧ x.f1.f5 = y.f1.f5 := by
  constructor
  · intro h; subst h; simp
  · rintro ⟨h0, h1, h2, h3, h4, h5, h6⟩
    obtain ⟨a, ⟨b, c, d, e, f, g⟩⟩ := x
    obtain ⟨a', ⟨b', c', d', e', f', g'⟩⟩ := y
    simp_all

/-- Is this entry one of a log, behind the one before it? -/
def okAt (xs : List S72) (j : Nat) : Prop := (1 ≤ (rd_T72 xs (j : Int)).f0 ∧ (rd_T72 xs (j : Int)).f0 ≤ 20) ∧
  vop (rd_T72 xs (j : Int)).f1.f0 (rd_T72 xs (j : Int)).f1.f1 (rd_T72 xs (j : Int)).f1.f2 (rd_T72 xs (j : Int)).f1.f3 (rd_T72 xs (j : Int)).f1.f4 (rd_T72 xs (j : Int)).f1.f5 = true ∧
  (0 < j → (rd_T72 xs ((j : Int) - 1)).f0 ≤ (rd_T72 xs (j : Int)).f0)
/-- Is this a log? -/
def isLog (xs : List S72) : Prop := (∀ j, j < xs.length → okAt xs j) ∧ xs.length ≤ 16

theorem spec_IsLog.ev (xs : List S72) (hn : xs.length ≤ 9223372036854775806) : ∃ b, Ev (fun k => spec_IsLog.f k xs) b ∧ (b = true ↔ isLog xs) := by
  refine ⟨decide (vL_spec xs), ev_val fun _ => rfl, decide_eq_true_iff.trans ?_⟩
  simp only [vL_spec, isLog, okE_spec, okAt, spec_IsValidOp.val, Option.some.injEq]
  exact And.comm

theorem spec_NewMachine.val : spec_NewMachine.f = some ([0, 0, 0], []) := rfl

/-- A machine behind the operations of a list of entries. -/
noncomputable def repl : List S72 → List Int → List S49 → List Int × List S49
  | [], os, xs => (os, xs)
  | e :: es, os, xs => repl es (appR os xs e.f1.f0 e.f1.f1 e.f1.f2 e.f1.f3 e.f1.f4 e.f1.f5).1 (appR os xs e.f1.f0 e.f1.f1 e.f1.f2 e.f1.f3 e.f1.f4 e.f1.f5).2.1
theorem repl_len : ∀ (es : List S72) (os : List Int) (xs : List S49), xs.length + es.length < 1099511627776 → (repl es os xs).1.length = os.length ∧ (repl es os xs).2.length ≤ xs.length + es.length
  | [], os, xs, _ => ⟨rfl, Nat.le_refl _⟩
  | e :: es, os, xs, h => by
    simp only [List.length_cons] at h
    have h1 := appR_len os xs e.f1.f0 e.f1.f1 e.f1.f2 e.f1.f3 e.f1.f4 e.f1.f5 (by omega)
    have h2 := repl_len es (appR os xs e.f1.f0 e.f1.f1 e.f1.f2 e.f1.f3 e.f1.f4 e.f1.f5).1 (appR os xs e.f1.f0 e.f1.f1 e.f1.f2 e.f1.f3 e.f1.f4 e.f1.f5).2.1 (show (appR os xs e.f1.f0 e.f1.f1 e.f1.f2 e.f1.f3 e.f1.f4 e.f1.f5).2.1.length + es.length < 1099511627776 by omega)
    rw [repl]
    exact ⟨h2.1.trans h1.1, by simp only [List.length_cons]; omega⟩
open Classical in
noncomputable def repR (es : List S72) : List Int × List S49 × Bool := if isLog es then ((repl es [0, 0, 0] []).1, (repl es [0, 0, 0] []).2, true) else ([], [], false)
theorem repR_len (es : List S72) : (repR es).1.length ≤ 3 ∧ (repR es).2.1.length ≤ 16 := by
  unfold repR
  split
  · rename_i h
    have := h.2
    have := repl_len es [0, 0, 0] [] (by simp; omega)
    simp only [List.length_cons, List.length_nil] at this ⊢
    omega
  · simp
/-- A loop over the entries. -/
theorem rep_loop (xs : List S72) (g : Nat → Int → List Int → List S49 → Option (List Int × List S49 × Bool)) (hn : xs.length ≤ 2000000)
    (h0 : ∀ os ss, Ev (fun k => g k (xs.length : Int) os ss) (os, ss, true))
    (h1 : ∀ (i : Nat) (os : List Int) (ss : List S49) (r : List Int × List S49 × Bool), (hi : i < xs.length) → os.length < 1000 → ss.length < 1000000000 → Ev (fun k => g k ((i : Int) + 1) (appR os ss xs[i].f1.f0 xs[i].f1.f1 xs[i].f1.f2 xs[i].f1.f3 xs[i].f1.f4 xs[i].f1.f5).1 (appR os ss xs[i].f1.f0 xs[i].f1.f1 xs[i].f1.f2 xs[i].f1.f3 xs[i].f1.f4 xs[i].f1.f5).2.1) r → Ev (fun k => g k (i : Int) os ss) r) :
    ∀ (d i : Nat) (os : List Int) (ss : List S49), i + d = xs.length → os.length < 1000 → ss.length ≤ i → Ev (fun k => g k (i : Int) os ss) ((repl (xs.drop i) os ss).1, (repl (xs.drop i) os ss).2, true)
  | 0, i, os, ss, h, _, _ => by
    obtain rfl : i = xs.length := by omega
    rw [List.drop_length]
    exact h0 os ss
  | d + 1, i, os, ss, h, h2, h3 => by
    have hl := appR_len os ss xs[i].f1.f0 xs[i].f1.f1 xs[i].f1.f2 xs[i].f1.f3 xs[i].f1.f4 xs[i].f1.f5 (by omega)
    rw [List.drop_eq_getElem_cons (show i < xs.length by omega), repl]
    exact h1 i os ss _ (by omega) h2 (by omega) (rep_loop xs g hn h0 h1 d (i + 1) _ _ (by omega) (by omega) (by omega))

theorem spec_ReplayLog.ev (xs : List S72) (hn : xs.length ≤ 2000000) : Ev (fun k => spec_ReplayLog.f k xs) (repR xs) := by
  obtain ⟨q, hq, hq2⟩ := spec_IsLog.ev xs (by omega)
  simp only [spec_ReplayLog.f, spec_NewMachine.val, Option.bind_some]
  refine Ev.bind hq ?_
  cases q with
  | true =>
    simp only [if_true]
    rw [repR, if_pos (hq2.1 rfl)]
    refine rep_loop xs (fun k i os ss => spec_ReplayLog.l0 k xs i os ss) hn (fun os ss => ev_shift (ev_val fun k => ?_)) (fun i os ss r hi h1 h2 h3 => ev_shift ?_) xs.length 0 [0, 0, 0] [] (by omega) (by simp) (by simp)
    · simp only [spec_ReplayLog.l0, if_neg (show ¬ ((xs.length : Int) < (xs.length : Int)) by omega)]
    · simp only [spec_ReplayLog.l0, if_pos (show (i : Int) < (xs.length : Int) by omega), if_pos (show (0 : Int) ≤ (i : Int) by omega), w64 (show -9223372036854775808 ≤ (i : Int) + 1 by omega) (by omega), rdE xs i hi]
      exact Ev.bind (spec_ApplyOp.ev os ss _ _ _ _ _ _ (by omega) (by omega)) h3
  | false =>
    simp only [Bool.false_eq_true, if_false]
    rw [repR, if_neg (fun h => by simpa using hq2.2 h)]
    exact Ev.now _

open Classical in
/-- The answer of the operation at an index of a log. -/
noncomputable def resR (xs : List S72) (a : Int) : Bool × Int × Bool :=
  if isLog xs ∧ 0 ≤ a ∧ a ≤ wrap64 ((xs.length : Int) - 1) then
    ((appR (repR (xs.take a.toNat)).1 (repR (xs.take a.toNat)).2.1 (rd_T72 xs a).f1.f0 (rd_T72 xs a).f1.f1 (rd_T72 xs a).f1.f2 (rd_T72 xs a).f1.f3 (rd_T72 xs a).f1.f4 (rd_T72 xs a).f1.f5).2.2.1,
      (appR (repR (xs.take a.toNat)).1 (repR (xs.take a.toNat)).2.1 (rd_T72 xs a).f1.f0 (rd_T72 xs a).f1.f1 (rd_T72 xs a).f1.f2 (rd_T72 xs a).f1.f3 (rd_T72 xs a).f1.f4 (rd_T72 xs a).f1.f5).2.2.2.1,
      (appR (repR (xs.take a.toNat)).1 (repR (xs.take a.toNat)).2.1 (rd_T72 xs a).f1.f0 (rd_T72 xs a).f1.f1 (rd_T72 xs a).f1.f2 (rd_T72 xs a).f1.f3 (rd_T72 xs a).f1.f4 (rd_T72 xs a).f1.f5).2.2.2.2)
  else (false, 0, false)

theorem spec_ResultAt.ev (xs : List S72) (a : Int) (hn : xs.length ≤ 2000000) : Ev (fun k => spec_ResultAt.f k xs a) (resR xs a) := by
  obtain ⟨q, hq, hq2⟩ := spec_IsLog.ev xs (by omega)
  have hw : wrap64 ((xs.length : Int) - 1) = (xs.length : Int) - 1 := w64 (by omega) (by omega)
  have hno : Ev (fun k => spec_ResultAt.j0 k xs a true) (false, 0, false) := ev_shift (ev_val fun k => by simp only [spec_ResultAt.j0, if_true])
  simp only [spec_ResultAt.f]
  refine Ev.bind hq ?_
  cases q with
  | true =>
    simp only [if_true, spec_l1In.val, Option.bind_some]
    by_cases h : 0 ≤ a ∧ a ≤ wrap64 ((xs.length : Int) - 1)
    · rw [resR, if_pos ⟨hq2.1 rfl, h⟩, decide_eq_true h]
      rw [hw] at h
      have hl := repR_len (xs.take a.toNat)
      refine ev_shift ?_
      simp only [spec_ResultAt.j0, Bool.not_true, Bool.false_eq_true, if_false, if_pos h.1, if_pos (show a ≤ (xs.length : Int) by omega), if_pos (show a < (xs.length : Int) by omega)]
      exact Ev.bind (spec_ReplayLog.ev (xs.take a.toNat) (by rw [List.length_take]; omega)) (Ev.bind (spec_ApplyOp.ev _ _ _ _ _ _ _ _ (by omega) (by omega)) (Ev.now _))
    · rw [resR, if_neg (fun h2 => h h2.2), decide_eq_false h]
      exact hno
  | false =>
    simp only [Bool.false_eq_true, if_false]
    rw [resR, if_neg (fun h2 => by simpa using hq2.2 h2.1)]
    exact hno

theorem laws_toOp.val (a b c d e f : Int) : laws_toOp.f a b c d e f = some (a, b, c, d, e, f) := rfl

theorem laws_toEntry.val (x a b c d e f : Int) : laws_toEntry.f x a b c d e f = some (x, a, b, c, d, e, f) := rfl

theorem laws_toEntryS.ev (xs : List S97) (hn : xs.length ≤ 5026338869833) : Ev (fun k => laws_toEntryS.f k xs) (xs.map toE) := by
  have := map_loop (fun k ys i => laws_toEntryS.l0 k xs ys i) toE xs
    (fun k ys _ => by simp only [laws_toEntryS.l0, if_neg (show ¬ ((xs.length : Int) < (xs.length : Int)) by omega)])
    (fun i h ys k hy => by
      simp only [laws_toEntryS.l0, if_pos (show (i : Int) < (xs.length : Int) by omega), if_pos (show (0 : Int) ≤ (i : Int) by omega), if_pos (show (i : Int) < (ys.length : Int) by omega),
        laws_toEntry.val, Option.bind_some, rdLE xs i h, Int.toNat_natCast, w64 (show -9223372036854775808 ≤ (i : Int) + 1 by omega) (by omega), toE])
    (List.replicate xs.length z72) (by simp)
  refine Ev.congr (fun k => ?_) this
  simp only [laws_toEntryS.f, if_pos (show (0 : Int) ≤ (xs.length : Int) by omega), Int.toNat_natCast, if_pos hn]

theorem slices_Clone_int_int.val (xs : List Int) (h : xs.length < 17592186044416) : slices_Clone_int_int.f xs = some xs := by
  simp only [slices_Clone_int_int.f, if_pos h]

theorem slices_Clone_impl_Session_impl_Session.val (xs : List S49) (h : xs.length < 4398046511104) : slices_Clone_impl_Session_impl_Session.f xs = some xs := by
  simp only [slices_Clone_impl_Session_impl_Session.f, if_pos h]

theorem impl_machineCopy.val (os : List Int) (xs : List S49) (h1 : os.length < 17592186044416) (h2 : xs.length < 4398046511104) : impl_machineCopy.f os xs = some (os, xs) := by
  simp only [impl_machineCopy.f, slices_Clone_int_int.val os h1, slices_Clone_impl_Session_impl_Session.val xs h2, Option.bind_some]

theorem impl_within.val (a b c : Int) : impl_within.f a b c = some (decide (b ≤ a ∧ a ≤ c)) := by
  unfold impl_within.f
  by_cases h : b ≤ a <;> simp [h]

theorem impl_IsValidMachine.ev (os : List Int) (xs : List S49) (h1 : os.length ≤ 9223372036854775806) (h2 : xs.length ≤ 9223372036854775806) : ∃ b, Ev (fun k => impl_IsValidMachine.f k os xs) b ∧ (b = true ↔ vMach os xs) :=
  ⟨decide (vM_ os xs), ev_val fun _ => rfl, decide_eq_true_iff.trans Iff.rfl⟩

theorem impl_IsValidOp.val (a b c d e f : Int) : impl_IsValidOp.f a b c d e f = some (vop a b c d e f) := by
  unfold impl_IsValidOp.f vop
  simp only [impl_within.val, Option.bind_some]
  by_cases h1 : 0 ≤ a ∧ a ≤ 2
  · by_cases h2 : 1 ≤ b ∧ b ≤ 99
    · by_cases h3 : 0 ≤ d ∧ d ≤ 2
      · by_cases h4 : 0 ≤ f ∧ f ≤ 9
        · simp only [decide_eq_true h1, decide_eq_true h2, decide_eq_true h3, decide_eq_true h4, if_true]
          by_cases hc : c = 1
          · by_cases he : e = 0
            · simp [hc, he, h1, h2, h3, h4]
            · simp [hc, he, h1, h2, h3, h4]
          · by_cases hc2 : c = 2
            · simp [hc2, h1, h2, h3, h4]
            · simp [hc, hc2]
        · simp only [decide_eq_true h1, decide_eq_true h2, decide_eq_true h3, decide_eq_false h4, if_true, Bool.false_eq_true, if_false]
          simp; intros; omega
      · simp only [decide_eq_true h1, decide_eq_true h2, decide_eq_false h3, if_true, Bool.false_eq_true, if_false]
        simp; intros; omega
    · simp only [decide_eq_true h1, decide_eq_false h2, if_true, Bool.false_eq_true, if_false]
      simp; intros; omega
  · simp only [decide_eq_false h1, Bool.false_eq_true, if_false]
    simp; intros; omega

theorem impl_SessionOf.ev (os : List Int) (xs : List S49) (c : Int) (hn : xs.length ≤ 9223372036854775806) : Ev (fun k => impl_SessionOf.f k os xs c) (sesOut (sesOf xs c)) := by
  have key : ∀ (d i : Nat), i + d = xs.length → Ev (fun k => impl_SessionOf.l0 k c xs (xs.length : Int) (i : Int)) (sesOut (sesOf (xs.drop i) c)) := by
    intro d
    induction d with
    | zero =>
      intro i h
      refine ev_shift ?_
      simp only [impl_SessionOf.l0, if_neg (show ¬ ((i : Int) < (xs.length : Int)) by omega)]
      exact ev_some (by rw [List.drop_eq_nil_of_le (show xs.length ≤ i by omega)]; rfl)
    | succ d ih =>
      intro i h
      have h1 : i < xs.length := by omega
      have := ih (i + 1) (by omega)
      refine ev_shift ?_
      simp only [impl_SessionOf.l0, if_pos (show (i : Int) < (xs.length : Int) by omega), if_pos (show (0 : Int) ≤ (i : Int) by omega), w64 (show -9223372036854775808 ≤ (i : Int) + 1 by omega) (by omega), rdS xs i h1]
      rw [List.drop_eq_getElem_cons h1, sesOf, List.find?_cons]
      by_cases hc : xs[i].f0 = c
      · simp only [if_pos hc]
        rw [show (xs[i].f0 == c) = true by simpa using hc]
        exact Ev.now _
      · simp only [if_neg hc]
        rw [show (xs[i].f0 == c) = false by simpa using hc]
        simpa [sesOf] using this
  have := key xs.length 0 (by omega)
  simpa [impl_SessionOf.f] using this

theorem impl_ApplyOp.ev (os : List Int) (xs : List S49) (a b c d e f : Int) (ho : os.length < 17592186044416) (hn : xs.length < 1099511627776) : Ev (fun k => impl_ApplyOp.f k os xs a b c d e f) (appR os xs a b c d e f) := by
  obtain ⟨q, hq, hq2⟩ := impl_IsValidMachine.ev os xs (by omega) (by omega)
  simp only [impl_ApplyOp.f, impl_machineCopy.val os xs ho (by omega), Option.bind_some]
  refine Ev.bind (impl_SessionOf.ev os xs a (by omega)) (Ev.bind hq ?_)
  cases q with
  | true =>
    simp only [if_true, impl_IsValidOp.val, Option.bind_some]
    rw [appR, if_pos (hq2.1 rfl)]
    by_cases hv : vop a b c d e f = true
    · rw [if_pos hv]
      simp only [if_pos hv]
      obtain ⟨r, hr, _⟩ := stepR_some os xs a b c d e f (hq2.1 rfl) hv hn
      refine ev_val fun _ => ?_
      rw [hr]; exact hr
    · rw [if_neg hv]
      simp only [if_neg hv]
      exact Ev.now _
  | false =>
    rw [appR, if_neg (show ¬ vMach os xs from fun h => by simpa using hq2.2 h)]
    simp only [Bool.false_eq_true, if_false]
    exact Ev.now _

theorem impl_IsLog.ev (xs : List S72) (hn : xs.length ≤ 9223372036854775806) : ∃ b, Ev (fun k => impl_IsLog.f k xs) b ∧ (b = true ↔ isLog xs) := by
  refine ⟨decide (vL_impl xs), ev_val fun _ => rfl, decide_eq_true_iff.trans ?_⟩
  simp only [vL_impl, isLog, okE_impl, okAt, impl_IsValidOp.val, Option.some.injEq]
  exact And.comm

theorem impl_NewMachine.val : impl_NewMachine.f = some ([0, 0, 0], []) := rfl

theorem impl_ReplayLog.ev (xs : List S72) (hn : xs.length ≤ 2000000) : Ev (fun k => impl_ReplayLog.f k xs) (repR xs) := by
  obtain ⟨q, hq, hq2⟩ := impl_IsLog.ev xs (by omega)
  simp only [impl_ReplayLog.f]
  refine Ev.bind hq ?_
  cases q with
  | true =>
    simp only [if_true, impl_NewMachine.val, Option.bind_some]
    rw [repR, if_pos (hq2.1 rfl)]
    refine rep_loop xs (fun k i os ss => impl_ReplayLog.l0 k xs (xs.length : Int) i os ss) hn (fun os ss => ev_shift (ev_val fun k => ?_)) (fun i os ss r hi h1 h2 h3 => ev_shift ?_) xs.length 0 [0, 0, 0] [] (by omega) (by simp) (by simp)
    · simp only [impl_ReplayLog.l0, if_neg (show ¬ ((xs.length : Int) < (xs.length : Int)) by omega)]
    · simp only [impl_ReplayLog.l0, if_pos (show (i : Int) < (xs.length : Int) by omega), if_pos (show (0 : Int) ≤ (i : Int) by omega), w64 (show -9223372036854775808 ≤ (i : Int) + 1 by omega) (by omega), rdE xs i hi]
      exact Ev.bind (impl_ApplyOp.ev os ss _ _ _ _ _ _ (by omega) (by omega)) h3
  | false =>
    simp only [Bool.false_eq_true, if_false]
    rw [repR, if_neg (fun h => by simpa using hq2.2 h)]
    exact Ev.now _

theorem impl_ResultAt.ev (xs : List S72) (a : Int) (hn : xs.length ≤ 2000000) : Ev (fun k => impl_ResultAt.f k xs a) (resR xs a) := by
  obtain ⟨q, hq, hq2⟩ := impl_IsLog.ev xs (by omega)
  have hw : wrap64 ((xs.length : Int) - 1) = (xs.length : Int) - 1 := w64 (by omega) (by omega)
  have hno : Ev (fun k => impl_ResultAt.j0 k xs a true) (false, 0, false) := ev_shift (ev_val fun k => by simp only [impl_ResultAt.j0, if_true])
  simp only [impl_ResultAt.f]
  refine Ev.bind hq ?_
  cases q with
  | true =>
    simp only [if_true, impl_within.val, Option.bind_some]
    by_cases h : 0 ≤ a ∧ a ≤ wrap64 ((xs.length : Int) - 1)
    · rw [resR, if_pos ⟨hq2.1 rfl, h⟩, decide_eq_true h]
      rw [hw] at h
      have hl := repR_len (xs.take a.toNat)
      refine ev_shift ?_
      simp only [impl_ResultAt.j0, Bool.not_true, Bool.false_eq_true, if_false, if_pos h.1, if_pos (show a ≤ (xs.length : Int) by omega), if_pos (show a < (xs.length : Int) by omega)]
      exact Ev.bind (impl_ReplayLog.ev (xs.take a.toNat) (by rw [List.length_take]; omega)) (Ev.bind (impl_ApplyOp.ev _ _ _ _ _ _ _ _ (by omega) (by omega)) (Ev.now _))
    · rw [resR, if_neg (fun h2 => h h2.2), decide_eq_false h]
      exact hno
  | false =>
    simp only [Bool.false_eq_true, if_false]
    rw [resR, if_neg (fun h2 => by simpa using hq2.2 h2.1)]
    exact hno

theorem laws_eqOp.val (a b c d e f a' b' c' d' e' f' : Int) : laws_eqOp.f a b c d e f a' b' c' d' e' f' = some (decide (a = a' ∧ b = b' ∧ c = c' ∧ d = d' ∧ e = e' ∧ f = f')) := by
  unfold laws_eqOp.f
  by_cases h1 : a = a' <;> by_cases h2 : b = b' <;> by_cases h3 : c = c' <;> by_cases h4 : d = d' <;> by_cases h5 : e = e' <;> by_cases h6 : f = f' <;> simp [h1, h2, h3, h4, h5, h6]

theorem laws_eqEntry.val (x y : S72) : ∃ b, laws_eqEntry.f x.f0 x.f1.f0 x.f1.f1 x.f1.f2 x.f1.f3 x.f1.f4 x.f1.f5 y.f0 y.f1.f0 y.f1.f1 y.f1.f2 y.f1.f3 y.f1.f4 y.f1.f5 = some b ∧ (b = true ↔ x = y) := by
  unfold laws_eqEntry.f
  rw [ent_eq]
  by_cases h : x.f0 = y.f0
  · rw [if_pos h, laws_eqOp.val]
    simp only [Option.bind_some]
    by_cases h2 : x.f1.f0 = y.f1.f0 ∧ x.f1.f1 = y.f1.f1 ∧ x.f1.f2 = y.f1.f2 ∧ x.f1.f3 = y.f1.f3 ∧ x.f1.f4 = y.f1.f4 ∧ x.f1.f5 = y.f1.f5
    · exact ⟨true, by rw [if_pos (decide_eq_true h2)], by simp only [true_iff]; exact ⟨h, h2⟩⟩
    · exact ⟨false, by rw [if_neg (by simpa using h2)], by simp only [Bool.false_eq_true, false_iff]; exact fun h' => h2 h'.2⟩
  · exact ⟨false, by rw [if_neg h], by simp only [Bool.false_eq_true, false_iff]; exact fun h' => h h'.1⟩

theorem laws_eqEntryS.ev (xs ys : List S72) (hn : xs.length ≤ 9223372036854775806) : ∃ b, Ev (fun k => laws_eqEntryS.f k xs ys) b ∧ (b = true ↔ xs = ys) := by
  by_cases hl : xs.length = ys.length
  · obtain ⟨b, hb, hq⟩ := eq_loop (fun k i => laws_eqEntryS.l0 k xs ys i) xs ys hl
      (fun k => by simp only [laws_eqEntryS.l0, if_neg (show ¬ ((xs.length : Int) < (xs.length : Int)) by omega)])
      (fun i h1 h2 => by
        obtain ⟨b, hb, hq⟩ := laws_eqEntry.val xs[i] ys[i]
        cases b with
        | true => exact .inl ⟨hq.1 rfl, 0, fun k _ => by simp only [laws_eqEntryS.l0, if_pos (show (i : Int) < (xs.length : Int) by omega), if_pos (show (0 : Int) ≤ (i : Int) by omega), if_pos (show (i : Int) < (ys.length : Int) by omega), rdE xs i h1, rdE ys i h2, hb, Option.bind_some, if_true, w64 (show -9223372036854775808 ≤ (i : Int) + 1 by omega) (by omega)]⟩
        | false => exact .inr ⟨fun h => by simpa using hq.2 h, 0, fun k _ => by simp only [laws_eqEntryS.l0, if_pos (show (i : Int) < (xs.length : Int) by omega), if_pos (show (0 : Int) ≤ (i : Int) by omega), if_pos (show (i : Int) < (ys.length : Int) by omega), rdE xs i h1, rdE ys i h2, hb, Option.bind_some, Bool.false_eq_true, if_false]⟩)
    refine ⟨b, ?_, hq⟩
    refine Ev.congr (fun k => ?_) hb
    simp only [laws_eqEntryS.f, if_pos (show (xs.length : Int) = (ys.length : Int) by omega)]
  · refine ⟨false, ev_val (fun k => ?_), ?_⟩
    · simp only [laws_eqEntryS.f, if_neg (show ¬ ((xs.length : Int) = (ys.length : Int)) by omega)]
    · constructor
      · intro h; cases h
      · intro h; subst h; exact absurd rfl hl
theorem laws_eqEntryS.same (xs : List S72) (hn : xs.length ≤ 9223372036854775806) : Ev (fun k => laws_eqEntryS.f k xs xs) true := by
  obtain ⟨b, hb, hq⟩ := laws_eqEntryS.ev xs xs hn
  exact ev_eq hb (hq.2 rfl)

theorem FnExactResultAt : FnExactResultAtPure := by
  intro l a h1 ha
  refine Ev.rounds (g := fun k => laws_FnExactResultAt.f k l a) ?_
  obtain ⟨r, hr, hq⟩ := laws_szEntryS.val l 1048576 h1.1 (by omega) (by omega)
  simp only [laws_FnExactResultAt.f, hr, Option.bind_some]
  by_cases hneg : r < 0
  · simp only [if_pos hneg]; exact Ev.now _
  · obtain ⟨e1, e2⟩ := hq hneg
    simp only [if_neg hneg]
    have hT := laws_toEntryS.ev l (by omega)
    have hl : (l.map toE).length ≤ 1048576 := by simp; omega
    have hS := spec_ResultAt.ev (l.map toE) a (by omega)
    have hI := impl_ResultAt.ev (l.map toE) a (by omega)
    generalize resR (l.map toE) a = z at hS hI
    obtain ⟨b, v, o⟩ := z
    refine Ev.bind hT (Ev.bind hS (Ev.bind hT (Ev.bind hI ?_)))
    simp only [laws_eqResult.val, Option.bind_some, and_self, decide_true, if_true, bne_self_eq_false]
    refine ev_shift ?_
    simp only [laws_FnExactResultAt.j0, Bool.false_eq_true, if_false]
    refine Ev.bind hT (Ev.bind (laws_eqEntryS.same _ (by omega)) ?_)
    simp only [if_true]
    exact Ev.now _

end Go.Proofs.Ytcikahnmiiichaa.Pure
