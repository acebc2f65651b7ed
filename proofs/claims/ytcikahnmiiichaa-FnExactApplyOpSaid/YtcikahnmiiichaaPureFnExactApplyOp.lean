/- For every machine and operation the law FnExactApplyOp returns true; no conditions. -/
import Derived.Test.YtcikahnmiiichaaQFnExactApplyOp
import Derived.Test.YtcikahnmiiichaaACom
set_option linter.unusedVariables false
set_option linter.unusedSimpArgs false
namespace Go.Proofs.Ytcikahnmiiichaa.Pure
open Go.RowKit Go.Proofs.Ytcikahnmiiichaa.A Go.Proofs.YtcikahnmiiichaaW.PrintWords Go.Proofs.YtcikahnmiiichaaW.PrintLast
open Go.Proofs.Ytcikahnmiiichaa.Opens
open Go.Proofs.Ytcikahnmiiichaa.Com

theorem laws_szIntS.val (xs : List Int) (a : Int) (hn : xs.length ≤ maxLen) (h0 : 0 ≤ a) (h1 : a ≤ 1048576) :
    ∃ r, laws_szIntS.f xs a = some r ∧ (¬ r < 0 → r = a - xs.length ∧ (xs.length : Int) ≤ a) := by
  unfold maxLen at hn
  unfold laws_szIntS.f
  rw [w64 (show -9223372036854775808 ≤ a - (xs.length : Int) by omega) (by omega)]
  by_cases h : a - (xs.length : Int) < 0
  · exact ⟨-1, by rw [if_pos h], fun h' => by omega⟩
  · exact ⟨_, by rw [if_neg h], fun h' => ⟨rfl, by omega⟩⟩

theorem laws_szSessionS.val (xs : List S107) (a : Int) (hn : xs.length ≤ maxLen) (h0 : 0 ≤ a) (h1 : a ≤ 1048576) :
    ∃ r, laws_szSessionS.f xs a = some r ∧ (¬ r < 0 → r = a - xs.length ∧ (xs.length : Int) ≤ a) := by
  unfold maxLen at hn
  unfold laws_szSessionS.f
  rw [w64 (show -9223372036854775808 ≤ a - (xs.length : Int) by omega) (by omega)]
  by_cases h : a - (xs.length : Int) < 0
  · exact ⟨-1, by rw [if_pos h], fun h' => by omega⟩
  · exact ⟨_, by rw [if_neg h], fun h' => ⟨rfl, by omega⟩⟩

theorem laws_szMachine.val (os : List Int) (xs : List S107) (a : Int) (ho : os.length ≤ maxLen) (hn : xs.length ≤ maxLen) (h0 : 0 ≤ a) (h1 : a ≤ 1048576) :
    ∃ r, laws_szMachine.f os xs a = some r ∧ (¬ r < 0 → r ≤ a ∧ (os.length : Int) ≤ a ∧ (xs.length : Int) ≤ a) := by
  obtain ⟨r, hr, hq⟩ := laws_szIntS.val os a ho h0 h1
  unfold laws_szMachine.f
  rw [hr]
  simp only [Option.bind_some]
  by_cases h : r < 0
  · exact ⟨-1, by rw [if_pos h], fun h' => by omega⟩
  · obtain ⟨h2, h3⟩ := hq h
    rw [if_neg h]
    obtain ⟨s, hs, ht⟩ := laws_szSessionS.val xs r hn (by omega) (by omega)
    rw [hs]
    simp only [Option.bind_some]
    by_cases h' : s < 0
    · exact ⟨-1, by rw [if_pos h'], fun h'' => by omega⟩
    · obtain ⟨h4, h5⟩ := ht h'
      exact ⟨s, by rw [if_neg h'], fun _ => ⟨by omega, by omega, by omega⟩⟩

theorem laws_toIntS.ev (xs : List Int) (hn : xs.length ≤ 35184372088832) : Ev (fun k => laws_toIntS.f k xs) xs := by
  have key : ∀ (d i : Nat) (ys : List Int), i + d = xs.length → ys.length = xs.length → ys.take i = xs.take i → Ev (fun k => laws_toIntS.l0 k xs ys (i : Int)) xs := by
    intro d
    induction d with
    | zero =>
      intro i ys h1 h2 h3
      refine ev_shift ?_
      simp only [laws_toIntS.l0, if_neg (show ¬ ((i : Int) < (xs.length : Int)) by omega)]
      refine ev_some ?_
      rw [List.take_of_length_le (by omega), List.take_of_length_le (by omega)] at h3
      exact h3
    | succ d ih =>
      intro i ys h1 h2 h3
      refine ev_shift ?_
      simp only [laws_toIntS.l0, if_pos (show (i : Int) < (xs.length : Int) by omega), if_pos (show (0 : Int) ≤ (i : Int) by omega), if_pos (show (i : Int) < (ys.length : Int) by omega),
        w64 (show -9223372036854775808 ≤ (i : Int) + 1 by omega) (by omega), Int.toNat_natCast, rd_get xs i (by omega)]
      have := ih (i + 1) (ys.set i xs[i]) (by omega) (by simpa using h2) (by
        rw [List.take_succ_eq_append_getElem (by simp; omega), List.take_succ_eq_append_getElem (show i < xs.length by omega), List.take_set_of_le (Nat.le_refl _), h3]
        simp)
      simpa using this
  have h0 := key xs.length 0 (List.replicate xs.length 0) (by omega) (by simp) (by simp)
  refine Ev.congr (fun k => ?_) h0
  simp only [laws_toIntS.f, if_pos (show (0 : Int) ≤ (xs.length : Int) by omega), Int.toNat_natCast, if_pos hn]
  rfl

theorem laws_toResult.val (a : Bool) (b : Int) : laws_toResult.f a b = some (a, b) := rfl

theorem laws_toSession.val (a b : Int) (c : Bool) (d : Int) : laws_toSession.f a b c d = some (a, b, c, d) := rfl

theorem rdS (xs : List S49) (i : Nat) (h : i < xs.length) : rd_T49 xs (i : Int) = xs[i] := by simp [rd_T49, h]
theorem ses_eq (x y : S49) : x = y ↔ x.f0 = y.f0 ∧ x.f1 = y.f1 ∧ x.f2.f0 = y.f2.f0 ∧ x.f2.f1 = y.f2.f1 := by
  constructor
  · intro h; subst h; simp
  · rintro ⟨h0, h1, h2, h3⟩
    obtain ⟨a, b, ⟨c, d⟩⟩ := x
    obtain ⟨a', b', ⟨c', d'⟩⟩ := y
    simp_all

theorem rdLS (xs : List S107) (i : Nat) (h : i < xs.length) : rd_T107 xs (i : Int) = xs[i] := by simp [rd_T107, h]
/-- A session of the laws, as one of the program. -/
def toS (x : S107) : S49 := ⟨x.f0, x.f1, ⟨x.f2.f0, x.f2.f1⟩⟩

theorem laws_toSessionS.ev (xs : List S107) (hn : xs.length ≤ 8796093022208) : Ev (fun k => laws_toSessionS.f k xs) (xs.map toS) := by
  have := map_loop (fun k ys i => laws_toSessionS.l0 k xs ys i) toS xs
    (fun k ys _ => by simp only [laws_toSessionS.l0, if_neg (show ¬ ((xs.length : Int) < (xs.length : Int)) by omega)])
    (fun i h ys k hy => by
      simp only [laws_toSessionS.l0, if_pos (show (i : Int) < (xs.length : Int) by omega), if_pos (show (0 : Int) ≤ (i : Int) by omega), if_pos (show (i : Int) < (ys.length : Int) by omega),
        laws_toSession.val, Option.bind_some, rdLS xs i h, Int.toNat_natCast, w64 (show -9223372036854775808 ≤ (i : Int) + 1 by omega) (by omega), toS])
    (List.replicate xs.length z49) (by simp)
  refine Ev.congr (fun k => ?_) this
  simp only [laws_toSessionS.f, if_pos (show (0 : Int) ≤ (xs.length : Int) by omega), Int.toNat_natCast, if_pos hn]

theorem laws_toMachine.ev (os : List Int) (xs : List S107) (ho : os.length ≤ 1048576) (hn : xs.length ≤ 1048576) : Ev (fun k => laws_toMachine.f k os xs) (os, xs.map toS) :=
  Ev.bind (laws_toIntS.ev os (by omega)) (Ev.bind (laws_toSessionS.ev xs (by omega)) (Ev.now _))

theorem spec_l4Copy.val (os : List Int) (xs : List S49) (h1 : os.length < 17592186044416) (h2 : xs.length < 4398046511104) : spec_l4Copy.f os xs = some (os, xs) := by
  simp only [spec_l4Copy.f, Option.bind_some, List.length_nil, Nat.zero_add, if_pos h1, if_pos h2, List.nil_append]

theorem spec_l1In.val (a b c : Int) : spec_l1In.f a b c = some (decide (b ≤ a ∧ a ≤ c)) := by
  unfold spec_l1In.f
  by_cases h : b ≤ a <;> simp [h]

/-- Is this session one of a machine, behind the one before it? -/
def okSes (xs : List S49) (j : Nat) : Prop := (0 ≤ (rd_T49 xs (j : Int)).f0 ∧ (rd_T49 xs (j : Int)).f0 ≤ 2) ∧
  (1 ≤ (rd_T49 xs (j : Int)).f1 ∧ (rd_T49 xs (j : Int)).f1 ≤ 99) ∧ (0 ≤ (rd_T49 xs (j : Int)).f2.f1 ∧ (rd_T49 xs (j : Int)).f2.f1 ≤ 9) ∧
  (0 < j → (rd_T49 xs ((j : Int) - 1)).f0 < (rd_T49 xs (j : Int)).f0)
/-- Is this a machine? -/
def vMach (os : List Int) (xs : List S49) : Prop := os.length = 3 ∧ (∀ j : Nat, j < os.length → 0 ≤ rd os (j : Int) ∧ rd os (j : Int) ≤ 9) ∧ ∀ j, j < xs.length → okSes xs j

theorem spec_IsValidMachine.ev (os : List Int) (xs : List S49) (h1 : os.length ≤ 9223372036854775806) (h2 : xs.length ≤ 9223372036854775806) : ∃ b, Ev (fun k => spec_IsValidMachine.f k os xs) b ∧ (b = true ↔ vMach os xs) :=
  ⟨decide (vM_ os xs), ev_val fun _ => rfl, decide_eq_true_iff.trans Iff.rfl⟩

/-- Is this an operation? -/
def vop (a b c d e f : Int) : Bool := decide ((0 ≤ a ∧ a ≤ 2) ∧ (1 ≤ b ∧ b ≤ 99) ∧ (0 ≤ d ∧ d ≤ 2) ∧ (0 ≤ f ∧ f ≤ 9) ∧ ((c = 1 ∧ e = 0) ∨ (c = 2 ∧ 0 ≤ e ∧ e ≤ 9)))

theorem spec_IsValidOp.val (a b c d e f : Int) : spec_IsValidOp.f a b c d e f = some (vop a b c d e f) := by
  unfold spec_IsValidOp.f vop
  simp only [spec_l1In.val, Option.bind_some]
  by_cases h1 : 0 ≤ a ∧ a ≤ 2
  · by_cases h2 : 1 ≤ b ∧ b ≤ 99
    · by_cases h3 : 0 ≤ d ∧ d ≤ 2
      · by_cases h4 : 0 ≤ f ∧ f ≤ 9
        · simp only [decide_eq_true h1, decide_eq_true h2, decide_eq_true h3, decide_eq_true h4, if_true]
          by_cases hc : c = 1
          · by_cases he : e = 0
            · simp [hc, he, h1, h2, h3, h4]
            · simp [hc, he, h1, h2, h3, h4]
          · by_cases hc2 : c = 2
            · simp [hc2, h1, h2, h3, h4]
            · simp [hc, hc2]
        · simp only [decide_eq_true h1, decide_eq_true h2, decide_eq_true h3, decide_eq_false h4, if_true, Bool.false_eq_true, if_false]
          simp; intros; omega
      · simp only [decide_eq_true h1, decide_eq_true h2, decide_eq_false h3, if_true, Bool.false_eq_true, if_false]
        simp; intros; omega
    · simp only [decide_eq_true h1, decide_eq_false h2, if_true, Bool.false_eq_true, if_false]
      simp; intros; omega
  · simp only [decide_eq_false h1, Bool.false_eq_true, if_false]
    simp; intros; omega

/-- A client's session. -/
def sesOut : Option S49 → Int × Int × Bool × Int × Bool
  | none => (0, 0, false, 0, false)
  | some s => (s.f0, s.f1, s.f2.f0, s.f2.f1, true)
def sesOf (xs : List S49) (c : Int) : Option S49 := xs.find? fun s => s.f0 == c

theorem spec_SessionOf.ev (os : List Int) (xs : List S49) (c : Int) (hn : xs.length ≤ 9223372036854775806) : Ev (fun k => spec_SessionOf.f k os xs c) (sesOut (sesOf xs c)) := by
  have key : ∀ (d i : Nat), i + d = xs.length → Ev (fun k => spec_SessionOf.l0 k c (i : Int) os xs) (sesOut (sesOf (xs.drop i) c)) := by
    intro d
    induction d with
    | zero =>
      intro i h
      refine ev_shift ?_
      simp only [spec_SessionOf.l0, if_neg (show ¬ ((i : Int) < (xs.length : Int)) by omega)]
      exact ev_some (by rw [List.drop_eq_nil_of_le (show xs.length ≤ i by omega)]; rfl)
    | succ d ih =>
      intro i h
      have h1 : i < xs.length := by omega
      have := ih (i + 1) (by omega)
      refine ev_shift ?_
      simp only [spec_SessionOf.l0, if_pos (show (i : Int) < (xs.length : Int) by omega), if_pos (show (0 : Int) ≤ (i : Int) by omega), w64 (show -9223372036854775808 ≤ (i : Int) + 1 by omega) (by omega), rdS xs i h1]
      rw [List.drop_eq_getElem_cons h1, sesOf, List.find?_cons]
      by_cases hc : xs[i].f0 = c
      · simp only [if_pos hc]
        rw [show (xs[i].f0 == c) = true by simpa using hc]
        exact Ev.now _
      · simp only [if_neg hc]
        rw [show (xs[i].f0 == c) = false by simpa using hc]
        simpa [sesOf] using this
  have := key xs.length 0 (by omega)
  simpa [spec_SessionOf.f] using this

theorem insAt_lt (c : Int) : ∀ xs : List S49, (∃ s ∈ xs, s.f0 = c) → insAt_ c xs < xs.length
  | [], h => by simp at h
  | x :: xs, h => by
    by_cases hx : x.f0 < c
    · have : insAt_ c (x :: xs) = insAt_ c xs + 1 := by simp [insAt_, List.takeWhile_cons, hx]
      rw [this]
      obtain ⟨s, hs, hc⟩ := h
      rcases List.mem_cons.1 hs with rfl | hs
      · omega
      · have := insAt_lt c xs ⟨s, hs, hc⟩
        simp only [List.length_cons]; omega
    · simp [insAt_, List.takeWhile_cons, hx]
theorem sesOut_in (xs : List S49) (c : Int) (h : (sesOut (sesOf xs c)).2.2.2.2 = true) : ∃ s ∈ xs, s.f0 = c := by
  cases hs : sesOf xs c with
  | none => rw [hs] at h; simp [sesOut] at h
  | some s => exact ⟨s, List.mem_of_find?_eq_some hs, by have := List.find?_some hs; simpa using this⟩
/-- What an operation does to a machine, where both are valid. -/
def stepR (os : List Int) (xs : List S49) (a b c d e f : Int) : Option (List Int × List S49 × Bool × Int × Bool) :=
  step_ os os xs (sesOut (sesOf xs a)).2.1 (sesOut (sesOf xs a)).2.2.1 (sesOut (sesOf xs a)).2.2.2.1 (sesOut (sesOf xs a)).2.2.2.2 a b c d e f
open Classical in
noncomputable def appR (os : List Int) (xs : List S49) (a b c d e f : Int) : List Int × List S49 × Bool × Int × Bool :=
  if vMach os xs then (if vop a b c d e f = true then (stepR os xs a b c d e f).getD (os, xs, false, 0, false) else (os, xs, false, 0, false)) else (os, xs, false, 0, false)
theorem stepR_some (os : List Int) (xs : List S49) (a b c d e f : Int) (hm : vMach os xs) (hv : vop a b c d e f = true) (hn : xs.length < 1099511627776) : ∃ r, stepR os xs a b c d e f = some r ∧ r.1.length = os.length ∧ r.2.1.length ≤ xs.length + 1 := by
  have hd : 0 ≤ d ∧ d ≤ 2 := by simp only [vop, decide_eq_true_eq] at hv; exact hv.2.2.1
  have ho := hm.1
  unfold stepR step_
  split
  · exact ⟨_, rfl, rfl, by simp⟩
  split
  · exact ⟨_, rfl, rfl, by simp⟩
  rw [if_pos ⟨hd.1, by omega, by omega, hn, fun h => insAt_lt a xs (sesOut_in xs a h)⟩]
  refine ⟨_, rfl, by simp only; split <;> simp, ?_⟩
  simp only [List.length_append, List.length_take, List.length_drop, List.length_singleton]
  have := insAt_le a xs
  split <;> omega
theorem appR_len (os : List Int) (xs : List S49) (a b c d e f : Int) (hn : xs.length < 1099511627776) : (appR os xs a b c d e f).1.length = os.length ∧ (appR os xs a b c d e f).2.1.length ≤ xs.length + 1 := by
  unfold appR
  split
  · split
    · rename_i hm hv
      obtain ⟨r, hr, h1, h2⟩ := stepR_some os xs a b c d e f hm hv hn
      rw [hr]; exact ⟨h1, h2⟩
    · simp
  · simp

theorem spec_ApplyOp.ev (os : List Int) (xs : List S49) (a b c d e f : Int) (ho : os.length < 17592186044416) (hn : xs.length < 1099511627776) : Ev (fun k => spec_ApplyOp.f k os xs a b c d e f) (appR os xs a b c d e f) := by
  obtain ⟨q, hq, hq2⟩ := spec_IsValidMachine.ev os xs (by omega) (by omega)
  simp only [spec_ApplyOp.f, spec_l4Copy.val os xs ho (by omega), Option.bind_some]
  refine Ev.bind hq ?_
  cases q with
  | true =>
    simp only [if_true, spec_IsValidOp.val, Option.bind_some]
    rw [appR, if_pos (hq2.1 rfl)]
    by_cases hv : vop a b c d e f = true
    · rw [if_pos hv]
      simp only [if_pos hv]
      obtain ⟨r, hr, _⟩ := stepR_some os xs a b c d e f (hq2.1 rfl) hv hn
      refine Ev.bind (spec_SessionOf.ev os xs a (by omega)) (ev_val fun _ => ?_)
      rw [hr]; exact hr
    · rw [if_neg hv]
      simp only [if_neg hv]
      exact Ev.now _
  | false =>
    rw [appR, if_neg (show ¬ vMach os xs from fun h => by simpa using hq2.2 h)]
    simp only [Bool.false_eq_true, if_false]
    exact Ev.now _

theorem slices_Clone_int_int.val (xs : List Int) (h : xs.length < 17592186044416) : slices_Clone_int_int.f xs = some xs := by
  simp only [slices_Clone_int_int.f, if_pos h]

theorem slices_Clone_impl_Session_impl_Session.val (xs : List S49) (h : xs.length < 4398046511104) : slices_Clone_impl_Session_impl_Session.f xs = some xs := by
  simp only [slices_Clone_impl_Session_impl_Session.f, if_pos h]

theorem impl_machineCopy.val (os : List Int) (xs : List S49) (h1 : os.length < 17592186044416) (h2 : xs.length < 4398046511104) : impl_machineCopy.f os xs = some (os, xs) := by
  simp only [impl_machineCopy.f, slices_Clone_int_int.val os h1, slices_Clone_impl_Session_impl_Session.val xs h2, Option.bind_some]

theorem impl_within.val (a b c : Int) : impl_within.f a b c = some (decide (b ≤ a ∧ a ≤ c)) := by
  unfold impl_within.f
  by_cases h : b ≤ a <;> simp [h]

theorem impl_IsValidMachine.ev (os : List Int) (xs : List S49) (h1 : os.length ≤ 9223372036854775806) (h2 : xs.length ≤ 9223372036854775806) : ∃ b, Ev (fun k => impl_IsValidMachine.f k os xs) b ∧ (b = true ↔ vMach os xs) :=
  ⟨decide (vM_ os xs), ev_val fun _ => rfl, decide_eq_true_iff.trans Iff.rfl⟩

theorem impl_IsValidOp.val (a b c d e f : Int) : impl_IsValidOp.f a b c d e f = some (vop a b c d e f) := by
  unfold impl_IsValidOp.f vop
  simp only [impl_within.val, Option.bind_some]
  by_cases h1 : 0 ≤ a ∧ a ≤ 2
  · by_cases h2 : 1 ≤ b ∧ b ≤ 99
    · by_cases h3 : 0 ≤ d ∧ d ≤ 2
      · by_cases h4 : 0 ≤ f ∧ f ≤ 9
        · simp only [decide_eq_true h1, decide_eq_true h2, decide_eq_true h3, decide_eq_true h4, if_true]
          by_cases hc : c = 1
          · by_cases he : e = 0
            · simp [hc, he, h1, h2, h3, h4]
            · simp [hc, he, h1, h2, h3, h4]
          · by_cases hc2 : c = 2
            · simp [hc2, h1, h2, h3, h4]
            · simp [hc, hc2]
        · simp only [decide_eq_true h1, decide_eq_true h2, decide_eq_true h3, decide_eq_false h4, if_true, Bool.false_eq_true, if_false]
          simp; intros; omega
      · simp only [decide_eq_true h1, decide_eq_true h2, decide_eq_false h3, if_true, Bool.false_eq_true, if_false]
        simp; intros; omega
    · simp only [decide_eq_true h1, decide_eq_false h2, if_true, Bool.false_eq_true, if_false]
      simp; intros; omega
  · simp only [decide_eq_false h1, Bool.false_eq_true, if_false]
    simp; intros; omega

theorem impl_SessionOf.ev (os : List Int) (xs : List S49) (c : Int) (hn : xs.length ≤ 9223372036854775806) : Ev (fun k => impl_SessionOf.f k os xs c) (sesOut (sesOf xs c)) := by
  have key : ∀ (d i : Nat), i + d = xs.length → Ev (fun k => impl_SessionOf.l0 k c xs (xs.length : Int) (i : Int)) (sesOut (sesOf (xs.drop i) c)) := by
    intro d
    induction d with
    | zero =>
      intro i h
      refine ev_shift ?_
      simp only [impl_SessionOf.l0, if_neg (show ¬ ((i : Int) < (xs.length : Int)) by omega)]
      exact ev_some (by rw [List.drop_eq_nil_of_le (show xs.length ≤ i by omega)]; rfl)
    | succ d ih =>
      intro i h
      have h1 : i < xs.length := by omega
      have := ih (i + 1) (by omega)
      refine ev_shift ?_
      simp only [impl_SessionOf.l0, if_pos (show (i : Int) < (xs.length : Int) by omega), if_pos (show (0 : Int) ≤ (i : Int) by omega), w64 (show -9223372036854775808 ≤ (i : Int) + 1 by omega) (by omega), rdS xs i h1]
      rw [List.drop_eq_getElem_cons h1, sesOf, List.find?_cons]
      by_cases hc : xs[i].f0 = c
      · simp only [if_pos hc]
        rw [show (xs[i].f0 == c) = true by simpa using hc]
        exact Ev.now _
      · simp only [if_neg hc]
        rw [show (xs[i].f0 == c) = false by simpa using hc]
        simpa [sesOf] using this
  have := key xs.length 0 (by omega)
  simpa [impl_SessionOf.f] using this

theorem impl_ApplyOp.ev (os : List Int) (xs : List S49) (a b c d e f : Int) (ho : os.length < 17592186044416) (hn : xs.length < 1099511627776) : Ev (fun k => impl_ApplyOp.f k os xs a b c d e f) (appR os xs a b c d e f) := by
  obtain ⟨q, hq, hq2⟩ := impl_IsValidMachine.ev os xs (by omega) (by omega)
  simp only [impl_ApplyOp.f, impl_machineCopy.val os xs ho (by omega), Option.bind_some]
  refine Ev.bind (impl_SessionOf.ev os xs a (by omega)) (Ev.bind hq ?_)
  cases q with
  | true =>
    simp only [if_true, impl_IsValidOp.val, Option.bind_some]
    rw [appR, if_pos (hq2.1 rfl)]
    by_cases hv : vop a b c d e f = true
    · rw [if_pos hv]
      simp only [if_pos hv]
      obtain ⟨r, hr, _⟩ := stepR_some os xs a b c d e f (hq2.1 rfl) hv hn
      refine ev_val fun _ => ?_
      rw [hr]; exact hr
    · rw [if_neg hv]
      simp only [if_neg hv]
      exact Ev.now _
  | false =>
    rw [appR, if_neg (show ¬ vMach os xs from fun h => by simpa using hq2.2 h)]
    simp only [Bool.false_eq_true, if_false]
    exact Ev.now _

theorem laws_eqIntS.ev (xs ys : List Int) (hn : xs.length ≤ 9223372036854775806) : ∃ b, Ev (fun k => laws_eqIntS.f k xs ys) b ∧ (b = true ↔ xs = ys) := by
  by_cases hl : xs.length = ys.length
  · obtain ⟨b, hb, hq⟩ := all_loop (fun k i => laws_eqIntS.l0 k xs ys i) (fun i => rd xs (i : Int) = rd ys (i : Int)) xs.length
      (fun k => by simp only [laws_eqIntS.l0, if_neg (show ¬ ((xs.length : Int) < (xs.length : Int)) by omega)])
      (fun i hi => by
        by_cases h : rd xs (i : Int) = rd ys (i : Int)
        · exact .inl ⟨h, 0, fun k _ => by simp only [laws_eqIntS.l0, if_pos (show (i : Int) < (xs.length : Int) by omega), if_pos (show (0 : Int) ≤ (i : Int) by omega), if_pos (show (i : Int) < (ys.length : Int) by omega), if_pos h, w64 (show -9223372036854775808 ≤ (i : Int) + 1 by omega) (by omega)]⟩
        · exact .inr ⟨h, 0, fun k _ => by simp only [laws_eqIntS.l0, if_pos (show (i : Int) < (xs.length : Int) by omega), if_pos (show (0 : Int) ≤ (i : Int) by omega), if_pos (show (i : Int) < (ys.length : Int) by omega), if_neg h]⟩)
      xs.length 0 (by omega)
    refine ⟨b, ?_, hq.trans ?_⟩
    · refine Ev.congr (fun k => ?_) hb
      simp only [laws_eqIntS.f, if_pos (show (xs.length : Int) = (ys.length : Int) by omega)]
      rfl
    · constructor
      · intro h
        refine List.ext_getElem hl (fun i h1 h2 => ?_)
        have := h i (by omega) h1
        rwa [rd_get xs i h1, rd_get ys i h2] at this
      · intro h; subst h; intro j _ _; rfl
  · refine ⟨false, ev_val (fun k => ?_), ?_⟩
    · simp only [laws_eqIntS.f, if_neg (show ¬ ((xs.length : Int) = (ys.length : Int)) by omega)]
    · constructor
      · intro h; cases h
      · intro h; subst h; exact absurd rfl hl
theorem laws_eqIntS.same (xs : List Int) (hn : xs.length ≤ 9223372036854775806) : Ev (fun k => laws_eqIntS.f k xs xs) true := by
  obtain ⟨b, hb, hq⟩ := laws_eqIntS.ev xs xs hn
  exact ev_eq hb (hq.2 rfl)

theorem laws_eqResult.val (a : Bool) (b : Int) (a' : Bool) (b' : Int) : laws_eqResult.f a b a' b' = some (decide (a = a' ∧ b = b')) := by
  unfold laws_eqResult.f
  by_cases h1 : a = a' <;> by_cases h2 : b = b' <;> simp [h1, h2]

theorem laws_eqSession.val0 (a b : Int) (c : Bool) (d a' b' : Int) (c' : Bool) (d' : Int) : laws_eqSession.f a b c d a' b' c' d' = some (decide (a = a' ∧ b = b' ∧ c = c' ∧ d = d')) := by
  unfold laws_eqSession.f
  simp only [laws_eqResult.val, Option.bind_some]
  by_cases h1 : a = a' <;> by_cases h2 : b = b' <;> by_cases h3 : c = c' <;> by_cases h4 : d = d' <;> simp [h1, h2, h3, h4]
theorem laws_eqSession.val (x y : S49) : ∃ b, laws_eqSession.f x.f0 x.f1 x.f2.f0 x.f2.f1 y.f0 y.f1 y.f2.f0 y.f2.f1 = some b ∧ (b = true ↔ x = y) :=
  ⟨_, laws_eqSession.val0 _ _ _ _ _ _ _ _, by rw [decide_eq_true_iff, ses_eq]⟩

theorem laws_eqSessionS.ev (xs ys : List S49) (hn : xs.length ≤ 9223372036854775806) : ∃ b, Ev (fun k => laws_eqSessionS.f k xs ys) b ∧ (b = true ↔ xs = ys) := by
  by_cases hl : xs.length = ys.length
  · obtain ⟨b, hb, hq⟩ := eq_loop (fun k i => laws_eqSessionS.l0 k xs ys i) xs ys hl
      (fun k => by simp only [laws_eqSessionS.l0, if_neg (show ¬ ((xs.length : Int) < (xs.length : Int)) by omega)])
      (fun i h1 h2 => by
        obtain ⟨b, hb, hq⟩ := laws_eqSession.val xs[i] ys[i]
        cases b with
        | true => exact .inl ⟨hq.1 rfl, 0, fun k _ => by simp only [laws_eqSessionS.l0, if_pos (show (i : Int) < (xs.length : Int) by omega), if_pos (show (0 : Int) ≤ (i : Int) by omega), if_pos (show (i : Int) < (ys.length : Int) by omega), rdS xs i h1, rdS ys i h2, hb, Option.bind_some, if_true, w64 (show -9223372036854775808 ≤ (i : Int) + 1 by omega) (by omega)]⟩
        | false => exact .inr ⟨fun h => by simpa using hq.2 h, 0, fun k _ => by simp only [laws_eqSessionS.l0, if_pos (show (i : Int) < (xs.length : Int) by omega), if_pos (show (0 : Int) ≤ (i : Int) by omega), if_pos (show (i : Int) < (ys.length : Int) by omega), rdS xs i h1, rdS ys i h2, hb, Option.bind_some, Bool.false_eq_true, if_false]⟩)
    refine ⟨b, ?_, hq⟩
    refine Ev.congr (fun k => ?_) hb
    simp only [laws_eqSessionS.f, if_pos (show (xs.length : Int) = (ys.length : Int) by omega)]
  · refine ⟨false, ev_val (fun k => ?_), ?_⟩
    · simp only [laws_eqSessionS.f, if_neg (show ¬ ((xs.length : Int) = (ys.length : Int)) by omega)]
    · constructor
      · intro h; cases h
      · intro h; subst h; exact absurd rfl hl
theorem laws_eqSessionS.same (xs : List S49) (hn : xs.length ≤ 9223372036854775806) : Ev (fun k => laws_eqSessionS.f k xs xs) true := by
  obtain ⟨b, hb, hq⟩ := laws_eqSessionS.ev xs xs hn
  exact ev_eq hb (hq.2 rfl)

theorem laws_eqMachine.ev (os : List Int) (xs : List S49) (os' : List Int) (xs' : List S49) (ho : os.length ≤ 9223372036854775806) (hn : xs.length ≤ 9223372036854775806) :
    ∃ b, Ev (fun k => laws_eqMachine.f k os xs os' xs') b ∧ (b = true ↔ os = os' ∧ xs = xs') := by
  obtain ⟨b, hb, hq⟩ := laws_eqIntS.ev os os' ho
  obtain ⟨c, hc, hr⟩ := laws_eqSessionS.ev xs xs' hn
  cases b with
  | true =>
    cases c with
    | true => exact ⟨true, Ev.bind hb (Ev.bind hc (ev_val fun _ => by simp)), by simp only [true_iff]; exact ⟨hq.1 rfl, hr.1 rfl⟩⟩
    | false => exact ⟨false, Ev.bind hb (Ev.bind hc (ev_val fun _ => by simp)), by simp only [Bool.false_eq_true, false_iff]; exact fun h => by simpa using hr.2 h.2⟩
  | false => exact ⟨false, Ev.bind hb (ev_val fun _ => by simp), by simp only [Bool.false_eq_true, false_iff]; exact fun h => by simpa using hq.2 h.1⟩
theorem laws_eqMachine.same (os : List Int) (xs : List S49) (ho : os.length ≤ 9223372036854775806) (hn : xs.length ≤ 9223372036854775806) : Ev (fun k => laws_eqMachine.f k os xs os xs) true := by
  obtain ⟨b, hb, hq⟩ := laws_eqMachine.ev os xs os xs ho hn
  exact ev_eq hb (hq.2 ⟨rfl, rfl⟩)

/-- The marks of a list of numbers. -/
def marksI (n : Nat) (a : Int) : List Int := (List.range n).map fun (i : Nat) => a + 1 * (i : Int)
theorem marksI_length (n : Nat) (a : Int) : (marksI n a).length = n := by simp [marksI]
theorem laws_markIntS.ev (xs : List Int) (a : Int) (hn : xs.length ≤ 1048576000) (h0 : 0 ≤ a) (h1 : a ≤ 1048576000000) : Ev (fun k => laws_markIntS.f k xs a) (a + 1 * xs.length, marksI xs.length a) := by
  have := mark_loop (fun k ys a i => laws_markIntS.l0 k ys a i) 1 (fun a => a) ⟨by omega, by omega⟩
    (fun k xs a => by simp only [laws_markIntS.l0, if_neg (show ¬ ((xs.length : Int) < (xs.length : Int)) by omega)])
    (fun xs a i k hi hi2 ha ha' => by
      simp only [laws_markIntS.l0, if_pos (show (i : Int) < (xs.length : Int) by omega), if_pos (show (0 : Int) ≤ (i : Int) by omega), Int.toNat_natCast, w64 (show -9223372036854775808 ≤ (i : Int) + 1 by omega) (by omega), w64 (show -9223372036854775808 ≤ a + 1 by omega) (by omega)])
    xs a hn h0 h1
  exact this

/-- The mark of a session. -/
def markS (a : Int) : S49 := ⟨a, a + 1, ⟨Int.tmod (a + 2) 3 == 0, a + 3⟩⟩
def marksS (n : Nat) (a : Int) : List S49 := (List.range n).map fun (i : Nat) => markS (a + 4 * (i : Int))
theorem marksS_length (n : Nat) (a : Int) : (marksS n a).length = n := by simp [marksS]
theorem laws_markSessionS.ev (xs : List S49) (a : Int) (hn : xs.length ≤ 1048576000) (h0 : 0 ≤ a) (h1 : a ≤ 1048576000000) : Ev (fun k => laws_markSessionS.f k xs a) (a + 4 * xs.length, marksS xs.length a) := by
  have := mark_loop (fun k ys a i => laws_markSessionS.l0 k ys a i) 4 markS ⟨by omega, by omega⟩
    (fun k xs a => by simp only [laws_markSessionS.l0, if_neg (show ¬ ((xs.length : Int) < (xs.length : Int)) by omega)])
    (fun xs a i k hi hi2 ha ha' => by
      have r1 : ∀ (ys : List S49) (v : S49), i < ys.length → rd_T49 (ys.set i v) (i : Int) = v := fun ys v h => by
        rw [rdS _ i (by simpa using h)]; simp
      simp only [laws_markSessionS.l0, if_pos (show (i : Int) < (xs.length : Int) by omega), if_pos (show (0 : Int) ≤ (i : Int) by omega), Int.toNat_natCast, w64 (show -9223372036854775808 ≤ (i : Int) + 1 by omega) (by omega), w64 (show -9223372036854775808 ≤ a + 1 by omega) (by omega), w64 (show -9223372036854775808 ≤ a + 1 + 1 by omega) (by omega), w64 (show -9223372036854775808 ≤ a + 1 + 1 + 1 by omega) (by omega), w64 (show -9223372036854775808 ≤ a + 1 + 1 + 1 + 1 by omega) (by omega), Option.bind_some]
      rw [r1 xs _ hi]
      simp only []
      rw [r1 _ _ (by simpa using hi)]
      simp only []
      rw [r1 _ _ (by simpa using hi)]
      simp only [List.set_set, markS, show a + 1 + 1 = a + 2 by omega, show a + 2 + 1 = a + 3 by omega, show a + 3 + 1 = a + 4 by omega])
    xs a hn h0 h1
  exact this

theorem laws_markMachine.ev (os : List Int) (xs : List S49) (a : Int) (ho : os.length ≤ 1048576000) (hn : xs.length ≤ 1048576000) (h0 : 0 ≤ a) (h1 : a ≤ 1048576000) :
    Ev (fun k => laws_markMachine.f k os xs a) (a + 1 * os.length + 4 * xs.length, marksI os.length a, marksS xs.length (a + 1 * os.length)) :=
  Ev.bind (laws_markIntS.ev os a ho h0 (by omega)) (Ev.bind (laws_markSessionS.ev xs (a + 1 * os.length) hn (by omega) (by omega)) (Ev.now _))

theorem laws_heldIntS.ev (n : Nat) (a : Int) (hn : n ≤ 1048576000) (h0 : 0 ≤ a) (h1 : a ≤ 1048576000000) : Ev (fun k => laws_heldIntS.f k (marksI n a) a) (a + 1 * n) := by
  have := held_loop (fun k a' i => laws_heldIntS.l0 k (marksI n a) a' i) 1 (fun a => a) ⟨by omega, by omega⟩ (marksI n a)
    (fun k a' => by simp only [laws_heldIntS.l0, if_neg (show ¬ (((marksI n a).length : Int) < ((marksI n a).length : Int)) by omega)])
    (fun a' i k hi hi2 ha ha' hx => by
      simp only [laws_heldIntS.l0, if_pos (show (i : Int) < ((marksI n a).length : Int) by omega), if_pos (show (0 : Int) ≤ (i : Int) by omega), rd_get (marksI n a) i hi, if_pos hx, w64 (show -9223372036854775808 ≤ (i : Int) + 1 by omega) (by omega), w64 (show -9223372036854775808 ≤ a' + 1 by omega) (by omega)])
    a (by rw [marksI_length]; exact hn) h0 h1 (by rw [marksI_length]; rfl)
  rw [marksI_length] at this
  exact this

theorem laws_heldSessionS.ev (n : Nat) (a : Int) (hn : n ≤ 1048576000) (h0 : 0 ≤ a) (h1 : a ≤ 1048576000000) : Ev (fun k => laws_heldSessionS.f k (marksS n a) a) (a + 4 * n) := by
  have := held_loop (fun k a' i => laws_heldSessionS.l0 k (marksS n a) a' i) 4 markS ⟨by omega, by omega⟩ (marksS n a)
    (fun k a' => by simp only [laws_heldSessionS.l0, if_neg (show ¬ (((marksS n a).length : Int) < ((marksS n a).length : Int)) by omega)])
    (fun a' i k hi hi2 ha ha' hx => by
      simp only [laws_heldSessionS.l0, if_pos (show (i : Int) < ((marksS n a).length : Int) by omega), if_pos (show (0 : Int) ≤ (i : Int) by omega), rdS (marksS n a) i hi, hx, markS, w64 (show -9223372036854775808 ≤ (i : Int) + 1 by omega) (by omega), w64 (show -9223372036854775808 ≤ a' + 1 by omega) (by omega), w64 (show -9223372036854775808 ≤ a' + 2 by omega) (by omega), w64 (show -9223372036854775808 ≤ a' + 3 by omega) (by omega), w64 (show -9223372036854775808 ≤ a' + 4 by omega) (by omega), if_true,
        show a' + 1 + 1 = a' + 2 by omega, show a' + 2 + 1 = a' + 3 by omega, show a' + 3 + 1 = a' + 4 by omega, bne_self_eq_false, Bool.false_eq_true, if_false])
    a (by rw [marksS_length]; exact hn) h0 h1 (by rw [marksS_length]; rfl)
  rw [marksS_length] at this
  exact this

theorem laws_heldMachine.ev (n m : Nat) (a : Int) (ho : n ≤ 1048576000) (hn : m ≤ 1048576000) (h0 : 0 ≤ a) (h1 : a ≤ 1048576000) :
    Ev (fun k => laws_heldMachine.f k (marksI n a) (marksS m (a + 1 * n)) a) (a + 1 * n + 4 * m) := by
  refine Ev.bind (laws_heldIntS.ev n a ho h0 (by omega)) ?_
  simp only [if_neg (show ¬ (a + 1 * (n : Int) < 0) by omega)]
  refine Ev.bind (laws_heldSessionS.ev m (a + 1 * n) hn (by omega) (by omega)) ?_
  simp only [if_neg (show ¬ (a + 1 * (n : Int) + 4 * (m : Int) < 0) by omega)]
  exact Ev.now _

theorem FnExactApplyOp : FnExactApplyOpPure := by
  intro x o h ho
  refine Ev.rounds (g := fun k => laws_FnExactApplyOp.f k x.f0 x.f1 o.f0 o.f1 o.f2 o.f3 o.f4 o.f5) ?_
  obtain ⟨r, hr, hq⟩ := laws_szMachine.val x.f0 x.f1 1048576 h.1.1 h.2.1 (by omega) (by omega)
  simp only [laws_FnExactApplyOp.f, hr, Option.bind_some]
  by_cases hneg : r < 0
  · simp only [if_pos hneg]; exact Ev.now _
  · obtain ⟨e1, e2, e3⟩ := hq hneg
    simp only [if_neg hneg]
    have hT := laws_toMachine.ev x.f0 x.f1 (by omega) (by omega)
    have hl : (x.f1.map toS).length ≤ 1048576 := by simp; omega
    generalize x.f1.map toS = xs at hT hl
    generalize x.f0 = os at hT e2
    have hS := spec_ApplyOp.ev os xs o.f0 o.f1 o.f2 o.f3 o.f4 o.f5 (by omega) (by omega)
    have hI := impl_ApplyOp.ev os xs o.f0 o.f1 o.f2 o.f3 o.f4 o.f5 (by omega) (by omega)
    have hL := appR_len os xs o.f0 o.f1 o.f2 o.f3 o.f4 o.f5 (by omega)
    generalize appR os xs o.f0 o.f1 o.f2 o.f3 o.f4 o.f5 = z at hS hI hL
    obtain ⟨os', xs', q, v, ok⟩ := z
    simp only at hL
    have hM := laws_eqMachine.same os' xs' (by omega) (by omega)
    have hX := laws_eqMachine.same os xs (by omega) (by omega)
    have hm := laws_markMachine.ev os' xs' 1 (by omega) (by omega) (by omega) (by omega)
    have hn := laws_markMachine.ev os xs 1 (by omega) (by omega) (by omega) (by omega)
    have hh := laws_heldMachine.ev os'.length xs'.length 1 (by omega) (by omega) (by omega) (by omega)
    refine Ev.bind hT (Ev.bind hS (Ev.bind hI (Ev.bind hM ?_)))
    simp only [laws_eqResult.val, and_self, decide_true, Option.bind_some]
    refine Ev.bind hX (Ev.bind hn (Ev.bind hm (Ev.bind hh ?_)))
    exact ev_val (fun _ => if_pos (by refine ⟨?_, ?_, ?_, ?_, ?_, ?_, ?_⟩ <;> first | trivial | rfl | omega | (simp only; omega)))

end Go.Proofs.Ytcikahnmiiichaa.Pure
