/- For every code the law FnMachine returns true; no conditions. -/
import Derived.Test.YtcikahnmiiichaaQFnMachine
import Derived.Test.YtcikahnmiiichaaMCom
set_option linter.unusedVariables false
set_option linter.unusedSimpArgs false
namespace Go.Proofs.Ytcikahnmiiichaa.Pure
open Go.RowKit Go.Proofs.Ytcikahnmiiichaa.M Go.Proofs.YtcikahnmiiichaaW.PrintWords Go.Proofs.YtcikahnmiiichaaW.PrintLast
open Go.Proofs.Ytcikahnmiiichaa.Opens
open Go.Proofs.Ytcikahnmiiichaa.Com
open Classical in

theorem spec_l4Copy.val (os : List Int) (xs : List S49) (h1 : os.length < 17592186044416) (h2 : xs.length < 4398046511104) : spec_l4Copy.f os xs = some (os, xs) := by
  simp only [spec_l4Copy.f, Option.bind_some, List.length_nil, Nat.zero_add, if_pos h1, if_pos h2, List.nil_append]

theorem spec_l1In.val (a b c : Int) : spec_l1In.f a b c = some (decide (b ≤ a ∧ a ≤ c)) := by
  unfold spec_l1In.f
  by_cases h : b ≤ a <;> simp [h]

theorem rdS (xs : List S49) (i : Nat) (h : i < xs.length) : rd_T49 xs (i : Int) = xs[i] := by simp [rd_T49, h]
theorem ses_eq (x y : S49) : x = y ↔ x.f0 = y.f0 ∧ x.f1 = y.f1 ∧ x.f2.f0 = y.f2.f0 ∧ x.f2.f1 = y.f2.f1 := by
  constructor
  · intro h; subst h; simp
  · rintro ⟨h0, h1, h2, h3⟩
    obtain ⟨a, b, ⟨c, d⟩⟩ := x
    obtain ⟨a', b', ⟨c', d'⟩⟩ := y
    simp_all

/-- Is this session one of a machine, behind the one before it? -/
def okSes (xs : List S49) (j : Nat) : Prop := (0 ≤ (rd_T49 xs (j : Int)).f0 ∧ (rd_T49 xs (j : Int)).f0 ≤ 2) ∧
  (1 ≤ (rd_T49 xs (j : Int)).f1 ∧ (rd_T49 xs (j : Int)).f1 ≤ 99) ∧ (0 ≤ (rd_T49 xs (j : Int)).f2.f1 ∧ (rd_T49 xs (j : Int)).f2.f1 ≤ 9) ∧
  (0 < j → (rd_T49 xs ((j : Int) - 1)).f0 < (rd_T49 xs (j : Int)).f0)
/-- Is this a machine? -/
def vMach (os : List Int) (xs : List S49) : Prop := os.length = 3 ∧ (∀ j : Nat, j < os.length → 0 ≤ rd os (j : Int) ∧ rd os (j : Int) ≤ 9) ∧ ∀ j, j < xs.length → okSes xs j

theorem spec_IsValidMachine.ev (os : List Int) (xs : List S49) (h1 : os.length ≤ 9223372036854775806) (h2 : xs.length ≤ 9223372036854775806) : ∃ b, Ev (fun k => spec_IsValidMachine.f k os xs) b ∧ (b = true ↔ vMach os xs) :=
  ⟨decide (vM_ os xs), ev_val fun _ => rfl, decide_eq_true_iff.trans Iff.rfl⟩

/-- Is this an operation? -/
def vop (a b c d e f : Int) : Bool := decide ((0 ≤ a ∧ a ≤ 2) ∧ (1 ≤ b ∧ b ≤ 99) ∧ (0 ≤ d ∧ d ≤ 2) ∧ (0 ≤ f ∧ f ≤ 9) ∧ ((c = 1 ∧ e = 0) ∨ (c = 2 ∧ 0 ≤ e ∧ e ≤ 9)))

theorem spec_IsValidOp.val (a b c d e f : Int) : spec_IsValidOp.f a b c d e f = some (vop a b c d e f) := by
  unfold spec_IsValidOp.f vop
  simp only [spec_l1In.val, Option.bind_some]
  by_cases h1 : 0 ≤ a ∧ a ≤ 2
  · by_cases h2 : 1 ≤ b ∧ b ≤ 99
    · by_cases h3 : 0 ≤ d ∧ d ≤ 2
      · by_cases h4 : 0 ≤ f ∧ f ≤ 9
        · simp only [decide_eq_true h1, decide_eq_true h2, decide_eq_true h3, decide_eq_true h4, if_true]
          by_cases hc : c = 1
          · by_cases he : e = 0
            · simp [hc, he, h1, h2, h3, h4]
            · simp [hc, he, h1, h2, h3, h4]
          · by_cases hc2 : c = 2
            · simp [hc2, h1, h2, h3, h4]
            · simp [hc, hc2]
        · simp only [decide_eq_true h1, decide_eq_true h2, decide_eq_true h3, decide_eq_false h4, if_true, Bool.false_eq_true, if_false]
          simp; intros; omega
      · simp only [decide_eq_true h1, decide_eq_true h2, decide_eq_false h3, if_true, Bool.false_eq_true, if_false]
        simp; intros; omega
    · simp only [decide_eq_true h1, decide_eq_false h2, if_true, Bool.false_eq_true, if_false]
      simp; intros; omega
  · simp only [decide_eq_false h1, Bool.false_eq_true, if_false]
    simp; intros; omega

/-- A client's session. -/
def sesOut : Option S49 → Int × Int × Bool × Int × Bool
  | none => (0, 0, false, 0, false)
  | some s => (s.f0, s.f1, s.f2.f0, s.f2.f1, true)
def sesOf (xs : List S49) (c : Int) : Option S49 := xs.find? fun s => s.f0 == c

theorem spec_SessionOf.ev (os : List Int) (xs : List S49) (c : Int) (hn : xs.length ≤ 9223372036854775806) : Ev (fun k => spec_SessionOf.f k os xs c) (sesOut (sesOf xs c)) := by
  have key : ∀ (d i : Nat), i + d = xs.length → Ev (fun k => spec_SessionOf.l0 k c (i : Int) os xs) (sesOut (sesOf (xs.drop i) c)) := by
    intro d
    induction d with
    | zero =>
      intro i h
      refine ev_shift ?_
      simp only [spec_SessionOf.l0, if_neg (show ¬ ((i : Int) < (xs.length : Int)) by omega)]
      exact ev_some (by rw [List.drop_eq_nil_of_le (show xs.length ≤ i by omega)]; rfl)
    | succ d ih =>
      intro i h
      have h1 : i < xs.length := by omega
      have := ih (i + 1) (by omega)
      refine ev_shift ?_
      simp only [spec_SessionOf.l0, if_pos (show (i : Int) < (xs.length : Int) by omega), if_pos (show (0 : Int) ≤ (i : Int) by omega), w64 (show -9223372036854775808 ≤ (i : Int) + 1 by omega) (by omega), rdS xs i h1]
      rw [List.drop_eq_getElem_cons h1, sesOf, List.find?_cons]
      by_cases hc : xs[i].f0 = c
      · simp only [if_pos hc]
        rw [show (xs[i].f0 == c) = true by simpa using hc]
        exact Ev.now _
      · simp only [if_neg hc]
        rw [show (xs[i].f0 == c) = false by simpa using hc]
        simpa [sesOf] using this
  have := key xs.length 0 (by omega)
  simpa [spec_SessionOf.f] using this

theorem insAt_lt (c : Int) : ∀ xs : List S49, (∃ s ∈ xs, s.f0 = c) → insAt_ c xs < xs.length
  | [], h => by simp at h
  | x :: xs, h => by
    by_cases hx : x.f0 < c
    · have : insAt_ c (x :: xs) = insAt_ c xs + 1 := by simp [insAt_, List.takeWhile_cons, hx]
      rw [this]
      obtain ⟨s, hs, hc⟩ := h
      rcases List.mem_cons.1 hs with rfl | hs
      · omega
      · have := insAt_lt c xs ⟨s, hs, hc⟩
        simp only [List.length_cons]; omega
    · simp [insAt_, List.takeWhile_cons, hx]
theorem sesOut_in (xs : List S49) (c : Int) (h : (sesOut (sesOf xs c)).2.2.2.2 = true) : ∃ s ∈ xs, s.f0 = c := by
  cases hs : sesOf xs c with
  | none => rw [hs] at h; simp [sesOut] at h
  | some s => exact ⟨s, List.mem_of_find?_eq_some hs, by have := List.find?_some hs; simpa using this⟩
/-- What an operation does to a machine, where both are valid. -/
def stepR (os : List Int) (xs : List S49) (a b c d e f : Int) : Option (List Int × List S49 × Bool × Int × Bool) :=
  step_ os os xs (sesOut (sesOf xs a)).2.1 (sesOut (sesOf xs a)).2.2.1 (sesOut (sesOf xs a)).2.2.2.1 (sesOut (sesOf xs a)).2.2.2.2 a b c d e f
open Classical in
noncomputable def appR (os : List Int) (xs : List S49) (a b c d e f : Int) : List Int × List S49 × Bool × Int × Bool :=
  if vMach os xs then (if vop a b c d e f = true then (stepR os xs a b c d e f).getD (os, xs, false, 0, false) else (os, xs, false, 0, false)) else (os, xs, false, 0, false)
theorem stepR_some (os : List Int) (xs : List S49) (a b c d e f : Int) (hm : vMach os xs) (hv : vop a b c d e f = true) (hn : xs.length < 1099511627776) : ∃ r, stepR os xs a b c d e f = some r ∧ r.1.length = os.length ∧ r.2.1.length ≤ xs.length + 1 := by
  have hd : 0 ≤ d ∧ d ≤ 2 := by simp only [vop, decide_eq_true_eq] at hv; exact hv.2.2.1
  have ho := hm.1
  unfold stepR step_
  split
  · exact ⟨_, rfl, rfl, by simp⟩
  split
  · exact ⟨_, rfl, rfl, by simp⟩
  rw [if_pos ⟨hd.1, by omega, by omega, hn, fun h => insAt_lt a xs (sesOut_in xs a h)⟩]
  refine ⟨_, rfl, by simp only; split <;> simp, ?_⟩
  simp only [List.length_append, List.length_take, List.length_drop, List.length_singleton]
  have := insAt_le a xs
  split <;> omega
theorem appR_len (os : List Int) (xs : List S49) (a b c d e f : Int) (hn : xs.length < 1099511627776) : (appR os xs a b c d e f).1.length = os.length ∧ (appR os xs a b c d e f).2.1.length ≤ xs.length + 1 := by
  unfold appR
  split
  · split
    · rename_i hm hv
      obtain ⟨r, hr, h1, h2⟩ := stepR_some os xs a b c d e f hm hv hn
      rw [hr]; exact ⟨h1, h2⟩
    · simp
  · simp

theorem spec_ApplyOp.ev (os : List Int) (xs : List S49) (a b c d e f : Int) (ho : os.length < 17592186044416) (hn : xs.length < 1099511627776) : Ev (fun k => spec_ApplyOp.f k os xs a b c d e f) (appR os xs a b c d e f) := by
  obtain ⟨q, hq, hq2⟩ := spec_IsValidMachine.ev os xs (by omega) (by omega)
  simp only [spec_ApplyOp.f, spec_l4Copy.val os xs ho (by omega), Option.bind_some]
  refine Ev.bind hq ?_
  cases q with
  | true =>
    simp only [if_true, spec_IsValidOp.val, Option.bind_some]
    rw [appR, if_pos (hq2.1 rfl)]
    by_cases hv : vop a b c d e f = true
    · rw [if_pos hv]
      simp only [if_pos hv]
      obtain ⟨r, hr, _⟩ := stepR_some os xs a b c d e f (hq2.1 rfl) hv hn
      refine Ev.bind (spec_SessionOf.ev os xs a (by omega)) (ev_val fun _ => ?_)
      rw [hr]; exact hr
    · rw [if_neg hv]
      simp only [if_neg hv]
      exact Ev.now _
  | false =>
    rw [appR, if_neg (show ¬ vMach os xs from fun h => by simpa using hq2.2 h)]
    simp only [Bool.false_eq_true, if_false]
    exact Ev.now _

theorem slices_Clone_int_int.val (xs : List Int) (h : xs.length < 17592186044416) : slices_Clone_int_int.f xs = some xs := by
  simp only [slices_Clone_int_int.f, if_pos h]

theorem slices_Clone_impl_Session_impl_Session.val (xs : List S49) (h : xs.length < 4398046511104) : slices_Clone_impl_Session_impl_Session.f xs = some xs := by
  simp only [slices_Clone_impl_Session_impl_Session.f, if_pos h]

theorem impl_machineCopy.val (os : List Int) (xs : List S49) (h1 : os.length < 17592186044416) (h2 : xs.length < 4398046511104) : impl_machineCopy.f os xs = some (os, xs) := by
  simp only [impl_machineCopy.f, slices_Clone_int_int.val os h1, slices_Clone_impl_Session_impl_Session.val xs h2, Option.bind_some]

theorem impl_within.val (a b c : Int) : impl_within.f a b c = some (decide (b ≤ a ∧ a ≤ c)) := by
  unfold impl_within.f
  by_cases h : b ≤ a <;> simp [h]

theorem impl_IsValidMachine.ev (os : List Int) (xs : List S49) (h1 : os.length ≤ 9223372036854775806) (h2 : xs.length ≤ 9223372036854775806) : ∃ b, Ev (fun k => impl_IsValidMachine.f k os xs) b ∧ (b = true ↔ vMach os xs) :=
  ⟨decide (vM_ os xs), ev_val fun _ => rfl, decide_eq_true_iff.trans Iff.rfl⟩

theorem impl_IsValidOp.val (a b c d e f : Int) : impl_IsValidOp.f a b c d e f = some (vop a b c d e f) := by
  unfold impl_IsValidOp.f vop
  simp only [impl_within.val, Option.bind_some]
  by_cases h1 : 0 ≤ a ∧ a ≤ 2
  · by_cases h2 : 1 ≤ b ∧ b ≤ 99
    · by_cases h3 : 0 ≤ d ∧ d ≤ 2
      · by_cases h4 : 0 ≤ f ∧ f ≤ 9
        · simp only [decide_eq_true h1, decide_eq_true h2, decide_eq_true h3, decide_eq_true h4, if_true]
          by_cases hc : c = 1
          · by_cases he : e = 0
            · simp [hc, he, h1, h2, h3, h4]
            · simp [hc, he, h1, h2, h3, h4]
          · by_cases hc2 : c = 2
            · simp [hc2, h1, h2, h3, h4]
            · simp [hc, hc2]
        · simp only [decide_eq_true h1, decide_eq_true h2, decide_eq_true h3, decide_eq_false h4, if_true, Bool.false_eq_true, if_false]
          simp; intros; omega
      · simp only [decide_eq_true h1, decide_eq_true h2, decide_eq_false h3, if_true, Bool.false_eq_true, if_false]
        simp; intros; omega
    · simp only [decide_eq_true h1, decide_eq_false h2, if_true, Bool.false_eq_true, if_false]
      simp; intros; omega
  · simp only [decide_eq_false h1, Bool.false_eq_true, if_false]
    simp; intros; omega

theorem impl_SessionOf.ev (os : List Int) (xs : List S49) (c : Int) (hn : xs.length ≤ 9223372036854775806) : Ev (fun k => impl_SessionOf.f k os xs c) (sesOut (sesOf xs c)) := by
  have key : ∀ (d i : Nat), i + d = xs.length → Ev (fun k => impl_SessionOf.l0 k c xs (xs.length : Int) (i : Int)) (sesOut (sesOf (xs.drop i) c)) := by
    intro d
    induction d with
    | zero =>
      intro i h
      refine ev_shift ?_
      simp only [impl_SessionOf.l0, if_neg (show ¬ ((i : Int) < (xs.length : Int)) by omega)]
      exact ev_some (by rw [List.drop_eq_nil_of_le (show xs.length ≤ i by omega)]; rfl)
    | succ d ih =>
      intro i h
      have h1 : i < xs.length := by omega
      have := ih (i + 1) (by omega)
      refine ev_shift ?_
      simp only [impl_SessionOf.l0, if_pos (show (i : Int) < (xs.length : Int) by omega), if_pos (show (0 : Int) ≤ (i : Int) by omega), w64 (show -9223372036854775808 ≤ (i : Int) + 1 by omega) (by omega), rdS xs i h1]
      rw [List.drop_eq_getElem_cons h1, sesOf, List.find?_cons]
      by_cases hc : xs[i].f0 = c
      · simp only [if_pos hc]
        rw [show (xs[i].f0 == c) = true by simpa using hc]
        exact Ev.now _
      · simp only [if_neg hc]
        rw [show (xs[i].f0 == c) = false by simpa using hc]
        simpa [sesOf] using this
  have := key xs.length 0 (by omega)
  simpa [impl_SessionOf.f] using this

theorem impl_ApplyOp.ev (os : List Int) (xs : List S49) (a b c d e f : Int) (ho : os.length < 17592186044416) (hn : xs.length < 1099511627776) : Ev (fun k => impl_ApplyOp.f k os xs a b c d e f) (appR os xs a b c d e f) := by
  obtain ⟨q, hq, hq2⟩ := impl_IsValidMachine.ev os xs (by omega) (by omega)
  simp only [impl_ApplyOp.f, impl_machineCopy.val os xs ho (by omega), Option.bind_some]
  refine Ev.bind (impl_SessionOf.ev os xs a (by omega)) (Ev.bind hq ?_)
  cases q with
  | true =>
    simp only [if_true, impl_IsValidOp.val, Option.bind_some]
    rw [appR, if_pos (hq2.1 rfl)]
    by_cases hv : vop a b c d e f = true
    · rw [if_pos hv]
      simp only [if_pos hv]
      obtain ⟨r, hr, _⟩ := stepR_some os xs a b c d e f (hq2.1 rfl) hv hn
      refine ev_val fun _ => ?_
      rw [hr]; exact hr
    · rw [if_neg hv]
      simp only [if_neg hv]
      exact Ev.now _
  | false =>
    rw [appR, if_neg (show ¬ vMach os xs from fun h => by simpa using hq2.2 h)]
    simp only [Bool.false_eq_true, if_false]
    exact Ev.now _

-- nothing to say of it

/-! The cursor of the draws: the code, an index, a mix. -/
theorem and255 (x : Int) : 0 ≤ Go.bits .and .i64 x 255 ∧ Go.bits .and .i64 x 255 ≤ 255 := by
  have h : (BitVec.ofInt IntKind.i64.bits x &&& BitVec.ofInt IntKind.i64.bits 255).toNat ≤ 255 := by
    rw [BitVec.toNat_and]
    refine Nat.le_trans Nat.and_le_right ?_
    decide
  simp only [Go.bits]
  rw [Go.IntKind.wrap_i64]
  omega
/-- Where the index may stand. -/
def CurI (i : Int) : Prop := 0 ≤ i ∧ i ≤ 1048576
theorem cur0 : CurI 0 := ⟨by omega, by omega⟩

theorem spec_l1New.ev (c : List Int) (hc : c.length ≤ 1048576) : ∃ h, Ev (fun k => spec_l1New.f k c) (c, 0, h) := by
  have key : ∀ d i : Nat, i + d = c.length → ∀ h, ∃ h', Ev (fun k => spec_l1New.l0 k c h (i : Int)) (c, 0, h') := by
    intro d
    induction d with
    | zero =>
      intro i hi h
      refine ⟨h, ev_shift (ev_val fun k => ?_)⟩
      simp only [spec_l1New.l0, if_neg (show ¬ ((i : Int) < (c.length : Int)) by omega)]
    | succ d ih =>
      intro i hi h
      by_cases h4 : (i : Int) < 4000
      · obtain ⟨h', hh⟩ := ih (i + 1) (by omega) (Go.bits .and .i64 (wrap64 ((wrap64 ((wrap64 (h * 131)) + (wrap64 (rd c (i : Int))))) + 7)) 1073741823)
        rw [show ((i + 1 : Nat) : Int) = (i : Int) + 1 by omega] at hh
        refine ⟨h', ev_shift (ev_to ⟨0, fun k _ => ?_⟩ hh)⟩
        simp only [spec_l1New.l0, if_pos (show (i : Int) < (c.length : Int) by omega), if_pos h4, if_pos (show (0 : Int) ≤ (i : Int) by omega), w64 (show -9223372036854775808 ≤ (i : Int) + 1 by omega) (by omega)]
      · refine ⟨h, ev_shift (ev_val fun k => ?_)⟩
        simp only [spec_l1New.l0, if_pos (show (i : Int) < (c.length : Int) by omega), if_neg h4]
  exact key c.length 0 (by omega) _

theorem spec_l1Byte.is (c : List Int) (hc : c.length ≤ 1048576) (i h : Int) (hi : CurI i) : ∃ x i' h', spec_l1Byte.f c i h = some (x, i', h') ∧ (0 ≤ x ∧ x ≤ 255) ∧ CurI i' := by
  obtain ⟨h0, h1⟩ := hi
  rw [spec_l1Byte.f]
  by_cases hl : i < (c.length : Int)
  · rw [if_pos hl, if_pos h0, w64 (show -9223372036854775808 ≤ i + 1 by omega) (by omega)]
    exact ⟨_, _, _, rfl, and255 _, by omega, by omega⟩
  · rw [if_neg hl]
    exact ⟨_, _, _, rfl, and255 _, h0, h1⟩

theorem spec_l1Below.is (c : List Int) (hc : c.length ≤ 1048576) (i h n : Int) (hi : CurI i) : ∃ x i' h', spec_l1Below.f c i h n = some (x, i', h') ∧ (n ≤ 0 → x = 0) ∧ (0 < n → 0 ≤ x ∧ x < n) ∧ CurI i' := by
  rw [spec_l1Below.f]
  by_cases h0 : n ≤ 0
  · rw [if_pos h0]
    exact ⟨_, _, _, rfl, fun _ => rfl, fun h => absurd h (by omega), hi⟩
  rw [if_neg h0]
  have hn : 0 < n := by omega
  have hz : ¬ (n = 0) := by omega
  have md : ∀ x : Int, 0 ≤ x → 0 ≤ Int.tmod x n ∧ Int.tmod x n < n := fun x hx => by
    rw [tmod_pos x n hx]; exact ⟨Int.emod_nonneg _ hz, Int.emod_lt_of_pos _ hn⟩
  by_cases h1 : n ≤ 256
  · rw [if_pos h1]
    obtain ⟨x, i', h', e, hx, hi'⟩ := spec_l1Byte.is c hc i h hi
    rw [e]
    simp only [Option.bind_some, if_neg hz]
    exact ⟨_, _, _, rfl, fun h => absurd h h0, fun _ => md x hx.1, hi'⟩
  · rw [if_neg h1]
    obtain ⟨x, i1, g1, e1, hx, hi1⟩ := spec_l1Byte.is c hc i h hi
    obtain ⟨y, i2, g2, e2, hy, hi2⟩ := spec_l1Byte.is c hc i1 g1 hi1
    obtain ⟨z, i3, g3, e3, hz3, hi3⟩ := spec_l1Byte.is c hc i2 g2 hi2
    obtain ⟨w, i4, g4, e4, hw, hi4⟩ := spec_l1Byte.is c hc i3 g3 hi3
    simp only [e1, e2, e3, e4, Option.bind_some, if_neg hz]
    refine ⟨_, _, _, rfl, fun h => absurd h h0, fun _ => md _ ?_, hi4⟩
    simp only [wrap64]
    omega

theorem spec_l1PickInt.is (c : List Int) (hc : c.length ≤ 1048576) (i h : Int) (l : List Int) (hl : 0 < l.length) (hi : CurI i) : ∃ x i' h', spec_l1PickInt.f c i h l = some (x, i', h') ∧ x ∈ l ∧ CurI i' := by
  obtain ⟨x, i', h', e, _, hx, hi'⟩ := spec_l1Below.is c hc i h (l.length : Int) hi
  obtain ⟨h0, h1⟩ := hx (by omega)
  rw [spec_l1PickInt.f, e]
  simp only [Option.bind_some, if_pos h0, if_pos h1]
  refine ⟨_, _, _, rfl, ?_, hi'⟩
  obtain ⟨j, rfl⟩ := Int.eq_ofNat_of_zero_le h0
  rw [rd_get l j (by omega)]
  exact List.getElem_mem _

theorem spec_NewMachine.val : spec_NewMachine.f = some ([0, 0, 0], []) := rfl

theorem spec_l1Once.is (c : List Int) (hc : c.length ≤ 1048576) (i h n : Int) (hi : CurI i) : ∃ b i' h', spec_l1Once.f c i h n = some (b, i', h') ∧ CurI i' := by
  obtain ⟨x, i', h', e, _, _, hi'⟩ := spec_l1Below.is c hc i h n hi
  rw [spec_l1Once.f, e]
  exact ⟨_, _, _, rfl, hi'⟩

/-- A drawn operation: it ends; its parts are small numbers. -/
theorem spec_l3Op.is (c : List Int) (hc : c.length ≤ 1048576) (i h : Int) (hi : CurI i) : ∃ o0 o1 o2 o3 o4 o5 i' h', spec_l3Op.f c i h = some (o0, o1, o2, o3, o4, o5, i', h') ∧ CurI i' := by
  obtain ⟨a, i1, h1, e1, _, _, hi1⟩ := spec_l1Below.is c hc i h 3 hi
  obtain ⟨b, i2, h2, e2, _, _, hi2⟩ := spec_l1Below.is c hc i1 h1 5 hi1
  obtain ⟨d, i3, h3, e3, _, _, hi3⟩ := spec_l1Below.is c hc i2 h2 3 hi2
  obtain ⟨e, i4, h4, e4, _, _, hi4⟩ := spec_l1Below.is c hc i3 h3 10 hi3
  obtain ⟨q, i5, h5, e5, hi5⟩ := spec_l1Once.is c hc i4 h4 3 hi4
  cases q with
  | true =>
    obtain ⟨x, i6, h6, e6, _, hi6⟩ := spec_l1PickInt.is c hc i5 h5 [0, 0, 1, 5, 9] (by simp) hi5
    exact ⟨_, _, _, _, _, _, _, _, by simp only [spec_l3Op.f, e1, e2, e3, e4, e5, e6, Option.bind_some, if_true]; rfl, hi6⟩
  | false => exact ⟨_, _, _, _, _, _, _, _, by simp only [spec_l3Op.f, e1, e2, e3, e4, e5, Option.bind_some, Bool.false_eq_true, if_false]; rfl, hi5⟩

theorem spec_l4Machine.ev (c : List Int) (hc : c.length ≤ 1048576) (i h : Int) (hi : CurI i) : ∃ os xs i' h', Ev (fun k => spec_l4Machine.f k c i h) (os, xs, i', h') ∧ os.length = 3 ∧ xs.length ≤ 6 ∧ CurI i' := by
  have key : ∀ d : Nat, d ≤ 6 → ∀ (os : List Int) (xs : List S49), os.length = 3 → xs.length + d ≤ 6 → ∀ i h : Int, CurI i → ∃ os' xs' i' h', Ev (fun k => spec_l4Machine.l0 k (d : Int) c i h os xs) (os', xs', i', h') ∧ os'.length = 3 ∧ xs'.length ≤ 6 ∧ CurI i' := by
    intro d
    induction d with
    | zero =>
      intro _ os xs ho hx i h hi
      refine ⟨os, xs, i, h, ev_shift (ev_val fun k => ?_), ho, by omega, hi⟩
      simp only [spec_l4Machine.l0, if_neg (show ¬ ((0 : Nat) : Int) > 0 by omega)]
    | succ d ih =>
      intro hd os xs ho hx i h hi
      obtain ⟨o0, o1, o2, o3, o4, o5, i2, h2, e2, hi2⟩ := spec_l3Op.is c hc i h hi
      have e4 : wrap64 (((d + 1 : Nat) : Int) - 1) = (d : Int) := by rw [w64 (by omega) (by omega)]; omega
      have hA := spec_ApplyOp.ev os xs o0 o1 o2 o3 o4 o5 (by omega) (by omega)
      have hL := appR_len os xs o0 o1 o2 o3 o4 o5 (by omega)
      generalize appR os xs o0 o1 o2 o3 o4 o5 = r at hA hL
      obtain ⟨os', xs', i', h', hl, hp⟩ := ih (by omega) r.1 r.2.1 (by omega) (by omega) i2 h2 hi2
      refine ⟨os', xs', i', h', ev_shift ?_, hp⟩
      simp only [spec_l4Machine.l0, if_pos (show ((d + 1 : Nat) : Int) > 0 by omega), e2, Option.bind_some, e4]
      exact Ev.bind hA hl
  obtain ⟨n, i1, h1, e1, _, hn, hi1⟩ := spec_l1Below.is c hc i h 6 hi
  have hn' := hn (by omega)
  obtain ⟨N, rfl⟩ := Int.eq_ofNat_of_zero_le hn'.1
  obtain ⟨os', xs', i', h', hl, hp⟩ := key N (by omega) [0, 0, 0] [] rfl (by simp; omega) i1 h1 hi1
  refine ⟨os', xs', i', h', ?_, hp⟩
  simp only [spec_l4Machine.f, spec_NewMachine.val, e1, Option.bind_some]
  exact hl

theorem spec_l4Any.ev (c : List Int) (hc : c.length ≤ 1048576) (i h : Int) (hi : CurI i) : ∃ os xs i' h', Ev (fun k => spec_l4Any.f k c i h) (os, xs, i', h') ∧ os.length ≤ 3 ∧ xs.length ≤ 7 ∧ CurI i' := by
  obtain ⟨os, xs, i1, h1, e1, ho, hx, hi1⟩ := spec_l4Machine.ev c hc i h hi
  obtain ⟨q, i2, h2, e2, _, _, hi2⟩ := spec_l1Below.is c hc i1 h1 14 hi1
  by_cases c0 : q = 0
  · obtain ⟨n, i3, h3, e3, _, hn, hi3⟩ := spec_l1Below.is c hc i2 h2 3 hi2
    have hn' := hn (by omega)
    obtain ⟨x, i4, h4, e4, _, hi4⟩ := spec_l1PickInt.is c hc i3 h3 [(-1), 9, 10] (by simp) hi3
    refine ⟨os.set n.toNat x, xs, i4, h4, Ev.bind e1 (ev_val fun _ => ?_), ?_, ?_, hi4⟩
    · simp only [e2, Option.bind_some, if_pos c0, e3, e4, if_pos hn'.1, if_pos (show n < (os.length : Int) by omega)]
    · simp only [List.length_set]; omega
    · omega
  by_cases c1 : q = 1
  · refine ⟨os.drop (1 : Int).toNat, xs, i2, h2, Ev.bind e1 (ev_val fun _ => ?_), ?_, ?_, hi2⟩
    · simp only [e2, Option.bind_some, if_neg c0, if_pos c1, if_pos (show 1 ≤ (os.length : Int) by omega)]
    · simp only [List.length_drop]; omega
    · omega
  by_cases c2 : q = 2
  · obtain ⟨n, i3, h3, e3, _, _, hi3⟩ := spec_l1Below.is c hc i2 h2 4 hi2
    obtain ⟨m, i4, h4, e4, _, _, hi4⟩ := spec_l1Below.is c hc i3 h3 3 hi3
    obtain ⟨x, i5, h5, e5, _, hi5⟩ := spec_l1PickInt.is c hc i4 h4 [0, 10] (by simp) hi4
    refine ⟨os, xs ++ [(⟨n, m, (⟨false, x⟩ : S33)⟩ : S49)], i5, h5, Ev.bind e1 (ev_val fun _ => ?_), ?_, ?_, hi5⟩
    · simp only [e2, Option.bind_some, if_neg c0, if_neg c1, if_pos c2, e3, e4, e5, if_pos (show xs.length < 4398046511104 by omega)]
    · omega
    · simp only [List.length_append, List.length_singleton]; omega
  refine ⟨os, xs, i2, h2, Ev.bind e1 (ev_val fun _ => ?_), ?_, ?_, hi2⟩
  · simp only [e2, Option.bind_some, if_neg c0, if_neg c1, if_neg c2]
  · omega
  · omega

theorem spec_l3Any.is (c : List Int) (hc : c.length ≤ 1048576) (i h : Int) (hi : CurI i) : ∃ o0 o1 o2 o3 o4 o5 i' h', spec_l3Any.f c i h = some (o0, o1, o2, o3, o4, o5, i', h') ∧ CurI i' := by
  obtain ⟨o0, o1, o2, o3, o4, o5, i1, h1, e1, hi1⟩ := spec_l3Op.is c hc i h hi
  obtain ⟨q, i2, h2, e2, _, _, hi2⟩ := spec_l1Below.is c hc i1 h1 14 hi1
  rw [spec_l3Any.f, e1]
  simp only [Option.bind_some, e2]
  by_cases c0 : q = 0
  · obtain ⟨x, i3, h3, e3, _, hi3⟩ := spec_l1PickInt.is c hc i2 h2 [(-1), 2, 3] (by simp) hi2
    simp only [if_pos c0, e3, Option.bind_some]
    exact ⟨_, _, _, _, _, _, _, _, rfl, hi3⟩
  simp only [if_neg c0]
  by_cases c1 : q = 1
  · obtain ⟨x, i3, h3, e3, _, hi3⟩ := spec_l1PickInt.is c hc i2 h2 [0, 99, 100] (by simp) hi2
    simp only [if_pos c1, e3, Option.bind_some]
    exact ⟨_, _, _, _, _, _, _, _, rfl, hi3⟩
  simp only [if_neg c1]
  by_cases c2 : q = 2
  · obtain ⟨x, i3, h3, e3, _, _, hi3⟩ := spec_l1Below.is c hc i2 h2 4 hi2
    simp only [if_pos c2, e3, Option.bind_some]
    exact ⟨_, _, _, _, _, _, _, _, rfl, hi3⟩
  simp only [if_neg c2]
  by_cases c3 : q = 3
  · obtain ⟨x, i3, h3, e3, _, hi3⟩ := spec_l1PickInt.is c hc i2 h2 [(-1), 3] (by simp) hi2
    simp only [if_pos c3, e3, Option.bind_some]
    exact ⟨_, _, _, _, _, _, _, _, rfl, hi3⟩
  simp only [if_neg c3]
  by_cases c4 : q = 4
  · obtain ⟨x, i3, h3, e3, _, hi3⟩ := spec_l1PickInt.is c hc i2 h2 [(-1), 9, 10] (by simp) hi2
    simp only [if_pos c4, e3, Option.bind_some]
    exact ⟨_, _, _, _, _, _, _, _, rfl, hi3⟩
  simp only [if_neg c4]
  by_cases c5 : q = 5
  · obtain ⟨x, i3, h3, e3, _, hi3⟩ := spec_l1PickInt.is c hc i2 h2 [(-1), 0, 9, 10] (by simp) hi2
    simp only [if_pos c5, e3, Option.bind_some]
    exact ⟨_, _, _, _, _, _, _, _, rfl, hi3⟩
  simp only [if_neg c5]
  exact ⟨_, _, _, _, _, _, _, _, rfl, hi2⟩

theorem spec_DrawApplyOp.ev (c : List Int) (hc : c.length ≤ 1048576) : ∃ os xs o0 o1 o2 o3 o4 o5, Ev (fun k => spec_DrawApplyOp.f k c) (os, xs, o0, o1, o2, o3, o4, o5) ∧ os.length ≤ 3 ∧ xs.length ≤ 7 := by
  obtain ⟨h, e0⟩ := spec_l1New.ev c hc
  obtain ⟨os, xs, i1, h1, e1, ho, hx, hi1⟩ := spec_l4Any.ev c hc 0 h cur0
  obtain ⟨o0, o1, o2, o3, o4, o5, i2, h2, e2, hi2⟩ := spec_l3Any.is c hc i1 h1 hi1
  refine ⟨os, xs, o0, o1, o2, o3, o4, o5, Ev.bind e0 (Ev.bind e1 (ev_val fun _ => ?_)), ho, hx⟩
  simp only [e2, Option.bind_some]

theorem slices_Equal_int_int.ev (xs ys : List Int) (hn : xs.length ≤ 9223372036854775806) : ∃ b, Ev (fun k => slices_Equal_int_int.f k xs ys) b ∧ (b = true ↔ xs = ys) := by
  by_cases hl : xs.length = ys.length
  · obtain ⟨b, hb, hq⟩ := eq_loop (fun k i => slices_Equal_int_int.l0 k xs ys (xs.length : Int) i) xs ys hl
      (fun k => by simp only [slices_Equal_int_int.l0, if_neg (show ¬ ((xs.length : Int) < (xs.length : Int)) by omega)])
      (fun i h1 h2 => by
        by_cases h : xs[i] = ys[i]
        · exact .inl ⟨h, 0, fun k _ => by simp only [slices_Equal_int_int.l0, if_pos (show (i : Int) < (xs.length : Int) by omega), if_pos (show (0 : Int) ≤ (i : Int) by omega), if_pos (show (i : Int) < (ys.length : Int) by omega), rd_get xs i h1, rd_get ys i h2, if_pos h, w64 (show -9223372036854775808 ≤ (i : Int) + 1 by omega) (by omega)]⟩
        · exact .inr ⟨h, 0, fun k _ => by simp only [slices_Equal_int_int.l0, if_pos (show (i : Int) < (xs.length : Int) by omega), if_pos (show (0 : Int) ≤ (i : Int) by omega), if_pos (show (i : Int) < (ys.length : Int) by omega), rd_get xs i h1, rd_get ys i h2, if_neg h]⟩)
    refine ⟨b, ?_, hq⟩
    refine Ev.congr (fun k => ?_) hb
    simp only [slices_Equal_int_int.f, if_pos (show (xs.length : Int) = (ys.length : Int) by omega)]
  · refine ⟨false, ev_val (fun k => ?_), ?_⟩
    · simp only [slices_Equal_int_int.f, if_neg (show ¬ ((xs.length : Int) = (ys.length : Int)) by omega)]
    · constructor
      · intro h; cases h
      · intro h; subst h; exact absurd rfl hl

theorem ses_test (x y : S49) : ((!(x.f0 == y.f0) || (!(x.f1 == y.f1) || ((!(x.f2.f0 == y.f2.f0) || (!(x.f2.f1 == y.f2.f1)))))) = true) ↔ ¬ (x.f0 = y.f0 ∧ x.f1 = y.f1 ∧ x.f2.f0 = y.f2.f0 ∧ x.f2.f1 = y.f2.f1) := by
  simp only [Bool.or_eq_true, Bool.not_eq_true', beq_eq_false_iff_ne, ne_eq]
  constructor
  · rintro (h | h | h | h) ⟨a, b, c, d⟩ <;> exact h (by assumption)
  · intro h
    by_cases a : x.f0 = y.f0
    · by_cases b : x.f1 = y.f1
      · by_cases c : x.f2.f0 = y.f2.f0
        · exact .inr (.inr (.inr fun d => h ⟨a, b, c, d⟩))
        · exact .inr (.inr (.inl c))
      · exact .inr (.inl b)
    · exact .inl a
theorem slices_Equal_impl_Session_impl_Session.ev (xs ys : List S49) (hn : xs.length ≤ 9223372036854775806) : ∃ b, Ev (fun k => slices_Equal_impl_Session_impl_Session.f k xs ys) b ∧ (b = true ↔ xs = ys) := by
  by_cases hl : xs.length = ys.length
  · obtain ⟨b, hb, hq⟩ := eq_loop (fun k i => slices_Equal_impl_Session_impl_Session.l0 k xs ys (xs.length : Int) i) xs ys hl
      (fun k => by simp only [slices_Equal_impl_Session_impl_Session.l0, if_neg (show ¬ ((xs.length : Int) < (xs.length : Int)) by omega)])
      (fun i h1 h2 => by
        by_cases h : xs[i] = ys[i]
        · exact .inl ⟨h, 0, fun k _ => by simp only [slices_Equal_impl_Session_impl_Session.l0, if_pos (show (i : Int) < (xs.length : Int) by omega), if_pos (show (0 : Int) ≤ (i : Int) by omega), if_pos (show (i : Int) < (ys.length : Int) by omega), rdS xs i h1, rdS ys i h2, ses_test, if_neg (show ¬ ¬ (xs[i].f0 = ys[i].f0 ∧ xs[i].f1 = ys[i].f1 ∧ xs[i].f2.f0 = ys[i].f2.f0 ∧ xs[i].f2.f1 = ys[i].f2.f1) from fun h' => h' ((ses_eq _ _).1 h)), w64 (show -9223372036854775808 ≤ (i : Int) + 1 by omega) (by omega)]⟩
        · exact .inr ⟨h, 0, fun k _ => by simp only [slices_Equal_impl_Session_impl_Session.l0, if_pos (show (i : Int) < (xs.length : Int) by omega), if_pos (show (0 : Int) ≤ (i : Int) by omega), if_pos (show (i : Int) < (ys.length : Int) by omega), rdS xs i h1, rdS ys i h2, ses_test, if_pos (show ¬ (xs[i].f0 = ys[i].f0 ∧ xs[i].f1 = ys[i].f1 ∧ xs[i].f2.f0 = ys[i].f2.f0 ∧ xs[i].f2.f1 = ys[i].f2.f1) from fun h' => h ((ses_eq _ _).2 h'))]⟩)
    refine ⟨b, ?_, hq⟩
    refine Ev.congr (fun k => ?_) hb
    simp only [slices_Equal_impl_Session_impl_Session.f, if_pos (show (xs.length : Int) = (ys.length : Int) by omega)]
  · refine ⟨false, ev_val (fun k => ?_), ?_⟩
    · simp only [slices_Equal_impl_Session_impl_Session.f, if_neg (show ¬ ((xs.length : Int) = (ys.length : Int)) by omega)]
    · constructor
      · intro h; cases h
      · intro h; subst h; exact absurd rfl hl

theorem impl_EqualMachines.ev (os : List Int) (xs : List S49) (os' : List Int) (xs' : List S49) (ho : os.length ≤ 9223372036854775806) (hn : xs.length ≤ 9223372036854775806) :
    ∃ b, Ev (fun k => impl_EqualMachines.f k os xs os' xs') b ∧ (b = true ↔ os = os' ∧ xs = xs') := by
  obtain ⟨b, hb, hq⟩ := slices_Equal_int_int.ev os os' ho
  obtain ⟨c, hc, hr⟩ := slices_Equal_impl_Session_impl_Session.ev xs xs' hn
  cases b with
  | true => exact ⟨c, Ev.bind hb (by simp only [if_true]; exact Ev.bind hc (Ev.now _)), hr.trans ⟨fun h => ⟨hq.1 rfl, h⟩, fun h => h.2⟩⟩
  | false => exact ⟨false, Ev.bind hb (ev_val fun _ => by simp), by simp only [Bool.false_eq_true, false_iff]; exact fun h => by simpa using hq.2 h.1⟩

/-- What ReadObject answers. -/
def readOut (os : List Int) (b : Bool) (a : Int) : Int × Bool := if b = true ∧ 0 ≤ a ∧ a ≤ 2 then (rd os a, true) else (0, false)

theorem impl_ReadObject.ev (os : List Int) (xs : List S49) (a : Int) (b : Bool) (hb : Ev (fun k => impl_IsValidMachine.f k os xs) b) (hv : b = true → os.length = 3) :
    Ev (fun k => impl_ReadObject.f k os xs a) (readOut os b a) := by
  refine Ev.bind hb ?_
  cases b with
  | false => exact ev_val fun _ => by simp [readOut]
  | true =>
    simp only [if_true, impl_within.val, Option.bind_some]
    have h3 := hv rfl
    by_cases h : 0 ≤ a ∧ a ≤ 2
    · simp only [decide_eq_true h, if_true, if_pos h.1, if_pos (show a < (os.length : Int) by omega), readOut, true_and, if_pos h]; exact Ev.now _
    · simp only [decide_eq_false h, Bool.false_eq_true, if_false, readOut, true_and, if_neg h]; exact Ev.now _

theorem spec_ReadObject.ev (os : List Int) (xs : List S49) (a : Int) (b : Bool) (hb : Ev (fun k => spec_IsValidMachine.f k os xs) b) (hv : b = true → os.length = 3) :
    Ev (fun k => spec_ReadObject.f k os xs a) (readOut os b a) := by
  refine Ev.bind hb ?_
  cases b with
  | false => exact ev_val fun _ => by simp [readOut]
  | true =>
    simp only [if_true, spec_l1In.val, Option.bind_some]
    have h3 := hv rfl
    by_cases h : 0 ≤ a ∧ a ≤ 2
    · simp only [decide_eq_true h, if_true, if_pos h.1, if_pos (show a < (os.length : Int) by omega), readOut, true_and, if_pos h]; exact Ev.now _
    · simp only [decide_eq_false h, Bool.false_eq_true, if_false, readOut, true_and, if_neg h]; exact Ev.now _

/-- One session by itself. -/
def okOne (s : S49) : Prop := (0 ≤ s.f0 ∧ s.f0 ≤ 2) ∧ (1 ≤ s.f1 ∧ s.f1 ≤ 99) ∧ (0 ≤ s.f2.f1 ∧ s.f2.f1 ≤ 9)
theorem okSes_iff (xs : List S49) : (∀ j, j < xs.length → okSes xs j) ↔ (∀ s ∈ xs, okOne s) ∧ xs.Pairwise (fun x y => x.f0 < y.f0) := by
  have key : ∀ j (h : j < xs.length), okSes xs j ↔ okOne xs[j] ∧ (∀ h0 : 0 < j, xs[j - 1].f0 < xs[j].f0) := by
    intro j h
    have e1 := rdS xs j h
    constructor
    · rintro ⟨p1, p2, p3, p4⟩
      rw [e1] at p1 p2 p3
      refine ⟨⟨p1, p2, p3⟩, fun h0 => ?_⟩
      have := p4 h0
      rw [e1, show ((j : Int) - 1) = ((j - 1 : Nat) : Int) by omega, rdS xs (j - 1) (by omega)] at this
      exact this
    · rintro ⟨⟨p1, p2, p3⟩, p4⟩
      refine ⟨by rw [e1]; exact p1, by rw [e1]; exact p2, by rw [e1]; exact p3, fun h0 => ?_⟩
      rw [e1, show ((j : Int) - 1) = ((j - 1 : Nat) : Int) by omega, rdS xs (j - 1) (by omega)]
      exact p4 h0
  constructor
  · intro h
    refine ⟨fun s hs => ?_, List.pairwise_iff_getElem.2 ?_⟩
    · obtain ⟨j, hj, rfl⟩ := List.mem_iff_getElem.1 hs
      exact ((key j hj).1 (h j hj)).1
    · intro i j hi hj hij
      obtain ⟨d, rfl⟩ : ∃ d, j = i + 1 + d := ⟨j - i - 1, by omega⟩
      induction d with
      | zero => exact ((key (i + 1) hj).1 (h _ hj)).2 (by omega)
      | succ d ih =>
        have h1 := ih (by omega) (by omega)
        have h2 := ((key (i + 1 + (d + 1)) hj).1 (h _ hj)).2 (by omega)
        exact Int.lt_trans h1 h2
  · rintro ⟨h1, h2⟩ j hj
    exact (key j hj).2 ⟨h1 _ (List.getElem_mem hj), fun h0 => List.pairwise_iff_getElem.1 h2 (j - 1) j (by omega) hj (by omega)⟩
theorem ins_split (a : Int) : ∀ xs : List S49, xs.Pairwise (fun x y => x.f0 < y.f0) → ∃ l r, xs = l ++ r ∧ insAt_ a xs = l.length ∧ (∀ s ∈ l, s.f0 < a) ∧ ∀ s ∈ r, a ≤ s.f0
  | [], _ => ⟨[], [], rfl, rfl, by simp, by simp⟩
  | x :: xs, h => by
    by_cases hx : x.f0 < a
    · obtain ⟨l, r, e, n, h1, h2⟩ := ins_split a xs (List.pairwise_cons.1 h).2
      refine ⟨x :: l, r, by rw [e]; rfl, ?_, ?_, h2⟩
      · rw [show insAt_ a (x :: xs) = insAt_ a xs + 1 by simp [insAt_, List.takeWhile_cons, hx], n]; rfl
      · intro s hs
        rcases List.mem_cons.1 hs with rfl | hs
        · exact hx
        · exact h1 s hs
    · refine ⟨[], x :: xs, rfl, by simp [insAt_, List.takeWhile_cons, hx], by simp, fun s hs => ?_⟩
      rcases List.mem_cons.1 hs with rfl | hs
      · omega
      · have := (List.pairwise_cons.1 h).1 s hs
        omega
theorem appR_no (os : List Int) (xs : List S49) (a b c d e f : Int) (h : (appR os xs a b c d e f).2.2.2.2 = false) : (appR os xs a b c d e f).1 = os ∧ (appR os xs a b c d e f).2.1 = xs := by
  unfold appR at h ⊢
  split
  · split
    · rename_i hm hv
      rw [if_pos hm, if_pos hv] at h
      unfold stepR step_ at h ⊢
      split
      · rename_i h1; rw [if_pos h1] at h; simp at h
      · split
        · simp
        · split
          · rename_i h1 h2 h3; rw [if_neg h1, if_neg h2, if_pos h3] at h; simp at h
          · simp
    · simp
  · simp
/-- What holds behind an operation that was applied. -/
theorem appR_yes (os : List Int) (xs : List S49) (a b c d e f : Int) (hn : xs.length < 1099511627776) (h : (appR os xs a b c d e f).2.2.2.2 = true) :
    vop a b c d e f = true ∧ vMach (appR os xs a b c d e f).1 (appR os xs a b c d e f).2.1 ∧ sesOf (appR os xs a b c d e f).2.1 a = some ⟨a, b, ⟨(appR os xs a b c d e f).2.2.1, (appR os xs a b c d e f).2.2.2.1⟩⟩ := by
  by_cases hm : vMach os xs
  · by_cases hv : vop a b c d e f = true
    · have hE : appR os xs a b c d e f = (stepR os xs a b c d e f).getD (os, xs, false, 0, false) := by unfold appR; rw [if_pos hm, if_pos hv]
      rw [hE] at h ⊢
      refine ⟨hv, ?_⟩
      obtain ⟨hA, hB, -, hF, -⟩ : (0 ≤ a ∧ a ≤ 2) ∧ (1 ≤ b ∧ b ≤ 99) ∧ (0 ≤ d ∧ d ≤ 2) ∧ (0 ≤ f ∧ f ≤ 9) ∧ ((c = 1 ∧ e = 0) ∨ (c = 2 ∧ 0 ≤ e ∧ e ≤ 9)) := by simpa only [vop, decide_eq_true_eq] using hv
      have hD : 0 ≤ d ∧ d ≤ 2 := by simp only [vop, decide_eq_true_eq] at hv; exact hv.2.2.1
      obtain ⟨ho, hov, hxs⟩ := hm
      obtain ⟨hok, hpw⟩ := (okSes_iff xs).1 hxs
      unfold stepR step_ at h ⊢
      by_cases h1 : (sesOut (sesOf xs a)).2.2.2.2 = true ∧ (sesOut (sesOf xs a)).2.1 = b
      · rw [if_pos h1] at h ⊢
        simp only [Option.getD_some]
        refine ⟨⟨ho, hov, hxs⟩, ?_⟩
        cases hs : sesOf xs a with
        | none => rw [hs] at h1; simp [sesOut] at h1
        | some s =>
          have h0 : s.f0 = a := by have := List.find?_some hs; simpa using this
          have h2 := h1.2
          rw [hs] at h2
          simp only [sesOut] at h2 ⊢
          rw [← h0, ← h2]
      · rw [if_neg h1] at h ⊢
        by_cases h2 : (sesOut (sesOf xs a)).2.2.2.2 = true ∧ b < (sesOut (sesOf xs a)).2.1
        · rw [if_pos h2] at h; simp at h
        · rw [if_neg h2] at h ⊢
          have h3 : 0 ≤ d ∧ d < os.length ∧ d < os.length ∧ xs.length < 1099511627776 ∧ ((sesOut (sesOf xs a)).2.2.2.2 = true → insAt_ a xs < xs.length) := ⟨hD.1, by omega, by omega, hn, fun h => insAt_lt a xs (sesOut_in xs a h)⟩
          rw [if_pos h3] at h ⊢
          simp only [Option.getD_some]
          obtain ⟨D, rfl⟩ := Int.eq_ofNat_of_zero_le hD.1
          have hV := hov D (by omega)
          generalize decide (c = 1 ∨ rd os (D : Int) = e) = q
          generalize rd os (D : Int) = V at hV ⊢
          have hos : ∀ l : List Int, l = os ∨ l = os.set (D : Int).toNat f → l.length = 3 ∧ ∀ j : Nat, j < l.length → 0 ≤ rd l (j : Int) ∧ rd l (j : Int) ≤ 9 := by
            rintro l (rfl | rfl)
            · exact ⟨ho, hov⟩
            · refine ⟨by simpa using ho, fun j hj => ?_⟩
              rw [List.length_set] at hj
              rw [rd_get _ j (by simpa using hj), List.getElem_set]
              split
              · exact hF
              · have := hov j hj
                rwa [rd_get os j hj] at this
          obtain ⟨l, r, rfl, hi, hl, hr⟩ := ins_split a xs hpw
          obtain ⟨r2, hr2, hr3, hr4⟩ : ∃ r2, (l ++ r).drop (if (sesOut (sesOf (l ++ r) a)).2.2.2.2 = true then insAt_ a (l ++ r) + 1 else insAt_ a (l ++ r)) = r2 ∧ (∀ s ∈ r2, a < s.f0) ∧ r2.Sublist r := by
            rw [hi]
            by_cases his : (sesOut (sesOf (l ++ r) a)).2.2.2.2 = true
            · rw [if_pos his]
              obtain ⟨s, hs, hsa⟩ := sesOut_in _ a his
              cases r with
              | nil =>
                rw [List.append_nil] at hs
                have := hl s hs
                omega
              | cons y r' =>
                refine ⟨r', by rw [List.drop_append, List.drop_eq_nil_of_le (by omega)]; simp, ?_, List.sublist_cons_self y r'⟩
                have hp := List.pairwise_cons.1 (List.pairwise_append.1 hpw).2.1
                have hy := hr y (by simp)
                intro z hz
                have := hp.1 z hz
                omega
            · rw [if_neg his]
              refine ⟨r, by rw [List.drop_append, List.drop_eq_nil_of_le (by omega)]; simp, fun s hs => ?_, List.Sublist.refl r⟩
              have h5 := hr s hs
              have h6 : s.f0 ≠ a := by
                intro h7
                refine his ?_
                cases h8 : sesOf (l ++ r) a with
                | none =>
                  have := List.find?_eq_none.1 h8 s (List.mem_append.2 (.inr hs))
                  simp [h7] at this
                | some _ => rfl
              omega
          rw [hr2, hi, List.take_left]
          have hpl := List.pairwise_append.1 hpw
          refine ⟨⟨(hos _ (by split <;> simp)).1, (hos _ (by split <;> simp)).2, (okSes_iff _).2 ⟨?_, ?_⟩⟩, ?_⟩
          · intro s hs
            rw [List.append_assoc, List.mem_append, List.mem_append, List.mem_singleton] at hs
            rcases hs with hs | rfl | hs
            · exact hok s (List.mem_append.2 (.inl hs))
            · exact ⟨hA, hB, hV⟩
            · exact hok s (List.mem_append.2 (.inr (hr4.subset hs)))
          · rw [List.append_assoc]
            refine List.pairwise_append.2 ⟨hpl.1, List.pairwise_append.2 ⟨List.pairwise_singleton _ _, hpl.2.1.sublist hr4, ?_⟩, ?_⟩
            · intro x hx y hy
              rw [List.mem_singleton] at hx
              subst hx
              exact hr3 y hy
            · intro x hx y hy
              have := hl x hx
              rcases List.mem_append.1 hy with hy | hy
              · rw [List.mem_singleton] at hy
                subst hy
                exact this
              · have := hr3 y hy
                omega
          · unfold sesOf
            rw [List.append_assoc, List.find?_append, List.find?_append]
            have : List.find? (fun s : S49 => s.f0 == a) l = none := List.find?_eq_none.2 fun s hs => by
              have := hl s hs
              simp only [beq_iff_eq]
              omega
            rw [this]
            simp
    · unfold appR at h; rw [if_pos hm, if_neg hv] at h; simp at h
  · unfold appR at h; rw [if_neg hm] at h; simp at h
/-- An operation that was applied is repeated with the same answer. -/
theorem appR_again (os : List Int) (xs : List S49) (a b c d e f : Int) (hn : xs.length < 1099511627776) (h : (appR os xs a b c d e f).2.2.2.2 = true) :
    appR (appR os xs a b c d e f).1 (appR os xs a b c d e f).2.1 a b c d e f = ((appR os xs a b c d e f).1, (appR os xs a b c d e f).2.1, (appR os xs a b c d e f).2.2.1, (appR os xs a b c d e f).2.2.2.1, true) := by
  obtain ⟨hv, hm, hs⟩ := appR_yes os xs a b c d e f hn h
  generalize appR os xs a b c d e f = r at hm hs ⊢
  unfold appR stepR step_
  rw [if_pos hm, if_pos hv, hs]
  simp [sesOut]

theorem FnMachine : FnMachinePure := by
  intro c _ _ _
  refine Ev.rounds (g := fun k => laws_FnMachine.f k c) ?_
  by_cases h1 : (c.length : Int) > 1048576
  · simp only [laws_FnMachine.f, laws_big.f, Option.bind_some, decide_eq_true h1, if_true]; exact Ev.now _
  simp only [laws_FnMachine.f, laws_big.f, Option.bind_some, decide_eq_false h1, Bool.false_eq_true, if_false]
  obtain ⟨os, xs, o0, o1, o2, o3, o4, o5, hd, ho, hx⟩ := spec_DrawApplyOp.ev c (by omega)
  have hS := spec_ApplyOp.ev os xs o0 o1 o2 o3 o4 o5 (by omega) (by omega)
  have hI := impl_ApplyOp.ev os xs o0 o1 o2 o3 o4 o5 (by omega) (by omega)
  have hL := appR_len os xs o0 o1 o2 o3 o4 o5 (by omega)
  have hno := appR_no os xs o0 o1 o2 o3 o4 o5
  have hyes := appR_yes os xs o0 o1 o2 o3 o4 o5 (by omega)
  have hag := appR_again os xs o0 o1 o2 o3 o4 o5 (by omega)
  generalize appR os xs o0 o1 o2 o3 o4 o5 = r at hS hI hL hno hyes hag
  obtain ⟨os', xs', q, v, ok⟩ := r
  simp only at hL hno hyes hag
  obtain ⟨b, iv, qb⟩ := impl_IsValidMachine.ev os xs (by omega) (by omega)
  obtain ⟨b', sv, qb'⟩ := spec_IsValidMachine.ev os xs (by omega) (by omega)
  obtain rfl : b' = b := by rw [Bool.eq_iff_iff, qb, qb']
  obtain ⟨m, hm, hmq⟩ := impl_EqualMachines.ev os' xs' os' xs' (by omega) (by omega)
  obtain rfl : m = true := hmq.2 ⟨rfl, rfl⟩
  refine Ev.bind hd (Ev.bind hI (Ev.bind hS ?_))
  simp only [bne_self_eq_false, Bool.false_eq_true, if_false, beq_self_eq_true, Bool.not_true, Bool.or_self]
  refine Ev.bind hm ?_
  simp only [if_true]
  refine Ev.bind iv (Ev.bind sv ?_)
  simp only [bne_self_eq_false]
  refine ev_shift ?_
  simp only [laws_FnMachine.j0, Bool.false_eq_true, if_false]
  cases ok with
  | false =>
    obtain ⟨rfl, rfl⟩ := hno rfl
    simp only [Bool.false_eq_true, if_false]
    exact Ev.bind hm (Ev.now _)
  | true =>
    obtain ⟨hv, hvm, hs⟩ := hyes rfl
    have hI2 := impl_ApplyOp.ev os' xs' o0 o1 o2 o3 o4 o5 (by omega) (by omega)
    rw [hag rfl] at hI2
    have hSo := impl_SessionOf.ev os' xs' o0 (by omega)
    rw [hs] at hSo
    obtain ⟨b2, iv2, qb2⟩ := impl_IsValidMachine.ev os' xs' (by omega) (by omega)
    obtain ⟨b3, sv2, qb3⟩ := spec_IsValidMachine.ev os' xs' (by omega) (by omega)
    obtain rfl : b2 = true := qb2.2 hvm
    obtain rfl : b3 = true := qb3.2 hvm
    have hd3 : 0 ≤ o3 ∧ o3 ≤ 2 := by simp only [vop, decide_eq_true_eq] at hv; exact hv.2.2.1
    have hr1 := impl_ReadObject.ev os' xs' o3 true iv2 (fun _ => hvm.1)
    have hr2 := spec_ReadObject.ev os' xs' o3 true sv2 (fun _ => hvm.1)
    have hro : readOut os' true o3 = (rd os' o3, true) := by simp only [readOut, true_and, if_pos hd3]
    rw [hro] at hr1 hr2
    simp only [if_true]
    refine Ev.bind hI2 (Ev.bind hSo (Ev.bind hr1 (Ev.bind hr2 ?_)))
    simp only [if_true, beq_self_eq_true, Bool.and_self]
    refine Ev.bind hm ?_
    simp only [if_true, sesOut, beq_self_eq_true, Bool.and_self]
    exact Ev.bind iv2 (Ev.now _)

end Go.Proofs.Ytcikahnmiiichaa.Pure
