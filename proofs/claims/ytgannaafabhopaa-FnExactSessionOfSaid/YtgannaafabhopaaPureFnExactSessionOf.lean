/- For every machine and number the law FnExactSessionOf returns true; no conditions. -/
import Derived.Test.YtgannaafabhopaaQFnExactSessionOf
import Derived.Test.YtgannaafabhopaaCom
set_option linter.unusedVariables false
set_option linter.unusedSimpArgs false
namespace Go.Proofs.Ytgannaafabhopaa.Pure
open Go.RowKit Go.Proofs.Ytgannaafabhopaa.S Go.Proofs.YtgannaafabhopaaW.PrintWords Go.Proofs.YtgannaafabhopaaW.PrintLast
open Go.Proofs.Ytgannaafabhopaa.Opens
open Go.Proofs.Ytgannaafabhopaa.Com

theorem laws_eqIntS.ev (xs ys : List Int) (hn : xs.length ≤ 9223372036854775806) : ∃ b, Ev (fun k => laws_eqIntS.f k xs ys) b ∧ (b = true ↔ xs = ys) := by
  by_cases hl : xs.length = ys.length
  · obtain ⟨b, hb, hq⟩ := all_loop (fun k i => laws_eqIntS.l0 k xs ys i) (fun i => rd xs (i : Int) = rd ys (i : Int)) xs.length
      (fun k => by simp only [laws_eqIntS.l0, if_neg (show ¬ ((xs.length : Int) < (xs.length : Int)) by omega)])
      (fun i hi => by
        by_cases h : rd xs (i : Int) = rd ys (i : Int)
        · exact .inl ⟨h, 0, fun k _ => by simp only [laws_eqIntS.l0, if_pos (show (i : Int) < (xs.length : Int) by omega), if_pos (show (0 : Int) ≤ (i : Int) by omega), if_pos (show (i : Int) < (ys.length : Int) by omega), if_pos h, w64 (show -9223372036854775808 ≤ (i : Int) + 1 by omega) (by omega)]⟩
        · exact .inr ⟨h, 0, fun k _ => by simp only [laws_eqIntS.l0, if_pos (show (i : Int) < (xs.length : Int) by omega), if_pos (show (0 : Int) ≤ (i : Int) by omega), if_pos (show (i : Int) < (ys.length : Int) by omega), if_neg h]⟩)
      xs.length 0 (by omega)
    refine ⟨b, ?_, hq.trans ?_⟩
    · refine Ev.congr (fun k => ?_) hb
      simp only [laws_eqIntS.f, if_pos (show (xs.length : Int) = (ys.length : Int) by omega)]
      rfl
    · constructor
      · intro h
        refine List.ext_getElem hl (fun i h1 h2 => ?_)
        have := h i (by omega) h1
        rwa [rd_get xs i h1, rd_get ys i h2] at this
      · intro h; subst h; intro j _ _; rfl
  · refine ⟨false, ev_val (fun k => ?_), ?_⟩
    · simp only [laws_eqIntS.f, if_neg (show ¬ ((xs.length : Int) = (ys.length : Int)) by omega)]
    · constructor
      · intro h; cases h
      · intro h; subst h; exact absurd rfl hl
theorem laws_eqIntS.same (xs : List Int) (hn : xs.length ≤ 9223372036854775806) : Ev (fun k => laws_eqIntS.f k xs xs) true := by
  obtain ⟨b, hb, hq⟩ := laws_eqIntS.ev xs xs hn
  exact ev_eq hb (hq.2 rfl)

theorem laws_eqResult.val (a : Bool) (b : Int) (a' : Bool) (b' : Int) : laws_eqResult.f a b a' b' = some (decide (a = a' ∧ b = b')) := by
  unfold laws_eqResult.f
  by_cases h1 : a = a' <;> by_cases h2 : b = b' <;> simp [h1, h2]

theorem rdS (xs : List S58) (i : Nat) (h : i < xs.length) : rd_T58 xs (i : Int) = xs[i] := by simp [rd_T58, h]
theorem rdLS (xs : List S99) (i : Nat) (h : i < xs.length) : rd_T99 xs (i : Int) = xs[i] := by simp [rd_T99, h]
/-- A session of the laws, as one of the program. -/
def toS (x : S99) : S58 := ⟨x.f0, x.f1, ⟨x.f2.f0, x.f2.f1⟩⟩
theorem ses_eq (x y : S58) : x = y ↔ x.f0 = y.f0 ∧ x.f1 = y.f1 ∧ x.f2.f0 = y.f2.f0 ∧ x.f2.f1 = y.f2.f1 := by
  constructor
  · intro h; subst h; simp
  · rintro ⟨h0, h1, h2, h3⟩
    obtain ⟨a, b, ⟨c, d⟩⟩ := x
    obtain ⟨a', b', ⟨c', d'⟩⟩ := y
    simp_all

theorem laws_eqSession.val0 (a b : Int) (c : Bool) (d a' b' : Int) (c' : Bool) (d' : Int) : laws_eqSession.f a b c d a' b' c' d' = some (decide (a = a' ∧ b = b' ∧ c = c' ∧ d = d')) := by
  unfold laws_eqSession.f
  simp only [laws_eqResult.val, Option.bind_some]
  by_cases h1 : a = a' <;> by_cases h2 : b = b' <;> by_cases h3 : c = c' <;> by_cases h4 : d = d' <;> simp [h1, h2, h3, h4]
theorem laws_eqSession.val (x y : S58) : ∃ b, laws_eqSession.f x.f0 x.f1 x.f2.f0 x.f2.f1 y.f0 y.f1 y.f2.f0 y.f2.f1 = some b ∧ (b = true ↔ x = y) :=
  ⟨_, laws_eqSession.val0 _ _ _ _ _ _ _ _, by rw [decide_eq_true_iff, ses_eq]⟩

theorem laws_eqSessionS.ev (xs ys : List S58) (hn : xs.length ≤ 9223372036854775806) : ∃ b, Ev (fun k => laws_eqSessionS.f k xs ys) b ∧ (b = true ↔ xs = ys) := by
  by_cases hl : xs.length = ys.length
  · obtain ⟨b, hb, hq⟩ := eq_loop (fun k i => laws_eqSessionS.l0 k xs ys i) xs ys hl
      (fun k => by simp only [laws_eqSessionS.l0, if_neg (show ¬ ((xs.length : Int) < (xs.length : Int)) by omega)])
      (fun i h1 h2 => by
        obtain ⟨b, hb, hq⟩ := laws_eqSession.val xs[i] ys[i]
        cases b with
        | true => exact .inl ⟨hq.1 rfl, 0, fun k _ => by simp only [laws_eqSessionS.l0, if_pos (show (i : Int) < (xs.length : Int) by omega), if_pos (show (0 : Int) ≤ (i : Int) by omega), if_pos (show (i : Int) < (ys.length : Int) by omega), rdS xs i h1, rdS ys i h2, hb, Option.bind_some, if_true, w64 (show -9223372036854775808 ≤ (i : Int) + 1 by omega) (by omega)]⟩
        | false => exact .inr ⟨fun h => by simpa using hq.2 h, 0, fun k _ => by simp only [laws_eqSessionS.l0, if_pos (show (i : Int) < (xs.length : Int) by omega), if_pos (show (0 : Int) ≤ (i : Int) by omega), if_pos (show (i : Int) < (ys.length : Int) by omega), rdS xs i h1, rdS ys i h2, hb, Option.bind_some, Bool.false_eq_true, if_false]⟩)
    refine ⟨b, ?_, hq⟩
    refine Ev.congr (fun k => ?_) hb
    simp only [laws_eqSessionS.f, if_pos (show (xs.length : Int) = (ys.length : Int) by omega)]
  · refine ⟨false, ev_val (fun k => ?_), ?_⟩
    · simp only [laws_eqSessionS.f, if_neg (show ¬ ((xs.length : Int) = (ys.length : Int)) by omega)]
    · constructor
      · intro h; cases h
      · intro h; subst h; exact absurd rfl hl
theorem laws_eqSessionS.same (xs : List S58) (hn : xs.length ≤ 9223372036854775806) : Ev (fun k => laws_eqSessionS.f k xs xs) true := by
  obtain ⟨b, hb, hq⟩ := laws_eqSessionS.ev xs xs hn
  exact ev_eq hb (hq.2 rfl)

theorem laws_eqMachine.ev (os : List Int) (xs : List S58) (os' : List Int) (xs' : List S58) (ho : os.length ≤ 9223372036854775806) (hn : xs.length ≤ 9223372036854775806) :
    ∃ b, Ev (fun k => laws_eqMachine.f k os xs os' xs') b ∧ (b = true ↔ os = os' ∧ xs = xs') := by
  obtain ⟨b, hb, hq⟩ := laws_eqIntS.ev os os' ho
  obtain ⟨c, hc, hr⟩ := laws_eqSessionS.ev xs xs' hn
  cases b with
  | true =>
    cases c with
    | true => exact ⟨true, Ev.bind hb (Ev.bind hc (ev_val fun _ => by simp)), by simp only [true_iff]; exact ⟨hq.1 rfl, hr.1 rfl⟩⟩
    | false => exact ⟨false, Ev.bind hb (Ev.bind hc (ev_val fun _ => by simp)), by simp only [Bool.false_eq_true, false_iff]; exact fun h => by simpa using hr.2 h.2⟩
  | false => exact ⟨false, Ev.bind hb (ev_val fun _ => by simp), by simp only [Bool.false_eq_true, false_iff]; exact fun h => by simpa using hq.2 h.1⟩
theorem laws_eqMachine.same (os : List Int) (xs : List S58) (ho : os.length ≤ 9223372036854775806) (hn : xs.length ≤ 9223372036854775806) : Ev (fun k => laws_eqMachine.f k os xs os xs) true := by
  obtain ⟨b, hb, hq⟩ := laws_eqMachine.ev os xs os xs ho hn
  exact ev_eq hb (hq.2 ⟨rfl, rfl⟩)

theorem laws_szIntS.val (xs : List Int) (a : Int) (hn : xs.length ≤ maxLen) (h0 : 0 ≤ a) (h1 : a ≤ 1048576) :
    ∃ r, laws_szIntS.f xs a = some r ∧ (¬ r < 0 → r = a - xs.length ∧ (xs.length : Int) ≤ a) := by
  unfold maxLen at hn
  unfold laws_szIntS.f
  rw [w64 (show -9223372036854775808 ≤ a - (xs.length : Int) by omega) (by omega)]
  by_cases h : a - (xs.length : Int) < 0
  · exact ⟨-1, by rw [if_pos h], fun h' => by omega⟩
  · exact ⟨_, by rw [if_neg h], fun h' => ⟨rfl, by omega⟩⟩

theorem laws_szSessionS.val (xs : List S99) (a : Int) (hn : xs.length ≤ maxLen) (h0 : 0 ≤ a) (h1 : a ≤ 1048576) :
    ∃ r, laws_szSessionS.f xs a = some r ∧ (¬ r < 0 → r = a - xs.length ∧ (xs.length : Int) ≤ a) := by
  unfold maxLen at hn
  unfold laws_szSessionS.f
  rw [w64 (show -9223372036854775808 ≤ a - (xs.length : Int) by omega) (by omega)]
  by_cases h : a - (xs.length : Int) < 0
  · exact ⟨-1, by rw [if_pos h], fun h' => by omega⟩
  · exact ⟨_, by rw [if_neg h], fun h' => ⟨rfl, by omega⟩⟩

theorem laws_szMachine.val (os : List Int) (xs : List S99) (a : Int) (ho : os.length ≤ maxLen) (hn : xs.length ≤ maxLen) (h0 : 0 ≤ a) (h1 : a ≤ 1048576) :
    ∃ r, laws_szMachine.f os xs a = some r ∧ (¬ r < 0 → r ≤ a ∧ (os.length : Int) ≤ a ∧ (xs.length : Int) ≤ a) := by
  obtain ⟨r, hr, hq⟩ := laws_szIntS.val os a ho h0 h1
  unfold laws_szMachine.f
  rw [hr]
  simp only [Option.bind_some]
  by_cases h : r < 0
  · exact ⟨-1, by rw [if_pos h], fun h' => by omega⟩
  · obtain ⟨h2, h3⟩ := hq h
    rw [if_neg h]
    obtain ⟨s, hs, ht⟩ := laws_szSessionS.val xs r hn (by omega) (by omega)
    rw [hs]
    simp only [Option.bind_some]
    by_cases h' : s < 0
    · exact ⟨-1, by rw [if_pos h'], fun h'' => by omega⟩
    · obtain ⟨h4, h5⟩ := ht h'
      exact ⟨s, by rw [if_neg h'], fun _ => ⟨by omega, by omega, by omega⟩⟩

/-- A client's session. -/
def sesOut : Option S58 → Int × Int × Bool × Int × Bool
  | none => (0, 0, false, 0, false)
  | some s => (s.f0, s.f1, s.f2.f0, s.f2.f1, true)
def sesOf (xs : List S58) (c : Int) : Option S58 := xs.find? fun s => s.f0 == c

theorem spec_SessionOf.ev (os : List Int) (xs : List S58) (c : Int) (hn : xs.length ≤ 9223372036854775806) : Ev (fun k => spec_SessionOf.f k os xs c) (sesOut (sesOf xs c)) := by
  have key : ∀ (d i : Nat), i + d = xs.length → Ev (fun k => spec_SessionOf.l0 k c (i : Int) os xs) (sesOut (sesOf (xs.drop i) c)) := by
    intro d
    induction d with
    | zero =>
      intro i h
      refine ev_shift ?_
      simp only [spec_SessionOf.l0, if_neg (show ¬ ((i : Int) < (xs.length : Int)) by omega)]
      exact ev_some (by rw [List.drop_eq_nil_of_le (show xs.length ≤ i by omega)]; rfl)
    | succ d ih =>
      intro i h
      have h1 : i < xs.length := by omega
      have := ih (i + 1) (by omega)
      refine ev_shift ?_
      simp only [spec_SessionOf.l0, if_pos (show (i : Int) < (xs.length : Int) by omega), if_pos (show (0 : Int) ≤ (i : Int) by omega), w64 (show -9223372036854775808 ≤ (i : Int) + 1 by omega) (by omega), rdS xs i h1]
      rw [List.drop_eq_getElem_cons h1, sesOf, List.find?_cons]
      by_cases hc : xs[i].f0 = c
      · simp only [if_pos hc]
        rw [show (xs[i].f0 == c) = true by simpa using hc]
        exact Ev.now _
      · simp only [if_neg hc]
        rw [show (xs[i].f0 == c) = false by simpa using hc]
        simpa [sesOf] using this
  have := key xs.length 0 (by omega)
  simpa [spec_SessionOf.f] using this

theorem laws_toIntS.ev (xs : List Int) (hn : xs.length ≤ 35184372088832) : Ev (fun k => laws_toIntS.f k xs) xs := by
  have key : ∀ (d i : Nat) (ys : List Int), i + d = xs.length → ys.length = xs.length → ys.take i = xs.take i → Ev (fun k => laws_toIntS.l0 k xs ys (i : Int)) xs := by
    intro d
    induction d with
    | zero =>
      intro i ys h1 h2 h3
      refine ev_shift ?_
      simp only [laws_toIntS.l0, if_neg (show ¬ ((i : Int) < (xs.length : Int)) by omega)]
      refine ev_some ?_
      rw [List.take_of_length_le (by omega), List.take_of_length_le (by omega)] at h3
      exact h3
    | succ d ih =>
      intro i ys h1 h2 h3
      refine ev_shift ?_
      simp only [laws_toIntS.l0, if_pos (show (i : Int) < (xs.length : Int) by omega), if_pos (show (0 : Int) ≤ (i : Int) by omega), if_pos (show (i : Int) < (ys.length : Int) by omega),
        w64 (show -9223372036854775808 ≤ (i : Int) + 1 by omega) (by omega), Int.toNat_natCast, rd_get xs i (by omega)]
      have := ih (i + 1) (ys.set i xs[i]) (by omega) (by simpa using h2) (by
        rw [List.take_succ_eq_append_getElem (by simp; omega), List.take_succ_eq_append_getElem (show i < xs.length by omega), List.take_set_of_le (Nat.le_refl _), h3]
        simp)
      simpa using this
  have h0 := key xs.length 0 (List.replicate xs.length 0) (by omega) (by simp) (by simp)
  refine Ev.congr (fun k => ?_) h0
  simp only [laws_toIntS.f, if_pos (show (0 : Int) ≤ (xs.length : Int) by omega), Int.toNat_natCast, if_pos hn]
  rfl

theorem laws_toResult.val (a : Bool) (b : Int) : laws_toResult.f a b = some (a, b) := rfl

theorem laws_toSession.val (a b : Int) (c : Bool) (d : Int) : laws_toSession.f a b c d = some (a, b, c, d) := rfl

theorem laws_toSessionS.ev (xs : List S99) (hn : xs.length ≤ 8796093022208) : Ev (fun k => laws_toSessionS.f k xs) (xs.map toS) := by
  have := map_loop (fun k ys i => laws_toSessionS.l0 k xs ys i) toS xs
    (fun k ys _ => by simp only [laws_toSessionS.l0, if_neg (show ¬ ((xs.length : Int) < (xs.length : Int)) by omega)])
    (fun i h ys k hy => by
      simp only [laws_toSessionS.l0, if_pos (show (i : Int) < (xs.length : Int) by omega), if_pos (show (0 : Int) ≤ (i : Int) by omega), if_pos (show (i : Int) < (ys.length : Int) by omega),
        laws_toSession.val, Option.bind_some, rdLS xs i h, Int.toNat_natCast, w64 (show -9223372036854775808 ≤ (i : Int) + 1 by omega) (by omega), toS])
    (List.replicate xs.length z58) (by simp)
  refine Ev.congr (fun k => ?_) this
  simp only [laws_toSessionS.f, if_pos (show (0 : Int) ≤ (xs.length : Int) by omega), Int.toNat_natCast, if_pos hn]

theorem laws_toMachine.ev (os : List Int) (xs : List S99) (ho : os.length ≤ 1048576) (hn : xs.length ≤ 1048576) : Ev (fun k => laws_toMachine.f k os xs) (os, xs.map toS) :=
  Ev.bind (laws_toIntS.ev os (by omega)) (Ev.bind (laws_toSessionS.ev xs (by omega)) (Ev.now _))

theorem impl_SessionOf.ev (os : List Int) (xs : List S58) (c : Int) (hn : xs.length ≤ 9223372036854775806) : Ev (fun k => impl_SessionOf.f k os xs c) (sesOut (sesOf xs c)) := by
  have key : ∀ (d i : Nat), i + d = xs.length → Ev (fun k => impl_SessionOf.l0 k c xs (xs.length : Int) (i : Int)) (sesOut (sesOf (xs.drop i) c)) := by
    intro d
    induction d with
    | zero =>
      intro i h
      refine ev_shift ?_
      simp only [impl_SessionOf.l0, if_neg (show ¬ ((i : Int) < (xs.length : Int)) by omega)]
      exact ev_some (by rw [List.drop_eq_nil_of_le (show xs.length ≤ i by omega)]; rfl)
    | succ d ih =>
      intro i h
      have h1 : i < xs.length := by omega
      have := ih (i + 1) (by omega)
      refine ev_shift ?_
      simp only [impl_SessionOf.l0, if_pos (show (i : Int) < (xs.length : Int) by omega), if_pos (show (0 : Int) ≤ (i : Int) by omega), w64 (show -9223372036854775808 ≤ (i : Int) + 1 by omega) (by omega), rdS xs i h1]
      rw [List.drop_eq_getElem_cons h1, sesOf, List.find?_cons]
      by_cases hc : xs[i].f0 = c
      · simp only [if_pos hc]
        rw [show (xs[i].f0 == c) = true by simpa using hc]
        exact Ev.now _
      · simp only [if_neg hc]
        rw [show (xs[i].f0 == c) = false by simpa using hc]
        simpa [sesOf] using this
  have := key xs.length 0 (by omega)
  simpa [impl_SessionOf.f] using this

theorem FnExactSessionOf : FnExactSessionOfPure := by
  intro x c h hc
  refine Ev.rounds (g := fun k => laws_FnExactSessionOf.f k x.f0 x.f1 c) ?_
  obtain ⟨r, hr, hq⟩ := laws_szMachine.val x.f0 x.f1 1048576 h.1.1 h.2.1 (by omega) (by omega)
  simp only [laws_FnExactSessionOf.f, hr, Option.bind_some]
  by_cases hneg : r < 0
  · simp only [if_pos hneg]; exact Ev.now _
  · obtain ⟨e1, e2, e3⟩ := hq hneg
    simp only [if_neg hneg]
    have hT := laws_toMachine.ev x.f0 x.f1 (by omega) (by omega)
    have hl : (x.f1.map toS).length ≤ 1048576 := by simp; omega
    refine Ev.bind hT (Ev.bind (spec_SessionOf.ev x.f0 (x.f1.map toS) c (by omega)) (Ev.bind hT (Ev.bind (impl_SessionOf.ev x.f0 (x.f1.map toS) c (by omega)) ?_)))
    simp only [laws_eqSession.val0, Option.bind_some, and_self, decide_true, if_true, bne_self_eq_false]
    refine ev_shift ?_
    simp only [laws_FnExactSessionOf.j0, Bool.false_eq_true, if_false]
    refine Ev.bind hT (Ev.bind (laws_eqMachine.same _ _ (by omega) (by omega)) ?_)
    exact ev_val (fun _ => by simp)

end Go.Proofs.Ytgannaafabhopaa.Pure
