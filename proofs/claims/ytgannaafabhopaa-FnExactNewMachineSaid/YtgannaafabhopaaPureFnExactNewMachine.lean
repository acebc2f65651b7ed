/- The law FnExactNewMachine returns true; no conditions. -/
import Derived.Test.YtgannaafabhopaaQFnExactNewMachine
import Derived.Test.YtgannaafabhopaaCom
set_option linter.unusedVariables false
set_option linter.unusedSimpArgs false
namespace Go.Proofs.Ytgannaafabhopaa.Pure
open Go.RowKit Go.Proofs.Ytgannaafabhopaa.K Go.Proofs.YtgannaafabhopaaW.PrintWords Go.Proofs.YtgannaafabhopaaW.PrintLast
open Go.Proofs.Ytgannaafabhopaa.Opens
open Go.Proofs.Ytgannaafabhopaa.Com

theorem spec_NewMachine.val : spec_NewMachine.f = some ([0, 0, 0], []) := rfl

theorem impl_NewMachine.val : impl_NewMachine.f = some ([0, 0, 0], []) := rfl

theorem laws_eqIntS.ev (xs ys : List Int) (hn : xs.length ≤ 9223372036854775806) : ∃ b, Ev (fun k => laws_eqIntS.f k xs ys) b ∧ (b = true ↔ xs = ys) := by
  by_cases hl : xs.length = ys.length
  · obtain ⟨b, hb, hq⟩ := all_loop (fun k i => laws_eqIntS.l0 k xs ys i) (fun i => rd xs (i : Int) = rd ys (i : Int)) xs.length
      (fun k => by simp only [laws_eqIntS.l0, if_neg (show ¬ ((xs.length : Int) < (xs.length : Int)) by omega)])
      (fun i hi => by
        by_cases h : rd xs (i : Int) = rd ys (i : Int)
        · exact .inl ⟨h, 0, fun k _ => by simp only [laws_eqIntS.l0, if_pos (show (i : Int) < (xs.length : Int) by omega), if_pos (show (0 : Int) ≤ (i : Int) by omega), if_pos (show (i : Int) < (ys.length : Int) by omega), if_pos h, w64 (show -9223372036854775808 ≤ (i : Int) + 1 by omega) (by omega)]⟩
        · exact .inr ⟨h, 0, fun k _ => by simp only [laws_eqIntS.l0, if_pos (show (i : Int) < (xs.length : Int) by omega), if_pos (show (0 : Int) ≤ (i : Int) by omega), if_pos (show (i : Int) < (ys.length : Int) by omega), if_neg h]⟩)
      xs.length 0 (by omega)
    refine ⟨b, ?_, hq.trans ?_⟩
    · refine Ev.congr (fun k => ?_) hb
      simp only [laws_eqIntS.f, if_pos (show (xs.length : Int) = (ys.length : Int) by omega)]
      rfl
    · constructor
      · intro h
        refine List.ext_getElem hl (fun i h1 h2 => ?_)
        have := h i (by omega) h1
        rwa [rd_get xs i h1, rd_get ys i h2] at this
      · intro h; subst h; intro j _ _; rfl
  · refine ⟨false, ev_val (fun k => ?_), ?_⟩
    · simp only [laws_eqIntS.f, if_neg (show ¬ ((xs.length : Int) = (ys.length : Int)) by omega)]
    · constructor
      · intro h; cases h
      · intro h; subst h; exact absurd rfl hl
theorem laws_eqIntS.same (xs : List Int) (hn : xs.length ≤ 9223372036854775806) : Ev (fun k => laws_eqIntS.f k xs xs) true := by
  obtain ⟨b, hb, hq⟩ := laws_eqIntS.ev xs xs hn
  exact ev_eq hb (hq.2 rfl)

theorem laws_eqResult.val (a : Bool) (b : Int) (a' : Bool) (b' : Int) : laws_eqResult.f a b a' b' = some (decide (a = a' ∧ b = b')) := by
  unfold laws_eqResult.f
  by_cases h1 : a = a' <;> by_cases h2 : b = b' <;> simp [h1, h2]

theorem rdS (xs : List S58) (i : Nat) (h : i < xs.length) : rd_T58 xs (i : Int) = xs[i] := by simp [rd_T58, h]
theorem ses_eq (x y : S58) : x = y ↔ x.f0 = y.f0 ∧ x.f1 = y.f1 ∧ x.f2.f0 = y.f2.f0 ∧ x.f2.f1 = y.f2.f1 := by
  constructor
  · intro h; subst h; simp
  · rintro ⟨h0, h1, h2, h3⟩
    obtain ⟨a, b, ⟨c, d⟩⟩ := x
    obtain ⟨a', b', ⟨c', d'⟩⟩ := y
    simp_all

theorem laws_eqSession.val0 (a b : Int) (c : Bool) (d a' b' : Int) (c' : Bool) (d' : Int) : laws_eqSession.f a b c d a' b' c' d' = some (decide (a = a' ∧ b = b' ∧ c = c' ∧ d = d')) := by
  unfold laws_eqSession.f
  simp only [laws_eqResult.val, Option.bind_some]
  by_cases h1 : a = a' <;> by_cases h2 : b = b' <;> by_cases h3 : c = c' <;> by_cases h4 : d = d' <;> simp [h1, h2, h3, h4]
theorem laws_eqSession.val (x y : S58) : ∃ b, laws_eqSession.f x.f0 x.f1 x.f2.f0 x.f2.f1 y.f0 y.f1 y.f2.f0 y.f2.f1 = some b ∧ (b = true ↔ x = y) :=
  ⟨_, laws_eqSession.val0 _ _ _ _ _ _ _ _, by rw [decide_eq_true_iff, ses_eq]⟩

theorem laws_eqSessionS.ev (xs ys : List S58) (hn : xs.length ≤ 9223372036854775806) : ∃ b, Ev (fun k => laws_eqSessionS.f k xs ys) b ∧ (b = true ↔ xs = ys) := by
  by_cases hl : xs.length = ys.length
  · obtain ⟨b, hb, hq⟩ := eq_loop (fun k i => laws_eqSessionS.l0 k xs ys i) xs ys hl
      (fun k => by simp only [laws_eqSessionS.l0, if_neg (show ¬ ((xs.length : Int) < (xs.length : Int)) by omega)])
      (fun i h1 h2 => by
        obtain ⟨b, hb, hq⟩ := laws_eqSession.val xs[i] ys[i]
        cases b with
        | true => exact .inl ⟨hq.1 rfl, 0, fun k _ => by simp only [laws_eqSessionS.l0, if_pos (show (i : Int) < (xs.length : Int) by omega), if_pos (show (0 : Int) ≤ (i : Int) by omega), if_pos (show (i : Int) < (ys.length : Int) by omega), rdS xs i h1, rdS ys i h2, hb, Option.bind_some, if_true, w64 (show -9223372036854775808 ≤ (i : Int) + 1 by omega) (by omega)]⟩
        | false => exact .inr ⟨fun h => by simpa using hq.2 h, 0, fun k _ => by simp only [laws_eqSessionS.l0, if_pos (show (i : Int) < (xs.length : Int) by omega), if_pos (show (0 : Int) ≤ (i : Int) by omega), if_pos (show (i : Int) < (ys.length : Int) by omega), rdS xs i h1, rdS ys i h2, hb, Option.bind_some, Bool.false_eq_true, if_false]⟩)
    refine ⟨b, ?_, hq⟩
    refine Ev.congr (fun k => ?_) hb
    simp only [laws_eqSessionS.f, if_pos (show (xs.length : Int) = (ys.length : Int) by omega)]
  · refine ⟨false, ev_val (fun k => ?_), ?_⟩
    · simp only [laws_eqSessionS.f, if_neg (show ¬ ((xs.length : Int) = (ys.length : Int)) by omega)]
    · constructor
      · intro h; cases h
      · intro h; subst h; exact absurd rfl hl
theorem laws_eqSessionS.same (xs : List S58) (hn : xs.length ≤ 9223372036854775806) : Ev (fun k => laws_eqSessionS.f k xs xs) true := by
  obtain ⟨b, hb, hq⟩ := laws_eqSessionS.ev xs xs hn
  exact ev_eq hb (hq.2 rfl)

theorem laws_eqMachine.ev (os : List Int) (xs : List S58) (os' : List Int) (xs' : List S58) (ho : os.length ≤ 9223372036854775806) (hn : xs.length ≤ 9223372036854775806) :
    ∃ b, Ev (fun k => laws_eqMachine.f k os xs os' xs') b ∧ (b = true ↔ os = os' ∧ xs = xs') := by
  obtain ⟨b, hb, hq⟩ := laws_eqIntS.ev os os' ho
  obtain ⟨c, hc, hr⟩ := laws_eqSessionS.ev xs xs' hn
  cases b with
  | true =>
    cases c with
    | true => exact ⟨true, Ev.bind hb (Ev.bind hc (ev_val fun _ => by simp)), by simp only [true_iff]; exact ⟨hq.1 rfl, hr.1 rfl⟩⟩
    | false => exact ⟨false, Ev.bind hb (Ev.bind hc (ev_val fun _ => by simp)), by simp only [Bool.false_eq_true, false_iff]; exact fun h => by simpa using hr.2 h.2⟩
  | false => exact ⟨false, Ev.bind hb (ev_val fun _ => by simp), by simp only [Bool.false_eq_true, false_iff]; exact fun h => by simpa using hq.2 h.1⟩
theorem laws_eqMachine.same (os : List Int) (xs : List S58) (ho : os.length ≤ 9223372036854775806) (hn : xs.length ≤ 9223372036854775806) : Ev (fun k => laws_eqMachine.f k os xs os xs) true := by
  obtain ⟨b, hb, hq⟩ := laws_eqMachine.ev os xs os xs ho hn
  exact ev_eq hb (hq.2 ⟨rfl, rfl⟩)

/-- The marks of a list of numbers. -/
def marksI (n : Nat) (a : Int) : List Int := (List.range n).map fun (i : Nat) => a + 1 * (i : Int)
theorem marksI_length (n : Nat) (a : Int) : (marksI n a).length = n := by simp [marksI]
theorem laws_markIntS.ev (xs : List Int) (a : Int) (hn : xs.length ≤ 1048576000) (h0 : 0 ≤ a) (h1 : a ≤ 1048576000000) : Ev (fun k => laws_markIntS.f k xs a) (a + 1 * xs.length, marksI xs.length a) := by
  have := mark_loop (fun k ys a i => laws_markIntS.l0 k ys a i) 1 (fun a => a) ⟨by omega, by omega⟩
    (fun k xs a => by simp only [laws_markIntS.l0, if_neg (show ¬ ((xs.length : Int) < (xs.length : Int)) by omega)])
    (fun xs a i k hi hi2 ha ha' => by
      simp only [laws_markIntS.l0, if_pos (show (i : Int) < (xs.length : Int) by omega), if_pos (show (0 : Int) ≤ (i : Int) by omega), Int.toNat_natCast, w64 (show -9223372036854775808 ≤ (i : Int) + 1 by omega) (by omega), w64 (show -9223372036854775808 ≤ a + 1 by omega) (by omega)])
    xs a hn h0 h1
  exact this

/-- The mark of a session. -/
def markS (a : Int) : S58 := ⟨a, a + 1, ⟨Int.tmod (a + 2) 3 == 0, a + 3⟩⟩
def marksS (n : Nat) (a : Int) : List S58 := (List.range n).map fun (i : Nat) => markS (a + 4 * (i : Int))
theorem marksS_length (n : Nat) (a : Int) : (marksS n a).length = n := by simp [marksS]
theorem laws_markSessionS.ev (xs : List S58) (a : Int) (hn : xs.length ≤ 1048576000) (h0 : 0 ≤ a) (h1 : a ≤ 1048576000000) : Ev (fun k => laws_markSessionS.f k xs a) (a + 4 * xs.length, marksS xs.length a) := by
  have := mark_loop (fun k ys a i => laws_markSessionS.l0 k ys a i) 4 markS ⟨by omega, by omega⟩
    (fun k xs a => by simp only [laws_markSessionS.l0, if_neg (show ¬ ((xs.length : Int) < (xs.length : Int)) by omega)])
    (fun xs a i k hi hi2 ha ha' => by
      have r1 : ∀ (ys : List S58) (v : S58), i < ys.length → rd_T58 (ys.set i v) (i : Int) = v := fun ys v h => by
        rw [rdS _ i (by simpa using h)]; simp
      simp only [laws_markSessionS.l0, if_pos (show (i : Int) < (xs.length : Int) by omega), if_pos (show (0 : Int) ≤ (i : Int) by omega), Int.toNat_natCast, w64 (show -9223372036854775808 ≤ (i : Int) + 1 by omega) (by omega), w64 (show -9223372036854775808 ≤ a + 1 by omega) (by omega), w64 (show -9223372036854775808 ≤ a + 1 + 1 by omega) (by omega), w64 (show -9223372036854775808 ≤ a + 1 + 1 + 1 by omega) (by omega), w64 (show -9223372036854775808 ≤ a + 1 + 1 + 1 + 1 by omega) (by omega), Option.bind_some]
      rw [r1 xs _ hi]
      simp only []
      rw [r1 _ _ (by simpa using hi)]
      simp only []
      rw [r1 _ _ (by simpa using hi)]
      simp only [List.set_set, markS, show a + 1 + 1 = a + 2 by omega, show a + 2 + 1 = a + 3 by omega, show a + 3 + 1 = a + 4 by omega])
    xs a hn h0 h1
  exact this

theorem laws_markMachine.ev (os : List Int) (xs : List S58) (a : Int) (ho : os.length ≤ 1048576000) (hn : xs.length ≤ 1048576000) (h0 : 0 ≤ a) (h1 : a ≤ 1048576000) :
    Ev (fun k => laws_markMachine.f k os xs a) (a + 1 * os.length + 4 * xs.length, marksI os.length a, marksS xs.length (a + 1 * os.length)) :=
  Ev.bind (laws_markIntS.ev os a ho h0 (by omega)) (Ev.bind (laws_markSessionS.ev xs (a + 1 * os.length) hn (by omega) (by omega)) (Ev.now _))

theorem laws_heldIntS.ev (n : Nat) (a : Int) (hn : n ≤ 1048576000) (h0 : 0 ≤ a) (h1 : a ≤ 1048576000000) : Ev (fun k => laws_heldIntS.f k (marksI n a) a) (a + 1 * n) := by
  have := held_loop (fun k a' i => laws_heldIntS.l0 k (marksI n a) a' i) 1 (fun a => a) ⟨by omega, by omega⟩ (marksI n a)
    (fun k a' => by simp only [laws_heldIntS.l0, if_neg (show ¬ (((marksI n a).length : Int) < ((marksI n a).length : Int)) by omega)])
    (fun a' i k hi hi2 ha ha' hx => by
      simp only [laws_heldIntS.l0, if_pos (show (i : Int) < ((marksI n a).length : Int) by omega), if_pos (show (0 : Int) ≤ (i : Int) by omega), rd_get (marksI n a) i hi, if_pos hx, w64 (show -9223372036854775808 ≤ (i : Int) + 1 by omega) (by omega), w64 (show -9223372036854775808 ≤ a' + 1 by omega) (by omega)])
    a (by rw [marksI_length]; exact hn) h0 h1 (by rw [marksI_length]; rfl)
  rw [marksI_length] at this
  exact this

theorem laws_heldSessionS.ev (n : Nat) (a : Int) (hn : n ≤ 1048576000) (h0 : 0 ≤ a) (h1 : a ≤ 1048576000000) : Ev (fun k => laws_heldSessionS.f k (marksS n a) a) (a + 4 * n) := by
  have := held_loop (fun k a' i => laws_heldSessionS.l0 k (marksS n a) a' i) 4 markS ⟨by omega, by omega⟩ (marksS n a)
    (fun k a' => by simp only [laws_heldSessionS.l0, if_neg (show ¬ (((marksS n a).length : Int) < ((marksS n a).length : Int)) by omega)])
    (fun a' i k hi hi2 ha ha' hx => by
      simp only [laws_heldSessionS.l0, if_pos (show (i : Int) < ((marksS n a).length : Int) by omega), if_pos (show (0 : Int) ≤ (i : Int) by omega), rdS (marksS n a) i hi, hx, markS, w64 (show -9223372036854775808 ≤ (i : Int) + 1 by omega) (by omega), w64 (show -9223372036854775808 ≤ a' + 1 by omega) (by omega), w64 (show -9223372036854775808 ≤ a' + 2 by omega) (by omega), w64 (show -9223372036854775808 ≤ a' + 3 by omega) (by omega), w64 (show -9223372036854775808 ≤ a' + 4 by omega) (by omega), if_true,
        show a' + 1 + 1 = a' + 2 by omega, show a' + 2 + 1 = a' + 3 by omega, show a' + 3 + 1 = a' + 4 by omega, bne_self_eq_false, Bool.false_eq_true, if_false])
    a (by rw [marksS_length]; exact hn) h0 h1 (by rw [marksS_length]; rfl)
  rw [marksS_length] at this
  exact this

theorem laws_heldMachine.ev (n m : Nat) (a : Int) (ho : n ≤ 1048576000) (hn : m ≤ 1048576000) (h0 : 0 ≤ a) (h1 : a ≤ 1048576000) :
    Ev (fun k => laws_heldMachine.f k (marksI n a) (marksS m (a + 1 * n)) a) (a + 1 * n + 4 * m) := by
  refine Ev.bind (laws_heldIntS.ev n a ho h0 (by omega)) ?_
  simp only [if_neg (show ¬ (a + 1 * (n : Int) < 0) by omega)]
  refine Ev.bind (laws_heldSessionS.ev m (a + 1 * n) hn (by omega) (by omega)) ?_
  simp only [if_neg (show ¬ (a + 1 * (n : Int) + 4 * (m : Int) < 0) by omega)]
  exact Ev.now _

theorem FnExactNewMachine : FnExactNewMachinePure := by
  refine Ev.rounds (g := fun k => laws_FnExactNewMachine.f k) ?_
  have hm := laws_markMachine.ev [0, 0, 0] [] 1 (by simp) (by simp) (by omega) (by omega)
  have hh := laws_heldMachine.ev 3 0 1 (by omega) (by omega) (by omega) (by omega)
  simp only [laws_FnExactNewMachine.f, spec_NewMachine.val, impl_NewMachine.val, Option.bind_some]
  refine Ev.bind (laws_eqMachine.same [0, 0, 0] [] (by simp) (by simp)) ?_
  simp only [if_true]
  refine Ev.bind hm ?_
  refine Ev.bind hh ?_
  simp only [if_neg (show ¬ ((1 : Int) + 1 * ((3 : Nat) : Int) + 4 * ((0 : Nat) : Int) < 0) by omega)]
  refine ev_eq (r := true) ?_ rfl
  simp only [List.length_cons, List.length_nil, if_true]
  refine Ev.bind (laws_eqMachine.same [0, 0, 0] [] (by simp) (by simp)) ?_
  simp only [if_true]
  refine Ev.bind hh ?_
  simp only [if_neg (show ¬ ((1 : Int) + 1 * ((3 : Nat) : Int) + 4 * ((0 : Nat) : Int) < 0) by omega)]
  exact ev_val (fun _ => by simp)

end Go.Proofs.Ytgannaafabhopaa.Pure
