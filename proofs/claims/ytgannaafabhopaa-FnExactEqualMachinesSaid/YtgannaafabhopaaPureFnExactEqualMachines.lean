/- For every two machines the law FnExactEqualMachines returns true; no conditions. -/
import Derived.Test.YtgannaafabhopaaQFnExactEqualMachines
import Derived.Test.YtgannaafabhopaaCom
set_option linter.unusedVariables false
set_option linter.unusedSimpArgs false
namespace Go.Proofs.Ytgannaafabhopaa.Pure
open Go.RowKit Go.Proofs.Ytgannaafabhopaa.M Go.Proofs.YtgannaafabhopaaW.PrintWords Go.Proofs.YtgannaafabhopaaW.PrintLast
open Go.Proofs.Ytgannaafabhopaa.Opens
open Go.Proofs.Ytgannaafabhopaa.Com

theorem laws_eqIntS.ev (xs ys : List Int) (hn : xs.length ≤ 9223372036854775806) : ∃ b, Ev (fun k => laws_eqIntS.f k xs ys) b ∧ (b = true ↔ xs = ys) := by
  by_cases hl : xs.length = ys.length
  · obtain ⟨b, hb, hq⟩ := all_loop (fun k i => laws_eqIntS.l0 k xs ys i) (fun i => rd xs (i : Int) = rd ys (i : Int)) xs.length
      (fun k => by simp only [laws_eqIntS.l0, if_neg (show ¬ ((xs.length : Int) < (xs.length : Int)) by omega)])
      (fun i hi => by
        by_cases h : rd xs (i : Int) = rd ys (i : Int)
        · exact .inl ⟨h, 0, fun k _ => by simp only [laws_eqIntS.l0, if_pos (show (i : Int) < (xs.length : Int) by omega), if_pos (show (0 : Int) ≤ (i : Int) by omega), if_pos (show (i : Int) < (ys.length : Int) by omega), if_pos h, w64 (show -9223372036854775808 ≤ (i : Int) + 1 by omega) (by omega)]⟩
        · exact .inr ⟨h, 0, fun k _ => by simp only [laws_eqIntS.l0, if_pos (show (i : Int) < (xs.length : Int) by omega), if_pos (show (0 : Int) ≤ (i : Int) by omega), if_pos (show (i : Int) < (ys.length : Int) by omega), if_neg h]⟩)
      xs.length 0 (by omega)
    refine ⟨b, ?_, hq.trans ?_⟩
    · refine Ev.congr (fun k => ?_) hb
      simp only [laws_eqIntS.f, if_pos (show (xs.length : Int) = (ys.length : Int) by omega)]
      rfl
    · constructor
      · intro h
        refine List.ext_getElem hl (fun i h1 h2 => ?_)
        have := h i (by omega) h1
        rwa [rd_get xs i h1, rd_get ys i h2] at this
      · intro h; subst h; intro j _ _; rfl
  · refine ⟨false, ev_val (fun k => ?_), ?_⟩
    · simp only [laws_eqIntS.f, if_neg (show ¬ ((xs.length : Int) = (ys.length : Int)) by omega)]
    · constructor
      · intro h; cases h
      · intro h; subst h; exact absurd rfl hl
theorem laws_eqIntS.same (xs : List Int) (hn : xs.length ≤ 9223372036854775806) : Ev (fun k => laws_eqIntS.f k xs xs) true := by
  obtain ⟨b, hb, hq⟩ := laws_eqIntS.ev xs xs hn
  exact ev_eq hb (hq.2 rfl)

theorem laws_eqResult.val (a : Bool) (b : Int) (a' : Bool) (b' : Int) : laws_eqResult.f a b a' b' = some (decide (a = a' ∧ b = b')) := by
  unfold laws_eqResult.f
  by_cases h1 : a = a' <;> by_cases h2 : b = b' <;> simp [h1, h2]

theorem rdS (xs : List S58) (i : Nat) (h : i < xs.length) : rd_T58 xs (i : Int) = xs[i] := by simp [rd_T58, h]
theorem rdLS (xs : List S99) (i : Nat) (h : i < xs.length) : rd_T99 xs (i : Int) = xs[i] := by simp [rd_T99, h]
/-- A session of the laws, as one of the program. -/
def toS (x : S99) : S58 := ⟨x.f0, x.f1, ⟨x.f2.f0, x.f2.f1⟩⟩
theorem ses_eq (x y : S58) : x = y ↔ x.f0 = y.f0 ∧ x.f1 = y.f1 ∧ x.f2.f0 = y.f2.f0 ∧ x.f2.f1 = y.f2.f1 := by
  constructor
  · intro h; subst h; simp
  · rintro ⟨h0, h1, h2, h3⟩
    obtain ⟨a, b, ⟨c, d⟩⟩ := x
    obtain ⟨a', b', ⟨c', d'⟩⟩ := y
    simp_all

theorem laws_eqSession.val0 (a b : Int) (c : Bool) (d a' b' : Int) (c' : Bool) (d' : Int) : laws_eqSession.f a b c d a' b' c' d' = some (decide (a = a' ∧ b = b' ∧ c = c' ∧ d = d')) := by
  unfold laws_eqSession.f
  simp only [laws_eqResult.val, Option.bind_some]
  by_cases h1 : a = a' <;> by_cases h2 : b = b' <;> by_cases h3 : c = c' <;> by_cases h4 : d = d' <;> simp [h1, h2, h3, h4]
theorem laws_eqSession.val (x y : S58) : ∃ b, laws_eqSession.f x.f0 x.f1 x.f2.f0 x.f2.f1 y.f0 y.f1 y.f2.f0 y.f2.f1 = some b ∧ (b = true ↔ x = y) :=
  ⟨_, laws_eqSession.val0 _ _ _ _ _ _ _ _, by rw [decide_eq_true_iff, ses_eq]⟩

theorem laws_eqSessionS.ev (xs ys : List S58) (hn : xs.length ≤ 9223372036854775806) : ∃ b, Ev (fun k => laws_eqSessionS.f k xs ys) b ∧ (b = true ↔ xs = ys) := by
  by_cases hl : xs.length = ys.length
  · obtain ⟨b, hb, hq⟩ := eq_loop (fun k i => laws_eqSessionS.l0 k xs ys i) xs ys hl
      (fun k => by simp only [laws_eqSessionS.l0, if_neg (show ¬ ((xs.length : Int) < (xs.length : Int)) by omega)])
      (fun i h1 h2 => by
        obtain ⟨b, hb, hq⟩ := laws_eqSession.val xs[i] ys[i]
        cases b with
        | true => exact .inl ⟨hq.1 rfl, 0, fun k _ => by simp only [laws_eqSessionS.l0, if_pos (show (i : Int) < (xs.length : Int) by omega), if_pos (show (0 : Int) ≤ (i : Int) by omega), if_pos (show (i : Int) < (ys.length : Int) by omega), rdS xs i h1, rdS ys i h2, hb, Option.bind_some, if_true, w64 (show -9223372036854775808 ≤ (i : Int) + 1 by omega) (by omega)]⟩
        | false => exact .inr ⟨fun h => by simpa using hq.2 h, 0, fun k _ => by simp only [laws_eqSessionS.l0, if_pos (show (i : Int) < (xs.length : Int) by omega), if_pos (show (0 : Int) ≤ (i : Int) by omega), if_pos (show (i : Int) < (ys.length : Int) by omega), rdS xs i h1, rdS ys i h2, hb, Option.bind_some, Bool.false_eq_true, if_false]⟩)
    refine ⟨b, ?_, hq⟩
    refine Ev.congr (fun k => ?_) hb
    simp only [laws_eqSessionS.f, if_pos (show (xs.length : Int) = (ys.length : Int) by omega)]
  · refine ⟨false, ev_val (fun k => ?_), ?_⟩
    · simp only [laws_eqSessionS.f, if_neg (show ¬ ((xs.length : Int) = (ys.length : Int)) by omega)]
    · constructor
      · intro h; cases h
      · intro h; subst h; exact absurd rfl hl
theorem laws_eqSessionS.same (xs : List S58) (hn : xs.length ≤ 9223372036854775806) : Ev (fun k => laws_eqSessionS.f k xs xs) true := by
  obtain ⟨b, hb, hq⟩ := laws_eqSessionS.ev xs xs hn
  exact ev_eq hb (hq.2 rfl)

theorem laws_eqMachine.ev (os : List Int) (xs : List S58) (os' : List Int) (xs' : List S58) (ho : os.length ≤ 9223372036854775806) (hn : xs.length ≤ 9223372036854775806) :
    ∃ b, Ev (fun k => laws_eqMachine.f k os xs os' xs') b ∧ (b = true ↔ os = os' ∧ xs = xs') := by
  obtain ⟨b, hb, hq⟩ := laws_eqIntS.ev os os' ho
  obtain ⟨c, hc, hr⟩ := laws_eqSessionS.ev xs xs' hn
  cases b with
  | true =>
    cases c with
    | true => exact ⟨true, Ev.bind hb (Ev.bind hc (ev_val fun _ => by simp)), by simp only [true_iff]; exact ⟨hq.1 rfl, hr.1 rfl⟩⟩
    | false => exact ⟨false, Ev.bind hb (Ev.bind hc (ev_val fun _ => by simp)), by simp only [Bool.false_eq_true, false_iff]; exact fun h => by simpa using hr.2 h.2⟩
  | false => exact ⟨false, Ev.bind hb (ev_val fun _ => by simp), by simp only [Bool.false_eq_true, false_iff]; exact fun h => by simpa using hq.2 h.1⟩
theorem laws_eqMachine.same (os : List Int) (xs : List S58) (ho : os.length ≤ 9223372036854775806) (hn : xs.length ≤ 9223372036854775806) : Ev (fun k => laws_eqMachine.f k os xs os xs) true := by
  obtain ⟨b, hb, hq⟩ := laws_eqMachine.ev os xs os xs ho hn
  exact ev_eq hb (hq.2 ⟨rfl, rfl⟩)

theorem laws_szIntS.val (xs : List Int) (a : Int) (hn : xs.length ≤ maxLen) (h0 : 0 ≤ a) (h1 : a ≤ 1048576) :
    ∃ r, laws_szIntS.f xs a = some r ∧ (¬ r < 0 → r = a - xs.length ∧ (xs.length : Int) ≤ a) := by
  unfold maxLen at hn
  unfold laws_szIntS.f
  rw [w64 (show -9223372036854775808 ≤ a - (xs.length : Int) by omega) (by omega)]
  by_cases h : a - (xs.length : Int) < 0
  · exact ⟨-1, by rw [if_pos h], fun h' => by omega⟩
  · exact ⟨_, by rw [if_neg h], fun h' => ⟨rfl, by omega⟩⟩

theorem laws_szSessionS.val (xs : List S99) (a : Int) (hn : xs.length ≤ maxLen) (h0 : 0 ≤ a) (h1 : a ≤ 1048576) :
    ∃ r, laws_szSessionS.f xs a = some r ∧ (¬ r < 0 → r = a - xs.length ∧ (xs.length : Int) ≤ a) := by
  unfold maxLen at hn
  unfold laws_szSessionS.f
  rw [w64 (show -9223372036854775808 ≤ a - (xs.length : Int) by omega) (by omega)]
  by_cases h : a - (xs.length : Int) < 0
  · exact ⟨-1, by rw [if_pos h], fun h' => by omega⟩
  · exact ⟨_, by rw [if_neg h], fun h' => ⟨rfl, by omega⟩⟩

theorem laws_szMachine.val (os : List Int) (xs : List S99) (a : Int) (ho : os.length ≤ maxLen) (hn : xs.length ≤ maxLen) (h0 : 0 ≤ a) (h1 : a ≤ 1048576) :
    ∃ r, laws_szMachine.f os xs a = some r ∧ (¬ r < 0 → r ≤ a ∧ (os.length : Int) ≤ a ∧ (xs.length : Int) ≤ a) := by
  obtain ⟨r, hr, hq⟩ := laws_szIntS.val os a ho h0 h1
  unfold laws_szMachine.f
  rw [hr]
  simp only [Option.bind_some]
  by_cases h : r < 0
  · exact ⟨-1, by rw [if_pos h], fun h' => by omega⟩
  · obtain ⟨h2, h3⟩ := hq h
    rw [if_neg h]
    obtain ⟨s, hs, ht⟩ := laws_szSessionS.val xs r hn (by omega) (by omega)
    rw [hs]
    simp only [Option.bind_some]
    by_cases h' : s < 0
    · exact ⟨-1, by rw [if_pos h'], fun h'' => by omega⟩
    · obtain ⟨h4, h5⟩ := ht h'
      exact ⟨s, by rw [if_neg h'], fun _ => ⟨by omega, by omega, by omega⟩⟩

theorem laws_toIntS.ev (xs : List Int) (hn : xs.length ≤ 35184372088832) : Ev (fun k => laws_toIntS.f k xs) xs := by
  have key : ∀ (d i : Nat) (ys : List Int), i + d = xs.length → ys.length = xs.length → ys.take i = xs.take i → Ev (fun k => laws_toIntS.l0 k xs ys (i : Int)) xs := by
    intro d
    induction d with
    | zero =>
      intro i ys h1 h2 h3
      refine ev_shift ?_
      simp only [laws_toIntS.l0, if_neg (show ¬ ((i : Int) < (xs.length : Int)) by omega)]
      refine ev_some ?_
      rw [List.take_of_length_le (by omega), List.take_of_length_le (by omega)] at h3
      exact h3
    | succ d ih =>
      intro i ys h1 h2 h3
      refine ev_shift ?_
      simp only [laws_toIntS.l0, if_pos (show (i : Int) < (xs.length : Int) by omega), if_pos (show (0 : Int) ≤ (i : Int) by omega), if_pos (show (i : Int) < (ys.length : Int) by omega),
        w64 (show -9223372036854775808 ≤ (i : Int) + 1 by omega) (by omega), Int.toNat_natCast, rd_get xs i (by omega)]
      have := ih (i + 1) (ys.set i xs[i]) (by omega) (by simpa using h2) (by
        rw [List.take_succ_eq_append_getElem (by simp; omega), List.take_succ_eq_append_getElem (show i < xs.length by omega), List.take_set_of_le (Nat.le_refl _), h3]
        simp)
      simpa using this
  have h0 := key xs.length 0 (List.replicate xs.length 0) (by omega) (by simp) (by simp)
  refine Ev.congr (fun k => ?_) h0
  simp only [laws_toIntS.f, if_pos (show (0 : Int) ≤ (xs.length : Int) by omega), Int.toNat_natCast, if_pos hn]
  rfl

theorem laws_toResult.val (a : Bool) (b : Int) : laws_toResult.f a b = some (a, b) := rfl

theorem laws_toSession.val (a b : Int) (c : Bool) (d : Int) : laws_toSession.f a b c d = some (a, b, c, d) := rfl

theorem laws_toSessionS.ev (xs : List S99) (hn : xs.length ≤ 8796093022208) : Ev (fun k => laws_toSessionS.f k xs) (xs.map toS) := by
  have := map_loop (fun k ys i => laws_toSessionS.l0 k xs ys i) toS xs
    (fun k ys _ => by simp only [laws_toSessionS.l0, if_neg (show ¬ ((xs.length : Int) < (xs.length : Int)) by omega)])
    (fun i h ys k hy => by
      simp only [laws_toSessionS.l0, if_pos (show (i : Int) < (xs.length : Int) by omega), if_pos (show (0 : Int) ≤ (i : Int) by omega), if_pos (show (i : Int) < (ys.length : Int) by omega),
        laws_toSession.val, Option.bind_some, rdLS xs i h, Int.toNat_natCast, w64 (show -9223372036854775808 ≤ (i : Int) + 1 by omega) (by omega), toS])
    (List.replicate xs.length z58) (by simp)
  refine Ev.congr (fun k => ?_) this
  simp only [laws_toSessionS.f, if_pos (show (0 : Int) ≤ (xs.length : Int) by omega), Int.toNat_natCast, if_pos hn]

theorem laws_toMachine.ev (os : List Int) (xs : List S99) (ho : os.length ≤ 1048576) (hn : xs.length ≤ 1048576) : Ev (fun k => laws_toMachine.f k os xs) (os, xs.map toS) :=
  Ev.bind (laws_toIntS.ev os (by omega)) (Ev.bind (laws_toSessionS.ev xs (by omega)) (Ev.now _))

theorem spec_EqualServers.ev (xs ys : List Int) (hn : xs.length ≤ 9223372036854775806) : ∃ b, Ev (fun k => spec_EqualServers.f k xs ys) b ∧ (b = true ↔ xs = ys) := by
  by_cases hl : xs.length = ys.length
  · obtain ⟨b, hb, hq⟩ := eq_loop (fun k i => spec_EqualServers.l0 k xs ys i) xs ys hl
      (fun k => by simp only [spec_EqualServers.l0, if_neg (show ¬ ((xs.length : Int) < (xs.length : Int)) by omega)])
      (fun i h1 h2 => by
        by_cases h : xs[i] = ys[i]
        · exact .inl ⟨h, 0, fun k _ => by simp only [spec_EqualServers.l0, if_pos (show (i : Int) < (xs.length : Int) by omega), if_pos (show (0 : Int) ≤ (i : Int) by omega), if_pos (show (i : Int) < (ys.length : Int) by omega), rd_get xs i h1, rd_get ys i h2, if_pos h, w64 (show -9223372036854775808 ≤ (i : Int) + 1 by omega) (by omega)]⟩
        · exact .inr ⟨h, 0, fun k _ => by simp only [spec_EqualServers.l0, if_pos (show (i : Int) < (xs.length : Int) by omega), if_pos (show (0 : Int) ≤ (i : Int) by omega), if_pos (show (i : Int) < (ys.length : Int) by omega), rd_get xs i h1, rd_get ys i h2, if_neg h]⟩)
    refine ⟨b, ?_, hq⟩
    refine Ev.congr (fun k => ?_) hb
    simp only [spec_EqualServers.f, if_pos (show (xs.length : Int) = (ys.length : Int) by omega)]
  · refine ⟨false, ev_val (fun k => ?_), ?_⟩
    · simp only [spec_EqualServers.f, if_neg (show ¬ ((xs.length : Int) = (ys.length : Int)) by omega)]
    · constructor
      · intro h; cases h
      · intro h; subst h; exact absurd rfl hl

theorem ses_test' (x y : S58) : ((!(x.f0 == y.f0) || (!(x.f1 == y.f1) || ((!(x.f2.f0 == y.f2.f0) || (!(x.f2.f1 == y.f2.f1)))))) = true) ↔ ¬ (x.f0 = y.f0 ∧ x.f1 = y.f1 ∧ x.f2.f0 = y.f2.f0 ∧ x.f2.f1 = y.f2.f1) := by
  simp only [Bool.or_eq_true, Bool.not_eq_true', beq_eq_false_iff_ne, ne_eq]
  constructor
  · rintro (h | h | h | h) ⟨a, b, c, d⟩ <;> exact h (by assumption)
  · intro h
    by_cases a : x.f0 = y.f0
    · by_cases b : x.f1 = y.f1
      · by_cases c : x.f2.f0 = y.f2.f0
        · exact .inr (.inr (.inr fun d => h ⟨a, b, c, d⟩))
        · exact .inr (.inr (.inl c))
      · exact .inr (.inl b)
    · exact .inl a
theorem spec_EqualMachines.ev (os : List Int) (xs : List S58) (os' : List Int) (ys : List S58) (ho : os.length ≤ 9223372036854775806) (hn : xs.length ≤ 9223372036854775806) :
    ∃ b, Ev (fun k => spec_EqualMachines.f k os xs os' ys) b ∧ (b = true ↔ os = os' ∧ xs = ys) := by
  obtain ⟨b, hb, hq⟩ := spec_EqualServers.ev os os' ho
  have hno : Ev (fun k => spec_EqualMachines.j0 k true os xs os' ys) false := by
    refine ev_shift ?_
    simp only [spec_EqualMachines.j0, if_true]
    exact Ev.now _
  cases b with
  | false => exact ⟨false, Ev.bind hb (by simp only [Bool.false_eq_true, if_false]; exact hno), by simp only [Bool.false_eq_true, false_iff]; exact fun h => by simpa using hq.2 h.1⟩
  | true =>
    by_cases hl : xs.length = ys.length
    · obtain ⟨c, hc, hr⟩ := eq_loop (fun k i => spec_EqualMachines.l0 k i os xs os' ys) xs ys hl
        (fun k => by simp only [spec_EqualMachines.l0, if_neg (show ¬ ((xs.length : Int) < (xs.length : Int)) by omega)])
        (fun i h1 h2 => by
          by_cases h : xs[i] = ys[i]
          · exact .inl ⟨h, 0, fun k _ => by simp only [spec_EqualMachines.l0, if_pos (show (i : Int) < (xs.length : Int) by omega), if_pos (show (0 : Int) ≤ (i : Int) by omega), if_pos (show (i : Int) < (ys.length : Int) by omega), rdS xs i h1, rdS ys i h2, ses_test', if_neg (show ¬ ¬ (xs[i].f0 = ys[i].f0 ∧ xs[i].f1 = ys[i].f1 ∧ xs[i].f2.f0 = ys[i].f2.f0 ∧ xs[i].f2.f1 = ys[i].f2.f1) from fun h' => h' ((ses_eq _ _).1 h)), w64 (show -9223372036854775808 ≤ (i : Int) + 1 by omega) (by omega)]⟩
          · exact .inr ⟨h, 0, fun k _ => by simp only [spec_EqualMachines.l0, if_pos (show (i : Int) < (xs.length : Int) by omega), if_pos (show (0 : Int) ≤ (i : Int) by omega), if_pos (show (i : Int) < (ys.length : Int) by omega), rdS xs i h1, rdS ys i h2, ses_test', if_pos (show ¬ (xs[i].f0 = ys[i].f0 ∧ xs[i].f1 = ys[i].f1 ∧ xs[i].f2.f0 = ys[i].f2.f0 ∧ xs[i].f2.f1 = ys[i].f2.f1) from fun h' => h ((ses_eq _ _).2 h'))]⟩)
      refine ⟨c, Ev.bind hb ?_, hr.trans ⟨fun h => ⟨hq.1 rfl, h⟩, fun h => h.2⟩⟩
      simp only [if_true]
      refine ev_shift ?_
      simp only [spec_EqualMachines.j0, show (((xs.length : Int) != (ys.length : Int)) = true) = False by simp; omega, if_false]
      exact hc
    · refine ⟨false, Ev.bind hb ?_, by simp only [Bool.false_eq_true, false_iff]; exact fun h => hl (by rw [h.2])⟩
      simp only [if_true, show ((xs.length : Int) != (ys.length : Int)) = true by simp; omega]
      exact hno

theorem slices_Equal_int_int.ev (xs ys : List Int) (hn : xs.length ≤ 9223372036854775806) : ∃ b, Ev (fun k => slices_Equal_int_int.f k xs ys) b ∧ (b = true ↔ xs = ys) := by
  by_cases hl : xs.length = ys.length
  · obtain ⟨b, hb, hq⟩ := eq_loop (fun k i => slices_Equal_int_int.l0 k xs ys (xs.length : Int) i) xs ys hl
      (fun k => by simp only [slices_Equal_int_int.l0, if_neg (show ¬ ((xs.length : Int) < (xs.length : Int)) by omega)])
      (fun i h1 h2 => by
        by_cases h : xs[i] = ys[i]
        · exact .inl ⟨h, 0, fun k _ => by simp only [slices_Equal_int_int.l0, if_pos (show (i : Int) < (xs.length : Int) by omega), if_pos (show (0 : Int) ≤ (i : Int) by omega), if_pos (show (i : Int) < (ys.length : Int) by omega), rd_get xs i h1, rd_get ys i h2, if_pos h, w64 (show -9223372036854775808 ≤ (i : Int) + 1 by omega) (by omega)]⟩
        · exact .inr ⟨h, 0, fun k _ => by simp only [slices_Equal_int_int.l0, if_pos (show (i : Int) < (xs.length : Int) by omega), if_pos (show (0 : Int) ≤ (i : Int) by omega), if_pos (show (i : Int) < (ys.length : Int) by omega), rd_get xs i h1, rd_get ys i h2, if_neg h]⟩)
    refine ⟨b, ?_, hq⟩
    refine Ev.congr (fun k => ?_) hb
    simp only [slices_Equal_int_int.f, if_pos (show (xs.length : Int) = (ys.length : Int) by omega)]
  · refine ⟨false, ev_val (fun k => ?_), ?_⟩
    · simp only [slices_Equal_int_int.f, if_neg (show ¬ ((xs.length : Int) = (ys.length : Int)) by omega)]
    · constructor
      · intro h; cases h
      · intro h; subst h; exact absurd rfl hl

theorem ses_test (x y : S58) : ((!(x.f0 == y.f0) || (!(x.f1 == y.f1) || ((!(x.f2.f0 == y.f2.f0) || (!(x.f2.f1 == y.f2.f1)))))) = true) ↔ ¬ (x.f0 = y.f0 ∧ x.f1 = y.f1 ∧ x.f2.f0 = y.f2.f0 ∧ x.f2.f1 = y.f2.f1) := by
  simp only [Bool.or_eq_true, Bool.not_eq_true', beq_eq_false_iff_ne, ne_eq]
  constructor
  · rintro (h | h | h | h) ⟨a, b, c, d⟩ <;> exact h (by assumption)
  · intro h
    by_cases a : x.f0 = y.f0
    · by_cases b : x.f1 = y.f1
      · by_cases c : x.f2.f0 = y.f2.f0
        · exact .inr (.inr (.inr fun d => h ⟨a, b, c, d⟩))
        · exact .inr (.inr (.inl c))
      · exact .inr (.inl b)
    · exact .inl a
theorem slices_Equal_impl_Session_impl_Session.ev (xs ys : List S58) (hn : xs.length ≤ 9223372036854775806) : ∃ b, Ev (fun k => slices_Equal_impl_Session_impl_Session.f k xs ys) b ∧ (b = true ↔ xs = ys) := by
  by_cases hl : xs.length = ys.length
  · obtain ⟨b, hb, hq⟩ := eq_loop (fun k i => slices_Equal_impl_Session_impl_Session.l0 k xs ys (xs.length : Int) i) xs ys hl
      (fun k => by simp only [slices_Equal_impl_Session_impl_Session.l0, if_neg (show ¬ ((xs.length : Int) < (xs.length : Int)) by omega)])
      (fun i h1 h2 => by
        by_cases h : xs[i] = ys[i]
        · exact .inl ⟨h, 0, fun k _ => by simp only [slices_Equal_impl_Session_impl_Session.l0, if_pos (show (i : Int) < (xs.length : Int) by omega), if_pos (show (0 : Int) ≤ (i : Int) by omega), if_pos (show (i : Int) < (ys.length : Int) by omega), rdS xs i h1, rdS ys i h2, ses_test, if_neg (show ¬ ¬ (xs[i].f0 = ys[i].f0 ∧ xs[i].f1 = ys[i].f1 ∧ xs[i].f2.f0 = ys[i].f2.f0 ∧ xs[i].f2.f1 = ys[i].f2.f1) from fun h' => h' ((ses_eq _ _).1 h)), w64 (show -9223372036854775808 ≤ (i : Int) + 1 by omega) (by omega)]⟩
        · exact .inr ⟨h, 0, fun k _ => by simp only [slices_Equal_impl_Session_impl_Session.l0, if_pos (show (i : Int) < (xs.length : Int) by omega), if_pos (show (0 : Int) ≤ (i : Int) by omega), if_pos (show (i : Int) < (ys.length : Int) by omega), rdS xs i h1, rdS ys i h2, ses_test, if_pos (show ¬ (xs[i].f0 = ys[i].f0 ∧ xs[i].f1 = ys[i].f1 ∧ xs[i].f2.f0 = ys[i].f2.f0 ∧ xs[i].f2.f1 = ys[i].f2.f1) from fun h' => h ((ses_eq _ _).2 h'))]⟩)
    refine ⟨b, ?_, hq⟩
    refine Ev.congr (fun k => ?_) hb
    simp only [slices_Equal_impl_Session_impl_Session.f, if_pos (show (xs.length : Int) = (ys.length : Int) by omega)]
  · refine ⟨false, ev_val (fun k => ?_), ?_⟩
    · simp only [slices_Equal_impl_Session_impl_Session.f, if_neg (show ¬ ((xs.length : Int) = (ys.length : Int)) by omega)]
    · constructor
      · intro h; cases h
      · intro h; subst h; exact absurd rfl hl

theorem impl_EqualMachines.ev (os : List Int) (xs : List S58) (os' : List Int) (xs' : List S58) (ho : os.length ≤ 9223372036854775806) (hn : xs.length ≤ 9223372036854775806) :
    ∃ b, Ev (fun k => impl_EqualMachines.f k os xs os' xs') b ∧ (b = true ↔ os = os' ∧ xs = xs') := by
  obtain ⟨b, hb, hq⟩ := slices_Equal_int_int.ev os os' ho
  obtain ⟨c, hc, hr⟩ := slices_Equal_impl_Session_impl_Session.ev xs xs' hn
  cases b with
  | true => exact ⟨c, Ev.bind hb (by simp only [if_true]; exact Ev.bind hc (Ev.now _)), hr.trans ⟨fun h => ⟨hq.1 rfl, h⟩, fun h => h.2⟩⟩
  | false => exact ⟨false, Ev.bind hb (ev_val fun _ => by simp), by simp only [Bool.false_eq_true, false_iff]; exact fun h => by simpa using hq.2 h.1⟩

theorem FnExactEqualMachines : FnExactEqualMachinesPure := by
  intro x y h h'
  refine Ev.rounds (g := fun k => laws_FnExactEqualMachines.f k x.f0 x.f1 y.f0 y.f1) ?_
  obtain ⟨r, hr, hq⟩ := laws_szMachine.val x.f0 x.f1 1048576 h.1.1 h.2.1 (by omega) (by omega)
  simp only [laws_FnExactEqualMachines.f, hr, Option.bind_some]
  by_cases hneg : r < 0
  · simp only [if_pos hneg]; exact Ev.now _
  · obtain ⟨e1, e2, e3⟩ := hq hneg
    simp only [if_neg hneg]
    obtain ⟨r', hr', hq'⟩ := laws_szMachine.val y.f0 y.f1 r h'.1.1 h'.2.1 (by omega) (by omega)
    simp only [hr', Option.bind_some]
    by_cases hneg' : r' < 0
    · simp only [if_pos hneg']; exact Ev.now _
    · obtain ⟨e4, e5, e6⟩ := hq' hneg'
      simp only [if_neg hneg']
      have hT := laws_toMachine.ev x.f0 x.f1 (by omega) (by omega)
      have hU := laws_toMachine.ev y.f0 y.f1 (by omega) (by omega)
      have hl : (x.f1.map toS).length ≤ 1048576 := by simp; omega
      have hm : (y.f1.map toS).length ≤ 1048576 := by simp; omega
      obtain ⟨b, hb1, hq1⟩ := spec_EqualMachines.ev x.f0 (x.f1.map toS) y.f0 (y.f1.map toS) (by omega) (by omega)
      obtain ⟨c, hc1, hq2⟩ := impl_EqualMachines.ev x.f0 (x.f1.map toS) y.f0 (y.f1.map toS) (by omega) (by omega)
      obtain rfl : c = b := by rw [Bool.eq_iff_iff, hq1, hq2]
      refine Ev.bind hT (Ev.bind hU (Ev.bind hb1 (Ev.bind hT (Ev.bind hU (Ev.bind hc1 ?_)))))
      simp only [bne_self_eq_false, Bool.false_eq_true, if_false]
      refine Ev.bind hT (Ev.bind (laws_eqMachine.same _ _ (by omega) (by omega)) ?_)
      simp only [if_true]
      refine Ev.bind hU (Ev.bind (laws_eqMachine.same _ _ (by omega) (by omega)) ?_)
      exact ev_val (fun _ => by simp)

end Go.Proofs.Ytgannaafabhopaa.Pure
