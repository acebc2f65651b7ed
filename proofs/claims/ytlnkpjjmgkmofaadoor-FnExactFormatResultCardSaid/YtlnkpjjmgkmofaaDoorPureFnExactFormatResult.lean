/- For every result the law FnExactFormatResult returns true; no conditions. -/
import Derived.Test.YtlnkpjjmgkmofaaDoorQFnExactFormatResult
import Derived.Test.YtlnkpjjmgkmofaaDoorCom
set_option linter.unusedVariables false
set_option linter.unusedSimpArgs false
namespace Go.Proofs.YtlnkpjjmgkmofaaDoor.Pure
open Go.RowKit Go.Proofs.YtlnkpjjmgkmofaaDoor.B Go.Proofs.YtlnkpjjmgkmofaaDoorW.PrintWords Go.Proofs.YtlnkpjjmgkmofaaDoorW.PrintLast
open Go.Proofs.YtlnkpjjmgkmofaaDoor.Opens
open Go.Proofs.YtlnkpjjmgkmofaaDoor.Com
open Go.Proofs.YtlnkpjjmgkmofaaDoor.Given

/-- Bytes as a string. -/
def str (l : List UInt8) : ByteArray := ⟨l.toArray⟩
theorem str_append (a b : List UInt8) : str a ++ str b = str (a ++ b) := by
  apply ByteArray.ext
  simp [str]
theorem str_size (l : List UInt8) : (str l).size = l.length := by simp [str, ByteArray.size]
theorem str_inj {a b : List UInt8} (h : str a = str b) : a = b := by
  have := congrArg (fun s => s.data.toList) h
  simpa [str] using this
theorem str_toList (l : List UInt8) : (str l).toList = l := by rw [toList_data]; simp [str]
theorem toList_inj' {a b : ByteArray} (h : a.toList = b.toList) : a = b := bytesOf_inj (bytesOf_congr h)
/-- The digits of a number, none for 0. -/
def digs (m : Nat) : List UInt8 := if m = 0 then [] else Lib.decDigits m
theorem digs_step (m : Nat) (h : 0 < m) : digs m = digs (m / 10) ++ [UInt8.ofNat (48 + m % 10)] := by
  unfold digs
  rw [if_neg (by omega), Lib.decDigits]
  by_cases h9 : m < 10
  · rw [dif_pos h9, if_pos (by omega), Nat.mod_eq_of_lt h9]; rfl
  · rw [dif_neg h9, if_neg (by omega)]
theorem tmod10 (x : Int) : (0 ≤ x → Int.tmod x 10 = ((x.natAbs % 10 : Nat) : Int) ∧ Int.tdiv x 10 = ((x.natAbs / 10 : Nat) : Int)) ∧ (x < 0 → Int.tmod x 10 = -((x.natAbs % 10 : Nat) : Int) ∧ Int.tdiv x 10 = -((x.natAbs / 10 : Nat) : Int)) := by
  constructor
  · intro h
    obtain ⟨n, rfl⟩ := Int.eq_ofNat_of_zero_le h
    exact ⟨rfl, rfl⟩
  · intro h
    obtain ⟨n, rfl⟩ := Int.eq_negSucc_of_lt_zero h
    exact ⟨rfl, rfl⟩
theorem strOfNums_digit (d : Nat) (h : d < 10) : strOfNums ([(wrap64 (48 + (d : Int))) % 256] : List Int) = str [UInt8.ofNat (48 + d)] := by
  rw [w64 (by omega) (by omega)]
  apply ByteArray.ext
  apply Array.ext'
  rw [strOfNums_data]
  have e : ((48 + (d : Int)) % 256).toNat = 48 + d := by omega
  simp [str, e]
theorem itoa_zero : Lib.itoa 0 = [48] := by unfold Lib.itoa Lib.decDigits; simp
theorem itoa_digs (a : Int) (h : a ≠ 0) : Lib.itoa a = (if a < 0 then [45] else []) ++ digs a.natAbs := by
  have hn : ¬ a.natAbs = 0 := by omega
  unfold Lib.itoa digs
  by_cases c : a < 0
  · rw [if_pos c, if_pos c, if_neg hn]; rfl
  · rw [if_neg c, if_neg c, if_neg hn, show a.toNat = a.natAbs by omega]; rfl
theorem digs_len : ∀ n m : Nat, m < 10 ^ n → (digs m).length ≤ n := by
  intro n
  induction n with
  | zero => intro m h; obtain rfl : m = 0 := by simpa using h
            simp [digs]
  | succ n ih =>
    intro m h
    by_cases h0 : m = 0
    · subst h0; simp [digs]
    · rw [digs_step m (by omega), List.length_append]
      have := ih (m / 10) (by rw [Nat.pow_succ] at h; omega)
      simp only [List.length_cons, List.length_nil]
      omega
theorem itoa_len (a : Int) (h0 : -9223372036854775808 ≤ a) (h1 : a ≤ 9223372036854775807) : (Lib.itoa a).length ≤ 20 := by
  by_cases h : a = 0
  · subst h; rw [itoa_zero]; simp
  · rw [itoa_digs a h, List.length_append]
    have h2 := digs_len 19 a.natAbs (by omega)
    have h3 : (if a < 0 then ([45] : List UInt8) else []).length ≤ 1 := by split <;> simp
    omega
theorem str_lit (l : List UInt8) : (⟨l.toArray⟩ : ByteArray) = str l := rfl

theorem spec_FormatInt.l0ev (neg : Bool) : ∀ s : Int × List UInt8, (s.2.length + s.1.natAbs ≤ 9223372036854775808 ∧ (s.2.length = 0 ∨ s.2.length + s.1.natAbs ≤ 9223372036854775800)) →
    Ev (fun k => spec_FormatInt.l0 k s.1 (str s.2) neg) (str ((if neg then [45] else []) ++ digs s.1.natAbs ++ s.2)) := by
  refine loop_ev (fun k (s : Int × List UInt8) => spec_FormatInt.l0 k s.1 (str s.2) neg) _ (fun s => s.1.natAbs) (fun s => str ((if neg then [45] else []) ++ digs s.1.natAbs ++ s.2)) ?_
  rintro ⟨x, l⟩ ⟨h1, h2⟩
  simp only at h1 h2 ⊢
  by_cases hx : x = 0
  · subst hx
    refine .inl (ev_shift ?_)
    simp only [spec_FormatInt.l0, if_true, str_size]
    cases neg with
    | false => exact ev_val fun _ => by simp [digs]
    | true =>
      simp only [if_true, if_pos (show 1 + l.length ≤ 9223372036854775807 by omega)]
      exact ev_val fun _ => by rw [show (⟨#[45]⟩ : ByteArray) = str [45] from rfl, str_append]; simp [digs]
  · refine .inr ⟨(Int.tdiv x 10, UInt8.ofNat (48 + x.natAbs % 10) :: l), ?_, ?_, ?_, ?_⟩
    · have ht := tmod10 x
      simp only [List.length_cons]
      have : (Int.tdiv x 10).natAbs = x.natAbs / 10 := by rcases (show x < 0 ∨ 0 ≤ x by omega) with c | c; (have := (ht.2 c).2; omega); (have := (ht.1 c).2; omega)
      rw [this]
      omega
    · have ht := tmod10 x
      have : (Int.tdiv x 10).natAbs = x.natAbs / 10 := by rcases (show x < 0 ∨ 0 ≤ x by omega) with c | c; (have := (ht.2 c).2; omega); (have := (ht.1 c).2; omega)
      simp only [this]
      omega
    · have ht := tmod10 x
      have : (Int.tdiv x 10).natAbs = x.natAbs / 10 := by rcases (show x < 0 ∨ 0 ≤ x by omega) with c | c; (have := (ht.2 c).2; omega); (have := (ht.1 c).2; omega)
      simp only [this]
      rw [digs_step x.natAbs (by omega)]
      simp
    · intro r hr
      refine ev_shift ?_
      have ht := tmod10 x
      have e2 : wrap64 (Int.tdiv x 10) = Int.tdiv x 10 := w64 (by rcases (show x < 0 ∨ 0 ≤ x by omega) with c | c; (have := (ht.2 c).2; omega); (have := (ht.1 c).2; omega)) (by rcases (show x < 0 ∨ 0 ≤ x by omega) with c | c; (have := (ht.2 c).2; omega); (have := (ht.1 c).2; omega))
      have e3 : ∀ d : Nat, d < 10 → (strOfNums ([(wrap64 (48 + (d : Int))) % 256] : List Int)) ++ str l = str (UInt8.ofNat (48 + d) :: l) := fun d hd => by rw [strOfNums_digit d hd, str_append]; rfl
      have e4 : ∀ d : Nat, d < 10 → (strOfNums ([(wrap64 (48 + (d : Int))) % 256] : List Int)).size + (str l).size ≤ 9223372036854775807 := fun d hd => by rw [strOfNums_digit d hd, str_size, str_size]; simp only [List.length_cons, List.length_nil]; omega
      have hd : x.natAbs % 10 < 10 := by omega
      simp only [spec_FormatInt.l0, if_neg hx, e2]
      by_cases c : Int.tmod x 10 < 0
      · have hm : Int.tmod x 10 = -((x.natAbs % 10 : Nat) : Int) := by rcases (show x < 0 ∨ 0 ≤ x by omega) with c' | c'; exact (ht.2 c').1; (have := (ht.1 c').1; omega)
        have e1 : wrap64 (-(Int.tmod x 10)) = ((x.natAbs % 10 : Nat) : Int) := by rw [hm, w64 (by omega) (by omega)]; omega
        simp only [if_pos c, e1, Option.bind_some, if_pos (e4 _ hd), e3 _ hd]
        exact hr
      · have hm : Int.tmod x 10 = ((x.natAbs % 10 : Nat) : Int) := by rcases (show x < 0 ∨ 0 ≤ x by omega) with c' | c'; (have := (ht.2 c').1; omega); exact (ht.1 c').1
        rw [hm] at c
        simp only [hm, if_neg c, Option.bind_some, if_pos (e4 _ hd), e3 _ hd]
        exact hr
theorem spec_FormatInt.ev (a : Int) (h0 : -9223372036854775808 ≤ a) (h1 : a ≤ 9223372036854775807) : Ev (fun k => spec_FormatInt.f k a) (str (Lib.itoa a)) := by
  by_cases ha : a = 0
  · subst ha
    simp only [spec_FormatInt.f, if_true, itoa_zero]
    exact Ev.now _
  · simp only [spec_FormatInt.f, if_neg ha]
    have h := spec_FormatInt.l0ev (decide (a < 0)) (a, []) ⟨by simp only [List.length_nil]; omega, .inl rfl⟩
    refine ev_eq h ?_
    rw [itoa_digs a ha]
    simp only [List.append_nil, decide_eq_true_eq]

theorem spec_l1In.val (a b c : Int) : spec_l1In.f a b c = some (decide (b ≤ a ∧ a ≤ c)) := by
  unfold spec_l1In.f
  by_cases h : b ≤ a <;> simp [h]

/-- A result's text. -/
def resL (b : Bool) (a : Int) : List UInt8 := if 0 ≤ a ∧ a ≤ 9 then (if b = true then [100, 111, 110, 101, 32] else [107, 101, 112, 116, 32]) ++ Lib.itoa a else []
theorem spec_FormatResult.ev (b : Bool) (a : Int) : Ev (fun k => spec_FormatResult.f k b a) (str (resL b a)) := by
  by_cases h : 0 ≤ a ∧ a ≤ 9
  · obtain ⟨K, hK⟩ := spec_FormatInt.ev a (by omega) (by omega)
    have hl := itoa_len a (by omega) (by omega)
    refine ⟨K, fun k hk => ?_⟩
    simp only [spec_FormatResult.f, spec_l1In.val, Option.bind_some, decide_eq_true h, if_true, hK k hk, str_lit, str_append, str_size, if_pos (show 5 + (Lib.itoa a).length ≤ 9223372036854775807 by omega), resL, if_pos h]
    cases b <;> simp
  · simp only [spec_FormatResult.f, spec_l1In.val, Option.bind_some, decide_eq_false h, Bool.false_eq_true, if_false, resL, if_neg h]
    exact Ev.now _

theorem laws_toResult.val (a : Bool) (b : Int) : laws_toResult.f a b = some (a, b) := rfl

theorem impl_FormatInt.val (a : Int) (h0 : -9223372036854775808 ≤ a) (h1 : a ≤ 9223372036854775807) : impl_FormatInt.f a = some (str (Lib.itoa a)) := by
  simp only [impl_FormatInt.f, strconv_Itoa.f, if_pos (show -9223372036854775808 ≤ a ∧ a ≤ 9223372036854775807 from ⟨h0, h1⟩), Option.bind_some]
  rfl

theorem impl_within.val (a b c : Int) : impl_within.f a b c = some (decide (b ≤ a ∧ a ≤ c)) := by
  unfold impl_within.f
  by_cases h : b ≤ a <;> simp [h]

theorem impl_FormatResult.ev (b : Bool) (a : Int) : Ev (fun k => impl_FormatResult.f k b a) (str (resL b a)) := by
  by_cases h : 0 ≤ a ∧ a ≤ 9
  · have hl := itoa_len a (by omega) (by omega)
    simp only [impl_FormatResult.f, impl_within.val, Option.bind_some, decide_eq_true h, if_true, resL, if_pos h]
    cases b with
    | true =>
      refine ev_shift (ev_val fun k => ?_)
      simp only [impl_FormatResult.j0, if_true, impl_FormatInt.val a (show -9223372036854775808 ≤ a by omega) (show a ≤ 9223372036854775807 by omega), Option.bind_some, str_lit, str_append, str_size, List.length_cons, List.length_nil]
      rw [if_pos (by omega)]
    | false =>
      simp only [Bool.false_eq_true, if_false]
      refine ev_shift (ev_val fun k => ?_)
      simp only [impl_FormatResult.j0, impl_FormatInt.val a (show -9223372036854775808 ≤ a by omega) (show a ≤ 9223372036854775807 by omega), Option.bind_some, str_lit, str_append, str_size, List.length_cons, List.length_nil]
      rw [if_pos (by omega)]
  · simp only [impl_FormatResult.f, impl_within.val, Option.bind_some, decide_eq_false h, Bool.false_eq_true, if_false, resL, if_neg h]
    exact Ev.now _

theorem FnExactFormatResult : FnExactFormatResultPure := by
  intro x hx
  refine Ev.rounds (g := fun k => laws_FnExactFormatResult.f k x.f0 x.f1) ?_
  simp only [laws_FnExactFormatResult.f, laws_toResult.f, Option.bind_some]
  refine Ev.bind (spec_FormatResult.ev _ _) (Ev.bind (impl_FormatResult.ev _ _) ?_)
  exact ev_val fun _ => by simp

end Go.Proofs.YtlnkpjjmgkmofaaDoor.Pure
