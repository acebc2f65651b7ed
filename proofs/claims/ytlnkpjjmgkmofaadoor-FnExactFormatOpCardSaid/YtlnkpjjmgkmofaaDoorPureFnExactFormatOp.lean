/- For every operation the law FnExactFormatOp returns true; no conditions. -/
import Derived.Test.YtlnkpjjmgkmofaaDoorQFnExactFormatOp
import Derived.Test.YtlnkpjjmgkmofaaDoorCom
set_option linter.unusedVariables false
set_option linter.unusedSimpArgs false
namespace Go.Proofs.YtlnkpjjmgkmofaaDoor.Pure
open Go.RowKit Go.Proofs.YtlnkpjjmgkmofaaDoor.D Go.Proofs.YtlnkpjjmgkmofaaDoorW.PrintWords Go.Proofs.YtlnkpjjmgkmofaaDoorW.PrintLast
open Go.Proofs.YtlnkpjjmgkmofaaDoor.Opens
open Go.Proofs.YtlnkpjjmgkmofaaDoor.Com
open Go.Proofs.YtlnkpjjmgkmofaaDoor.Given

/-- Bytes as a string. -/
def str (l : List UInt8) : ByteArray := ⟨l.toArray⟩
theorem str_append (a b : List UInt8) : str a ++ str b = str (a ++ b) := by
  apply ByteArray.ext
  simp [str]
theorem str_size (l : List UInt8) : (str l).size = l.length := by simp [str, ByteArray.size]
theorem str_inj {a b : List UInt8} (h : str a = str b) : a = b := by
  have := congrArg (fun s => s.data.toList) h
  simpa [str] using this
theorem str_toList (l : List UInt8) : (str l).toList = l := by rw [toList_data]; simp [str]
theorem toList_inj' {a b : ByteArray} (h : a.toList = b.toList) : a = b := bytesOf_inj (bytesOf_congr h)
/-- The digits of a number, none for 0. -/
def digs (m : Nat) : List UInt8 := if m = 0 then [] else Lib.decDigits m
theorem digs_step (m : Nat) (h : 0 < m) : digs m = digs (m / 10) ++ [UInt8.ofNat (48 + m % 10)] := by
  unfold digs
  rw [if_neg (by omega), Lib.decDigits]
  by_cases h9 : m < 10
  · rw [dif_pos h9, if_pos (by omega), Nat.mod_eq_of_lt h9]; rfl
  · rw [dif_neg h9, if_neg (by omega)]
theorem tmod10 (x : Int) : (0 ≤ x → Int.tmod x 10 = ((x.natAbs % 10 : Nat) : Int) ∧ Int.tdiv x 10 = ((x.natAbs / 10 : Nat) : Int)) ∧ (x < 0 → Int.tmod x 10 = -((x.natAbs % 10 : Nat) : Int) ∧ Int.tdiv x 10 = -((x.natAbs / 10 : Nat) : Int)) := by
  constructor
  · intro h
    obtain ⟨n, rfl⟩ := Int.eq_ofNat_of_zero_le h
    exact ⟨rfl, rfl⟩
  · intro h
    obtain ⟨n, rfl⟩ := Int.eq_negSucc_of_lt_zero h
    exact ⟨rfl, rfl⟩
theorem strOfNums_digit (d : Nat) (h : d < 10) : strOfNums ([(wrap64 (48 + (d : Int))) % 256] : List Int) = str [UInt8.ofNat (48 + d)] := by
  rw [w64 (by omega) (by omega)]
  apply ByteArray.ext
  apply Array.ext'
  rw [strOfNums_data]
  have e : ((48 + (d : Int)) % 256).toNat = 48 + d := by omega
  simp [str, e]
theorem itoa_zero : Lib.itoa 0 = [48] := by unfold Lib.itoa Lib.decDigits; simp
theorem itoa_digs (a : Int) (h : a ≠ 0) : Lib.itoa a = (if a < 0 then [45] else []) ++ digs a.natAbs := by
  have hn : ¬ a.natAbs = 0 := by omega
  unfold Lib.itoa digs
  by_cases c : a < 0
  · rw [if_pos c, if_pos c, if_neg hn]; rfl
  · rw [if_neg c, if_neg c, if_neg hn, show a.toNat = a.natAbs by omega]; rfl
theorem digs_len : ∀ n m : Nat, m < 10 ^ n → (digs m).length ≤ n := by
  intro n
  induction n with
  | zero => intro m h; obtain rfl : m = 0 := by simpa using h
            simp [digs]
  | succ n ih =>
    intro m h
    by_cases h0 : m = 0
    · subst h0; simp [digs]
    · rw [digs_step m (by omega), List.length_append]
      have := ih (m / 10) (by rw [Nat.pow_succ] at h; omega)
      simp only [List.length_cons, List.length_nil]
      omega
theorem itoa_len (a : Int) (h0 : -9223372036854775808 ≤ a) (h1 : a ≤ 9223372036854775807) : (Lib.itoa a).length ≤ 20 := by
  by_cases h : a = 0
  · subst h; rw [itoa_zero]; simp
  · rw [itoa_digs a h, List.length_append]
    have h2 := digs_len 19 a.natAbs (by omega)
    have h3 : (if a < 0 then ([45] : List UInt8) else []).length ≤ 1 := by split <;> simp
    omega
theorem str_lit (l : List UInt8) : (⟨l.toArray⟩ : ByteArray) = str l := rfl

theorem spec_FormatInt.l0ev (neg : Bool) : ∀ s : Int × List UInt8, (s.2.length + s.1.natAbs ≤ 9223372036854775808 ∧ (s.2.length = 0 ∨ s.2.length + s.1.natAbs ≤ 9223372036854775800)) →
    Ev (fun k => spec_FormatInt.l0 k s.1 (str s.2) neg) (str ((if neg then [45] else []) ++ digs s.1.natAbs ++ s.2)) := by
  refine loop_ev (fun k (s : Int × List UInt8) => spec_FormatInt.l0 k s.1 (str s.2) neg) _ (fun s => s.1.natAbs) (fun s => str ((if neg then [45] else []) ++ digs s.1.natAbs ++ s.2)) ?_
  rintro ⟨x, l⟩ ⟨h1, h2⟩
  simp only at h1 h2 ⊢
  by_cases hx : x = 0
  · subst hx
    refine .inl (ev_shift ?_)
    simp only [spec_FormatInt.l0, if_true, str_size]
    cases neg with
    | false => exact ev_val fun _ => by simp [digs]
    | true =>
      simp only [if_true, if_pos (show 1 + l.length ≤ 9223372036854775807 by omega)]
      exact ev_val fun _ => by rw [show (⟨#[45]⟩ : ByteArray) = str [45] from rfl, str_append]; simp [digs]
  · refine .inr ⟨(Int.tdiv x 10, UInt8.ofNat (48 + x.natAbs % 10) :: l), ?_, ?_, ?_, ?_⟩
    · have ht := tmod10 x
      simp only [List.length_cons]
      have : (Int.tdiv x 10).natAbs = x.natAbs / 10 := by rcases (show x < 0 ∨ 0 ≤ x by omega) with c | c; (have := (ht.2 c).2; omega); (have := (ht.1 c).2; omega)
      rw [this]
      omega
    · have ht := tmod10 x
      have : (Int.tdiv x 10).natAbs = x.natAbs / 10 := by rcases (show x < 0 ∨ 0 ≤ x by omega) with c | c; (have := (ht.2 c).2; omega); (have := (ht.1 c).2; omega)
      simp only [this]
      omega
    · have ht := tmod10 x
      have : (Int.tdiv x 10).natAbs = x.natAbs / 10 := by rcases (show x < 0 ∨ 0 ≤ x by omega) with c | c; (have := (ht.2 c).2; omega); (have := (ht.1 c).2; omega)
      simp only [this]
      rw [digs_step x.natAbs (by omega)]
      simp
    · intro r hr
      refine ev_shift ?_
      have ht := tmod10 x
      have e2 : wrap64 (Int.tdiv x 10) = Int.tdiv x 10 := w64 (by rcases (show x < 0 ∨ 0 ≤ x by omega) with c | c; (have := (ht.2 c).2; omega); (have := (ht.1 c).2; omega)) (by rcases (show x < 0 ∨ 0 ≤ x by omega) with c | c; (have := (ht.2 c).2; omega); (have := (ht.1 c).2; omega))
      have e3 : ∀ d : Nat, d < 10 → (strOfNums ([(wrap64 (48 + (d : Int))) % 256] : List Int)) ++ str l = str (UInt8.ofNat (48 + d) :: l) := fun d hd => by rw [strOfNums_digit d hd, str_append]; rfl
      have e4 : ∀ d : Nat, d < 10 → (strOfNums ([(wrap64 (48 + (d : Int))) % 256] : List Int)).size + (str l).size ≤ 9223372036854775807 := fun d hd => by rw [strOfNums_digit d hd, str_size, str_size]; simp only [List.length_cons, List.length_nil]; omega
      have hd : x.natAbs % 10 < 10 := by omega
      simp only [spec_FormatInt.l0, if_neg hx, e2]
      by_cases c : Int.tmod x 10 < 0
      · have hm : Int.tmod x 10 = -((x.natAbs % 10 : Nat) : Int) := by rcases (show x < 0 ∨ 0 ≤ x by omega) with c' | c'; exact (ht.2 c').1; (have := (ht.1 c').1; omega)
        have e1 : wrap64 (-(Int.tmod x 10)) = ((x.natAbs % 10 : Nat) : Int) := by rw [hm, w64 (by omega) (by omega)]; omega
        simp only [if_pos c, e1, Option.bind_some, if_pos (e4 _ hd), e3 _ hd]
        exact hr
      · have hm : Int.tmod x 10 = ((x.natAbs % 10 : Nat) : Int) := by rcases (show x < 0 ∨ 0 ≤ x by omega) with c' | c'; (have := (ht.2 c').1; omega); exact (ht.1 c').1
        rw [hm] at c
        simp only [hm, if_neg c, Option.bind_some, if_pos (e4 _ hd), e3 _ hd]
        exact hr
theorem spec_FormatInt.ev (a : Int) (h0 : -9223372036854775808 ≤ a) (h1 : a ≤ 9223372036854775807) : Ev (fun k => spec_FormatInt.f k a) (str (Lib.itoa a)) := by
  by_cases ha : a = 0
  · subst ha
    simp only [spec_FormatInt.f, if_true, itoa_zero]
    exact Ev.now _
  · simp only [spec_FormatInt.f, if_neg ha]
    have h := spec_FormatInt.l0ev (decide (a < 0)) (a, []) ⟨by simp only [List.length_nil]; omega, .inl rfl⟩
    refine ev_eq h ?_
    rw [itoa_digs a ha]
    simp only [List.append_nil, decide_eq_true_eq]

theorem spec_l1In.val (a b c : Int) : spec_l1In.f a b c = some (decide (b ≤ a ∧ a ≤ c)) := by
  unfold spec_l1In.f
  by_cases h : b ≤ a <;> simp [h]

/-- Is this an operation? -/
def vop (a b c d e f : Int) : Bool := decide ((0 ≤ a ∧ a ≤ 2) ∧ (1 ≤ b ∧ b ≤ 99) ∧ (0 ≤ d ∧ d ≤ 2) ∧ (0 ≤ f ∧ f ≤ 9) ∧ ((c = 1 ∧ e = 0) ∨ (c = 2 ∧ 0 ≤ e ∧ e ≤ 9)))

theorem spec_IsValidOp.val (a b c d e f : Int) : spec_IsValidOp.f a b c d e f = some (vop a b c d e f) := by
  unfold spec_IsValidOp.f vop
  simp only [spec_l1In.val, Option.bind_some]
  by_cases h1 : 0 ≤ a ∧ a ≤ 2
  · by_cases h2 : 1 ≤ b ∧ b ≤ 99
    · by_cases h3 : 0 ≤ d ∧ d ≤ 2
      · by_cases h4 : 0 ≤ f ∧ f ≤ 9
        · simp only [decide_eq_true h1, decide_eq_true h2, decide_eq_true h3, decide_eq_true h4, if_true]
          by_cases hc : c = 1
          · by_cases he : e = 0
            · simp [hc, he, h1, h2, h3, h4]
            · simp [hc, he, h1, h2, h3, h4]
          · by_cases hc2 : c = 2
            · simp [hc2, h1, h2, h3, h4]
            · simp [hc, hc2]
        · simp only [decide_eq_true h1, decide_eq_true h2, decide_eq_true h3, decide_eq_false h4, if_true, Bool.false_eq_true, if_false]
          simp; intros; omega
      · simp only [decide_eq_true h1, decide_eq_true h2, decide_eq_false h3, if_true, Bool.false_eq_true, if_false]
        simp; intros; omega
    · simp only [decide_eq_true h1, decide_eq_false h2, if_true, Bool.false_eq_true, if_false]
      simp; intros; omega
  · simp only [decide_eq_false h1, Bool.false_eq_true, if_false]
    simp; intros; omega

/-- An operation's text. -/
def opL (a b c d e f : Int) : List UInt8 := Lib.itoa a ++ [46] ++ Lib.itoa b ++ (if c = 2 then [32, 115, 119, 97, 112, 32] ++ Lib.itoa d ++ [32] ++ Lib.itoa e ++ [32] ++ Lib.itoa f else [32, 119, 114, 105, 116, 101, 32] ++ Lib.itoa d ++ [32] ++ Lib.itoa f)
def fopL (a b c d e f : Int) : List UInt8 := if vop a b c d e f = true then opL a b c d e f else []
theorem spec_FormatOp.ev (a b c d e f : Int) : Ev (fun k => spec_FormatOp.f k a b c d e f) (str (fopL a b c d e f)) := by
  cases hv : vop a b c d e f with
  | false => exact ev_val fun k => by simp only [spec_FormatOp.f, spec_IsValidOp.val, hv, Option.bind_some, Bool.false_eq_true, if_false, fopL]; rfl
  | true =>
    have hq := hv
    simp only [vop, decide_eq_true_eq] at hq
    obtain ⟨K0, h0⟩ := spec_FormatInt.ev a (by omega) (by omega)
    obtain ⟨K1, h1⟩ := spec_FormatInt.ev b (by omega) (by omega)
    obtain ⟨K3, h3⟩ := spec_FormatInt.ev d (by omega) (by omega)
    obtain ⟨K4, h4⟩ := spec_FormatInt.ev e (by omega) (by omega)
    obtain ⟨K5, h5⟩ := spec_FormatInt.ev f (by omega) (by omega)
    have l0 := itoa_len a (by omega) (by omega)
    have l1 := itoa_len b (by omega) (by omega)
    have l3 := itoa_len d (by omega) (by omega)
    have l4 := itoa_len e (by omega) (by omega)
    have l5 := itoa_len f (by omega) (by omega)
    refine ⟨K0 + K1 + K3 + K4 + K5, fun k hk => ?_⟩
    rcases (show (c = 1 ∧ ¬ c = 2) ∨ (c = 2 ∧ ¬ c = 1) by omega) with ⟨hc, hn⟩ | ⟨hc, hn⟩
    · simp only [spec_FormatOp.f, spec_IsValidOp.val, hv, Option.bind_some, if_true, h0 k (by omega), h1 k (by omega), h3 k (by omega), h5 k (by omega), if_pos hc, str_lit, str_append, str_size, List.length_append, List.length_cons, List.length_nil]
      simp (disch := omega) only [if_pos]
      simp only [fopL, hv, if_true, opL, if_neg hn, List.append_assoc, List.cons_append, List.nil_append]
    · simp only [spec_FormatOp.f, spec_IsValidOp.val, hv, Option.bind_some, if_true, h0 k (by omega), h1 k (by omega), h3 k (by omega), h4 k (by omega), h5 k (by omega), if_neg hn, str_lit, str_append, str_size, List.length_append, List.length_cons, List.length_nil]
      simp (disch := omega) only [if_pos]
      simp only [fopL, hv, if_true, opL, if_pos hc, List.append_assoc, List.cons_append, List.nil_append]

theorem laws_toOp.val (a b c d e f : Int) : laws_toOp.f a b c d e f = some (a, b, c, d, e, f) := rfl

theorem impl_FormatInt.val (a : Int) (h0 : -9223372036854775808 ≤ a) (h1 : a ≤ 9223372036854775807) : impl_FormatInt.f a = some (str (Lib.itoa a)) := by
  simp only [impl_FormatInt.f, strconv_Itoa.f, if_pos (show -9223372036854775808 ≤ a ∧ a ≤ 9223372036854775807 from ⟨h0, h1⟩), Option.bind_some]
  rfl

theorem impl_within.val (a b c : Int) : impl_within.f a b c = some (decide (b ≤ a ∧ a ≤ c)) := by
  unfold impl_within.f
  by_cases h : b ≤ a <;> simp [h]

theorem impl_IsValidOp.val (a b c d e f : Int) : impl_IsValidOp.f a b c d e f = some (vop a b c d e f) := by
  unfold impl_IsValidOp.f vop
  simp only [impl_within.val, Option.bind_some]
  by_cases h1 : 0 ≤ a ∧ a ≤ 2
  · by_cases h2 : 1 ≤ b ∧ b ≤ 99
    · by_cases h3 : 0 ≤ d ∧ d ≤ 2
      · by_cases h4 : 0 ≤ f ∧ f ≤ 9
        · simp only [decide_eq_true h1, decide_eq_true h2, decide_eq_true h3, decide_eq_true h4, if_true]
          by_cases hc : c = 1
          · by_cases he : e = 0
            · simp [hc, he, h1, h2, h3, h4]
            · simp [hc, he, h1, h2, h3, h4]
          · by_cases hc2 : c = 2
            · simp [hc2, h1, h2, h3, h4]
            · simp [hc, hc2]
        · simp only [decide_eq_true h1, decide_eq_true h2, decide_eq_true h3, decide_eq_false h4, if_true, Bool.false_eq_true, if_false]
          simp; intros; omega
      · simp only [decide_eq_true h1, decide_eq_true h2, decide_eq_false h3, if_true, Bool.false_eq_true, if_false]
        simp; intros; omega
    · simp only [decide_eq_true h1, decide_eq_false h2, if_true, Bool.false_eq_true, if_false]
      simp; intros; omega
  · simp only [decide_eq_false h1, Bool.false_eq_true, if_false]
    simp; intros; omega

theorem impl_FormatOp.val (a b c d e f : Int) : impl_FormatOp.f a b c d e f = some (str (fopL a b c d e f)) := by
  cases hv : vop a b c d e f with
  | false => simp only [impl_FormatOp.f, impl_IsValidOp.val, hv, Option.bind_some, Bool.false_eq_true, if_false, fopL]; rfl
  | true =>
    have hq := hv
    simp only [vop, decide_eq_true_eq] at hq
    have h0 := impl_FormatInt.val a (by omega) (by omega)
    have h1 := impl_FormatInt.val b (by omega) (by omega)
    have h3 := impl_FormatInt.val d (by omega) (by omega)
    have h4 := impl_FormatInt.val e (by omega) (by omega)
    have h5 := impl_FormatInt.val f (by omega) (by omega)
    have l0 := itoa_len a (by omega) (by omega)
    have l1 := itoa_len b (by omega) (by omega)
    have l3 := itoa_len d (by omega) (by omega)
    have l4 := itoa_len e (by omega) (by omega)
    have l5 := itoa_len f (by omega) (by omega)
    rcases (show (c = 1 ∧ ¬ c = 2) ∨ (c = 2 ∧ ¬ c = 1) by omega) with ⟨hc, hn⟩ | ⟨hc, hn⟩
    · simp only [impl_FormatOp.f, impl_IsValidOp.val, hv, Option.bind_some, if_true, h0, h1, h3, h5, if_neg hn, str_lit, str_append, str_size, List.length_append, List.length_cons, List.length_nil]
      simp (disch := omega) only [if_pos]
      simp only [fopL, hv, if_true, opL, if_neg hn, List.append_assoc, List.cons_append, List.nil_append]
    · simp only [impl_FormatOp.f, impl_IsValidOp.val, hv, Option.bind_some, if_true, h0, h1, h3, h4, h5, if_pos hc, str_lit, str_append, str_size, List.length_append, List.length_cons, List.length_nil]
      simp (disch := omega) only [if_pos]
      simp only [fopL, hv, if_true, opL, if_pos hc, List.append_assoc, List.cons_append, List.nil_append]

theorem FnExactFormatOp : FnExactFormatOpPure := by
  intro x hx
  refine Ev.rounds (g := fun k => laws_FnExactFormatOp.f k x.f0 x.f1 x.f2 x.f3 x.f4 x.f5) ?_
  simp only [laws_FnExactFormatOp.f, laws_toOp.f, impl_FormatOp.val, Option.bind_some]
  refine Ev.bind (spec_FormatOp.ev _ _ _ _ _ _) ?_
  exact ev_val fun _ => by simp

end Go.Proofs.YtlnkpjjmgkmofaaDoor.Pure
