/- For every list the law FnExactFormatServers returns true; no conditions. -/
import Derived.Test.YtlnkpjjmgkmofaaDoorQFnExactFormatServers
import Derived.Test.YtlnkpjjmgkmofaaDoorCom
set_option linter.unusedVariables false
set_option linter.unusedSimpArgs false
namespace Go.Proofs.YtlnkpjjmgkmofaaDoor.Pure
open Go.RowKit Go.Proofs.YtlnkpjjmgkmofaaDoor.E Go.Proofs.YtlnkpjjmgkmofaaDoorW.PrintWords Go.Proofs.YtlnkpjjmgkmofaaDoorW.PrintLast
open Go.Proofs.YtlnkpjjmgkmofaaDoor.Opens
open Go.Proofs.YtlnkpjjmgkmofaaDoor.Com
open Go.Proofs.YtlnkpjjmgkmofaaDoor.Given

/-- Bytes as a string. -/
def str (l : List UInt8) : ByteArray := ⟨l.toArray⟩
theorem str_append (a b : List UInt8) : str a ++ str b = str (a ++ b) := by
  apply ByteArray.ext
  simp [str]
theorem str_size (l : List UInt8) : (str l).size = l.length := by simp [str, ByteArray.size]
theorem str_inj {a b : List UInt8} (h : str a = str b) : a = b := by
  have := congrArg (fun s => s.data.toList) h
  simpa [str] using this
theorem str_toList (l : List UInt8) : (str l).toList = l := by rw [toList_data]; simp [str]
theorem toList_inj' {a b : ByteArray} (h : a.toList = b.toList) : a = b := bytesOf_inj (bytesOf_congr h)
/-- The digits of a number, none for 0. -/
def digs (m : Nat) : List UInt8 := if m = 0 then [] else Lib.decDigits m
theorem digs_step (m : Nat) (h : 0 < m) : digs m = digs (m / 10) ++ [UInt8.ofNat (48 + m % 10)] := by
  unfold digs
  rw [if_neg (by omega), Lib.decDigits]
  by_cases h9 : m < 10
  · rw [dif_pos h9, if_pos (by omega), Nat.mod_eq_of_lt h9]; rfl
  · rw [dif_neg h9, if_neg (by omega)]
theorem tmod10 (x : Int) : (0 ≤ x → Int.tmod x 10 = ((x.natAbs % 10 : Nat) : Int) ∧ Int.tdiv x 10 = ((x.natAbs / 10 : Nat) : Int)) ∧ (x < 0 → Int.tmod x 10 = -((x.natAbs % 10 : Nat) : Int) ∧ Int.tdiv x 10 = -((x.natAbs / 10 : Nat) : Int)) := by
  constructor
  · intro h
    obtain ⟨n, rfl⟩ := Int.eq_ofNat_of_zero_le h
    exact ⟨rfl, rfl⟩
  · intro h
    obtain ⟨n, rfl⟩ := Int.eq_negSucc_of_lt_zero h
    exact ⟨rfl, rfl⟩
theorem strOfNums_digit (d : Nat) (h : d < 10) : strOfNums ([(wrap64 (48 + (d : Int))) % 256] : List Int) = str [UInt8.ofNat (48 + d)] := by
  rw [w64 (by omega) (by omega)]
  apply ByteArray.ext
  apply Array.ext'
  rw [strOfNums_data]
  have e : ((48 + (d : Int)) % 256).toNat = 48 + d := by omega
  simp [str, e]
theorem itoa_zero : Lib.itoa 0 = [48] := by unfold Lib.itoa Lib.decDigits; simp
theorem itoa_digs (a : Int) (h : a ≠ 0) : Lib.itoa a = (if a < 0 then [45] else []) ++ digs a.natAbs := by
  have hn : ¬ a.natAbs = 0 := by omega
  unfold Lib.itoa digs
  by_cases c : a < 0
  · rw [if_pos c, if_pos c, if_neg hn]; rfl
  · rw [if_neg c, if_neg c, if_neg hn, show a.toNat = a.natAbs by omega]; rfl
theorem digs_len : ∀ n m : Nat, m < 10 ^ n → (digs m).length ≤ n := by
  intro n
  induction n with
  | zero => intro m h; obtain rfl : m = 0 := by simpa using h
            simp [digs]
  | succ n ih =>
    intro m h
    by_cases h0 : m = 0
    · subst h0; simp [digs]
    · rw [digs_step m (by omega), List.length_append]
      have := ih (m / 10) (by rw [Nat.pow_succ] at h; omega)
      simp only [List.length_cons, List.length_nil]
      omega
theorem itoa_len (a : Int) (h0 : -9223372036854775808 ≤ a) (h1 : a ≤ 9223372036854775807) : (Lib.itoa a).length ≤ 20 := by
  by_cases h : a = 0
  · subst h; rw [itoa_zero]; simp
  · rw [itoa_digs a h, List.length_append]
    have h2 := digs_len 19 a.natAbs (by omega)
    have h3 : (if a < 0 then ([45] : List UInt8) else []).length ≤ 1 := by split <;> simp
    omega
theorem str_lit (l : List UInt8) : (⟨l.toArray⟩ : ByteArray) = str l := rfl

theorem spec_FormatInt.l0ev (neg : Bool) : ∀ s : Int × List UInt8, (s.2.length + s.1.natAbs ≤ 9223372036854775808 ∧ (s.2.length = 0 ∨ s.2.length + s.1.natAbs ≤ 9223372036854775800)) →
    Ev (fun k => spec_FormatInt.l0 k s.1 (str s.2) neg) (str ((if neg then [45] else []) ++ digs s.1.natAbs ++ s.2)) := by
  refine loop_ev (fun k (s : Int × List UInt8) => spec_FormatInt.l0 k s.1 (str s.2) neg) _ (fun s => s.1.natAbs) (fun s => str ((if neg then [45] else []) ++ digs s.1.natAbs ++ s.2)) ?_
  rintro ⟨x, l⟩ ⟨h1, h2⟩
  simp only at h1 h2 ⊢
  by_cases hx : x = 0
  · subst hx
    refine .inl (ev_shift ?_)
    simp only [spec_FormatInt.l0, if_true, str_size]
    cases neg with
    | false => exact ev_val fun _ => by simp [digs]
    | true =>
      simp only [if_true, if_pos (show 1 + l.length ≤ 9223372036854775807 by omega)]
      exact ev_val fun _ => by rw [show (⟨#[45]⟩ : ByteArray) = str [45] from rfl, str_append]; simp [digs]
  · refine .inr ⟨(Int.tdiv x 10, UInt8.ofNat (48 + x.natAbs % 10) :: l), ?_, ?_, ?_, ?_⟩
    · have ht := tmod10 x
      simp only [List.length_cons]
      have : (Int.tdiv x 10).natAbs = x.natAbs / 10 := by rcases (show x < 0 ∨ 0 ≤ x by omega) with c | c; (have := (ht.2 c).2; omega); (have := (ht.1 c).2; omega)
      rw [this]
      omega
    · have ht := tmod10 x
      have : (Int.tdiv x 10).natAbs = x.natAbs / 10 := by rcases (show x < 0 ∨ 0 ≤ x by omega) with c | c; (have := (ht.2 c).2; omega); (have := (ht.1 c).2; omega)
      simp only [this]
      omega
    · have ht := tmod10 x
      have : (Int.tdiv x 10).natAbs = x.natAbs / 10 := by rcases (show x < 0 ∨ 0 ≤ x by omega) with c | c; (have := (ht.2 c).2; omega); (have := (ht.1 c).2; omega)
      simp only [this]
      rw [digs_step x.natAbs (by omega)]
      simp
    · intro r hr
      refine ev_shift ?_
      have ht := tmod10 x
      have e2 : wrap64 (Int.tdiv x 10) = Int.tdiv x 10 := w64 (by rcases (show x < 0 ∨ 0 ≤ x by omega) with c | c; (have := (ht.2 c).2; omega); (have := (ht.1 c).2; omega)) (by rcases (show x < 0 ∨ 0 ≤ x by omega) with c | c; (have := (ht.2 c).2; omega); (have := (ht.1 c).2; omega))
      have e3 : ∀ d : Nat, d < 10 → (strOfNums ([(wrap64 (48 + (d : Int))) % 256] : List Int)) ++ str l = str (UInt8.ofNat (48 + d) :: l) := fun d hd => by rw [strOfNums_digit d hd, str_append]; rfl
      have e4 : ∀ d : Nat, d < 10 → (strOfNums ([(wrap64 (48 + (d : Int))) % 256] : List Int)).size + (str l).size ≤ 9223372036854775807 := fun d hd => by rw [strOfNums_digit d hd, str_size, str_size]; simp only [List.length_cons, List.length_nil]; omega
      have hd : x.natAbs % 10 < 10 := by omega
      simp only [spec_FormatInt.l0, if_neg hx, e2]
      by_cases c : Int.tmod x 10 < 0
      · have hm : Int.tmod x 10 = -((x.natAbs % 10 : Nat) : Int) := by rcases (show x < 0 ∨ 0 ≤ x by omega) with c' | c'; exact (ht.2 c').1; (have := (ht.1 c').1; omega)
        have e1 : wrap64 (-(Int.tmod x 10)) = ((x.natAbs % 10 : Nat) : Int) := by rw [hm, w64 (by omega) (by omega)]; omega
        simp only [if_pos c, e1, Option.bind_some, if_pos (e4 _ hd), e3 _ hd]
        exact hr
      · have hm : Int.tmod x 10 = ((x.natAbs % 10 : Nat) : Int) := by rcases (show x < 0 ∨ 0 ≤ x by omega) with c' | c'; (have := (ht.2 c').1; omega); exact (ht.1 c').1
        rw [hm] at c
        simp only [hm, if_neg c, Option.bind_some, if_pos (e4 _ hd), e3 _ hd]
        exact hr
theorem spec_FormatInt.ev (a : Int) (h0 : -9223372036854775808 ≤ a) (h1 : a ≤ 9223372036854775807) : Ev (fun k => spec_FormatInt.f k a) (str (Lib.itoa a)) := by
  by_cases ha : a = 0
  · subst ha
    simp only [spec_FormatInt.f, if_true, itoa_zero]
    exact Ev.now _
  · simp only [spec_FormatInt.f, if_neg ha]
    have h := spec_FormatInt.l0ev (decide (a < 0)) (a, []) ⟨by simp only [List.length_nil]; omega, .inl rfl⟩
    refine ev_eq h ?_
    rw [itoa_digs a ha]
    simp only [List.append_nil, decide_eq_true_eq]

theorem spec_l1In.val (a b c : Int) : spec_l1In.f a b c = some (decide (b ≤ a ∧ a ≤ c)) := by
  unfold spec_l1In.f
  by_cases h : b ≤ a <;> simp [h]

theorem spec_AreServers.ev (xs : List Int) (hn : xs.length ≤ 9223372036854775806) :
    ∃ b, Ev (fun k => spec_AreServers.f k xs) b ∧ (b = true ↔ ∀ j : Nat, j < xs.length → (0 ≤ rd xs (j : Int) ∧ rd xs (j : Int) ≤ 4) ∧ (0 < j → rd xs ((j : Int) - 1) < rd xs (j : Int))) := by
  obtain ⟨b, hb, hq⟩ := all_loop (fun k i => spec_AreServers.l0 k xs i) (fun j => (0 ≤ rd xs (j : Int) ∧ rd xs (j : Int) ≤ 4) ∧ (0 < j → rd xs ((j : Int) - 1) < rd xs (j : Int))) xs.length
    (fun k => by simp only [spec_AreServers.l0, if_neg (show ¬ ((xs.length : Int) < (xs.length : Int)) by omega)])
    (fun i hi => by
      have e1 := w64 (show -9223372036854775808 ≤ (i : Int) + 1 by omega) (by omega)
      have e2 := w64 (show -9223372036854775808 ≤ (i : Int) - 1 by omega) (by omega)
      by_cases h : 0 ≤ rd xs (i : Int) ∧ rd xs (i : Int) ≤ 4
      · by_cases h0 : 0 < i
        · by_cases h2 : rd xs ((i : Int) - 1) < rd xs (i : Int)
          · exact .inl ⟨⟨h, fun _ => h2⟩, 0, fun k _ => by simp only [spec_AreServers.l0, if_pos (show (i : Int) < (xs.length : Int) by omega), if_pos (show (0 : Int) ≤ (i : Int) by omega), spec_l1In.val, Option.bind_some, decide_eq_true h, if_true, e1, e2, if_pos (show (i : Int) > 0 by omega), if_pos (show (0 : Int) ≤ (i : Int) - 1 by omega), if_pos (show (i : Int) - 1 < (xs.length : Int) by omega), if_neg (show ¬ (rd xs ((i : Int) - 1) ≥ rd xs (i : Int)) by omega)]⟩
          · exact .inr ⟨fun hh => h2 (hh.2 h0), 0, fun k _ => by simp only [spec_AreServers.l0, if_pos (show (i : Int) < (xs.length : Int) by omega), if_pos (show (0 : Int) ≤ (i : Int) by omega), spec_l1In.val, Option.bind_some, decide_eq_true h, if_true, e1, e2, if_pos (show (i : Int) > 0 by omega), if_pos (show (0 : Int) ≤ (i : Int) - 1 by omega), if_pos (show (i : Int) - 1 < (xs.length : Int) by omega), if_pos (show rd xs ((i : Int) - 1) ≥ rd xs (i : Int) by omega)]⟩
        · exact .inl ⟨⟨h, fun h1 => absurd h1 h0⟩, 0, fun k _ => by simp only [spec_AreServers.l0, if_pos (show (i : Int) < (xs.length : Int) by omega), if_pos (show (0 : Int) ≤ (i : Int) by omega), spec_l1In.val, Option.bind_some, decide_eq_true h, if_true, e1, e2, if_neg (show ¬ ((i : Int) > 0) by omega)]⟩
      · exact .inr ⟨fun hh => h hh.1, 0, fun k _ => by simp only [spec_AreServers.l0, if_pos (show (i : Int) < (xs.length : Int) by omega), if_pos (show (0 : Int) ≤ (i : Int) by omega), spec_l1In.val, Option.bind_some, decide_eq_false h, if_neg (show ¬ (false = true) by decide)]⟩)
    xs.length 0 (by omega)
  exact ⟨b, hb, hq.trans ⟨fun h j hj => h j (by omega) hj, fun h j _ hj => h j hj⟩⟩

/-- The texts of numbers, one behind the other. -/
def catI (xs : List Int) : List UInt8 := xs.flatMap Lib.itoa
theorem catI_drop (xs : List Int) (i : Nat) (h : i < xs.length) : catI (xs.drop i) = Lib.itoa (rd xs (i : Int)) ++ catI (xs.drop (i + 1)) := by
  rw [drop_cons_rd xs i h]; rfl
theorem spec_FormatServers.l0ev (xs : List Int) (hn : xs.length ≤ 1048576) (hr : ∀ j : Nat, j < xs.length → -9223372036854775808 ≤ rd xs (j : Int) ∧ rd xs (j : Int) ≤ 9223372036854775807) :
    ∀ s : Nat × List UInt8, (s.1 ≤ xs.length ∧ s.2.length ≤ 20 * s.1) → Ev (fun k => spec_FormatServers.l0 k xs (str s.2) (s.1 : Int)) (str (s.2 ++ catI (xs.drop s.1))) := by
  refine loop_ev (fun k (s : Nat × List UInt8) => spec_FormatServers.l0 k xs (str s.2) (s.1 : Int)) _ (fun s => xs.length - s.1) (fun s => str (s.2 ++ catI (xs.drop s.1))) ?_
  rintro ⟨i, acc⟩ ⟨h1, h2⟩
  simp only at h1 h2 ⊢
  by_cases hi : i < xs.length
  · obtain ⟨r0, r1⟩ := hr i hi
    have hl := itoa_len _ r0 r1
    have e1 := w64 (show -9223372036854775808 ≤ (i : Int) + 1 by omega) (by omega)
    refine .inr ⟨(i + 1, acc ++ Lib.itoa (rd xs (i : Int))), ⟨by simp only; omega, by simp only [List.length_append]; omega⟩, by simp only; omega, ?_, ?_⟩
    · simp only [catI_drop xs i hi, List.append_assoc]
    · intro r hr'
      refine ev_shift ?_
      simp only [spec_FormatServers.l0, if_pos (show (i : Int) < (xs.length : Int) by omega), if_pos (show (0 : Int) ≤ (i : Int) by omega)]
      refine Ev.bind (spec_FormatInt.ev _ r0 r1) ?_
      simp only [str_size, str_append, if_pos (show acc.length + (Lib.itoa (rd xs (i : Int))).length ≤ 9223372036854775807 by omega), e1]
      exact hr'
  · refine .inl (ev_shift (ev_val fun k => ?_))
    simp only [spec_FormatServers.l0, if_neg (show ¬ ((i : Int) < (xs.length : Int)) by omega), List.drop_eq_nil_of_le (show xs.length ≤ i by omega), catI, List.flatMap_nil, List.append_nil]
/-- A list of servers' text. -/
def servL (b : Bool) (xs : List Int) : List UInt8 := if b = true then (if xs.length = 0 then [110, 111, 110, 101] else catI xs) else []
theorem spec_FormatServers.ev (xs : List Int) (hn : xs.length ≤ 1048576) (hr : ∀ j : Nat, j < xs.length → -9223372036854775808 ≤ rd xs (j : Int) ∧ rd xs (j : Int) ≤ 9223372036854775807) (b : Bool) (hb : Ev (fun k => spec_AreServers.f k xs) b) :
    Ev (fun k => spec_FormatServers.f k xs) (str (servL b xs)) := by
  refine Ev.bind hb ?_
  cases b with
  | false => exact ev_val fun _ => rfl
  | true =>
    simp only [if_true, servL]
    by_cases h : xs.length = 0
    · simp only [if_pos h, if_pos (show (xs.length : Int) = 0 by omega)]; exact Ev.now _
    · simp only [if_neg h, if_neg (show ¬ ((xs.length : Int) = 0) by omega)]
      exact spec_FormatServers.l0ev xs hn hr (0, []) ⟨by simp, by simp⟩

theorem laws_toIntS.ev (xs : List Int) (hn : xs.length ≤ 35184372088832) : Ev (fun k => laws_toIntS.f k xs) xs := by
  have key : ∀ (d i : Nat) (ys : List Int), i + d = xs.length → ys.length = xs.length → ys.take i = xs.take i → Ev (fun k => laws_toIntS.l0 k xs ys (i : Int)) xs := by
    intro d
    induction d with
    | zero =>
      intro i ys h1 h2 h3
      refine ev_shift ?_
      simp only [laws_toIntS.l0, if_neg (show ¬ ((i : Int) < (xs.length : Int)) by omega)]
      refine ev_some ?_
      rw [List.take_of_length_le (by omega), List.take_of_length_le (by omega)] at h3
      exact h3
    | succ d ih =>
      intro i ys h1 h2 h3
      refine ev_shift ?_
      simp only [laws_toIntS.l0, if_pos (show (i : Int) < (xs.length : Int) by omega), if_pos (show (0 : Int) ≤ (i : Int) by omega), if_pos (show (i : Int) < (ys.length : Int) by omega),
        w64 (show -9223372036854775808 ≤ (i : Int) + 1 by omega) (by omega), Int.toNat_natCast, rd_get xs i (by omega)]
      have := ih (i + 1) (ys.set i xs[i]) (by omega) (by simpa using h2) (by
        rw [List.take_succ_eq_append_getElem (by simp; omega), List.take_succ_eq_append_getElem (show i < xs.length by omega), List.take_set_of_le (Nat.le_refl _), h3]
        simp)
      simpa using this
  have h0 := key xs.length 0 (List.replicate xs.length 0) (by omega) (by simp) (by simp)
  refine Ev.congr (fun k => ?_) h0
  simp only [laws_toIntS.f, if_pos (show (0 : Int) ≤ (xs.length : Int) by omega), Int.toNat_natCast, if_pos hn]
  rfl

theorem impl_FormatInt.val (a : Int) (h0 : -9223372036854775808 ≤ a) (h1 : a ≤ 9223372036854775807) : impl_FormatInt.f a = some (str (Lib.itoa a)) := by
  simp only [impl_FormatInt.f, strconv_Itoa.f, if_pos (show -9223372036854775808 ≤ a ∧ a ≤ 9223372036854775807 from ⟨h0, h1⟩), Option.bind_some]
  rfl

theorem impl_within.val (a b c : Int) : impl_within.f a b c = some (decide (b ≤ a ∧ a ≤ c)) := by
  unfold impl_within.f
  by_cases h : b ≤ a <;> simp [h]

theorem impl_AreServers.ev (xs : List Int) (hn : xs.length ≤ 9223372036854775806) :
    ∃ b, Ev (fun k => impl_AreServers.f k xs) b ∧ (b = true ↔ ∀ j : Nat, j < xs.length → (0 ≤ rd xs (j : Int) ∧ rd xs (j : Int) ≤ 4) ∧ (0 < j → rd xs ((j : Int) - 1) < rd xs (j : Int))) := by
  obtain ⟨b, hb, hq⟩ := all_loop (fun k i => impl_AreServers.l0 k xs xs (xs.length : Int) i) (fun j => (0 ≤ rd xs (j : Int) ∧ rd xs (j : Int) ≤ 4) ∧ (0 < j → rd xs ((j : Int) - 1) < rd xs (j : Int))) xs.length
    (fun k => by simp only [impl_AreServers.l0, if_neg (show ¬ ((xs.length : Int) < (xs.length : Int)) by omega)])
    (fun i hi => by
      have e1 := w64 (show -9223372036854775808 ≤ (i : Int) + 1 by omega) (by omega)
      have e2 := w64 (show -9223372036854775808 ≤ (i : Int) - 1 by omega) (by omega)
      by_cases h : 0 ≤ rd xs (i : Int) ∧ rd xs (i : Int) ≤ 4
      · by_cases h0 : 0 < i
        · by_cases h2 : rd xs ((i : Int) - 1) < rd xs (i : Int)
          · exact .inl ⟨⟨h, fun _ => h2⟩, 0, fun k _ => by simp only [impl_AreServers.l0, if_pos (show (i : Int) < (xs.length : Int) by omega), if_pos (show (0 : Int) ≤ (i : Int) by omega), impl_within.val, Option.bind_some, decide_eq_true h, if_true, e1, e2, if_pos (show (i : Int) > 0 by omega), if_pos (show (0 : Int) ≤ (i : Int) - 1 by omega), if_pos (show (i : Int) - 1 < (xs.length : Int) by omega), if_neg (show ¬ (rd xs (i : Int) ≤ rd xs ((i : Int) - 1)) by omega)]⟩
          · exact .inr ⟨fun hh => h2 (hh.2 h0), 0, fun k _ => by simp only [impl_AreServers.l0, if_pos (show (i : Int) < (xs.length : Int) by omega), if_pos (show (0 : Int) ≤ (i : Int) by omega), impl_within.val, Option.bind_some, decide_eq_true h, if_true, e1, e2, if_pos (show (i : Int) > 0 by omega), if_pos (show (0 : Int) ≤ (i : Int) - 1 by omega), if_pos (show (i : Int) - 1 < (xs.length : Int) by omega), if_pos (show rd xs (i : Int) ≤ rd xs ((i : Int) - 1) by omega)]⟩
        · exact .inl ⟨⟨h, fun h1 => absurd h1 h0⟩, 0, fun k _ => by simp only [impl_AreServers.l0, if_pos (show (i : Int) < (xs.length : Int) by omega), if_pos (show (0 : Int) ≤ (i : Int) by omega), impl_within.val, Option.bind_some, decide_eq_true h, if_true, e1, e2, if_neg (show ¬ ((i : Int) > 0) by omega)]⟩
      · exact .inr ⟨fun hh => h hh.1, 0, fun k _ => by simp only [impl_AreServers.l0, if_pos (show (i : Int) < (xs.length : Int) by omega), if_pos (show (0 : Int) ≤ (i : Int) by omega), impl_within.val, Option.bind_some, decide_eq_false h, if_neg (show ¬ (false = true) by decide)]⟩)
    xs.length 0 (by omega)
  exact ⟨b, hb, hq.trans ⟨fun h j hj => h j (by omega) hj, fun h j _ hj => h j hj⟩⟩

theorem impl_FormatServers.l0ev (xs : List Int) (hn : xs.length ≤ 1048576) (hr : ∀ j : Nat, j < xs.length → -9223372036854775808 ≤ rd xs (j : Int) ∧ rd xs (j : Int) ≤ 9223372036854775807) :
    ∀ s : Nat × List UInt8, (s.1 ≤ xs.length ∧ s.2.length ≤ 20 * s.1) → Ev (fun k => impl_FormatServers.l0 k (str s.2) xs (xs.length : Int) (s.1 : Int)) (str (s.2 ++ catI (xs.drop s.1))) := by
  refine loop_ev (fun k (s : Nat × List UInt8) => impl_FormatServers.l0 k (str s.2) xs (xs.length : Int) (s.1 : Int)) _ (fun s => xs.length - s.1) (fun s => str (s.2 ++ catI (xs.drop s.1))) ?_
  rintro ⟨i, acc⟩ ⟨h1, h2⟩
  simp only at h1 h2 ⊢
  by_cases hi : i < xs.length
  · obtain ⟨r0, r1⟩ := hr i hi
    have hl := itoa_len _ r0 r1
    have e1 := w64 (show -9223372036854775808 ≤ (i : Int) + 1 by omega) (by omega)
    refine .inr ⟨(i + 1, acc ++ Lib.itoa (rd xs (i : Int))), ⟨by simp only; omega, by simp only [List.length_append]; omega⟩, by simp only; omega, ?_, ?_⟩
    · simp only [catI_drop xs i hi, List.append_assoc]
    · intro r hr'
      refine ev_shift ?_
      simp only [impl_FormatServers.l0, if_pos (show (i : Int) < (xs.length : Int) by omega), if_pos (show (0 : Int) ≤ (i : Int) by omega), impl_FormatInt.val _ r0 r1, Option.bind_some, str_size, str_append, if_pos (show acc.length + (Lib.itoa (rd xs (i : Int))).length ≤ 9223372036854775807 by omega), e1]
      exact hr'
  · refine .inl (ev_shift (ev_val fun k => ?_))
    simp only [impl_FormatServers.l0, if_neg (show ¬ ((i : Int) < (xs.length : Int)) by omega), List.drop_eq_nil_of_le (show xs.length ≤ i by omega), catI, List.flatMap_nil, List.append_nil]
theorem impl_FormatServers.ev (xs : List Int) (hn : xs.length ≤ 1048576) (hr : ∀ j : Nat, j < xs.length → -9223372036854775808 ≤ rd xs (j : Int) ∧ rd xs (j : Int) ≤ 9223372036854775807) (b : Bool) (hb : Ev (fun k => impl_AreServers.f k xs) b) :
    Ev (fun k => impl_FormatServers.f k xs) (str (servL b xs)) := by
  refine Ev.bind hb ?_
  cases b with
  | false => exact ev_val fun _ => rfl
  | true =>
    simp only [if_true, servL]
    by_cases h : xs.length = 0
    · simp only [if_pos h, if_pos (show (xs.length : Int) = 0 by omega)]; exact Ev.now _
    · simp only [if_neg h, if_neg (show ¬ ((xs.length : Int) = 0) by omega)]
      exact impl_FormatServers.l0ev xs hn hr (0, []) ⟨by simp, by simp⟩

theorem laws_eqIntS.ev (xs ys : List Int) (hn : xs.length ≤ 9223372036854775806) : ∃ b, Ev (fun k => laws_eqIntS.f k xs ys) b ∧ (b = true ↔ xs = ys) := by
  by_cases hl : xs.length = ys.length
  · obtain ⟨b, hb, hq⟩ := all_loop (fun k i => laws_eqIntS.l0 k xs ys i) (fun i => rd xs (i : Int) = rd ys (i : Int)) xs.length
      (fun k => by simp only [laws_eqIntS.l0, if_neg (show ¬ ((xs.length : Int) < (xs.length : Int)) by omega)])
      (fun i hi => by
        by_cases h : rd xs (i : Int) = rd ys (i : Int)
        · exact .inl ⟨h, 0, fun k _ => by simp only [laws_eqIntS.l0, if_pos (show (i : Int) < (xs.length : Int) by omega), if_pos (show (0 : Int) ≤ (i : Int) by omega), if_pos (show (i : Int) < (ys.length : Int) by omega), if_pos h, w64 (show -9223372036854775808 ≤ (i : Int) + 1 by omega) (by omega)]⟩
        · exact .inr ⟨h, 0, fun k _ => by simp only [laws_eqIntS.l0, if_pos (show (i : Int) < (xs.length : Int) by omega), if_pos (show (0 : Int) ≤ (i : Int) by omega), if_pos (show (i : Int) < (ys.length : Int) by omega), if_neg h]⟩)
      xs.length 0 (by omega)
    refine ⟨b, ?_, hq.trans ?_⟩
    · refine Ev.congr (fun k => ?_) hb
      simp only [laws_eqIntS.f, if_pos (show (xs.length : Int) = (ys.length : Int) by omega)]
      rfl
    · constructor
      · intro h
        refine List.ext_getElem hl (fun i h1 h2 => ?_)
        have := h i (by omega) h1
        rwa [rd_get xs i h1, rd_get ys i h2] at this
      · intro h; subst h; intro j _ _; rfl
  · refine ⟨false, ev_val (fun k => ?_), ?_⟩
    · simp only [laws_eqIntS.f, if_neg (show ¬ ((xs.length : Int) = (ys.length : Int)) by omega)]
    · constructor
      · intro h; cases h
      · intro h; subst h; exact absurd rfl hl
theorem laws_eqIntS.same (xs : List Int) (hn : xs.length ≤ 9223372036854775806) : Ev (fun k => laws_eqIntS.f k xs xs) true := by
  obtain ⟨b, hb, hq⟩ := laws_eqIntS.ev xs xs hn
  exact ev_eq hb (hq.2 rfl)

theorem FnExactFormatServers : FnExactFormatServersPure := by
  intro l h1 h2 h3
  refine Ev.rounds (g := fun k => laws_FnExactFormatServers.f k l) ?_
  by_cases hb : (l.length : Int) > 1048576
  · simp only [laws_FnExactFormatServers.f, if_pos hb]; exact Ev.now _
  · simp only [laws_FnExactFormatServers.f, if_neg hb]
    have hT := laws_toIntS.ev l (by omega)
    have hr : ∀ j : Nat, j < l.length → -9223372036854775808 ≤ rd l (j : Int) ∧ rd l (j : Int) ≤ 9223372036854775807 := fun j hj => wf_i64 (h3 _ (by rw [rd_get l j hj]; exact List.getElem_mem hj))
    obtain ⟨b, hb1, hq1⟩ := spec_AreServers.ev l (by omega)
    obtain ⟨c, hc1, hq2⟩ := impl_AreServers.ev l (by omega)
    obtain rfl : c = b := by rw [Bool.eq_iff_iff, hq1, hq2]
    refine Ev.bind hT (Ev.bind (spec_FormatServers.ev l (by omega) hr c hb1) (Ev.bind hT (Ev.bind (impl_FormatServers.ev l (by omega) hr c hc1) ?_)))
    simp only [if_true]
    refine Ev.bind hT (Ev.bind (laws_eqIntS.same l (by omega)) ?_)
    exact ev_val (fun _ => by simp)

end Go.Proofs.YtlnkpjjmgkmofaaDoor.Pure
