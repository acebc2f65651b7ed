/- For every string the law FnExactParseServers returns true; no conditions. -/
import Derived.Test.YtlnkpjjmgkmofaaDoorQFnExactParseServers
import Derived.Test.YtlnkpjjmgkmofaaDoorCom
set_option linter.unusedVariables false
set_option linter.unusedSimpArgs false
namespace Go.Proofs.YtlnkpjjmgkmofaaDoor.Pure
open Go.RowKit Go.Proofs.YtlnkpjjmgkmofaaDoor.F Go.Proofs.YtlnkpjjmgkmofaaDoorW.PrintWords Go.Proofs.YtlnkpjjmgkmofaaDoorW.PrintLast
open Go.Proofs.YtlnkpjjmgkmofaaDoor.Opens
open Go.Proofs.YtlnkpjjmgkmofaaDoor.Com
open Go.Proofs.YtlnkpjjmgkmofaaDoor.Given

theorem laws_eqIntS.ev (xs ys : List Int) (hn : xs.length ≤ 9223372036854775806) : ∃ b, Ev (fun k => laws_eqIntS.f k xs ys) b ∧ (b = true ↔ xs = ys) := by
  by_cases hl : xs.length = ys.length
  · obtain ⟨b, hb, hq⟩ := all_loop (fun k i => laws_eqIntS.l0 k xs ys i) (fun i => rd xs (i : Int) = rd ys (i : Int)) xs.length
      (fun k => by simp only [laws_eqIntS.l0, if_neg (show ¬ ((xs.length : Int) < (xs.length : Int)) by omega)])
      (fun i hi => by
        by_cases h : rd xs (i : Int) = rd ys (i : Int)
        · exact .inl ⟨h, 0, fun k _ => by simp only [laws_eqIntS.l0, if_pos (show (i : Int) < (xs.length : Int) by omega), if_pos (show (0 : Int) ≤ (i : Int) by omega), if_pos (show (i : Int) < (ys.length : Int) by omega), if_pos h, w64 (show -9223372036854775808 ≤ (i : Int) + 1 by omega) (by omega)]⟩
        · exact .inr ⟨h, 0, fun k _ => by simp only [laws_eqIntS.l0, if_pos (show (i : Int) < (xs.length : Int) by omega), if_pos (show (0 : Int) ≤ (i : Int) by omega), if_pos (show (i : Int) < (ys.length : Int) by omega), if_neg h]⟩)
      xs.length 0 (by omega)
    refine ⟨b, ?_, hq.trans ?_⟩
    · refine Ev.congr (fun k => ?_) hb
      simp only [laws_eqIntS.f, if_pos (show (xs.length : Int) = (ys.length : Int) by omega)]
      rfl
    · constructor
      · intro h
        refine List.ext_getElem hl (fun i h1 h2 => ?_)
        have := h i (by omega) h1
        rwa [rd_get xs i h1, rd_get ys i h2] at this
      · intro h; subst h; intro j _ _; rfl
  · refine ⟨false, ev_val (fun k => ?_), ?_⟩
    · simp only [laws_eqIntS.f, if_neg (show ¬ ((xs.length : Int) = (ys.length : Int)) by omega)]
    · constructor
      · intro h; cases h
      · intro h; subst h; exact absurd rfl hl
theorem laws_eqIntS.same (xs : List Int) (hn : xs.length ≤ 9223372036854775806) : Ev (fun k => laws_eqIntS.f k xs xs) true := by
  obtain ⟨b, hb, hq⟩ := laws_eqIntS.ev xs xs hn
  exact ev_eq hb (hq.2 rfl)

/-- Bytes as a string. -/
def str (l : List UInt8) : ByteArray := ⟨l.toArray⟩
theorem str_append (a b : List UInt8) : str a ++ str b = str (a ++ b) := by
  apply ByteArray.ext
  simp [str]
theorem str_size (l : List UInt8) : (str l).size = l.length := by simp [str, ByteArray.size]
theorem str_inj {a b : List UInt8} (h : str a = str b) : a = b := by
  have := congrArg (fun s => s.data.toList) h
  simpa [str] using this
theorem str_toList (l : List UInt8) : (str l).toList = l := by rw [toList_data]; simp [str]
theorem toList_inj' {a b : ByteArray} (h : a.toList = b.toList) : a = b := bytesOf_inj (bytesOf_congr h)
/-- The digits of a number, none for 0. -/
def digs (m : Nat) : List UInt8 := if m = 0 then [] else Lib.decDigits m
theorem digs_step (m : Nat) (h : 0 < m) : digs m = digs (m / 10) ++ [UInt8.ofNat (48 + m % 10)] := by
  unfold digs
  rw [if_neg (by omega), Lib.decDigits]
  by_cases h9 : m < 10
  · rw [dif_pos h9, if_pos (by omega), Nat.mod_eq_of_lt h9]; rfl
  · rw [dif_neg h9, if_neg (by omega)]
theorem tmod10 (x : Int) : (0 ≤ x → Int.tmod x 10 = ((x.natAbs % 10 : Nat) : Int) ∧ Int.tdiv x 10 = ((x.natAbs / 10 : Nat) : Int)) ∧ (x < 0 → Int.tmod x 10 = -((x.natAbs % 10 : Nat) : Int) ∧ Int.tdiv x 10 = -((x.natAbs / 10 : Nat) : Int)) := by
  constructor
  · intro h
    obtain ⟨n, rfl⟩ := Int.eq_ofNat_of_zero_le h
    exact ⟨rfl, rfl⟩
  · intro h
    obtain ⟨n, rfl⟩ := Int.eq_negSucc_of_lt_zero h
    exact ⟨rfl, rfl⟩
theorem strOfNums_digit (d : Nat) (h : d < 10) : strOfNums ([(wrap64 (48 + (d : Int))) % 256] : List Int) = str [UInt8.ofNat (48 + d)] := by
  rw [w64 (by omega) (by omega)]
  apply ByteArray.ext
  apply Array.ext'
  rw [strOfNums_data]
  have e : ((48 + (d : Int)) % 256).toNat = 48 + d := by omega
  simp [str, e]
theorem itoa_zero : Lib.itoa 0 = [48] := by unfold Lib.itoa Lib.decDigits; simp
theorem itoa_digs (a : Int) (h : a ≠ 0) : Lib.itoa a = (if a < 0 then [45] else []) ++ digs a.natAbs := by
  have hn : ¬ a.natAbs = 0 := by omega
  unfold Lib.itoa digs
  by_cases c : a < 0
  · rw [if_pos c, if_pos c, if_neg hn]; rfl
  · rw [if_neg c, if_neg c, if_neg hn, show a.toNat = a.natAbs by omega]; rfl
theorem digs_len : ∀ n m : Nat, m < 10 ^ n → (digs m).length ≤ n := by
  intro n
  induction n with
  | zero => intro m h; obtain rfl : m = 0 := by simpa using h
            simp [digs]
  | succ n ih =>
    intro m h
    by_cases h0 : m = 0
    · subst h0; simp [digs]
    · rw [digs_step m (by omega), List.length_append]
      have := ih (m / 10) (by rw [Nat.pow_succ] at h; omega)
      simp only [List.length_cons, List.length_nil]
      omega
theorem itoa_len (a : Int) (h0 : -9223372036854775808 ≤ a) (h1 : a ≤ 9223372036854775807) : (Lib.itoa a).length ≤ 20 := by
  by_cases h : a = 0
  · subst h; rw [itoa_zero]; simp
  · rw [itoa_digs a h, List.length_append]
    have h2 := digs_len 19 a.natAbs (by omega)
    have h3 : (if a < 0 then ([45] : List UInt8) else []).length ≤ 1 := by split <;> simp
    omega
theorem str_lit (l : List UInt8) : (⟨l.toArray⟩ : ByteArray) = str l := rfl

theorem spec_FormatInt.l0ev (neg : Bool) : ∀ s : Int × List UInt8, (s.2.length + s.1.natAbs ≤ 9223372036854775808 ∧ (s.2.length = 0 ∨ s.2.length + s.1.natAbs ≤ 9223372036854775800)) →
    Ev (fun k => spec_FormatInt.l0 k s.1 (str s.2) neg) (str ((if neg then [45] else []) ++ digs s.1.natAbs ++ s.2)) := by
  refine loop_ev (fun k (s : Int × List UInt8) => spec_FormatInt.l0 k s.1 (str s.2) neg) _ (fun s => s.1.natAbs) (fun s => str ((if neg then [45] else []) ++ digs s.1.natAbs ++ s.2)) ?_
  rintro ⟨x, l⟩ ⟨h1, h2⟩
  simp only at h1 h2 ⊢
  by_cases hx : x = 0
  · subst hx
    refine .inl (ev_shift ?_)
    simp only [spec_FormatInt.l0, if_true, str_size]
    cases neg with
    | false => exact ev_val fun _ => by simp [digs]
    | true =>
      simp only [if_true, if_pos (show 1 + l.length ≤ 9223372036854775807 by omega)]
      exact ev_val fun _ => by rw [show (⟨#[45]⟩ : ByteArray) = str [45] from rfl, str_append]; simp [digs]
  · refine .inr ⟨(Int.tdiv x 10, UInt8.ofNat (48 + x.natAbs % 10) :: l), ?_, ?_, ?_, ?_⟩
    · have ht := tmod10 x
      simp only [List.length_cons]
      have : (Int.tdiv x 10).natAbs = x.natAbs / 10 := by rcases (show x < 0 ∨ 0 ≤ x by omega) with c | c; (have := (ht.2 c).2; omega); (have := (ht.1 c).2; omega)
      rw [this]
      omega
    · have ht := tmod10 x
      have : (Int.tdiv x 10).natAbs = x.natAbs / 10 := by rcases (show x < 0 ∨ 0 ≤ x by omega) with c | c; (have := (ht.2 c).2; omega); (have := (ht.1 c).2; omega)
      simp only [this]
      omega
    · have ht := tmod10 x
      have : (Int.tdiv x 10).natAbs = x.natAbs / 10 := by rcases (show x < 0 ∨ 0 ≤ x by omega) with c | c; (have := (ht.2 c).2; omega); (have := (ht.1 c).2; omega)
      simp only [this]
      rw [digs_step x.natAbs (by omega)]
      simp
    · intro r hr
      refine ev_shift ?_
      have ht := tmod10 x
      have e2 : wrap64 (Int.tdiv x 10) = Int.tdiv x 10 := w64 (by rcases (show x < 0 ∨ 0 ≤ x by omega) with c | c; (have := (ht.2 c).2; omega); (have := (ht.1 c).2; omega)) (by rcases (show x < 0 ∨ 0 ≤ x by omega) with c | c; (have := (ht.2 c).2; omega); (have := (ht.1 c).2; omega))
      have e3 : ∀ d : Nat, d < 10 → (strOfNums ([(wrap64 (48 + (d : Int))) % 256] : List Int)) ++ str l = str (UInt8.ofNat (48 + d) :: l) := fun d hd => by rw [strOfNums_digit d hd, str_append]; rfl
      have e4 : ∀ d : Nat, d < 10 → (strOfNums ([(wrap64 (48 + (d : Int))) % 256] : List Int)).size + (str l).size ≤ 9223372036854775807 := fun d hd => by rw [strOfNums_digit d hd, str_size, str_size]; simp only [List.length_cons, List.length_nil]; omega
      have hd : x.natAbs % 10 < 10 := by omega
      simp only [spec_FormatInt.l0, if_neg hx, e2]
      by_cases c : Int.tmod x 10 < 0
      · have hm : Int.tmod x 10 = -((x.natAbs % 10 : Nat) : Int) := by rcases (show x < 0 ∨ 0 ≤ x by omega) with c' | c'; exact (ht.2 c').1; (have := (ht.1 c').1; omega)
        have e1 : wrap64 (-(Int.tmod x 10)) = ((x.natAbs % 10 : Nat) : Int) := by rw [hm, w64 (by omega) (by omega)]; omega
        simp only [if_pos c, e1, Option.bind_some, if_pos (e4 _ hd), e3 _ hd]
        exact hr
      · have hm : Int.tmod x 10 = ((x.natAbs % 10 : Nat) : Int) := by rcases (show x < 0 ∨ 0 ≤ x by omega) with c' | c'; (have := (ht.2 c').1; omega); exact (ht.1 c').1
        rw [hm] at c
        simp only [hm, if_neg c, Option.bind_some, if_pos (e4 _ hd), e3 _ hd]
        exact hr
theorem spec_FormatInt.ev (a : Int) (h0 : -9223372036854775808 ≤ a) (h1 : a ≤ 9223372036854775807) : Ev (fun k => spec_FormatInt.f k a) (str (Lib.itoa a)) := by
  by_cases ha : a = 0
  · subst ha
    simp only [spec_FormatInt.f, if_true, itoa_zero]
    exact Ev.now _
  · simp only [spec_FormatInt.f, if_neg ha]
    have h := spec_FormatInt.l0ev (decide (a < 0)) (a, []) ⟨by simp only [List.length_nil]; omega, .inl rfl⟩
    refine ev_eq h ?_
    rw [itoa_digs a ha]
    simp only [List.append_nil, decide_eq_true_eq]

theorem spec_l1In.val (a b c : Int) : spec_l1In.f a b c = some (decide (b ≤ a ∧ a ≤ c)) := by
  unfold spec_l1In.f
  by_cases h : b ≤ a <;> simp [h]

theorem spec_AreServers.ev (xs : List Int) (hn : xs.length ≤ 9223372036854775806) :
    ∃ b, Ev (fun k => spec_AreServers.f k xs) b ∧ (b = true ↔ ∀ j : Nat, j < xs.length → (0 ≤ rd xs (j : Int) ∧ rd xs (j : Int) ≤ 4) ∧ (0 < j → rd xs ((j : Int) - 1) < rd xs (j : Int))) := by
  obtain ⟨b, hb, hq⟩ := all_loop (fun k i => spec_AreServers.l0 k xs i) (fun j => (0 ≤ rd xs (j : Int) ∧ rd xs (j : Int) ≤ 4) ∧ (0 < j → rd xs ((j : Int) - 1) < rd xs (j : Int))) xs.length
    (fun k => by simp only [spec_AreServers.l0, if_neg (show ¬ ((xs.length : Int) < (xs.length : Int)) by omega)])
    (fun i hi => by
      have e1 := w64 (show -9223372036854775808 ≤ (i : Int) + 1 by omega) (by omega)
      have e2 := w64 (show -9223372036854775808 ≤ (i : Int) - 1 by omega) (by omega)
      by_cases h : 0 ≤ rd xs (i : Int) ∧ rd xs (i : Int) ≤ 4
      · by_cases h0 : 0 < i
        · by_cases h2 : rd xs ((i : Int) - 1) < rd xs (i : Int)
          · exact .inl ⟨⟨h, fun _ => h2⟩, 0, fun k _ => by simp only [spec_AreServers.l0, if_pos (show (i : Int) < (xs.length : Int) by omega), if_pos (show (0 : Int) ≤ (i : Int) by omega), spec_l1In.val, Option.bind_some, decide_eq_true h, if_true, e1, e2, if_pos (show (i : Int) > 0 by omega), if_pos (show (0 : Int) ≤ (i : Int) - 1 by omega), if_pos (show (i : Int) - 1 < (xs.length : Int) by omega), if_neg (show ¬ (rd xs ((i : Int) - 1) ≥ rd xs (i : Int)) by omega)]⟩
          · exact .inr ⟨fun hh => h2 (hh.2 h0), 0, fun k _ => by simp only [spec_AreServers.l0, if_pos (show (i : Int) < (xs.length : Int) by omega), if_pos (show (0 : Int) ≤ (i : Int) by omega), spec_l1In.val, Option.bind_some, decide_eq_true h, if_true, e1, e2, if_pos (show (i : Int) > 0 by omega), if_pos (show (0 : Int) ≤ (i : Int) - 1 by omega), if_pos (show (i : Int) - 1 < (xs.length : Int) by omega), if_pos (show rd xs ((i : Int) - 1) ≥ rd xs (i : Int) by omega)]⟩
        · exact .inl ⟨⟨h, fun h1 => absurd h1 h0⟩, 0, fun k _ => by simp only [spec_AreServers.l0, if_pos (show (i : Int) < (xs.length : Int) by omega), if_pos (show (0 : Int) ≤ (i : Int) by omega), spec_l1In.val, Option.bind_some, decide_eq_true h, if_true, e1, e2, if_neg (show ¬ ((i : Int) > 0) by omega)]⟩
      · exact .inr ⟨fun hh => h hh.1, 0, fun k _ => by simp only [spec_AreServers.l0, if_pos (show (i : Int) < (xs.length : Int) by omega), if_pos (show (0 : Int) ≤ (i : Int) by omega), spec_l1In.val, Option.bind_some, decide_eq_false h, if_neg (show ¬ (false = true) by decide)]⟩)
    xs.length 0 (by omega)
  exact ⟨b, hb, hq.trans ⟨fun h j hj => h j (by omega) hj, fun h j _ hj => h j hj⟩⟩

/-- The texts of numbers, one behind the other. -/
def catI (xs : List Int) : List UInt8 := xs.flatMap Lib.itoa
theorem catI_drop (xs : List Int) (i : Nat) (h : i < xs.length) : catI (xs.drop i) = Lib.itoa (rd xs (i : Int)) ++ catI (xs.drop (i + 1)) := by
  rw [drop_cons_rd xs i h]; rfl

theorem spec_FormatServers.l0ev (xs : List Int) (hn : xs.length ≤ 1048576) (hr : ∀ j : Nat, j < xs.length → -9223372036854775808 ≤ rd xs (j : Int) ∧ rd xs (j : Int) ≤ 9223372036854775807) :
    ∀ s : Nat × List UInt8, (s.1 ≤ xs.length ∧ s.2.length ≤ 20 * s.1) → Ev (fun k => spec_FormatServers.l0 k xs (str s.2) (s.1 : Int)) (str (s.2 ++ catI (xs.drop s.1))) := by
  refine loop_ev (fun k (s : Nat × List UInt8) => spec_FormatServers.l0 k xs (str s.2) (s.1 : Int)) _ (fun s => xs.length - s.1) (fun s => str (s.2 ++ catI (xs.drop s.1))) ?_
  rintro ⟨i, acc⟩ ⟨h1, h2⟩
  simp only at h1 h2 ⊢
  by_cases hi : i < xs.length
  · obtain ⟨r0, r1⟩ := hr i hi
    have hl := itoa_len _ r0 r1
    have e1 := w64 (show -9223372036854775808 ≤ (i : Int) + 1 by omega) (by omega)
    refine .inr ⟨(i + 1, acc ++ Lib.itoa (rd xs (i : Int))), ⟨by simp only; omega, by simp only [List.length_append]; omega⟩, by simp only; omega, ?_, ?_⟩
    · simp only [catI_drop xs i hi, List.append_assoc]
    · intro r hr'
      refine ev_shift ?_
      simp only [spec_FormatServers.l0, if_pos (show (i : Int) < (xs.length : Int) by omega), if_pos (show (0 : Int) ≤ (i : Int) by omega)]
      refine Ev.bind (spec_FormatInt.ev _ r0 r1) ?_
      simp only [str_size, str_append, if_pos (show acc.length + (Lib.itoa (rd xs (i : Int))).length ≤ 9223372036854775807 by omega), e1]
      exact hr'
  · refine .inl (ev_shift (ev_val fun k => ?_))
    simp only [spec_FormatServers.l0, if_neg (show ¬ ((i : Int) < (xs.length : Int)) by omega), List.drop_eq_nil_of_le (show xs.length ≤ i by omega), catI, List.flatMap_nil, List.append_nil]
/-- A list of servers' text. -/
def servL (b : Bool) (xs : List Int) : List UInt8 := if b = true then (if xs.length = 0 then [110, 111, 110, 101] else catI xs) else []
theorem spec_FormatServers.ev (xs : List Int) (hn : xs.length ≤ 1048576) (hr : ∀ j : Nat, j < xs.length → -9223372036854775808 ≤ rd xs (j : Int) ∧ rd xs (j : Int) ≤ 9223372036854775807) (b : Bool) (hb : Ev (fun k => spec_AreServers.f k xs) b) :
    Ev (fun k => spec_FormatServers.f k xs) (str (servL b xs)) := by
  refine Ev.bind hb ?_
  cases b with
  | false => exact ev_val fun _ => rfl
  | true =>
    simp only [if_true, servL]
    by_cases h : xs.length = 0
    · simp only [if_pos h, if_pos (show (xs.length : Int) = 0 by omega)]; exact Ev.now _
    · simp only [if_neg h, if_neg (show ¬ ((xs.length : Int) = 0) by omega)]
      exact spec_FormatServers.l0ev xs hn hr (0, []) ⟨by simp, by simp⟩



theorem impl_FormatInt.val (a : Int) (h0 : -9223372036854775808 ≤ a) (h1 : a ≤ 9223372036854775807) : impl_FormatInt.f a = some (str (Lib.itoa a)) := by
  simp only [impl_FormatInt.f, strconv_Itoa.f, if_pos (show -9223372036854775808 ≤ a ∧ a ≤ 9223372036854775807 from ⟨h0, h1⟩), Option.bind_some]
  rfl

theorem impl_within.val (a b c : Int) : impl_within.f a b c = some (decide (b ≤ a ∧ a ≤ c)) := by
  unfold impl_within.f
  by_cases h : b ≤ a <;> simp [h]

theorem impl_AreServers.ev (xs : List Int) (hn : xs.length ≤ 9223372036854775806) :
    ∃ b, Ev (fun k => impl_AreServers.f k xs) b ∧ (b = true ↔ ∀ j : Nat, j < xs.length → (0 ≤ rd xs (j : Int) ∧ rd xs (j : Int) ≤ 4) ∧ (0 < j → rd xs ((j : Int) - 1) < rd xs (j : Int))) := by
  obtain ⟨b, hb, hq⟩ := all_loop (fun k i => impl_AreServers.l0 k xs xs (xs.length : Int) i) (fun j => (0 ≤ rd xs (j : Int) ∧ rd xs (j : Int) ≤ 4) ∧ (0 < j → rd xs ((j : Int) - 1) < rd xs (j : Int))) xs.length
    (fun k => by simp only [impl_AreServers.l0, if_neg (show ¬ ((xs.length : Int) < (xs.length : Int)) by omega)])
    (fun i hi => by
      have e1 := w64 (show -9223372036854775808 ≤ (i : Int) + 1 by omega) (by omega)
      have e2 := w64 (show -9223372036854775808 ≤ (i : Int) - 1 by omega) (by omega)
      by_cases h : 0 ≤ rd xs (i : Int) ∧ rd xs (i : Int) ≤ 4
      · by_cases h0 : 0 < i
        · by_cases h2 : rd xs ((i : Int) - 1) < rd xs (i : Int)
          · exact .inl ⟨⟨h, fun _ => h2⟩, 0, fun k _ => by simp only [impl_AreServers.l0, if_pos (show (i : Int) < (xs.length : Int) by omega), if_pos (show (0 : Int) ≤ (i : Int) by omega), impl_within.val, Option.bind_some, decide_eq_true h, if_true, e1, e2, if_pos (show (i : Int) > 0 by omega), if_pos (show (0 : Int) ≤ (i : Int) - 1 by omega), if_pos (show (i : Int) - 1 < (xs.length : Int) by omega), if_neg (show ¬ (rd xs (i : Int) ≤ rd xs ((i : Int) - 1)) by omega)]⟩
          · exact .inr ⟨fun hh => h2 (hh.2 h0), 0, fun k _ => by simp only [impl_AreServers.l0, if_pos (show (i : Int) < (xs.length : Int) by omega), if_pos (show (0 : Int) ≤ (i : Int) by omega), impl_within.val, Option.bind_some, decide_eq_true h, if_true, e1, e2, if_pos (show (i : Int) > 0 by omega), if_pos (show (0 : Int) ≤ (i : Int) - 1 by omega), if_pos (show (i : Int) - 1 < (xs.length : Int) by omega), if_pos (show rd xs (i : Int) ≤ rd xs ((i : Int) - 1) by omega)]⟩
        · exact .inl ⟨⟨h, fun h1 => absurd h1 h0⟩, 0, fun k _ => by simp only [impl_AreServers.l0, if_pos (show (i : Int) < (xs.length : Int) by omega), if_pos (show (0 : Int) ≤ (i : Int) by omega), impl_within.val, Option.bind_some, decide_eq_true h, if_true, e1, e2, if_neg (show ¬ ((i : Int) > 0) by omega)]⟩
      · exact .inr ⟨fun hh => h hh.1, 0, fun k _ => by simp only [impl_AreServers.l0, if_pos (show (i : Int) < (xs.length : Int) by omega), if_pos (show (0 : Int) ≤ (i : Int) by omega), impl_within.val, Option.bind_some, decide_eq_false h, if_neg (show ¬ (false = true) by decide)]⟩)
    xs.length 0 (by omega)
  exact ⟨b, hb, hq.trans ⟨fun h j hj => h j (by omega) hj, fun h j _ hj => h j hj⟩⟩

theorem impl_FormatServers.l0ev (xs : List Int) (hn : xs.length ≤ 1048576) (hr : ∀ j : Nat, j < xs.length → -9223372036854775808 ≤ rd xs (j : Int) ∧ rd xs (j : Int) ≤ 9223372036854775807) :
    ∀ s : Nat × List UInt8, (s.1 ≤ xs.length ∧ s.2.length ≤ 20 * s.1) → Ev (fun k => impl_FormatServers.l0 k (str s.2) xs (xs.length : Int) (s.1 : Int)) (str (s.2 ++ catI (xs.drop s.1))) := by
  refine loop_ev (fun k (s : Nat × List UInt8) => impl_FormatServers.l0 k (str s.2) xs (xs.length : Int) (s.1 : Int)) _ (fun s => xs.length - s.1) (fun s => str (s.2 ++ catI (xs.drop s.1))) ?_
  rintro ⟨i, acc⟩ ⟨h1, h2⟩
  simp only at h1 h2 ⊢
  by_cases hi : i < xs.length
  · obtain ⟨r0, r1⟩ := hr i hi
    have hl := itoa_len _ r0 r1
    have e1 := w64 (show -9223372036854775808 ≤ (i : Int) + 1 by omega) (by omega)
    refine .inr ⟨(i + 1, acc ++ Lib.itoa (rd xs (i : Int))), ⟨by simp only; omega, by simp only [List.length_append]; omega⟩, by simp only; omega, ?_, ?_⟩
    · simp only [catI_drop xs i hi, List.append_assoc]
    · intro r hr'
      refine ev_shift ?_
      simp only [impl_FormatServers.l0, if_pos (show (i : Int) < (xs.length : Int) by omega), if_pos (show (0 : Int) ≤ (i : Int) by omega), impl_FormatInt.val _ r0 r1, Option.bind_some, str_size, str_append, if_pos (show acc.length + (Lib.itoa (rd xs (i : Int))).length ≤ 9223372036854775807 by omega), e1]
      exact hr'
  · refine .inl (ev_shift (ev_val fun k => ?_))
    simp only [impl_FormatServers.l0, if_neg (show ¬ ((i : Int) < (xs.length : Int)) by omega), List.drop_eq_nil_of_le (show xs.length ≤ i by omega), catI, List.flatMap_nil, List.append_nil]
theorem impl_FormatServers.ev (xs : List Int) (hn : xs.length ≤ 1048576) (hr : ∀ j : Nat, j < xs.length → -9223372036854775808 ≤ rd xs (j : Int) ∧ rd xs (j : Int) ≤ 9223372036854775807) (b : Bool) (hb : Ev (fun k => impl_AreServers.f k xs) b) :
    Ev (fun k => impl_FormatServers.f k xs) (str (servL b xs)) := by
  refine Ev.bind hb ?_
  cases b with
  | false => exact ev_val fun _ => rfl
  | true =>
    simp only [if_true, servL]
    by_cases h : xs.length = 0
    · simp only [if_pos h, if_pos (show (xs.length : Int) = 0 by omega)]; exact Ev.now _
    · simp only [if_neg h, if_neg (show ¬ ((xs.length : Int) = 0) by omega)]
      exact impl_FormatServers.l0ev xs hn hr (0, []) ⟨by simp, by simp⟩

/-- A string's bytes as digits. -/
def digD (s : ByteArray) : List Int := (bytesOf s).map fun b => b - 48
theorem digD_length (s : ByteArray) : (digD s).length = s.size := by rw [digD, List.length_map, bytesOf_length]
theorem digD_range (s : ByteArray) (j : Nat) (h : j < (digD s).length) : -48 ≤ (digD s)[j] ∧ (digD s)[j] ≤ 207 := by
  have h' : j < (bytesOf s).length := by simpa [digD] using h
  have := bytes_range s _ (List.getElem_mem h')
  simp only [digD, List.getElem_map]
  omega
theorem digD_snoc (s : ByteArray) (i : Nat) (h : i < s.size) : (digD s).take (i + 1) = (digD s).take i ++ [wrap64 ((wrap64 (bt s (i : Int))) - 48)] := by
  have h1 : i < (digD s).length := by rw [digD_length]; exact h
  have h2 : i < (bytesOf s).length := by rw [bytesOf_length]; exact h
  have hb : bt s (i : Int) = (bytesOf s)[i] := by rw [← rd_bytesOf, rd_get _ i h2]
  have hr := bytes_range s _ (List.getElem_mem h2)
  rw [hb, w64 (show -9223372036854775808 ≤ (bytesOf s)[i] by omega) (by omega), w64 (by omega) (by omega), List.take_succ_eq_append_getElem h1]
  simp [digD]
theorem digD_wf (s : ByteArray) (n : Nat) : ∀ j : Nat, j < ((digD s).take n).length → -9223372036854775808 ≤ rd ((digD s).take n) (j : Int) ∧ rd ((digD s).take n) (j : Int) ≤ 9223372036854775807 := by
  intro j hj
  rw [rd_get _ j hj, List.getElem_take]
  have := digD_range s j (by rw [List.length_take] at hj; omega)
  omega
/-- Numbers that ascend within 0..4: five at most. -/
theorem five_at_most (xs : List Int) (h : ∀ j : Nat, j < xs.length → (0 ≤ rd xs (j : Int) ∧ rd xs (j : Int) ≤ 4) ∧ (0 < j → rd xs ((j : Int) - 1) < rd xs (j : Int))) : xs.length ≤ 5 := by
  have key : ∀ j : Nat, j < xs.length → (j : Int) ≤ rd xs (j : Int) := by
    intro j
    induction j with
    | zero => intro hj; exact (h 0 hj).1.1
    | succ j ih =>
      intro hj
      have h1 := ih (by omega)
      have h2 := (h (j + 1) hj).2 (by omega)
      rw [show (((j + 1 : Nat) : Int) - 1) = (j : Int) by omega] at h2
      omega
  rcases Nat.lt_or_ge 5 xs.length with h5 | h5
  · have h1 := key 5 h5
    have h2 := (h 5 h5).1.2
    omega
  · exact h5
theorem impl_ParseServers.l0ev (s : ByteArray) (hn : s.size ≤ 1048576) (r : List Int × Bool)
    (hr : Ev (fun k => if s.toList = ([] : List UInt8) then (some (([] : List Int), false)) else ((impl_FormatServers.f k (digD s)).bind fun t142 => (if t142.toList = s.toList then (some (digD s, true)) else (some (([] : List Int), false))))) r) :
    ∀ d i : Nat, i + d = s.size → Ev (fun k => impl_ParseServers.l0 k s ((digD s).take i) (s.size : Int) (i : Int)) r := by
  intro d
  induction d with
  | zero =>
    intro i h
    refine ev_shift ?_
    simp only [impl_ParseServers.l0, if_neg (show ¬ ((i : Int) < (s.size : Int)) by omega), List.take_of_length_le (show (digD s).length ≤ i by rw [digD_length]; omega)]
    exact hr
  | succ d ih =>
    intro i h
    have e1 := w64 (show -9223372036854775808 ≤ (i : Int) + 1 by omega) (by omega)
    have := ih (i + 1) (by omega)
    rw [digD_snoc s i (by omega)] at this
    refine ev_shift ?_
    simp only [impl_ParseServers.l0, if_pos (show (i : Int) < (s.size : Int) by omega), if_pos (show (0 : Int) ≤ (i : Int) by omega), if_pos (show ((digD s).take i).length < 17592186044416 by rw [List.length_take]; omega), e1]
    simpa using this
theorem spec_ParseServers.l0ev (s : ByteArray) (hn : s.size ≤ 1048576) (r : List Int × Bool) (hr : Ev (fun k => if s.toList = ([] : List UInt8) then (some (([] : List Int), false)) else ((spec_FormatServers.f k ((digD s).take 6)).bind fun t142 => (if t142.toList = s.toList then (some ((digD s).take 6, true)) else (some (([] : List Int), false))))) r) :
    ∀ d i : Nat, i + d = min s.size 6 → Ev (fun k => spec_ParseServers.l0 k s ((digD s).take i) (i : Int)) r := by
  intro d
  induction d with
  | zero =>
    intro i h
    refine ev_shift ?_
    have ht : (digD s).take i = (digD s).take 6 := by
      rcases Nat.le_total s.size 6 with h6 | h6
      · rw [List.take_of_length_le (by rw [digD_length]; omega), List.take_of_length_le (by rw [digD_length]; omega)]
      · rw [show i = 6 by omega]
    rw [ht]
    by_cases hi : (i : Int) < (s.size : Int)
    · simp only [spec_ParseServers.l0, if_pos hi, if_neg (show ¬ ((i : Int) ≤ 5) by omega)]
      exact hr
    · simp only [spec_ParseServers.l0, if_neg hi]
      exact hr
  | succ d ih =>
    intro i h
    have e1 := w64 (show -9223372036854775808 ≤ (i : Int) + 1 by omega) (by omega)
    have := ih (i + 1) (by omega)
    rw [digD_snoc s i (by omega)] at this
    refine ev_shift ?_
    simp only [spec_ParseServers.l0, if_pos (show (i : Int) < (s.size : Int) by omega), if_pos (show (i : Int) ≤ 5 by omega), if_pos (show (0 : Int) ≤ (i : Int) by omega), if_pos (show ((digD s).take i).length < 17592186044416 by rw [List.length_take]; omega), e1]
    simpa using this
theorem parse_servers (s : ByteArray) (hn : s.size ≤ 1048576) : ∃ r : List Int × Bool, Ev (fun k => spec_ParseServers.f k s) r ∧ Ev (fun k => impl_ParseServers.f k s) r ∧ r.1.length ≤ 1048576 := by
  by_cases h0 : s.toList = ([110, 111, 110, 101] : List UInt8)
  · exact ⟨([], true), ev_val fun k => by simp only [spec_ParseServers.f, Option.bind_some, if_pos h0], ev_val fun k => by simp only [impl_ParseServers.f, Option.bind_some, if_pos h0], by simp⟩
  · have go : ∀ r : List Int × Bool, Ev (fun k => if s.toList = ([] : List UInt8) then (some (([] : List Int), false)) else ((spec_FormatServers.f k ((digD s).take 6)).bind fun t142 => (if t142.toList = s.toList then (some ((digD s).take 6, true)) else (some (([] : List Int), false))))) r → Ev (fun k => if s.toList = ([] : List UInt8) then (some (([] : List Int), false)) else ((impl_FormatServers.f k (digD s)).bind fun t142 => (if t142.toList = s.toList then (some (digD s, true)) else (some (([] : List Int), false))))) r → r.1.length ≤ 1048576 →
        ∃ r : List Int × Bool, Ev (fun k => spec_ParseServers.f k s) r ∧ Ev (fun k => impl_ParseServers.f k s) r ∧ r.1.length ≤ 1048576 := fun r h1 h2 h3 =>
      ⟨r, by simp only [spec_ParseServers.f, Option.bind_some, if_neg h0]; simpa using spec_ParseServers.l0ev s hn r h1 (min s.size 6) 0 (by omega), by simp only [impl_ParseServers.f, Option.bind_some, if_neg h0]; simpa using impl_ParseServers.l0ev s hn r h2 s.size 0 (by omega), h3⟩
    by_cases h1 : s.toList = ([] : List UInt8)
    · exact go ([], false) (ev_val fun k => by simp only [if_pos h1]) (ev_val fun k => by simp only [if_pos h1]) (by simp)
    · have hl : ((digD s).take 6).length ≤ 1048576 := by rw [List.length_take]; omega
      have hd : (digD s).length ≤ 1048576 := by rw [digD_length]; exact hn
      have wd := digD_wf s (digD s).length
      rw [List.take_of_length_le (Nat.le_refl _)] at wd
      obtain ⟨b, hb, hq⟩ := spec_AreServers.ev ((digD s).take 6) (by omega)
      obtain ⟨c, hc, hp⟩ := impl_AreServers.ev (digD s) (by omega)
      have fs := spec_FormatServers.ev ((digD s).take 6) hl (digD_wf s 6) b hb
      have fi := impl_FormatServers.ev (digD s) hd wd c hc
      have hs : s.toList = [] ↔ s.size = 0 := by rw [toList_data, ByteArray.size, ← Array.length_toList, List.length_eq_zero_iff]
      by_cases h6 : s.size ≤ 6
      · have ht : (digD s).take 6 = digD s := List.take_of_length_le (by rw [digD_length]; exact h6)
        rw [ht] at fs hq
        obtain rfl : c = b := by rw [Bool.eq_iff_iff, hq, hp]
        by_cases he : (str (servL c (digD s))).toList = s.toList
        · refine go (digD s, true) ?_ ?_ hd
          · simp only [if_neg h1, ht]; exact Ev.bind fs (ev_val fun _ => by simp only [if_pos he])
          · simp only [if_neg h1]; exact Ev.bind fi (ev_val fun _ => by simp only [if_pos he])
        · refine go ([], false) ?_ ?_ (by simp)
          · simp only [if_neg h1, ht]; exact Ev.bind fs (ev_val fun _ => by simp only [if_neg he])
          · simp only [if_neg h1]; exact Ev.bind fi (ev_val fun _ => by simp only [if_neg he])
      · have hb' : b = false := by
          cases b with
          | false => rfl
          | true => have := five_at_most _ (hq.1 rfl); rw [List.length_take, digD_length] at this; omega
        have hc' : c = false := by
          cases c with
          | false => rfl
          | true => have := five_at_most _ (hp.1 rfl); rw [digD_length] at this; omega
        subst hb' hc'
        have he : ∀ l, ¬ (str (servL false l)).toList = s.toList := fun l h => h1 (by rw [← h, str_toList]; rfl)
        refine go ([], false) ?_ ?_ (by simp)
        · simp only [if_neg h1]; exact Ev.bind fs (ev_val fun _ => by simp only [if_neg (he _)])
        · simp only [if_neg h1]; exact Ev.bind fi (ev_val fun _ => by simp only [if_neg (he _)])

/-- The marks of a list of numbers. -/
def marksI (n : Nat) (a : Int) : List Int := (List.range n).map fun (i : Nat) => a + 1 * (i : Int)
theorem marksI_length (n : Nat) (a : Int) : (marksI n a).length = n := by simp [marksI]
theorem laws_markIntS.ev (xs : List Int) (a : Int) (hn : xs.length ≤ 1048576000) (h0 : 0 ≤ a) (h1 : a ≤ 1048576000000) : Ev (fun k => laws_markIntS.f k xs a) (a + 1 * xs.length, marksI xs.length a) := by
  have := mark_loop (fun k ys a i => laws_markIntS.l0 k ys a i) 1 (fun a => a) ⟨by omega, by omega⟩
    (fun k xs a => by simp only [laws_markIntS.l0, if_neg (show ¬ ((xs.length : Int) < (xs.length : Int)) by omega)])
    (fun xs a i k hi hi2 ha ha' => by
      simp only [laws_markIntS.l0, if_pos (show (i : Int) < (xs.length : Int) by omega), if_pos (show (0 : Int) ≤ (i : Int) by omega), Int.toNat_natCast, w64 (show -9223372036854775808 ≤ (i : Int) + 1 by omega) (by omega), w64 (show -9223372036854775808 ≤ a + 1 by omega) (by omega)])
    xs a hn h0 h1
  exact this

theorem laws_heldIntS.ev (n : Nat) (a : Int) (hn : n ≤ 1048576000) (h0 : 0 ≤ a) (h1 : a ≤ 1048576000000) : Ev (fun k => laws_heldIntS.f k (marksI n a) a) (a + 1 * n) := by
  have := held_loop (fun k a' i => laws_heldIntS.l0 k (marksI n a) a' i) 1 (fun a => a) ⟨by omega, by omega⟩ (marksI n a)
    (fun k a' => by simp only [laws_heldIntS.l0, if_neg (show ¬ (((marksI n a).length : Int) < ((marksI n a).length : Int)) by omega)])
    (fun a' i k hi hi2 ha ha' hx => by
      simp only [laws_heldIntS.l0, if_pos (show (i : Int) < ((marksI n a).length : Int) by omega), if_pos (show (0 : Int) ≤ (i : Int) by omega), rd_get (marksI n a) i hi, if_pos hx, w64 (show -9223372036854775808 ≤ (i : Int) + 1 by omega) (by omega), w64 (show -9223372036854775808 ≤ a' + 1 by omega) (by omega)])
    a (by rw [marksI_length]; exact hn) h0 h1 (by rw [marksI_length]; rfl)
  rw [marksI_length] at this
  exact this

theorem FnExactParseServers : FnExactParseServersPure := by
  intro s hs
  refine Ev.rounds (g := fun k => laws_FnExactParseServers.f k s) ?_
  by_cases hb : (s.size : Int) > 1048576
  · simp only [laws_FnExactParseServers.f, if_pos hb]; exact Ev.now _
  · simp only [laws_FnExactParseServers.f, if_neg hb]
    obtain ⟨⟨l, t⟩, h1, h2, h3⟩ := parse_servers s (by omega)
    simp only at h3
    refine Ev.bind h1 (Ev.bind h2 (Ev.bind (laws_eqIntS.same l (by omega)) ?_))
    simp only [if_true, bne_self_eq_false]
    refine ev_shift ?_
    simp only [laws_FnExactParseServers.j0, Bool.false_eq_true, if_false]
    refine Ev.bind (laws_markIntS.ev l 1 (by omega) (by omega) (by omega)) (Ev.bind (laws_heldIntS.ev l.length 1 (by omega) (by omega) (by omega)) ?_)
    simp only [if_neg (show ¬ (1 + 1 * (l.length : Int) < 0) by omega), if_true]
    refine Ev.bind h2 (Ev.bind (laws_eqIntS.same l (by omega)) ?_)
    simp only [if_true, bne_self_eq_false]
    refine ev_shift ?_
    simp only [laws_FnExactParseServers.j1, Bool.false_eq_true, if_false]
    refine Ev.bind (laws_heldIntS.ev l.length 1 (by omega) (by omega) (by omega)) ?_
    simp only [if_neg (show ¬ (1 + 1 * (l.length : Int) < 0) by omega), if_true]
    exact Ev.now _

end Go.Proofs.YtlnkpjjmgkmofaaDoor.Pure
