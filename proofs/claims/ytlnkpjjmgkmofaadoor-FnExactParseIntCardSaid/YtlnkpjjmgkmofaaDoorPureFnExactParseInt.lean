/- For every string the law FnExactParseInt returns true; no conditions. -/
import Derived.Test.YtlnkpjjmgkmofaaDoorQFnExactParseInt
import Derived.Test.YtlnkpjjmgkmofaaDoorCom
set_option linter.unusedVariables false
set_option linter.unusedSimpArgs false
namespace Go.Proofs.YtlnkpjjmgkmofaaDoor.Pure
open Go.RowKit Go.Proofs.YtlnkpjjmgkmofaaDoor.C Go.Proofs.YtlnkpjjmgkmofaaDoorW.PrintWords Go.Proofs.YtlnkpjjmgkmofaaDoorW.PrintLast
open Go.Proofs.YtlnkpjjmgkmofaaDoor.Opens
open Go.Proofs.YtlnkpjjmgkmofaaDoor.Com
open Go.Proofs.YtlnkpjjmgkmofaaDoor.Given

/-- Bytes as a string. -/
def str (l : List UInt8) : ByteArray := ⟨l.toArray⟩
theorem str_append (a b : List UInt8) : str a ++ str b = str (a ++ b) := by
  apply ByteArray.ext
  simp [str]
theorem str_size (l : List UInt8) : (str l).size = l.length := by simp [str, ByteArray.size]
theorem str_inj {a b : List UInt8} (h : str a = str b) : a = b := by
  have := congrArg (fun s => s.data.toList) h
  simpa [str] using this
theorem str_toList (l : List UInt8) : (str l).toList = l := by rw [toList_data]; simp [str]
theorem toList_inj' {a b : ByteArray} (h : a.toList = b.toList) : a = b := bytesOf_inj (bytesOf_congr h)
/-- The digits of a number, none for 0. -/
def digs (m : Nat) : List UInt8 := if m = 0 then [] else Lib.decDigits m
theorem digs_step (m : Nat) (h : 0 < m) : digs m = digs (m / 10) ++ [UInt8.ofNat (48 + m % 10)] := by
  unfold digs
  rw [if_neg (by omega), Lib.decDigits]
  by_cases h9 : m < 10
  · rw [dif_pos h9, if_pos (by omega), Nat.mod_eq_of_lt h9]; rfl
  · rw [dif_neg h9, if_neg (by omega)]
theorem tmod10 (x : Int) : (0 ≤ x → Int.tmod x 10 = ((x.natAbs % 10 : Nat) : Int) ∧ Int.tdiv x 10 = ((x.natAbs / 10 : Nat) : Int)) ∧ (x < 0 → Int.tmod x 10 = -((x.natAbs % 10 : Nat) : Int) ∧ Int.tdiv x 10 = -((x.natAbs / 10 : Nat) : Int)) := by
  constructor
  · intro h
    obtain ⟨n, rfl⟩ := Int.eq_ofNat_of_zero_le h
    exact ⟨rfl, rfl⟩
  · intro h
    obtain ⟨n, rfl⟩ := Int.eq_negSucc_of_lt_zero h
    exact ⟨rfl, rfl⟩
theorem strOfNums_digit (d : Nat) (h : d < 10) : strOfNums ([(wrap64 (48 + (d : Int))) % 256] : List Int) = str [UInt8.ofNat (48 + d)] := by
  rw [w64 (by omega) (by omega)]
  apply ByteArray.ext
  apply Array.ext'
  rw [strOfNums_data]
  have e : ((48 + (d : Int)) % 256).toNat = 48 + d := by omega
  simp [str, e]
theorem itoa_zero : Lib.itoa 0 = [48] := by unfold Lib.itoa Lib.decDigits; simp
theorem itoa_digs (a : Int) (h : a ≠ 0) : Lib.itoa a = (if a < 0 then [45] else []) ++ digs a.natAbs := by
  have hn : ¬ a.natAbs = 0 := by omega
  unfold Lib.itoa digs
  by_cases c : a < 0
  · rw [if_pos c, if_pos c, if_neg hn]; rfl
  · rw [if_neg c, if_neg c, if_neg hn, show a.toNat = a.natAbs by omega]; rfl
theorem digs_len : ∀ n m : Nat, m < 10 ^ n → (digs m).length ≤ n := by
  intro n
  induction n with
  | zero => intro m h; obtain rfl : m = 0 := by simpa using h
            simp [digs]
  | succ n ih =>
    intro m h
    by_cases h0 : m = 0
    · subst h0; simp [digs]
    · rw [digs_step m (by omega), List.length_append]
      have := ih (m / 10) (by rw [Nat.pow_succ] at h; omega)
      simp only [List.length_cons, List.length_nil]
      omega
theorem itoa_len (a : Int) (h0 : -9223372036854775808 ≤ a) (h1 : a ≤ 9223372036854775807) : (Lib.itoa a).length ≤ 20 := by
  by_cases h : a = 0
  · subst h; rw [itoa_zero]; simp
  · rw [itoa_digs a h, List.length_append]
    have h2 := digs_len 19 a.natAbs (by omega)
    have h3 : (if a < 0 then ([45] : List UInt8) else []).length ≤ 1 := by split <;> simp
    omega
theorem str_lit (l : List UInt8) : (⟨l.toArray⟩ : ByteArray) = str l := rfl

theorem spec_FormatInt.l0ev (neg : Bool) : ∀ s : Int × List UInt8, (s.2.length + s.1.natAbs ≤ 9223372036854775808 ∧ (s.2.length = 0 ∨ s.2.length + s.1.natAbs ≤ 9223372036854775800)) →
    Ev (fun k => spec_FormatInt.l0 k s.1 (str s.2) neg) (str ((if neg then [45] else []) ++ digs s.1.natAbs ++ s.2)) := by
  refine loop_ev (fun k (s : Int × List UInt8) => spec_FormatInt.l0 k s.1 (str s.2) neg) _ (fun s => s.1.natAbs) (fun s => str ((if neg then [45] else []) ++ digs s.1.natAbs ++ s.2)) ?_
  rintro ⟨x, l⟩ ⟨h1, h2⟩
  simp only at h1 h2 ⊢
  by_cases hx : x = 0
  · subst hx
    refine .inl (ev_shift ?_)
    simp only [spec_FormatInt.l0, if_true, str_size]
    cases neg with
    | false => exact ev_val fun _ => by simp [digs]
    | true =>
      simp only [if_true, if_pos (show 1 + l.length ≤ 9223372036854775807 by omega)]
      exact ev_val fun _ => by rw [show (⟨#[45]⟩ : ByteArray) = str [45] from rfl, str_append]; simp [digs]
  · refine .inr ⟨(Int.tdiv x 10, UInt8.ofNat (48 + x.natAbs % 10) :: l), ?_, ?_, ?_, ?_⟩
    · have ht := tmod10 x
      simp only [List.length_cons]
      have : (Int.tdiv x 10).natAbs = x.natAbs / 10 := by rcases (show x < 0 ∨ 0 ≤ x by omega) with c | c; (have := (ht.2 c).2; omega); (have := (ht.1 c).2; omega)
      rw [this]
      omega
    · have ht := tmod10 x
      have : (Int.tdiv x 10).natAbs = x.natAbs / 10 := by rcases (show x < 0 ∨ 0 ≤ x by omega) with c | c; (have := (ht.2 c).2; omega); (have := (ht.1 c).2; omega)
      simp only [this]
      omega
    · have ht := tmod10 x
      have : (Int.tdiv x 10).natAbs = x.natAbs / 10 := by rcases (show x < 0 ∨ 0 ≤ x by omega) with c | c; (have := (ht.2 c).2; omega); (have := (ht.1 c).2; omega)
      simp only [this]
      rw [digs_step x.natAbs (by omega)]
      simp
    · intro r hr
      refine ev_shift ?_
      have ht := tmod10 x
      have e2 : wrap64 (Int.tdiv x 10) = Int.tdiv x 10 := w64 (by rcases (show x < 0 ∨ 0 ≤ x by omega) with c | c; (have := (ht.2 c).2; omega); (have := (ht.1 c).2; omega)) (by rcases (show x < 0 ∨ 0 ≤ x by omega) with c | c; (have := (ht.2 c).2; omega); (have := (ht.1 c).2; omega))
      have e3 : ∀ d : Nat, d < 10 → (strOfNums ([(wrap64 (48 + (d : Int))) % 256] : List Int)) ++ str l = str (UInt8.ofNat (48 + d) :: l) := fun d hd => by rw [strOfNums_digit d hd, str_append]; rfl
      have e4 : ∀ d : Nat, d < 10 → (strOfNums ([(wrap64 (48 + (d : Int))) % 256] : List Int)).size + (str l).size ≤ 9223372036854775807 := fun d hd => by rw [strOfNums_digit d hd, str_size, str_size]; simp only [List.length_cons, List.length_nil]; omega
      have hd : x.natAbs % 10 < 10 := by omega
      simp only [spec_FormatInt.l0, if_neg hx, e2]
      by_cases c : Int.tmod x 10 < 0
      · have hm : Int.tmod x 10 = -((x.natAbs % 10 : Nat) : Int) := by rcases (show x < 0 ∨ 0 ≤ x by omega) with c' | c'; exact (ht.2 c').1; (have := (ht.1 c').1; omega)
        have e1 : wrap64 (-(Int.tmod x 10)) = ((x.natAbs % 10 : Nat) : Int) := by rw [hm, w64 (by omega) (by omega)]; omega
        simp only [if_pos c, e1, Option.bind_some, if_pos (e4 _ hd), e3 _ hd]
        exact hr
      · have hm : Int.tmod x 10 = ((x.natAbs % 10 : Nat) : Int) := by rcases (show x < 0 ∨ 0 ≤ x by omega) with c' | c'; (have := (ht.2 c').1; omega); exact (ht.1 c').1
        rw [hm] at c
        simp only [hm, if_neg c, Option.bind_some, if_pos (e4 _ hd), e3 _ hd]
        exact hr
theorem spec_FormatInt.ev (a : Int) (h0 : -9223372036854775808 ≤ a) (h1 : a ≤ 9223372036854775807) : Ev (fun k => spec_FormatInt.f k a) (str (Lib.itoa a)) := by
  by_cases ha : a = 0
  · subst ha
    simp only [spec_FormatInt.f, if_true, itoa_zero]
    exact Ev.now _
  · simp only [spec_FormatInt.f, if_neg ha]
    have h := spec_FormatInt.l0ev (decide (a < 0)) (a, []) ⟨by simp only [List.length_nil]; omega, .inl rfl⟩
    refine ev_eq h ?_
    rw [itoa_digs a ha]
    simp only [List.append_nil, decide_eq_true_eq]

/-- The number that the digits of a list of bytes tell. -/
def valD (l : List Int) : Int := l.foldl (fun n b => if 48 ≤ b ∧ b ≤ 57 then n * 10 + (b - 48) else n) 0
/-- How many digits there are. -/
def cntD (l : List Int) : Int := l.foldl (fun n b => if 48 ≤ b ∧ b ≤ 57 then n + 1 else n) 0
theorem valD_snoc (l : List Int) (b : Int) : valD (l ++ [b]) = if 48 ≤ b ∧ b ≤ 57 then valD l * 10 + (b - 48) else valD l := by simp [valD, List.foldl_append]
theorem cntD_snoc (l : List Int) (b : Int) : cntD (l ++ [b]) = if 48 ≤ b ∧ b ≤ 57 then cntD l + 1 else cntD l := by simp [cntD, List.foldl_append]
theorem fold_bound : ∀ (l : List Int) (n : Int), 0 ≤ n → 0 ≤ l.foldl (fun n b => if 48 ≤ b ∧ b ≤ 57 then n * 10 + (b - 48) else n) n ∧ l.foldl (fun n b => if 48 ≤ b ∧ b ≤ 57 then n * 10 + (b - 48) else n) n < (n + 1) * 10 ^ l.length := by
  intro l
  induction l with
  | nil => intro n h; simp; omega
  | cons b l ih =>
    intro n h
    have hP : (0 : Int) ≤ 10 ^ l.length := Int.le_of_lt (Int.pow_pos (by decide))
    rw [List.foldl_cons, List.length_cons, Int.pow_succ]
    by_cases hb : 48 ≤ b ∧ b ≤ 57
    · rw [if_pos hb]
      obtain ⟨h1, h2⟩ := ih (n * 10 + (b - 48)) (by omega)
      refine ⟨h1, Int.lt_of_lt_of_le h2 ?_⟩
      have h3 : (n * 10 + (b - 48) + 1) * 10 ^ l.length ≤ ((n + 1) * 10) * 10 ^ l.length := Int.mul_le_mul_of_nonneg_right (by omega) hP
      calc (n * 10 + (b - 48) + 1) * 10 ^ l.length ≤ ((n + 1) * 10) * 10 ^ l.length := h3
        _ = (n + 1) * (10 ^ l.length * 10) := by rw [Int.mul_assoc, Int.mul_comm 10]
    · rw [if_neg hb]
      obtain ⟨h1, h2⟩ := ih n h
      refine ⟨h1, Int.lt_of_lt_of_le h2 ?_⟩
      have h3 : (n + 1) * 10 ^ l.length ≤ ((n + 1) * 10) * 10 ^ l.length := Int.mul_le_mul_of_nonneg_right (by omega) hP
      calc (n + 1) * 10 ^ l.length ≤ ((n + 1) * 10) * 10 ^ l.length := h3
        _ = (n + 1) * (10 ^ l.length * 10) := by rw [Int.mul_assoc, Int.mul_comm 10]
theorem pow10_le {n : Nat} (h : n ≤ 11) : (10 : Int) ^ n ≤ 100000000000 := by
  have : n = 0 ∨ n = 1 ∨ n = 2 ∨ n = 3 ∨ n = 4 ∨ n = 5 ∨ n = 6 ∨ n = 7 ∨ n = 8 ∨ n = 9 ∨ n = 10 ∨ n = 11 := by omega
  rcases this with h | h | h | h | h | h | h | h | h | h | h | h <;> subst h <;> decide
theorem valD_bound (l : List Int) (h : l.length ≤ 11) : 0 ≤ valD l ∧ valD l < 100000000000 := by
  obtain ⟨h1, h2⟩ := fold_bound l 0 (by omega)
  refine ⟨h1, Int.lt_of_lt_of_le h2 ?_⟩
  rw [Int.zero_add, Int.one_mul]
  exact pow10_le h
theorem cnt_bound : ∀ (l : List Int) (n : Int), n ≤ l.foldl (fun n b => if 48 ≤ b ∧ b ≤ 57 then n + 1 else n) n ∧ l.foldl (fun n b => if 48 ≤ b ∧ b ≤ 57 then n + 1 else n) n ≤ n + l.length := by
  intro l
  induction l with
  | nil => intro n; simp
  | cons b l ih =>
    intro n
    rw [List.foldl_cons, List.length_cons]
    by_cases hb : 48 ≤ b ∧ b ≤ 57
    · rw [if_pos hb]; have := ih (n + 1); omega
    · rw [if_neg hb]; have := ih n; omega
theorem cnt_all : ∀ (l : List Int) (n : Int), (∀ b ∈ l, 48 ≤ b ∧ b ≤ 57) → l.foldl (fun n b => if 48 ≤ b ∧ b ≤ 57 then n + 1 else n) n = n + l.length := by
  intro l
  induction l with
  | nil => intro n _; simp
  | cons b l ih =>
    intro n h
    rw [List.foldl_cons, List.length_cons, if_pos (h b (by simp)), ih (n + 1) (fun c hc => h c (by simp [hc]))]
    omega
theorem cntD_all {l : List Int} (h : ∀ b ∈ l, 48 ≤ b ∧ b ≤ 57) : cntD l = l.length := by rw [cntD, cnt_all l 0 h]; omega
theorem valD_minus (l : List Int) : valD (45 :: l) = valD l := by simp [valD]
theorem cntD_minus (l : List Int) : cntD (45 :: l) = cntD l := by simp [cntD]
/-- A list of bytes as numbers. -/
def nums (l : List UInt8) : List Int := l.map fun b => (b.toNat : Int)
theorem bytesOf_str (l : List UInt8) : bytesOf (str l) = nums l := by simp [bytesOf, str, nums]
theorem digit_num (d : Nat) (h : d < 10) : nums [UInt8.ofNat (48 + d)] = [48 + (d : Int)] := by
  simp only [nums, List.map_cons, List.map_nil]
  rw [UInt8.toNat_ofNat_of_lt' (by simp [UInt8.size]; omega)]
  simp
/-- The digits of a number: all of them digits, telling the number. -/
theorem digs_val (m : Nat) : valD (nums (digs m)) = (m : Int) ∧ (∀ b ∈ nums (digs m), 48 ≤ b ∧ b ≤ 57) := by
  induction m using Nat.strongRecOn with
  | ind m ih =>
    by_cases h0 : m = 0
    · subst h0; simp [digs, nums, valD]
    · obtain ⟨h1, h2⟩ := ih (m / 10) (by omega)
      have hd : m % 10 < 10 := by omega
      have e : nums (digs m) = nums (digs (m / 10)) ++ [48 + ((m % 10 : Nat) : Int)] := by
        rw [digs_step m (by omega), ← digit_num (m % 10) hd]; simp [nums]
      rw [e]
      constructor
      · rw [valD_snoc, if_pos (by omega), h1]; omega
      · intro b hb
        rcases List.mem_append.1 hb with hb | hb
        · exact h2 b hb
        · rw [List.mem_singleton.1 hb]; omega
theorem dec_val (m : Nat) : valD (nums (Lib.decDigits m)) = (m : Int) ∧ (∀ b ∈ nums (Lib.decDigits m), 48 ≤ b ∧ b ≤ 57) ∧ 1 ≤ (Lib.decDigits m).length := by
  by_cases h0 : m = 0
  · subst h0; unfold Lib.decDigits; simp [nums, valD]
  · have h := digs_val m
    have e : digs m = Lib.decDigits m := by rw [digs, if_neg h0]
    rw [e] at h
    refine ⟨h.1, h.2, ?_⟩
    rw [← e, digs_step m (by omega)]
    simp
theorem itoa_bytes (a : Int) : bytesOf (str (Lib.itoa a)) = (if a < 0 then [45] else []) ++ nums (Lib.decDigits a.natAbs) := by
  rw [bytesOf_str]
  unfold Lib.itoa
  by_cases c : a < 0
  · rw [if_pos c, if_pos c]; rfl
  · rw [if_neg c, if_neg c, show a.toNat = a.natAbs by omega]; rfl
/-- Is there a minus ahead? -/
def negB (l : List Int) : Bool := decide (l.head? = some 45)
/-- What ParseInt takes for the number and its digits. -/
def tailB (l : List Int) : List Int := if negB l = true then l.tail else l
def numB (l : List Int) : Int := if negB l = true then -valD l else valD l
theorem valD_tailB (l : List Int) : valD (tailB l) = valD l ∧ cntD (tailB l) = cntD l := by
  unfold tailB
  by_cases h : negB l = true
  · rw [if_pos h]
    cases l with
    | nil => simp [negB] at h
    | cons b l => obtain rfl : b = 45 := by simpa [negB] using h
                  exact ⟨(valD_minus l).symm, (cntD_minus l).symm⟩
  · rw [if_neg h]; exact ⟨rfl, rfl⟩
def specOk (s : ByteArray) : Prop := cntD (bytesOf s) ≤ 9 ∧ s.size ≤ 10 ∧ str (Lib.itoa (numB (bytesOf s))) = s
def implOk (s : ByteArray) : Prop := 1 ≤ (tailB (bytesOf s)).length ∧ (tailB (bytesOf s)).length ≤ 9 ∧ (∀ b ∈ tailB (bytesOf s), 48 ≤ b ∧ b ≤ 57) ∧ str (Lib.itoa (numB (bytesOf s))) = s
theorem tailB_length (l : List Int) : l.length ≤ (tailB l).length + 1 := by
  unfold tailB
  by_cases h : negB l = true
  · rw [if_pos h, List.length_tail]; omega
  · rw [if_neg h]; omega
theorem itoa_tail (a : Int) : tailB (bytesOf (str (Lib.itoa a))) = nums (Lib.decDigits a.natAbs) ∧ numB (bytesOf (str (Lib.itoa a))) = a := by
  obtain ⟨h1, h2, h3⟩ := dec_val a.natAbs
  rw [itoa_bytes]
  by_cases c : a < 0
  · rw [if_pos c]
    have hn : negB ([45] ++ nums (Lib.decDigits a.natAbs)) = true := by simp [negB]
    refine ⟨by rw [tailB, if_pos hn]; rfl, ?_⟩
    rw [numB, if_pos hn]
    show -valD (45 :: nums (Lib.decDigits a.natAbs)) = a
    rw [valD_minus, h1]; omega
  · rw [if_neg c, List.nil_append]
    have hn : ¬ negB (nums (Lib.decDigits a.natAbs)) = true := by
      cases hl : nums (Lib.decDigits a.natAbs) with
      | nil => simp [negB]
      | cons b l => have := h2 b (by rw [hl]; simp)
                    simp only [negB, List.head?_cons, Option.some.injEq, decide_eq_true_eq]
                    omega
    refine ⟨by rw [tailB, if_neg hn], ?_⟩
    rw [numB, if_neg hn, h1]; omega
theorem ok_iff (s : ByteArray) : specOk s ↔ implOk s := by
  constructor
  · rintro ⟨h1, h2, h3⟩
    have e := itoa_tail (numB (bytesOf s))
    obtain ⟨d1, d2, d3⟩ := dec_val (numB (bytesOf s)).natAbs
    rw [h3] at e
    have hl : (tailB (bytesOf s)).length = (Lib.decDigits (numB (bytesOf s)).natAbs).length := by rw [e.1]; simp [nums]
    have hd : ∀ b ∈ tailB (bytesOf s), 48 ≤ b ∧ b ≤ 57 := by rw [e.1]; exact d2
    refine ⟨by omega, ?_, hd, h3⟩
    have := cntD_all hd
    rw [(valD_tailB (bytesOf s)).2] at this
    omega
  · rintro ⟨h1, h2, h3, h4⟩
    have := cntD_all h3
    rw [(valD_tailB (bytesOf s)).2] at this
    refine ⟨by omega, ?_, h4⟩
    have := tailB_length (bytesOf s)
    rw [bytesOf_length] at this
    omega

theorem cntD_take (l : List Int) (n : Nat) : cntD (l.take n) ≤ cntD l := by
  have h : cntD l = (l.drop n).foldl (fun n b => if 48 ≤ b ∧ b ≤ 57 then n + 1 else n) (cntD (l.take n)) := by
    conv => lhs; rw [← List.take_append_drop n l]
    rw [cntD, List.foldl_append]; rfl
  rw [h]
  exact (cnt_bound _ _).1
theorem take_bt (s : ByteArray) (i : Nat) (h : i < s.size) : (bytesOf s).take (i + 1) = (bytesOf s).take i ++ [bt s (i : Int)] ∧ 0 ≤ bt s (i : Int) ∧ bt s (i : Int) ≤ 255 := by
  have h2 : i < (bytesOf s).length := by rw [bytesOf_length]; exact h
  have hb : bt s (i : Int) = (bytesOf s)[i] := by rw [← rd_bytesOf, rd_get _ i h2]
  rw [hb, List.take_succ_eq_append_getElem h2]
  exact ⟨rfl, bytes_range s _ (List.getElem_mem h2)⟩
theorem negB_bt (s : ByteArray) : negB (bytesOf s) = if (s.size : Int) > 0 then (bt s 0 == 45) else false := by
  by_cases h : (s.size : Int) > 0
  · have h2 : 0 < (bytesOf s).length := by rw [bytesOf_length]; omega
    have hb : bt s ((0 : Nat) : Int) = (bytesOf s)[0] := by rw [← rd_bytesOf, rd_get _ 0 h2]
    have hb' : bt s 0 = (bytesOf s)[0] := hb
    rw [if_pos h, hb', negB]
    rw [List.head?_eq_getElem?, List.getElem?_eq_getElem h2]
    simp only [Option.some.injEq]
    by_cases c : (bytesOf s)[0] = 45 <;> simp [c]
  · rw [if_neg h]
    have : (bytesOf s) = [] := List.eq_nil_of_length_eq_zero (by rw [bytesOf_length]; omega)
    rw [this]; rfl
theorem spec_ParseInt.l0ev (s : ByteArray) (r : Int × Bool) (hr : Ev (fun k => spec_ParseInt.j1 k s (valD ((bytesOf s).take 11)) (cntD ((bytesOf s).take 11)) ((min s.size 11 : Nat) : Int) false) r) :
    ∀ d i : Nat, i + d = min s.size 11 → Ev (fun k => spec_ParseInt.l0 k s (valD ((bytesOf s).take i)) (cntD ((bytesOf s).take i)) (i : Int)) r := by
  intro d
  induction d with
  | zero =>
    intro i h
    obtain rfl : i = min s.size 11 := by omega
    have ht : (bytesOf s).take (min s.size 11) = (bytesOf s).take 11 := by
      rcases Nat.le_total s.size 11 with h6 | h6
      · rw [List.take_of_length_le (by rw [bytesOf_length]; omega), List.take_of_length_le (by rw [bytesOf_length]; omega)]
      · rw [Nat.min_eq_right h6]
    refine ev_shift ?_
    rw [ht]
    by_cases hi : ((min s.size 11 : Nat) : Int) < (s.size : Int)
    · simp only [spec_ParseInt.l0, if_pos hi, decide_eq_false (show ¬ (((min s.size 11 : Nat) : Int) < 11) by omega)]
      exact hr
    · simp only [spec_ParseInt.l0, if_neg hi]
      exact hr
  | succ d ih =>
    intro i h
    have e1 := w64 (show -9223372036854775808 ≤ (i : Int) + 1 by omega) (by omega)
    have hi := ih (i + 1) (by omega)
    obtain ⟨tb, b0, b1⟩ := take_bt s i (by omega)
    have hv := valD_bound ((bytesOf s).take i) (by rw [List.length_take]; omega)
    have hc := cnt_bound ((bytesOf s).take i) 0
    have hc1 : 0 ≤ cntD ((bytesOf s).take i) ∧ cntD ((bytesOf s).take i) ≤ 11 := by
      have : ((bytesOf s).take i).length ≤ 11 := by rw [List.length_take]; omega
      unfold cntD
      omega
    have e2 : wrap64 (cntD ((bytesOf s).take i) + 1) = cntD ((bytesOf s).take i) + 1 := w64 (by omega) (by omega)
    rw [tb, valD_snoc, cntD_snoc] at hi
    refine ev_shift ?_
    simp only [spec_ParseInt.l0, if_pos (show (i : Int) < (s.size : Int) by omega), decide_eq_true (show (i : Int) < 11 by omega)]
    refine ev_shift ?_
    simp only [spec_ParseInt.j1, if_true, if_pos (show (0 : Int) ≤ (i : Int) by omega), if_pos (show (i : Int) < (s.size : Int) by omega), e1, e2]
    by_cases c1 : bt s (i : Int) ≥ 48
    · by_cases c2 : bt s (i : Int) ≤ 57
      · have e3 : wrap64 ((wrap64 (valD ((bytesOf s).take i) * 10)) + ((bt s (i : Int) - 48) % 256)) = valD ((bytesOf s).take i) * 10 + (bt s (i : Int) - 48) := by
          rw [w64 (show -9223372036854775808 ≤ valD ((bytesOf s).take i) * 10 by omega) (by omega), show (bt s (i : Int) - 48) % 256 = bt s (i : Int) - 48 by omega, w64 (by omega) (by omega)]
        simp only [if_pos c1, if_pos c2, e3]
        simp only [if_pos (show 48 ≤ bt s (i : Int) ∧ bt s (i : Int) ≤ 57 from ⟨c1, c2⟩)] at hi
        simpa using hi
      · simp only [if_pos c1, if_neg c2]
        simp only [if_neg (show ¬ (48 ≤ bt s (i : Int) ∧ bt s (i : Int) ≤ 57) from fun h => c2 h.2)] at hi
        simpa using hi
    · simp only [if_neg c1]
      simp only [if_neg (show ¬ (48 ≤ bt s (i : Int) ∧ bt s (i : Int) ≤ 57) from fun h => c1 h.1)] at hi
      simpa using hi
theorem spec_ParseInt.ev (s : ByteArray) : (specOk s ∧ Ev (fun k => spec_ParseInt.f k s) (numB (bytesOf s), true)) ∨ (¬ specOk s ∧ Ev (fun k => spec_ParseInt.f k s) (0, false)) := by
  have hv := valD_bound ((bytesOf s).take 11) (by rw [List.length_take]; omega)
  have j3 : ∀ n : Int, -100000000000 < n → n < 100000000000 → (s.size ≤ 10 → n = numB (bytesOf s)) →
      (specOk s ∧ Ev (fun k => spec_ParseInt.j3 k s n (cntD ((bytesOf s).take 11))) (numB (bytesOf s), true)) ∨ (¬ specOk s ∧ Ev (fun k => spec_ParseInt.j3 k s n (cntD ((bytesOf s).take 11))) (0, false)) := by
    intro n n0 n1 hn
    have hbad : Ev (fun k => spec_ParseInt.j4 k n true) (0, false) := ev_shift (ev_val fun k => by simp only [spec_ParseInt.j4, if_true])
    by_cases c1 : cntD ((bytesOf s).take 11) > 9
    · refine .inr ⟨fun h => ?_, ev_shift (by simp only [spec_ParseInt.j3, if_pos c1]; exact hbad)⟩
      have := cntD_take (bytesOf s) 11
      have := h.1
      omega
    · by_cases c2 : (s.size : Int) > 10
      · exact .inr ⟨fun h => by have := h.2.1; omega, ev_shift (by simp only [spec_ParseInt.j3, if_neg c1, if_pos c2]; exact hbad)⟩
      · have e := hn (by omega)
        subst e
        have ht : (bytesOf s).take 11 = bytesOf s := List.take_of_length_le (by rw [bytesOf_length]; omega)
        have hf := spec_FormatInt.ev (numB (bytesOf s)) (by omega) (by omega)
        by_cases c3 : str (Lib.itoa (numB (bytesOf s))) = s
        · refine .inl ⟨⟨by rw [ht] at c1; omega, by omega, c3⟩, ev_shift ?_⟩
          simp only [spec_ParseInt.j3, if_neg c1, if_neg c2]
          refine Ev.bind hf (ev_shift (ev_val fun k => ?_))
          simp only [spec_ParseInt.j4, c3, bne_self_eq_false, Bool.false_eq_true, if_false]
        · refine .inr ⟨fun h => c3 h.2.2, ev_shift ?_⟩
          simp only [spec_ParseInt.j3, if_neg c1, if_neg c2]
          refine Ev.bind hf (ev_shift (ev_val fun k => ?_))
          have : ((str (Lib.itoa (numB (bytesOf s)))).toList != s.toList) = true := bne_iff_ne.2 fun h => c3 (toList_inj' h)
          simp only [spec_ParseInt.j4, this, if_true]
  have hj1 : ∀ r, Ev (fun k => spec_ParseInt.j3 k s (if negB (bytesOf s) = true then -valD ((bytesOf s).take 11) else valD ((bytesOf s).take 11)) (cntD ((bytesOf s).take 11))) r → Ev (fun k => spec_ParseInt.f k s) r := by
    intro r hr
    have hz := spec_ParseInt.l0ev s r ?_ (min s.size 11) 0 (by omega)
    · simpa [spec_ParseInt.f, valD, cntD] using hz
    · refine ev_shift ?_
      simp only [spec_ParseInt.j1, Bool.false_eq_true, if_false]
      have hn := negB_bt s
      have e2 : wrap64 (-valD ((bytesOf s).take 11)) = -valD ((bytesOf s).take 11) := w64 (by omega) (by omega)
      by_cases c : (s.size : Int) > 0
      · rw [if_pos c] at hn
        simp only [if_pos c, if_pos (show (0 : Int) < (s.size : Int) by omega), ← hn]
        refine ev_shift ?_
        simp only [spec_ParseInt.j2, e2]
        cases hb : negB (bytesOf s) with
        | true => rw [hb] at hr; simpa using hr
        | false => rw [hb] at hr; simpa using hr
      · rw [if_neg c] at hn
        rw [hn] at hr
        simp only [if_neg c]
        refine ev_shift ?_
        simp only [spec_ParseInt.j2, Bool.false_eq_true, if_false]
        simpa using hr
  rcases j3 (if negB (bytesOf s) = true then -valD ((bytesOf s).take 11) else valD ((bytesOf s).take 11)) (by split <;> omega) (by split <;> omega) (fun h => by rw [numB, List.take_of_length_le (by rw [bytesOf_length]; omega)]) with ⟨h1, h2⟩ | ⟨h1, h2⟩
  · exact .inl ⟨h1, hj1 _ h2⟩
  · exact .inr ⟨h1, hj1 _ h2⟩

theorem impl_FormatInt.val (a : Int) (h0 : -9223372036854775808 ≤ a) (h1 : a ≤ 9223372036854775807) : impl_FormatInt.f a = some (str (Lib.itoa a)) := by
  simp only [impl_FormatInt.f, strconv_Itoa.f, if_pos (show -9223372036854775808 ≤ a ∧ a ≤ 9223372036854775807 from ⟨h0, h1⟩), Option.bind_some]
  rfl

theorem impl_within.val (a b c : Int) : impl_within.f a b c = some (decide (b ≤ a ∧ a ≤ c)) := by
  unfold impl_within.f
  by_cases h : b ≤ a <;> simp [h]

theorem bytesOf_tail (s : ByteArray) : bytesOf (s.extract 1 s.size) = (bytesOf s).tail := by
  rw [bytesOf, bytesOf, ← List.map_tail]
  congr 1
  rw [ByteArray.data_extract, Array.toList_extract, ByteArray.size, ← Array.length_toList]
  cases s.data.toList with
  | nil => rfl
  | cons a l => simp [List.extract]
theorem impl_ParseInt.l0ev (s t : ByteArray) (g : Int) (hg : g = 1 ∨ g = -1) (ht : t.size ≤ 9) (r : Int × Bool)
    (hbad : ¬ (∀ b ∈ bytesOf t, 48 ≤ b ∧ b ≤ 57) → r = (0, false))
    (hok : (∀ b ∈ bytesOf t, 48 ≤ b ∧ b ≤ 57) → (if str (Lib.itoa (g * valD (bytesOf t))) = s then (g * valD (bytesOf t), true) else (0, false)) = r) :
    ∀ d i : Nat, i + d = t.size → (∀ b ∈ (bytesOf t).take i, 48 ≤ b ∧ b ≤ 57) → Ev (fun k => impl_ParseInt.l0 k s t g (valD ((bytesOf t).take i)) (t.size : Int) (i : Int)) r := by
  intro d
  induction d with
  | zero =>
    intro i h hd
    obtain rfl : i = t.size := by omega
    have hall : (bytesOf t).take t.size = bytesOf t := List.take_of_length_le (by rw [bytesOf_length]; omega)
    rw [hall] at hd ⊢
    have hv := valD_bound (bytesOf t) (by rw [bytesOf_length]; omega)
    have e1 : wrap64 (g * valD (bytesOf t)) = g * valD (bytesOf t) := by rcases hg with rfl | rfl <;> exact w64 (by omega) (by omega)
    have hr := hok hd
    refine ev_shift ?_
    simp only [impl_ParseInt.l0, if_neg (show ¬ ((t.size : Int) < (t.size : Int)) by omega), e1, impl_FormatInt.val (g * valD (bytesOf t)) (by rcases hg with rfl | rfl <;> omega) (by rcases hg with rfl | rfl <;> omega), Option.bind_some]
    by_cases c : str (Lib.itoa (g * valD (bytesOf t))) = s
    · rw [if_pos c] at hr
      subst hr
      exact ev_val fun k => by rw [c]; simp
    · rw [if_neg c] at hr
      subst hr
      exact ev_val fun k => by rw [if_neg (fun h => c (toList_inj' h))]
  | succ d ih =>
    intro i h hd
    have e1 := w64 (show -9223372036854775808 ≤ (i : Int) + 1 by omega) (by omega)
    obtain ⟨tb, b0, b1⟩ := take_bt t i (by omega)
    have hv := valD_bound ((bytesOf t).take i) (by rw [List.length_take]; omega)
    have hm : bt t (i : Int) ∈ bytesOf t := List.mem_of_mem_take (i := i + 1) (by rw [tb]; simp)
    refine ev_shift ?_
    by_cases c1 : bt t (i : Int) < 48
    · rw [hbad fun hh => by have := hh _ hm; omega]
      exact ev_val fun k => by simp only [impl_ParseInt.l0, if_pos (show (i : Int) < (t.size : Int) by omega), if_pos (show (0 : Int) ≤ (i : Int) by omega), if_pos c1]
    · by_cases c2 : bt t (i : Int) > 57
      · rw [hbad fun hh => by have := hh _ hm; omega]
        exact ev_val fun k => by simp only [impl_ParseInt.l0, if_pos (show (i : Int) < (t.size : Int) by omega), if_pos (show (0 : Int) ≤ (i : Int) by omega), if_neg c1, if_pos c2]
      · have hi := ih (i + 1) (by omega) (by
          rw [tb]
          intro b hb
          rcases List.mem_append.1 hb with hb | hb
          · exact hd b hb
          · rw [List.mem_singleton.1 hb]; omega)
        rw [tb, valD_snoc, if_pos (by omega)] at hi
        have e3 : wrap64 ((wrap64 (10 * valD ((bytesOf t).take i))) + ((bt t (i : Int) - 48) % 256)) = valD ((bytesOf t).take i) * 10 + (bt t (i : Int) - 48) := by
          rw [w64 (show -9223372036854775808 ≤ 10 * valD ((bytesOf t).take i) by omega) (by omega), show (bt t (i : Int) - 48) % 256 = bt t (i : Int) - 48 by omega, w64 (by omega) (by omega)]
          omega
        simp only [impl_ParseInt.l0, if_pos (show (i : Int) < (t.size : Int) by omega), if_pos (show (0 : Int) ≤ (i : Int) by omega), if_neg c1, if_neg c2, e1, e3]
        simpa using hi
theorem impl_ParseInt.ev (s : ByteArray) : (implOk s ∧ Ev (fun k => impl_ParseInt.f k s) (numB (bytesOf s), true)) ∨ (¬ implOk s ∧ Ev (fun k => impl_ParseInt.f k s) (0, false)) := by
  have j1 : ∀ (t : ByteArray) (g : Int), (g = 1 ∨ g = -1) → bytesOf t = tailB (bytesOf s) → g * valD (bytesOf t) = numB (bytesOf s) →
      (implOk s ∧ Ev (fun k => impl_ParseInt.j1 k s t g) (numB (bytesOf s), true)) ∨ (¬ implOk s ∧ Ev (fun k => impl_ParseInt.j1 k s t g) (0, false)) := by
    intro t g hg ht hn
    have hl : t.size = (tailB (bytesOf s)).length := by rw [← ht, bytesOf_length]
    by_cases c : 1 ≤ (t.size : Int) ∧ (t.size : Int) ≤ 9
    · have go : ∀ r, (¬ (∀ b ∈ bytesOf t, 48 ≤ b ∧ b ≤ 57) → r = (0, false)) → ((∀ b ∈ bytesOf t, 48 ≤ b ∧ b ≤ 57) → (if str (Lib.itoa (g * valD (bytesOf t))) = s then (g * valD (bytesOf t), true) else (0, false)) = r) → Ev (fun k => impl_ParseInt.j1 k s t g) r := by
        intro r h1 h2
        refine ev_shift ?_
        simp only [impl_ParseInt.j1, impl_within.val, Option.bind_some, decide_eq_true c, if_true]
        have := impl_ParseInt.l0ev s t g hg (by omega) r h1 h2 t.size 0 (by omega) (by simp)
        simpa [valD] using this
      by_cases hd : ∀ b ∈ bytesOf t, 48 ≤ b ∧ b ≤ 57
      · by_cases hs : str (Lib.itoa (numB (bytesOf s))) = s
        · exact .inl ⟨⟨by omega, by omega, by rw [← ht]; exact hd, hs⟩, go _ (fun h => absurd hd h) (fun _ => by rw [hn, if_pos hs])⟩
        · exact .inr ⟨fun h => hs h.2.2.2, go _ (fun _ => rfl) (fun _ => by rw [hn, if_neg hs])⟩
      · exact .inr ⟨fun h => hd (by rw [ht]; exact h.2.2.1), go _ (fun _ => rfl) (fun h => absurd h hd)⟩
    · refine .inr ⟨fun h => c (by have := h.1; have := h.2.1; omega), ev_shift (ev_val fun k => ?_)⟩
      simp only [impl_ParseInt.j1, impl_within.val, Option.bind_some, decide_eq_false c, Bool.false_eq_true, if_false]
  have hn := negB_bt s
  cases hb : negB (bytesOf s) with
  | true =>
    rw [hb] at hn
    have c : (s.size : Int) > 0 := by
      by_cases c : (s.size : Int) > 0
      · exact c
      · rw [if_neg c] at hn; exact absurd hn (by decide)
    rw [if_pos c] at hn
    have hj := j1 (s.extract 1 s.size) (-1) (.inr rfl) (by rw [bytesOf_tail, tailB, if_pos hb]) (by
      rw [numB, if_pos hb, bytesOf_tail]
      have := (valD_tailB (bytesOf s)).1
      rw [tailB, if_pos hb] at this
      rw [this]; omega)
    have hup : ∀ r, Ev (fun k => impl_ParseInt.j1 k s (s.extract 1 s.size) (-1)) r → Ev (fun k => impl_ParseInt.f k s) r := fun r hr => by
      simp only [impl_ParseInt.f, if_pos c, if_pos (show (0 : Int) < (s.size : Int) by omega), ← hn]
      refine ev_shift ?_
      simp only [impl_ParseInt.j0, if_true, if_pos (show 1 ≤ (s.size : Int) by omega)]
      exact hr
    rcases hj with ⟨h1, h2⟩ | ⟨h1, h2⟩
    · exact .inl ⟨h1, hup _ h2⟩
    · exact .inr ⟨h1, hup _ h2⟩
  | false =>
    rw [hb] at hn
    have hj := j1 s 1 (.inl rfl) (by rw [tailB, hb]; rfl) (by rw [numB, hb, Int.one_mul]; rfl)
    have hup : ∀ r, Ev (fun k => impl_ParseInt.j1 k s s 1) r → Ev (fun k => impl_ParseInt.f k s) r := fun r hr => by
      by_cases c : (s.size : Int) > 0
      · rw [if_pos c] at hn
        simp only [impl_ParseInt.f, if_pos c, if_pos (show (0 : Int) < (s.size : Int) by omega), ← hn]
        refine ev_shift ?_
        simp only [impl_ParseInt.j0, Bool.false_eq_true, if_false]
        exact hr
      · simp only [impl_ParseInt.f, if_neg c]
        refine ev_shift ?_
        simp only [impl_ParseInt.j0, Bool.false_eq_true, if_false]
        exact hr
    rcases hj with ⟨h1, h2⟩ | ⟨h1, h2⟩
    · exact .inl ⟨h1, hup _ h2⟩
    · exact .inr ⟨h1, hup _ h2⟩

theorem FnExactParseInt : FnExactParseIntPure := by
  intro s hs
  refine Ev.rounds (g := fun k => laws_FnExactParseInt.f k s) ?_
  by_cases hb : (s.size : Int) > 1048576
  · simp only [laws_FnExactParseInt.f, if_pos hb]; exact Ev.now _
  · simp only [laws_FnExactParseInt.f, if_neg hb]
    rcases spec_ParseInt.ev s with ⟨h1, h2⟩ | ⟨h1, h2⟩
    · rcases impl_ParseInt.ev s with ⟨h3, h4⟩ | ⟨h3, h4⟩
      · exact Ev.bind h2 (Ev.bind h4 (ev_val fun _ => by simp))
      · exact absurd ((ok_iff s).1 h1) h3
    · rcases impl_ParseInt.ev s with ⟨h3, h4⟩ | ⟨h3, h4⟩
      · exact absurd ((ok_iff s).2 h3) h1
      · exact Ev.bind h2 (Ev.bind h4 (ev_val fun _ => by simp))

end Go.Proofs.YtlnkpjjmgkmofaaDoor.Pure
