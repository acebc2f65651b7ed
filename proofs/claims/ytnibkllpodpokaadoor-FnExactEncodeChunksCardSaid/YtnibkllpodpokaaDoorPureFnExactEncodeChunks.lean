/- For every string and number the law FnExactEncodeChunks returns true; no conditions. -/
import Derived.Test.YtnibkllpodpokaaDoorQFnExactEncodeChunks
import Derived.Test.YtnibkllpodpokaaDoorCom
set_option linter.unusedVariables false
set_option linter.unusedSimpArgs false
namespace Go.Proofs.YtnibkllpodpokaaDoor.Pure
open Go.RowKit Go.Proofs.YtnibkllpodpokaaDoor.B Go.Proofs.YtnibkllpodpokaaDoorW.PrintWords Go.Proofs.YtnibkllpodpokaaDoorW.PrintLast
open Go.Proofs.YtnibkllpodpokaaDoor.Opens
open Go.Proofs.YtnibkllpodpokaaDoor.Com
open Go.Proofs.YtnibkllpodpokaaDoor.Given

/-- One step of the checksum. -/
def ckStep (c b : Int) : Int := (c * 257 + b + 1) % 9949
/-- The checksum of a string's bytes. -/
def cks (l : List Int) : Int := l.foldl ckStep 5
theorem ckStep_range (c b : Int) : 0 ≤ ckStep c b ∧ ckStep c b ≤ 9948 := by unfold ckStep; omega
theorem ckFold_range (l : List Int) : ∀ c, 0 ≤ c → c ≤ 9948 → 0 ≤ l.foldl ckStep c ∧ l.foldl ckStep c ≤ 9948 := by
  induction l with
  | nil => intro c h0 h1; exact ⟨h0, h1⟩
  | cons b l ih => intro c h0 h1; exact ih _ (ckStep_range c b).1 (ckStep_range c b).2
theorem cks_range (l : List Int) : 0 ≤ cks l ∧ cks l ≤ 9948 := ckFold_range l 5 (by omega) (by omega)

theorem spec_Checksum.step (c b : Int) (h0 : 0 ≤ c) (h1 : c ≤ 9948) (b0 : 0 ≤ b) (b1 : b ≤ 255) : Int.tmod (wrap64 ((wrap64 ((wrap64 (c * 257)) + (wrap64 b))) + 1)) 9949 = ckStep c b := by
  rw [w64 (x := c * 257) (by omega) (by omega), w64 (x := b) (by omega) (by omega), w64 (x := c * 257 + b) (by omega) (by omega), w64 (x := c * 257 + b + 1) (by omega) (by omega), tmod_pos _ _ (by omega)]
  rfl
theorem spec_Checksum.ev (s : ByteArray) (hn : s.size ≤ 9223372036854775806) : Ev (fun k => spec_Checksum.f k s) (cks (bytesOf s)) := by
  have key : ∀ (d i : Nat) (c : Int), i + d = s.size → 0 ≤ c → c ≤ 9948 → Ev (fun k => spec_Checksum.l0 k s c (i : Int)) (((bytesOf s).drop i).foldl ckStep c) := by
    intro d
    induction d with
    | zero =>
      intro i c h h0 h1
      refine ev_shift ?_
      simp only [spec_Checksum.l0, if_neg (show ¬ ((i : Int) < (s.size : Int)) by omega)]
      exact ev_some (by rw [bytes_end s i (by omega)]; rfl)
    | succ d ih =>
      intro i c h h0 h1
      have hb := bt_range s (i : Int)
      have := ih (i + 1) (ckStep c (bt s (i : Int))) (by omega) (ckStep_range _ _).1 (ckStep_range _ _).2
      refine ev_shift ?_
      simp only [spec_Checksum.l0, if_pos (show (i : Int) < (s.size : Int) by omega), if_pos (show (0 : Int) ≤ (i : Int) by omega), w64 (show -9223372036854775808 ≤ (i : Int) + 1 by omega) (by omega),
        spec_Checksum.step c _ h0 h1 hb.1 hb.2]
      rw [bytes_cons s i (by omega), List.foldl_cons]
      simpa using this
  simpa [spec_Checksum.f, cks] using key s.size 0 5 (by omega) (by omega) (by omega)

/-- Bytes as a string. -/
def str (l : List UInt8) : ByteArray := ⟨l.toArray⟩
theorem str_append (a b : List UInt8) : str a ++ str b = str (a ++ b) := by
  apply ByteArray.ext
  simp [str]
theorem str_size (l : List UInt8) : (str l).size = l.length := by simp [str, ByteArray.size]
theorem str_inj {a b : List UInt8} (h : str a = str b) : a = b := by
  have := congrArg (fun s => s.data.toList) h
  simpa [str] using this
theorem str_toList (l : List UInt8) : (str l).toList = l := by rw [toList_data]; simp [str]
theorem toList_inj' {a b : ByteArray} (h : a.toList = b.toList) : a = b := bytesOf_inj (bytesOf_congr h)
/-- The digits of a number, none for 0. -/
def digs (m : Nat) : List UInt8 := if m = 0 then [] else Lib.decDigits m
theorem digs_step (m : Nat) (h : 0 < m) : digs m = digs (m / 10) ++ [UInt8.ofNat (48 + m % 10)] := by
  unfold digs
  rw [if_neg (by omega), Lib.decDigits]
  by_cases h9 : m < 10
  · rw [dif_pos h9, if_pos (by omega), Nat.mod_eq_of_lt h9]; rfl
  · rw [dif_neg h9, if_neg (by omega)]
theorem tmod10 (x : Int) : (0 ≤ x → Int.tmod x 10 = ((x.natAbs % 10 : Nat) : Int) ∧ Int.tdiv x 10 = ((x.natAbs / 10 : Nat) : Int)) ∧ (x < 0 → Int.tmod x 10 = -((x.natAbs % 10 : Nat) : Int) ∧ Int.tdiv x 10 = -((x.natAbs / 10 : Nat) : Int)) := by
  constructor
  · intro h
    obtain ⟨n, rfl⟩ := Int.eq_ofNat_of_zero_le h
    exact ⟨rfl, rfl⟩
  · intro h
    obtain ⟨n, rfl⟩ := Int.eq_negSucc_of_lt_zero h
    exact ⟨rfl, rfl⟩
theorem strOfNums_digit (d : Nat) (h : d < 10) : strOfNums ([(wrap64 (48 + (d : Int))) % 256] : List Int) = str [UInt8.ofNat (48 + d)] := by
  rw [w64 (by omega) (by omega)]
  apply ByteArray.ext
  apply Array.ext'
  rw [strOfNums_data]
  have e : ((48 + (d : Int)) % 256).toNat = 48 + d := by omega
  simp [str, e]
theorem itoa_zero : Lib.itoa 0 = [48] := by unfold Lib.itoa Lib.decDigits; simp
theorem itoa_digs (a : Int) (h : a ≠ 0) : Lib.itoa a = (if a < 0 then [45] else []) ++ digs a.natAbs := by
  have hn : ¬ a.natAbs = 0 := by omega
  unfold Lib.itoa digs
  by_cases c : a < 0
  · rw [if_pos c, if_pos c, if_neg hn]; rfl
  · rw [if_neg c, if_neg c, if_neg hn, show a.toNat = a.natAbs by omega]; rfl
theorem digs_len : ∀ n m : Nat, m < 10 ^ n → (digs m).length ≤ n := by
  intro n
  induction n with
  | zero => intro m h; obtain rfl : m = 0 := by simpa using h
            simp [digs]
  | succ n ih =>
    intro m h
    by_cases h0 : m = 0
    · subst h0; simp [digs]
    · rw [digs_step m (by omega), List.length_append]
      have := ih (m / 10) (by rw [Nat.pow_succ] at h; omega)
      simp only [List.length_cons, List.length_nil]
      omega
theorem itoa_len (a : Int) (h0 : -9223372036854775808 ≤ a) (h1 : a ≤ 9223372036854775807) : (Lib.itoa a).length ≤ 20 := by
  by_cases h : a = 0
  · subst h; rw [itoa_zero]; simp
  · rw [itoa_digs a h, List.length_append]
    have h2 := digs_len 19 a.natAbs (by omega)
    have h3 : (if a < 0 then ([45] : List UInt8) else []).length ≤ 1 := by split <;> simp
    omega
theorem str_lit (l : List UInt8) : (⟨l.toArray⟩ : ByteArray) = str l := rfl

theorem spec_FormatInt.l0ev (neg : Bool) : ∀ s : Int × List UInt8, (s.2.length + s.1.natAbs ≤ 9223372036854775808 ∧ (s.2.length = 0 ∨ s.2.length + s.1.natAbs ≤ 9223372036854775800)) →
    Ev (fun k => spec_FormatInt.l0 k s.1 (str s.2) neg) (str ((if neg then [45] else []) ++ digs s.1.natAbs ++ s.2)) := by
  refine loop_ev (fun k (s : Int × List UInt8) => spec_FormatInt.l0 k s.1 (str s.2) neg) _ (fun s => s.1.natAbs) (fun s => str ((if neg then [45] else []) ++ digs s.1.natAbs ++ s.2)) ?_
  rintro ⟨x, l⟩ ⟨h1, h2⟩
  simp only at h1 h2 ⊢
  by_cases hx : x = 0
  · subst hx
    refine .inl (ev_shift ?_)
    simp only [spec_FormatInt.l0, if_true, str_size]
    cases neg with
    | false => exact ev_val fun _ => by simp [digs]
    | true =>
      simp only [if_true, if_pos (show 1 + l.length ≤ 9223372036854775807 by omega)]
      exact ev_val fun _ => by rw [show (⟨#[45]⟩ : ByteArray) = str [45] from rfl, str_append]; simp [digs]
  · refine .inr ⟨(Int.tdiv x 10, UInt8.ofNat (48 + x.natAbs % 10) :: l), ?_, ?_, ?_, ?_⟩
    · have ht := tmod10 x
      simp only [List.length_cons]
      have : (Int.tdiv x 10).natAbs = x.natAbs / 10 := by rcases (show x < 0 ∨ 0 ≤ x by omega) with c | c; (have := (ht.2 c).2; omega); (have := (ht.1 c).2; omega)
      rw [this]
      omega
    · have ht := tmod10 x
      have : (Int.tdiv x 10).natAbs = x.natAbs / 10 := by rcases (show x < 0 ∨ 0 ≤ x by omega) with c | c; (have := (ht.2 c).2; omega); (have := (ht.1 c).2; omega)
      simp only [this]
      omega
    · have ht := tmod10 x
      have : (Int.tdiv x 10).natAbs = x.natAbs / 10 := by rcases (show x < 0 ∨ 0 ≤ x by omega) with c | c; (have := (ht.2 c).2; omega); (have := (ht.1 c).2; omega)
      simp only [this]
      rw [digs_step x.natAbs (by omega)]
      simp
    · intro r hr
      refine ev_shift ?_
      have ht := tmod10 x
      have e2 : wrap64 (Int.tdiv x 10) = Int.tdiv x 10 := w64 (by rcases (show x < 0 ∨ 0 ≤ x by omega) with c | c; (have := (ht.2 c).2; omega); (have := (ht.1 c).2; omega)) (by rcases (show x < 0 ∨ 0 ≤ x by omega) with c | c; (have := (ht.2 c).2; omega); (have := (ht.1 c).2; omega))
      have e3 : ∀ d : Nat, d < 10 → (strOfNums ([(wrap64 (48 + (d : Int))) % 256] : List Int)) ++ str l = str (UInt8.ofNat (48 + d) :: l) := fun d hd => by rw [strOfNums_digit d hd, str_append]; rfl
      have e4 : ∀ d : Nat, d < 10 → (strOfNums ([(wrap64 (48 + (d : Int))) % 256] : List Int)).size + (str l).size ≤ 9223372036854775807 := fun d hd => by rw [strOfNums_digit d hd, str_size, str_size]; simp only [List.length_cons, List.length_nil]; omega
      have hd : x.natAbs % 10 < 10 := by omega
      simp only [spec_FormatInt.l0, if_neg hx, e2]
      by_cases c : Int.tmod x 10 < 0
      · have hm : Int.tmod x 10 = -((x.natAbs % 10 : Nat) : Int) := by rcases (show x < 0 ∨ 0 ≤ x by omega) with c' | c'; exact (ht.2 c').1; (have := (ht.1 c').1; omega)
        have e1 : wrap64 (-(Int.tmod x 10)) = ((x.natAbs % 10 : Nat) : Int) := by rw [hm, w64 (by omega) (by omega)]; omega
        simp only [if_pos c, e1, Option.bind_some, if_pos (e4 _ hd), e3 _ hd]
        exact hr
      · have hm : Int.tmod x 10 = ((x.natAbs % 10 : Nat) : Int) := by rcases (show x < 0 ∨ 0 ≤ x by omega) with c' | c'; (have := (ht.2 c').1; omega); exact (ht.1 c').1
        rw [hm] at c
        simp only [hm, if_neg c, Option.bind_some, if_pos (e4 _ hd), e3 _ hd]
        exact hr
theorem spec_FormatInt.ev (a : Int) (h0 : -9223372036854775808 ≤ a) (h1 : a ≤ 9223372036854775807) : Ev (fun k => spec_FormatInt.f k a) (str (Lib.itoa a)) := by
  by_cases ha : a = 0
  · subst ha
    simp only [spec_FormatInt.f, if_true, itoa_zero]
    exact Ev.now _
  · simp only [spec_FormatInt.f, if_neg ha]
    have h := spec_FormatInt.l0ev (decide (a < 0)) (a, []) ⟨by simp only [List.length_nil]; omega, .inl rfl⟩
    refine ev_eq h ?_
    rw [itoa_digs a ha]
    simp only [List.append_nil, decide_eq_true_eq]

/-- The number that the digits of a list of bytes tell. -/
def valD (l : List Int) : Int := l.foldl (fun n b => if 48 ≤ b ∧ b ≤ 57 then n * 10 + (b - 48) else n) 0
/-- How many digits there are. -/
def cntD (l : List Int) : Int := l.foldl (fun n b => if 48 ≤ b ∧ b ≤ 57 then n + 1 else n) 0
theorem valD_snoc (l : List Int) (b : Int) : valD (l ++ [b]) = if 48 ≤ b ∧ b ≤ 57 then valD l * 10 + (b - 48) else valD l := by simp [valD, List.foldl_append]
theorem cntD_snoc (l : List Int) (b : Int) : cntD (l ++ [b]) = if 48 ≤ b ∧ b ≤ 57 then cntD l + 1 else cntD l := by simp [cntD, List.foldl_append]
theorem fold_bound : ∀ (l : List Int) (n : Int), 0 ≤ n → 0 ≤ l.foldl (fun n b => if 48 ≤ b ∧ b ≤ 57 then n * 10 + (b - 48) else n) n ∧ l.foldl (fun n b => if 48 ≤ b ∧ b ≤ 57 then n * 10 + (b - 48) else n) n < (n + 1) * 10 ^ l.length := by
  intro l
  induction l with
  | nil => intro n h; simp; omega
  | cons b l ih =>
    intro n h
    have hP : (0 : Int) ≤ 10 ^ l.length := Int.le_of_lt (Int.pow_pos (by decide))
    rw [List.foldl_cons, List.length_cons, Int.pow_succ]
    by_cases hb : 48 ≤ b ∧ b ≤ 57
    · rw [if_pos hb]
      obtain ⟨h1, h2⟩ := ih (n * 10 + (b - 48)) (by omega)
      refine ⟨h1, Int.lt_of_lt_of_le h2 ?_⟩
      have h3 : (n * 10 + (b - 48) + 1) * 10 ^ l.length ≤ ((n + 1) * 10) * 10 ^ l.length := Int.mul_le_mul_of_nonneg_right (by omega) hP
      calc (n * 10 + (b - 48) + 1) * 10 ^ l.length ≤ ((n + 1) * 10) * 10 ^ l.length := h3
        _ = (n + 1) * (10 ^ l.length * 10) := by rw [Int.mul_assoc, Int.mul_comm 10]
    · rw [if_neg hb]
      obtain ⟨h1, h2⟩ := ih n h
      refine ⟨h1, Int.lt_of_lt_of_le h2 ?_⟩
      have h3 : (n + 1) * 10 ^ l.length ≤ ((n + 1) * 10) * 10 ^ l.length := Int.mul_le_mul_of_nonneg_right (by omega) hP
      calc (n + 1) * 10 ^ l.length ≤ ((n + 1) * 10) * 10 ^ l.length := h3
        _ = (n + 1) * (10 ^ l.length * 10) := by rw [Int.mul_assoc, Int.mul_comm 10]
theorem pow10_le {n : Nat} (h : n ≤ 11) : (10 : Int) ^ n ≤ 100000000000 := by
  have : n = 0 ∨ n = 1 ∨ n = 2 ∨ n = 3 ∨ n = 4 ∨ n = 5 ∨ n = 6 ∨ n = 7 ∨ n = 8 ∨ n = 9 ∨ n = 10 ∨ n = 11 := by omega
  rcases this with h | h | h | h | h | h | h | h | h | h | h | h <;> subst h <;> decide
theorem valD_bound (l : List Int) (h : l.length ≤ 11) : 0 ≤ valD l ∧ valD l < 100000000000 := by
  obtain ⟨h1, h2⟩ := fold_bound l 0 (by omega)
  refine ⟨h1, Int.lt_of_lt_of_le h2 ?_⟩
  rw [Int.zero_add, Int.one_mul]
  exact pow10_le h
theorem cnt_bound : ∀ (l : List Int) (n : Int), n ≤ l.foldl (fun n b => if 48 ≤ b ∧ b ≤ 57 then n + 1 else n) n ∧ l.foldl (fun n b => if 48 ≤ b ∧ b ≤ 57 then n + 1 else n) n ≤ n + l.length := by
  intro l
  induction l with
  | nil => intro n; simp
  | cons b l ih =>
    intro n
    rw [List.foldl_cons, List.length_cons]
    by_cases hb : 48 ≤ b ∧ b ≤ 57
    · rw [if_pos hb]; have := ih (n + 1); omega
    · rw [if_neg hb]; have := ih n; omega
theorem cnt_all : ∀ (l : List Int) (n : Int), (∀ b ∈ l, 48 ≤ b ∧ b ≤ 57) → l.foldl (fun n b => if 48 ≤ b ∧ b ≤ 57 then n + 1 else n) n = n + l.length := by
  intro l
  induction l with
  | nil => intro n _; simp
  | cons b l ih =>
    intro n h
    rw [List.foldl_cons, List.length_cons, if_pos (h b (by simp)), ih (n + 1) (fun c hc => h c (by simp [hc]))]
    omega
theorem cntD_all {l : List Int} (h : ∀ b ∈ l, 48 ≤ b ∧ b ≤ 57) : cntD l = l.length := by rw [cntD, cnt_all l 0 h]; omega
theorem valD_minus (l : List Int) : valD (45 :: l) = valD l := by simp [valD]
theorem cntD_minus (l : List Int) : cntD (45 :: l) = cntD l := by simp [cntD]
/-- A list of bytes as numbers. -/
def nums (l : List UInt8) : List Int := l.map fun b => (b.toNat : Int)
theorem bytesOf_str (l : List UInt8) : bytesOf (str l) = nums l := by simp [bytesOf, str, nums]
theorem digit_num (d : Nat) (h : d < 10) : nums [UInt8.ofNat (48 + d)] = [48 + (d : Int)] := by
  simp only [nums, List.map_cons, List.map_nil]
  rw [UInt8.toNat_ofNat_of_lt' (by simp [UInt8.size]; omega)]
  simp
/-- The digits of a number: all of them digits, telling the number. -/
theorem digs_val (m : Nat) : valD (nums (digs m)) = (m : Int) ∧ (∀ b ∈ nums (digs m), 48 ≤ b ∧ b ≤ 57) := by
  induction m using Nat.strongRecOn with
  | ind m ih =>
    by_cases h0 : m = 0
    · subst h0; simp [digs, nums, valD]
    · obtain ⟨h1, h2⟩ := ih (m / 10) (by omega)
      have hd : m % 10 < 10 := by omega
      have e : nums (digs m) = nums (digs (m / 10)) ++ [48 + ((m % 10 : Nat) : Int)] := by
        rw [digs_step m (by omega), ← digit_num (m % 10) hd]; simp [nums]
      rw [e]
      constructor
      · rw [valD_snoc, if_pos (by omega), h1]; omega
      · intro b hb
        rcases List.mem_append.1 hb with hb | hb
        · exact h2 b hb
        · rw [List.mem_singleton.1 hb]; omega
theorem dec_val (m : Nat) : valD (nums (Lib.decDigits m)) = (m : Int) ∧ (∀ b ∈ nums (Lib.decDigits m), 48 ≤ b ∧ b ≤ 57) ∧ 1 ≤ (Lib.decDigits m).length := by
  by_cases h0 : m = 0
  · subst h0; unfold Lib.decDigits; simp [nums, valD]
  · have h := digs_val m
    have e : digs m = Lib.decDigits m := by rw [digs, if_neg h0]
    rw [e] at h
    refine ⟨h.1, h.2, ?_⟩
    rw [← e, digs_step m (by omega)]
    simp
theorem itoa_bytes (a : Int) : bytesOf (str (Lib.itoa a)) = (if a < 0 then [45] else []) ++ nums (Lib.decDigits a.natAbs) := by
  rw [bytesOf_str]
  unfold Lib.itoa
  by_cases c : a < 0
  · rw [if_pos c, if_pos c]; rfl
  · rw [if_neg c, if_neg c, show a.toNat = a.natAbs by omega]; rfl
/-- Is there a minus ahead? -/
def negB (l : List Int) : Bool := decide (l.head? = some 45)
/-- What ParseInt takes for the number and its digits. -/
def tailB (l : List Int) : List Int := if negB l = true then l.tail else l
def numB (l : List Int) : Int := if negB l = true then -valD l else valD l
theorem valD_tailB (l : List Int) : valD (tailB l) = valD l ∧ cntD (tailB l) = cntD l := by
  unfold tailB
  by_cases h : negB l = true
  · rw [if_pos h]
    cases l with
    | nil => simp [negB] at h
    | cons b l => obtain rfl : b = 45 := by simpa [negB] using h
                  exact ⟨(valD_minus l).symm, (cntD_minus l).symm⟩
  · rw [if_neg h]; exact ⟨rfl, rfl⟩
def specOk (s : ByteArray) : Prop := cntD (bytesOf s) ≤ 9 ∧ s.size ≤ 10 ∧ str (Lib.itoa (numB (bytesOf s))) = s
def implOk (s : ByteArray) : Prop := 1 ≤ (tailB (bytesOf s)).length ∧ (tailB (bytesOf s)).length ≤ 9 ∧ (∀ b ∈ tailB (bytesOf s), 48 ≤ b ∧ b ≤ 57) ∧ str (Lib.itoa (numB (bytesOf s))) = s
theorem tailB_length (l : List Int) : l.length ≤ (tailB l).length + 1 := by
  unfold tailB
  by_cases h : negB l = true
  · rw [if_pos h, List.length_tail]; omega
  · rw [if_neg h]; omega
theorem itoa_tail (a : Int) : tailB (bytesOf (str (Lib.itoa a))) = nums (Lib.decDigits a.natAbs) ∧ numB (bytesOf (str (Lib.itoa a))) = a := by
  obtain ⟨h1, h2, h3⟩ := dec_val a.natAbs
  rw [itoa_bytes]
  by_cases c : a < 0
  · rw [if_pos c]
    have hn : negB ([45] ++ nums (Lib.decDigits a.natAbs)) = true := by simp [negB]
    refine ⟨by rw [tailB, if_pos hn]; rfl, ?_⟩
    rw [numB, if_pos hn]
    show -valD (45 :: nums (Lib.decDigits a.natAbs)) = a
    rw [valD_minus, h1]; omega
  · rw [if_neg c, List.nil_append]
    have hn : ¬ negB (nums (Lib.decDigits a.natAbs)) = true := by
      cases hl : nums (Lib.decDigits a.natAbs) with
      | nil => simp [negB]
      | cons b l => have := h2 b (by rw [hl]; simp)
                    simp only [negB, List.head?_cons, Option.some.injEq, decide_eq_true_eq]
                    omega
    refine ⟨by rw [tailB, if_neg hn], ?_⟩
    rw [numB, if_neg hn, h1]; omega
theorem ok_iff (s : ByteArray) : specOk s ↔ implOk s := by
  constructor
  · rintro ⟨h1, h2, h3⟩
    have e := itoa_tail (numB (bytesOf s))
    obtain ⟨d1, d2, d3⟩ := dec_val (numB (bytesOf s)).natAbs
    rw [h3] at e
    have hl : (tailB (bytesOf s)).length = (Lib.decDigits (numB (bytesOf s)).natAbs).length := by rw [e.1]; simp [nums]
    have hd : ∀ b ∈ tailB (bytesOf s), 48 ≤ b ∧ b ≤ 57 := by rw [e.1]; exact d2
    refine ⟨by omega, ?_, hd, h3⟩
    have := cntD_all hd
    rw [(valD_tailB (bytesOf s)).2] at this
    omega
  · rintro ⟨h1, h2, h3, h4⟩
    have := cntD_all h3
    rw [(valD_tailB (bytesOf s)).2] at this
    refine ⟨by omega, ?_, h4⟩
    have := tailB_length (bytesOf s)
    rw [bytesOf_length] at this
    omega

theorem str_data (p : ByteArray) : str p.data.toList = p := by apply ByteArray.ext; simp [str]
/-- A chunk's text. -/
def chunkB (i t : Int) (p : List UInt8) : List UInt8 := Lib.itoa i ++ [47] ++ Lib.itoa t ++ [58] ++ p
def chunkL (i t : Int) (p : List UInt8) : List UInt8 := chunkB i t p ++ [35] ++ Lib.itoa (cks (nums (chunkB i t p)))
theorem spec_l7Chunk.ev (i t : Int) (i0 : -9223372036854775808 ≤ i) (i1 : i ≤ 9223372036854775807) (t0 : -9223372036854775808 ≤ t) (t1 : t ≤ 9223372036854775807) (p : List UInt8) (hp : p.length ≤ 140737488351232) :
    Ev (fun k => spec_l7Chunk.f k i t (str p)) (str (chunkL i t p)) := by
  have l0 := itoa_len i i0 i1
  have l1 := itoa_len t t0 t1
  have hc := cks_range (nums (chunkB i t p))
  have l2 := itoa_len (cks (nums (chunkB i t p))) (by omega) (by omega)
  obtain ⟨K0, g0⟩ := spec_FormatInt.ev i i0 i1
  obtain ⟨K1, g1⟩ := spec_FormatInt.ev t t0 t1
  obtain ⟨K2, g2⟩ := spec_Checksum.ev (str (chunkB i t p)) (by rw [str_size, chunkB]; simp only [List.length_append, List.length_cons, List.length_nil]; omega)
  obtain ⟨K3, g3⟩ := spec_FormatInt.ev (cks (nums (chunkB i t p))) (by omega) (by omega)
  refine ⟨K0 + K1 + K2 + K3, fun k hk => ?_⟩
  have g2' := g2 k (by omega)
  rw [bytesOf_str, chunkB] at g2'
  have g3' := g3 k (by omega)
  rw [chunkB] at g3' l2
  simp only [spec_l7Chunk.f, g0 k (by omega), g1 k (by omega), Option.bind_some, str_lit, str_append, g2', g3', str_size, List.length_append, List.length_cons, List.length_nil]
  simp (disch := omega) only [if_pos]
  rw [chunkL, chunkB]



theorem impl_Checksum.step (c b : Int) (h0 : 0 ≤ c) (h1 : c ≤ 9948) (b0 : 0 ≤ b) (b1 : b ≤ 255) : Int.tmod (wrap64 ((wrap64 ((wrap64 (257 * c)) + (wrap64 b))) + 1)) 9949 = ckStep c b := by
  rw [w64 (x := 257 * c) (by omega) (by omega), w64 (x := b) (by omega) (by omega), w64 (x := 257 * c + b) (by omega) (by omega), w64 (x := 257 * c + b + 1) (by omega) (by omega), tmod_pos _ _ (by omega), Int.mul_comm 257 c]
  rfl
theorem impl_Checksum.ev (s : ByteArray) (hn : s.size ≤ 9223372036854775806) : Ev (fun k => impl_Checksum.f k s) (cks (bytesOf s)) := by
  have key : ∀ (d i : Nat) (c : Int), i + d = s.size → 0 ≤ c → c ≤ 9948 → Ev (fun k => impl_Checksum.l0 k s c (s.size : Int) (i : Int)) (((bytesOf s).drop i).foldl ckStep c) := by
    intro d
    induction d with
    | zero =>
      intro i c h h0 h1
      refine ev_shift ?_
      simp only [impl_Checksum.l0, if_neg (show ¬ ((i : Int) < (s.size : Int)) by omega)]
      exact ev_some (by rw [bytes_end s i (by omega)]; rfl)
    | succ d ih =>
      intro i c h h0 h1
      have hb := bt_range s (i : Int)
      have := ih (i + 1) (ckStep c (bt s (i : Int))) (by omega) (ckStep_range _ _).1 (ckStep_range _ _).2
      refine ev_shift ?_
      simp only [impl_Checksum.l0, if_pos (show (i : Int) < (s.size : Int) by omega), if_pos (show (0 : Int) ≤ (i : Int) by omega), w64 (show -9223372036854775808 ≤ (i : Int) + 1 by omega) (by omega),
        impl_Checksum.step c _ h0 h1 hb.1 hb.2]
      rw [bytes_cons s i (by omega), List.foldl_cons]
      simpa using this
  simpa [impl_Checksum.f, cks] using key s.size 0 5 (by omega) (by omega) (by omega)

theorem impl_FormatInt.val (a : Int) (h0 : -9223372036854775808 ≤ a) (h1 : a ≤ 9223372036854775807) : impl_FormatInt.f a = some (str (Lib.itoa a)) := by
  simp only [impl_FormatInt.f, strconv_Itoa.f, if_pos (show -9223372036854775808 ≤ a ∧ a ≤ 9223372036854775807 from ⟨h0, h1⟩), Option.bind_some]
  rfl

theorem impl_chunkText.ev (i t : Int) (i0 : -9223372036854775808 ≤ i) (i1 : i ≤ 9223372036854775807) (t0 : -9223372036854775808 ≤ t) (t1 : t ≤ 9223372036854775807) (p : List UInt8) (hp : p.length ≤ 140737488351232) :
    Ev (fun k => impl_chunkText.f k i t (str p)) (str (chunkL i t p)) := by
  have l0 := itoa_len i i0 i1
  have l1 := itoa_len t t0 t1
  have hc := cks_range (nums (chunkB i t p))
  have l2 := itoa_len (cks (nums (chunkB i t p))) (by omega) (by omega)
  have g0 := impl_FormatInt.val i i0 i1
  have g1 := impl_FormatInt.val t t0 t1
  obtain ⟨K2, g2⟩ := impl_Checksum.ev (str (chunkB i t p)) (by rw [str_size, chunkB]; simp only [List.length_append, List.length_cons, List.length_nil]; omega)
  have g3 := impl_FormatInt.val (cks (nums (chunkB i t p))) (by omega) (by omega)
  refine ⟨K2, fun k hk => ?_⟩
  have g2' := g2 k (by omega)
  rw [bytesOf_str, chunkB] at g2'
  have g3' := g3
  rw [chunkB] at g3' l2
  simp only [impl_chunkText.f, g0, g1, Option.bind_some, str_lit, str_append, g2', g3', str_size, List.length_append, List.length_cons, List.length_nil]
  simp (disch := omega) only [if_pos]
  rw [chunkL, chunkB]

theorem div_le (n a : Int) (h0 : 0 ≤ n) (a0 : 1 ≤ a) : n / a ≤ n := by
  have h1 := Int.ediv_nonneg h0 (show 0 ≤ a by omega)
  have h2 : n / a * 1 ≤ n / a * a := Int.mul_le_mul_of_nonneg_left a0 h1
  have h3 := Int.ediv_mul_le n (show a ≠ 0 by omega)
  omega
theorem mn_facts (a b : Int) : mn a b ≤ a ∧ mn a b ≤ b ∧ (mn a b = a ∨ mn a b = b) := by unfold mn; split <;> omega
theorem ext_len (s : ByteArray) (x y : Nat) (hn : s.size ≤ 1048576) : (s.extract x y).data.toList.length ≤ 140737488351232 := by
  have h : (s.extract x y).size ≤ s.size := by rw [ByteArray.size_extract]; omega
  have e : (s.extract x y).data.toList.length = (s.extract x y).size := by rw [ByteArray.size, ← Array.length_toList]
  rw [e]
  exact Nat.le_trans h (Nat.le_trans hn (by decide))
theorem encode_loop (s : ByteArray) (a t : Int) (hn : s.size ≤ 1048576) (a0 : 1 ≤ a) (a1 : a ≤ 9223372036854775807) (t0 : 0 ≤ t) (t1 : t ≤ 40) (hi : ∀ i : Nat, (i : Int) < t → (i : Int) * a ≤ (s.size : Int)) :
    ∀ (d i : Nat) (acc : List ByteArray), (i : Int) + d = t → acc.length = i → ∃ r, Ev (fun k => spec_EncodeChunks.l0 k s a acc t (i : Int)) r ∧ Ev (fun k => impl_EncodeChunks.l0 k s a acc t t (i : Int)) r ∧ r.length ≤ 40 := by
  intro d
  induction d with
  | zero =>
    intro i acc h hl
    refine ⟨acc, ev_shift (ev_val fun k => ?_), ev_shift (ev_val fun k => ?_), by omega⟩
    · simp only [spec_EncodeChunks.l0, if_neg (show ¬ ((i : Int) < t) by omega)]
    · simp only [impl_EncodeChunks.l0, if_neg (show ¬ ((i : Int) < t) by omega)]
  | succ d ih =>
    intro i acc h hl
    have c0 : (i : Int) < t := by omega
    have i0 : -9223372036854775808 ≤ (i : Int) := by omega
    have i1 : (i : Int) ≤ 9223372036854775807 := by omega
    have t2 : -9223372036854775808 ≤ t := by omega
    have t3 : t ≤ 9223372036854775807 := by omega
    have hb := hi i c0
    have hb0 : 0 ≤ (i : Int) * a := Int.mul_nonneg (by omega) (by omega)
    have m1 := mn_facts a (s.size : Int)
    obtain ⟨x, hx⟩ : ∃ x, (i : Int) * a = x := ⟨_, rfl⟩
    rw [hx] at hb hb0
    obtain ⟨z, hz⟩ : ∃ z, mn a (s.size : Int) = z := ⟨_, rfl⟩
    rw [hz] at m1
    have m2 := mn_facts (s.size : Int) (x + z)
    obtain ⟨y, hy⟩ : ∃ y, mn (s.size : Int) (x + z) = y := ⟨_, rfl⟩
    rw [hy] at m2
    have b1 : -9223372036854775808 ≤ (i : Int) + 1 := by omega
    have b2 : (i : Int) + 1 ≤ 9223372036854775807 := by omega
    have b3 : -9223372036854775808 ≤ x := by omega
    have b4 : x ≤ 9223372036854775807 := by omega
    have b5 : -9223372036854775808 ≤ x + z := by omega
    have b6 : x + z ≤ 9223372036854775807 := by omega
    have xy : x ≤ y := by omega
    have yn : y ≤ (s.size : Int) := by omega
    have al : acc.length < 8796093022208 := by omega
    have di : ((i + 1 : Nat) : Int) + d = t := by omega
    obtain ⟨p, hpe⟩ : ∃ p, s.extract x.toNat y.toNat = p := ⟨_, rfl⟩
    have hp : p.data.toList.length ≤ 140737488351232 := by rw [← hpe]; exact ext_len s _ _ hn
    have f1 := spec_l7Chunk.ev (i : Int) t i0 i1 t2 t3 _ hp
    have f2 := impl_chunkText.ev (i : Int) t i0 i1 t2 t3 _ hp
    rw [str_data] at f1 f2
    obtain ⟨r, r1, r2, r3⟩ := ih (i + 1) (acc ++ [str (chunkL (i : Int) t p.data.toList)]) di (by rw [List.length_append, hl]; rfl)
    have e1 : wrap64 x = x := w64 b3 b4
    have e2 : wrap64 (x + z) = x + z := w64 b5 b6
    have e3 : wrap64 ((i : Int) + 1) = (i : Int) + 1 := w64 b1 b2
    refine ⟨r, ev_shift ?_, ev_shift ?_, r3⟩
    · simp only [spec_EncodeChunks.l0, if_pos c0, hx, e1, hz, e2, hy, if_pos hb0, if_pos xy, if_pos yn, hpe, e3]
      refine Ev.bind f1 ?_
      simp only [if_pos al]
      exact r1
    · simp only [impl_EncodeChunks.l0, if_pos c0, hx, e1, hz, e2, hy, if_pos hb0, if_pos xy, if_pos yn, hpe, e3]
      refine Ev.bind f2 ?_
      simp only [if_pos al]
      exact r2
/-- How many chunks. -/
def totalN (n a : Int) : Int := if a ≥ n then 1 else (n - 1) / a + 1
theorem total_facts (n a : Int) (h0 : 0 ≤ n) (h1 : n ≤ 1048576) (a0 : 1 ≤ a) : 1 ≤ totalN n a ∧ totalN n a ≤ 1048577 ∧ (n / a > 40 → totalN n a > 40) ∧ 0 ≤ n / a ∧ n / a ≤ 1048576 ∧ (∀ i : Nat, (i : Int) < totalN n a → (i : Int) * a ≤ n) := by
  have hq0 : 0 ≤ n / a := Int.ediv_nonneg h0 (by omega)
  have hq1 : n / a ≤ n := div_le n a h0 a0
  have hm := Int.ediv_mul_le n (show a ≠ 0 by omega)
  unfold totalN
  by_cases c : a ≥ n
  · rw [if_pos c]
    refine ⟨by omega, by omega, fun h => ?_, hq0, by omega, fun i hi => ?_⟩
    · have : 41 * a ≤ n / a * a := Int.mul_le_mul_of_nonneg_right (by omega) (by omega)
      omega
    · obtain rfl : i = 0 := by omega
      simp; omega
  · rw [if_neg c]
    have p0 : 0 ≤ (n - 1) / a := Int.ediv_nonneg (by omega) (by omega)
    have p1 : (n - 1) / a ≤ n - 1 := div_le _ a (by omega) (by omega)
    have pm := Int.ediv_mul_le (n - 1) (show a ≠ 0 by omega)
    refine ⟨by omega, by omega, fun h => ?_, hq0, by omega, fun i hi => ?_⟩
    · have h2 : 41 * a ≤ n / a * a := Int.mul_le_mul_of_nonneg_right (by omega) (by omega)
      have h3 : 40 ≤ (n - 1) / a := (Int.le_ediv_iff_mul_le (by omega)).2 (by omega)
      omega
    · have h2 : (i : Int) * a ≤ (n - 1) / a * a := Int.mul_le_mul_of_nonneg_right (by omega) (by omega)
      omega
theorem encode_chunks (s : ByteArray) (a : Int) (hn : s.size ≤ 1048576) (a1 : a ≤ 9223372036854775807) : ∃ r, Ev (fun k => spec_EncodeChunks.f k s a) r ∧ Ev (fun k => impl_EncodeChunks.f k s a) r ∧ r.length ≤ 40 := by
  have hbad : Ev (fun k => impl_EncodeChunks.j0 k s a [] true) [] := ev_shift (ev_val fun k => by simp only [impl_EncodeChunks.j0, if_true])
  by_cases c : a < 1
  · exact ⟨[], ev_val fun k => by simp only [spec_EncodeChunks.f, Option.bind_some, if_pos c], by simp only [impl_EncodeChunks.f, Option.bind_some, if_pos c]; exact hbad, by simp⟩
  · obtain ⟨n, hs⟩ : ∃ n : Int, (s.size : Int) = n := ⟨_, rfl⟩
    obtain ⟨f1, f2, f3, f4, f5, f6⟩ := total_facts n a (by omega) (by omega) (by omega)
    have hT : (a ≥ n ∧ totalN n a = 1) ∨ (a < n ∧ mx 1 (wrap64 (Int.tdiv (wrap64 ((wrap64 (n + a)) - 1)) a)) = totalN n a) := by
      by_cases h : a ≥ n
      · exact .inl ⟨h, by rw [totalN, if_pos h]⟩
      · refine .inr ⟨by omega, ?_⟩
        have e : (n + a - 1) / a = (n - 1) / a + 1 := by rw [show n + a - 1 = n - 1 + 1 * a by omega, Int.add_mul_ediv_right _ _ (by omega)]
        have ht : totalN n a = (n - 1) / a + 1 := by rw [totalN, if_neg h]
        rw [w64 (x := n + a) (by omega) (by omega), w64 (x := n + a - 1) (by omega) (by omega), tdiv_pos _ _ (by omega), e, ← ht, w64 (x := totalN n a) (by omega) (by omega), mx]
        split <;> omega
    have hI : mx 1 (wrap64 ((wrap64 (Int.tdiv (wrap64 (n - 1)) a)) + 1)) = totalN n a := by
      rw [w64 (x := n - 1) (by omega) (by omega)]
      by_cases h0 : n = 0
      · subst h0
        have e : Int.tdiv (0 - 1) a = -(1 / a) := by rw [show (0 : Int) - 1 = -1 by omega, Int.neg_tdiv, tdiv_pos _ _ (by omega)]
        have e2 : 0 ≤ 1 / a ∧ 1 / a ≤ 1 := ⟨Int.ediv_nonneg (by omega) (by omega), div_le 1 a (by omega) (by omega)⟩
        rw [e, w64 (x := -(1 / a)) (by omega) (by omega), w64 (x := -(1 / a) + 1) (by omega) (by omega), mx, totalN, if_pos (show a ≥ 0 by omega)]
        split <;> omega
      · have p0 : 0 ≤ (n - 1) / a := Int.ediv_nonneg (by omega) (by omega)
        have p1 : (n - 1) / a ≤ n - 1 := div_le _ a (by omega) (by omega)
        have e : (n - 1) / a + 1 = totalN n a := by
          by_cases h : a ≥ n
          · rw [totalN, if_pos h, Int.ediv_eq_zero_of_lt (by omega) (by omega)]; rfl
          · rw [totalN, if_neg h]
        rw [tdiv_pos _ _ (by omega), w64 (x := (n - 1) / a) (by omega) (by omega), w64 (x := (n - 1) / a + 1) (by omega) (by omega), e, mx]
        split <;> omega
    have hspec : ∀ r, Ev (fun k => spec_EncodeChunks.j0 k s a [] (totalN n a)) r → Ev (fun k => spec_EncodeChunks.f k s a) r := fun r hr => by
      simp only [spec_EncodeChunks.f, Option.bind_some, if_neg c, if_neg (show ¬ (a = 0) by omega), hs]
      rcases hT with ⟨g1, g2⟩ | ⟨g1, g2⟩
      · simp only [if_pos g1]; rw [g2] at hr; exact hr
      · simp only [if_neg (show ¬ (a ≥ n) by omega), g2]; exact hr
    have himpl : ∀ r, Ev (fun k => impl_EncodeChunks.j0 k s a [] (decide (n / a > 40))) r → Ev (fun k => impl_EncodeChunks.f k s a) r := fun r hr => by
      simp only [impl_EncodeChunks.f, Option.bind_some, if_neg c, if_neg (show ¬ (a = 0) by omega), hs, w64 (show -9223372036854775808 ≤ n / a by omega) (by omega)]
      exact hr
    by_cases h40 : totalN n a > 40
    · refine ⟨[], hspec _ (ev_shift (ev_val fun k => by simp only [spec_EncodeChunks.j0, if_pos h40])), himpl _ ?_, by simp⟩
      by_cases h : n / a > 40
      · rw [decide_eq_true h]; exact hbad
      · rw [decide_eq_false h]
        refine ev_shift (ev_val fun k => ?_)
        simp only [impl_EncodeChunks.j0, Bool.false_eq_true, if_false, if_neg (show ¬ (a = 0) by omega), hs, hI, if_pos h40]
    · obtain ⟨r, r1, r2, r3⟩ := encode_loop s a (totalN n a) hn (by omega) a1 (by omega) (by omega) (fun i hi => by rw [hs]; exact f6 i hi) (totalN n a).toNat 0 [] (by omega) rfl
      refine ⟨r, hspec _ (ev_shift ?_), himpl _ ?_, r3⟩
      · simp only [spec_EncodeChunks.j0, if_neg h40]; exact r1
      · rw [decide_eq_false (fun h => h40 (f3 h))]
        refine ev_shift ?_
        simp only [impl_EncodeChunks.j0, Bool.false_eq_true, if_false, if_neg (show ¬ (a = 0) by omega), hs, hI, if_neg h40]
        exact r2

theorem rdB (xs : List ByteArray) (i : Nat) (h : i < xs.length) : rdOf ByteArray.empty xs (i : Int) = xs[i] := by simp [rdOf, h]
theorem toList_inj (a b : ByteArray) : a.toList = b.toList ↔ a = b := ⟨fun h => bytesOf_inj (bytesOf_congr h), fun h => by rw [h]⟩
/-- The bytes of all strings. -/
def sumSizes (xs : List ByteArray) : Nat := (xs.map ByteArray.size).sum

theorem laws_eqStringS.ev (xs ys : List ByteArray) (hn : xs.length ≤ 9223372036854775806) : ∃ b, Ev (fun k => laws_eqStringS.f k xs ys) b ∧ (b = true ↔ xs = ys) := by
  by_cases hl : xs.length = ys.length
  · obtain ⟨b, hb, hq⟩ := eq_loop (fun k i => laws_eqStringS.l0 k xs ys i) xs ys hl
      (fun k => by simp only [laws_eqStringS.l0, if_neg (show ¬ ((xs.length : Int) < (xs.length : Int)) by omega)])
      (fun i h1 h2 => by
        by_cases h : xs[i] = ys[i]
        · exact .inl ⟨h, 0, fun k _ => by simp only [laws_eqStringS.l0, if_pos (show (i : Int) < (xs.length : Int) by omega), if_pos (show (0 : Int) ≤ (i : Int) by omega), if_pos (show (i : Int) < (ys.length : Int) by omega), rdB xs i h1, rdB ys i h2, toList_inj, if_pos h, w64 (show -9223372036854775808 ≤ (i : Int) + 1 by omega) (by omega)]⟩
        · exact .inr ⟨h, 0, fun k _ => by simp only [laws_eqStringS.l0, if_pos (show (i : Int) < (xs.length : Int) by omega), if_pos (show (0 : Int) ≤ (i : Int) by omega), if_pos (show (i : Int) < (ys.length : Int) by omega), rdB xs i h1, rdB ys i h2, toList_inj, if_neg h]⟩)
    refine ⟨b, ?_, hq⟩
    refine Ev.congr (fun k => ?_) hb
    simp only [laws_eqStringS.f, if_pos (show (xs.length : Int) = (ys.length : Int) by omega)]
  · refine ⟨false, ev_val (fun k => ?_), ?_⟩
    · simp only [laws_eqStringS.f, if_neg (show ¬ ((xs.length : Int) = (ys.length : Int)) by omega)]
    · constructor
      · intro h; cases h
      · intro h; subst h; exact absurd rfl hl
theorem laws_eqStringS.same (xs : List ByteArray) (hn : xs.length ≤ 9223372036854775806) : Ev (fun k => laws_eqStringS.f k xs xs) true := by
  obtain ⟨b, hb, hq⟩ := laws_eqStringS.ev xs xs hn
  exact ev_eq hb (hq.2 rfl)

/-- A mark's text. -/
def mtx (a : Int) : List UInt8 := if a ≤ 0 then [109, 48] else [109] ++ digs a.natAbs
theorem laws_markText.ev (a : Int) (h1 : a ≤ 1000000000000000) : Ev (fun k => laws_markText.f k a) (str (mtx a)) := by
  have key : ∀ s : Int × List UInt8, (0 ≤ s.1 ∧ s.1 + s.2.length ≤ 2000000000000000) → Ev (fun k => laws_markText.l0 k s.1 (str s.2)) (str ([109] ++ digs s.1.natAbs ++ s.2)) := by
    refine loop_ev (fun k (s : Int × List UInt8) => laws_markText.l0 k s.1 (str s.2)) _ (fun s => s.1.natAbs) (fun s => str ([109] ++ digs s.1.natAbs ++ s.2)) ?_
    rintro ⟨x, l⟩ ⟨h1, h2⟩
    simp only at h1 h2 ⊢
    by_cases hx : x > 0
    · have ht := (tmod10 x).1 h1
      have hd : x.natAbs % 10 < 10 := by omega
      have hq : (Int.tdiv x 10).natAbs = x.natAbs / 10 := by have := ht.2; omega
      have e2 : wrap64 (Int.tdiv x 10) = Int.tdiv x 10 := w64 (by have := ht.2; omega) (by have := ht.2; omega)
      refine .inr ⟨(Int.tdiv x 10, UInt8.ofNat (48 + x.natAbs % 10) :: l), ⟨by have := ht.2; simp only; omega, by have := ht.2; simp only [List.length_cons]; omega⟩, by simp only [hq]; omega, ?_, ?_⟩
      · simp only [hq]
        rw [digs_step x.natAbs (by omega)]
        simp
      · intro r hr
        refine ev_shift ?_
        simp only [laws_markText.l0, if_pos hx, ht.1, Option.bind_some, strOfNums_digit _ hd, str_append, str_size, List.length_cons, List.length_nil, if_pos (show 0 + 1 + l.length ≤ 9223372036854775807 by omega), e2]
        exact hr
    · obtain rfl : x = 0 := by omega
      refine .inl (ev_shift (ev_val fun k => ?_))
      simp only [laws_markText.l0, if_neg hx, str_size, if_pos (show 1 + l.length ≤ 9223372036854775807 by omega), str_lit, str_append]
      simp [digs]
  by_cases h : a ≤ 0
  · exact ev_val fun k => by simp only [laws_markText.f, if_pos h, mtx]; rfl
  · simp only [laws_markText.f, if_neg h, mtx]
    have := key (a, []) ⟨by simp only; omega, by simp only [List.length_nil]; omega⟩
    simp only [List.append_nil] at this
    exact this

/-- The marks of a list of strings. -/
def marksT (n : Nat) (a : Int) : List ByteArray := (List.range n).map fun (i : Nat) => str (mtx (a + (i : Int)))
theorem marksT_length (n : Nat) (a : Int) : (marksT n a).length = n := by simp [marksT]
theorem marksT_get (n : Nat) (a : Int) (i : Nat) (h : i < (marksT n a).length) : (marksT n a)[i] = str (mtx (a + (i : Int))) := by simp [marksT]
theorem laws_markStringS.ev (xs : List ByteArray) (a : Int) (hn : xs.length ≤ 1048576000) (h0 : 0 ≤ a) (h1 : a ≤ 1048576000000) : Ev (fun k => laws_markStringS.f k xs a) (a + xs.length, marksT xs.length a) := by
  have key : ∀ s : Nat × List ByteArray, (s.1 ≤ xs.length ∧ s.2.length = xs.length) → Ev (fun k => laws_markStringS.l0 k s.2 (a + (s.1 : Int)) (s.1 : Int)) (a + xs.length, s.2.take s.1 ++ (marksT xs.length a).drop s.1) := by
    refine loop_ev (fun k (s : Nat × List ByteArray) => laws_markStringS.l0 k s.2 (a + (s.1 : Int)) (s.1 : Int)) _ (fun s => xs.length - s.1) (fun s => (a + xs.length, s.2.take s.1 ++ (marksT xs.length a).drop s.1)) ?_
    rintro ⟨i, ys⟩ ⟨g1, g2⟩
    simp only at g1 g2 ⊢
    by_cases hi : i < xs.length
    · have e1 := w64 (show -9223372036854775808 ≤ (i : Int) + 1 by omega) (by omega)
      have e2 := w64 (show -9223372036854775808 ≤ a + (i : Int) + 1 by omega) (by omega)
      refine .inr ⟨(i + 1, ys.set i (str (mtx (a + (i : Int))))), ⟨by simp only; omega, by simp only [List.length_set]; exact g2⟩, by simp only; omega, ?_, ?_⟩
      · simp only [Prod.mk.injEq, true_and]
        rw [List.take_succ_eq_append_getElem (by rw [List.length_set]; omega), List.getElem_set_self, List.take_set_of_le (Nat.le_refl _), List.drop_eq_getElem_cons (show i < (marksT xs.length a).length by rw [marksT_length]; exact hi), marksT_get, List.append_assoc]
        rfl
      · intro r hr
        refine ev_shift ?_
        simp only [laws_markStringS.l0, if_pos (show (i : Int) < (ys.length : Int) by omega), if_pos (show (0 : Int) ≤ (i : Int) by omega), Int.toNat_natCast, e1, e2]
        refine Ev.bind (laws_markText.ev (a + (i : Int)) (by omega)) ?_
        simpa [Int.add_assoc] using hr
    · refine .inl (ev_shift (ev_val fun k => ?_))
      obtain rfl : i = xs.length := by omega
      simp only [laws_markStringS.l0, if_neg (show ¬ ((xs.length : Int) < (ys.length : Int)) by omega)]
      rw [List.take_of_length_le (by omega), List.drop_eq_nil_of_le (by rw [marksT_length]; exact Nat.le_refl _), List.append_nil]
  have := key (0, xs) ⟨Nat.zero_le _, rfl⟩
  simpa [laws_markStringS.f] using this

theorem laws_heldStringS.ev (n : Nat) (a : Int) (hn : n ≤ 1048576000) (h0 : 0 ≤ a) (h1 : a ≤ 1048576000000) : Ev (fun k => laws_heldStringS.f k (marksT n a) a) (a + n) := by
  have key : ∀ d i : Nat, i + d = n → Ev (fun k => laws_heldStringS.l0 k (marksT n a) (a + (i : Int)) (i : Int)) (a + n) := by
    intro d
    induction d with
    | zero =>
      intro i h
      refine ev_shift (ev_val fun k => ?_)
      simp only [laws_heldStringS.l0, marksT_length, if_neg (show ¬ ((i : Int) < (n : Int)) by omega)]
      rw [show i = n by omega]
    | succ d ih =>
      intro i h
      have e1 := w64 (show -9223372036854775808 ≤ (i : Int) + 1 by omega) (by omega)
      have e2 := w64 (show -9223372036854775808 ≤ a + (i : Int) + 1 by omega) (by omega)
      have hr := ih (i + 1) (by omega)
      refine ev_shift ?_
      have hi : i < (marksT n a).length := by rw [marksT_length]; omega
      simp only [laws_heldStringS.l0, marksT_length, if_pos (show (i : Int) < (n : Int) by omega), if_pos (show (0 : Int) ≤ (i : Int) by omega), rdB _ i hi, marksT_get, e1, e2]
      refine Ev.bind (laws_markText.ev (a + (i : Int)) (by omega)) ?_
      simp only [if_true]
      simpa [Int.add_assoc] using hr
  simpa [laws_heldStringS.f] using key n 0 (by omega)

theorem FnExactEncodeChunks : FnExactEncodeChunksPure := by
  intro s a hs ha
  refine Ev.rounds (g := fun k => laws_FnExactEncodeChunks.f k s a) ?_
  by_cases hb : (s.size : Int) > 1048576
  · simp only [laws_FnExactEncodeChunks.f, if_pos hb]; exact Ev.now _
  · simp only [laws_FnExactEncodeChunks.f, if_neg hb]
    obtain ⟨r, h1, h2, h3⟩ := encode_chunks s a (by omega) (wf_i64 ha).2
    refine Ev.bind h1 (Ev.bind h2 (Ev.bind (laws_eqStringS.same r (by omega)) ?_))
    simp only [if_true]
    refine Ev.bind (laws_markStringS.ev r 1 (by omega) (by omega) (by omega)) (Ev.bind (laws_heldStringS.ev r.length 1 (by omega) (by omega) (by omega)) ?_)
    simp only [if_neg (show ¬ (1 + (r.length : Int) < 0) by omega), if_true]
    refine Ev.bind h2 (Ev.bind (laws_eqStringS.same r (by omega)) ?_)
    simp only [if_true]
    refine Ev.bind (laws_heldStringS.ev r.length 1 (by omega) (by omega) (by omega)) ?_
    simp only [if_neg (show ¬ (1 + (r.length : Int) < 0) by omega), if_true]
    exact Ev.now _

end Go.Proofs.YtnibkllpodpokaaDoor.Pure
