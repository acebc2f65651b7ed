/- For every list of chunks and chunk the law FnExactReceiveChunk returns true; no conditions. -/
import Derived.Test.YtijjfnkblfimfaaDoorQFnExactReceiveChunk
import Derived.Test.YtijjfnkblfimfaaDoorCCom
set_option linter.unusedVariables false
set_option linter.unusedSimpArgs false
namespace Go.Proofs.YtijjfnkblfimfaaDoor.Pure
open Go.RowKit Go.Proofs.YtijjfnkblfimfaaDoor.C Go.Proofs.YtijjfnkblfimfaaDoorW.PrintWords Go.Proofs.YtijjfnkblfimfaaDoorW.PrintLast
open Go.Proofs.YtijjfnkblfimfaaDoor.Opens
open Go.Proofs.YtijjfnkblfimfaaDoor.Com
open Go.Proofs.YtijjfnkblfimfaaDoor.Given

theorem rdB (xs : List ByteArray) (i : Nat) (h : i < xs.length) : rdOf ByteArray.empty xs (i : Int) = xs[i] := by simp [rdOf, h]
theorem toList_inj (a b : ByteArray) : a.toList = b.toList ↔ a = b := ⟨fun h => bytesOf_inj (bytesOf_congr h), fun h => by rw [h]⟩
/-- The bytes of all strings. -/
def sumSizes (xs : List ByteArray) : Nat := (xs.map ByteArray.size).sum

theorem laws_szStringS.ev (xs : List ByteArray) (a : Int) (hn : xs.length ≤ maxLen) (hw : ∀ s ∈ xs, s.size ≤ maxLen) (h0 : 0 ≤ a) (h1 : a ≤ 1048576) :
    ∃ r, Ev (fun k => laws_szStringS.f k xs a) r ∧ (¬ r < 0 → (xs.length : Int) + (sumSizes xs : Int) + r = a) := by
  unfold maxLen at hn
  have key : ∀ (d i : Nat) (b : Int), i + d = xs.length → 0 ≤ b → b ≤ 1048576 → ∃ r, Ev (fun k => laws_szStringS.l0 k xs b (i : Int)) r ∧ (¬ r < 0 → (sumSizes (xs.drop i) : Int) + r = b) := by
    intro d
    induction d with
    | zero =>
      intro i b h hb0 hb1
      refine ⟨b, ev_shift ?_, fun _ => by rw [List.drop_eq_nil_of_le (by omega)]; simp [sumSizes]⟩
      simp only [laws_szStringS.l0, if_neg (show ¬ ((i : Int) < (xs.length : Int)) by omega)]
      exact Ev.now _
    | succ d ih =>
      intro i b h hb0 hb1
      have hi : i < xs.length := by omega
      have hs := hw xs[i] (List.getElem_mem hi)
      unfold maxLen at hs
      have ew := w64 (show -9223372036854775808 ≤ b - (xs[i].size : Int) by omega) (by omega)
      have hsum : sumSizes (xs.drop i) = xs[i].size + sumSizes (xs.drop (i + 1)) := by rw [List.drop_eq_getElem_cons hi]; simp only [sumSizes, List.map_cons, List.sum_cons]
      by_cases hneg : b - (xs[i].size : Int) < 0
      · refine ⟨-1, ev_shift ?_, fun h' => by omega⟩
        simp only [laws_szStringS.l0, if_pos (show (i : Int) < (xs.length : Int) by omega), if_pos (show (0 : Int) ≤ (i : Int) by omega), rdB xs i hi, ew, if_pos hneg]
        exact Ev.now _
      · obtain ⟨r, hr, hq⟩ := ih (i + 1) (b - (xs[i].size : Int)) (by omega) (by omega) (by omega)
        refine ⟨r, ev_shift ?_, fun h' => by have := hq h'; omega⟩
        simp only [laws_szStringS.l0, if_pos (show (i : Int) < (xs.length : Int) by omega), if_pos (show (0 : Int) ≤ (i : Int) by omega), rdB xs i hi, ew, if_neg hneg, w64 (show -9223372036854775808 ≤ (i : Int) + 1 by omega) (by omega)]
        simpa using hr
  have ew := w64 (show -9223372036854775808 ≤ a - (xs.length : Int) by omega) (by omega)
  by_cases hneg : a - (xs.length : Int) < 0
  · exact ⟨-1, ev_val (fun k => by simp only [laws_szStringS.f, ew, if_pos hneg]), fun h' => by omega⟩
  · obtain ⟨r, hr, hq⟩ := key xs.length 0 (a - (xs.length : Int)) (by omega) (by omega) (by omega)
    refine ⟨r, Ev.congr (fun k => ?_) hr, fun h' => by have := hq h'; rw [List.drop_zero] at this; omega⟩
    simp only [laws_szStringS.f, ew, if_neg hneg]
    rfl

/-- Bytes as a string. -/
def str (l : List UInt8) : ByteArray := ⟨l.toArray⟩
theorem str_append (a b : List UInt8) : str a ++ str b = str (a ++ b) := by
  apply ByteArray.ext
  simp [str]
theorem str_size (l : List UInt8) : (str l).size = l.length := by simp [str, ByteArray.size]
theorem str_inj {a b : List UInt8} (h : str a = str b) : a = b := by
  have := congrArg (fun s => s.data.toList) h
  simpa [str] using this
theorem str_toList (l : List UInt8) : (str l).toList = l := by rw [toList_data]; simp [str]
theorem toList_inj' {a b : ByteArray} (h : a.toList = b.toList) : a = b := bytesOf_inj (bytesOf_congr h)
/-- The digits of a number, none for 0. -/
def digs (m : Nat) : List UInt8 := if m = 0 then [] else Lib.decDigits m
theorem digs_step (m : Nat) (h : 0 < m) : digs m = digs (m / 10) ++ [UInt8.ofNat (48 + m % 10)] := by
  unfold digs
  rw [if_neg (by omega), Lib.decDigits]
  by_cases h9 : m < 10
  · rw [dif_pos h9, if_pos (by omega), Nat.mod_eq_of_lt h9]; rfl
  · rw [dif_neg h9, if_neg (by omega)]
theorem tmod10 (x : Int) : (0 ≤ x → Int.tmod x 10 = ((x.natAbs % 10 : Nat) : Int) ∧ Int.tdiv x 10 = ((x.natAbs / 10 : Nat) : Int)) ∧ (x < 0 → Int.tmod x 10 = -((x.natAbs % 10 : Nat) : Int) ∧ Int.tdiv x 10 = -((x.natAbs / 10 : Nat) : Int)) := by
  constructor
  · intro h
    obtain ⟨n, rfl⟩ := Int.eq_ofNat_of_zero_le h
    exact ⟨rfl, rfl⟩
  · intro h
    obtain ⟨n, rfl⟩ := Int.eq_negSucc_of_lt_zero h
    exact ⟨rfl, rfl⟩
theorem strOfNums_digit (d : Nat) (h : d < 10) : strOfNums ([(wrap64 (48 + (d : Int))) % 256] : List Int) = str [UInt8.ofNat (48 + d)] := by
  rw [w64 (by omega) (by omega)]
  apply ByteArray.ext
  apply Array.ext'
  rw [strOfNums_data]
  have e : ((48 + (d : Int)) % 256).toNat = 48 + d := by omega
  simp [str, e]
theorem itoa_zero : Lib.itoa 0 = [48] := by unfold Lib.itoa Lib.decDigits; simp
theorem itoa_digs (a : Int) (h : a ≠ 0) : Lib.itoa a = (if a < 0 then [45] else []) ++ digs a.natAbs := by
  have hn : ¬ a.natAbs = 0 := by omega
  unfold Lib.itoa digs
  by_cases c : a < 0
  · rw [if_pos c, if_pos c, if_neg hn]; rfl
  · rw [if_neg c, if_neg c, if_neg hn, show a.toNat = a.natAbs by omega]; rfl
theorem digs_len : ∀ n m : Nat, m < 10 ^ n → (digs m).length ≤ n := by
  intro n
  induction n with
  | zero => intro m h; obtain rfl : m = 0 := by simpa using h
            simp [digs]
  | succ n ih =>
    intro m h
    by_cases h0 : m = 0
    · subst h0; simp [digs]
    · rw [digs_step m (by omega), List.length_append]
      have := ih (m / 10) (by rw [Nat.pow_succ] at h; omega)
      simp only [List.length_cons, List.length_nil]
      omega
theorem itoa_len (a : Int) (h0 : -9223372036854775808 ≤ a) (h1 : a ≤ 9223372036854775807) : (Lib.itoa a).length ≤ 20 := by
  by_cases h : a = 0
  · subst h; rw [itoa_zero]; simp
  · rw [itoa_digs a h, List.length_append]
    have h2 := digs_len 19 a.natAbs (by omega)
    have h3 : (if a < 0 then ([45] : List UInt8) else []).length ≤ 1 := by split <;> simp
    omega
theorem str_lit (l : List UInt8) : (⟨l.toArray⟩ : ByteArray) = str l := rfl

theorem spec_FormatInt.l0ev (neg : Bool) : ∀ s : Int × List UInt8, (s.2.length + s.1.natAbs ≤ 9223372036854775808 ∧ (s.2.length = 0 ∨ s.2.length + s.1.natAbs ≤ 9223372036854775800)) →
    Ev (fun k => spec_FormatInt.l0 k s.1 (str s.2) neg) (str ((if neg then [45] else []) ++ digs s.1.natAbs ++ s.2)) := by
  refine loop_ev (fun k (s : Int × List UInt8) => spec_FormatInt.l0 k s.1 (str s.2) neg) _ (fun s => s.1.natAbs) (fun s => str ((if neg then [45] else []) ++ digs s.1.natAbs ++ s.2)) ?_
  rintro ⟨x, l⟩ ⟨h1, h2⟩
  simp only at h1 h2 ⊢
  by_cases hx : x = 0
  · subst hx
    refine .inl (ev_shift ?_)
    simp only [spec_FormatInt.l0, if_true, str_size]
    cases neg with
    | false => exact ev_val fun _ => by simp [digs]
    | true =>
      simp only [if_true, if_pos (show 1 + l.length ≤ 9223372036854775807 by omega)]
      exact ev_val fun _ => by rw [show (⟨#[45]⟩ : ByteArray) = str [45] from rfl, str_append]; simp [digs]
  · refine .inr ⟨(Int.tdiv x 10, UInt8.ofNat (48 + x.natAbs % 10) :: l), ?_, ?_, ?_, ?_⟩
    · have ht := tmod10 x
      simp only [List.length_cons]
      have : (Int.tdiv x 10).natAbs = x.natAbs / 10 := by rcases (show x < 0 ∨ 0 ≤ x by omega) with c | c; (have := (ht.2 c).2; omega); (have := (ht.1 c).2; omega)
      rw [this]
      omega
    · have ht := tmod10 x
      have : (Int.tdiv x 10).natAbs = x.natAbs / 10 := by rcases (show x < 0 ∨ 0 ≤ x by omega) with c | c; (have := (ht.2 c).2; omega); (have := (ht.1 c).2; omega)
      simp only [this]
      omega
    · have ht := tmod10 x
      have : (Int.tdiv x 10).natAbs = x.natAbs / 10 := by rcases (show x < 0 ∨ 0 ≤ x by omega) with c | c; (have := (ht.2 c).2; omega); (have := (ht.1 c).2; omega)
      simp only [this]
      rw [digs_step x.natAbs (by omega)]
      simp
    · intro r hr
      refine ev_shift ?_
      have ht := tmod10 x
      have e2 : wrap64 (Int.tdiv x 10) = Int.tdiv x 10 := w64 (by rcases (show x < 0 ∨ 0 ≤ x by omega) with c | c; (have := (ht.2 c).2; omega); (have := (ht.1 c).2; omega)) (by rcases (show x < 0 ∨ 0 ≤ x by omega) with c | c; (have := (ht.2 c).2; omega); (have := (ht.1 c).2; omega))
      have e3 : ∀ d : Nat, d < 10 → (strOfNums ([(wrap64 (48 + (d : Int))) % 256] : List Int)) ++ str l = str (UInt8.ofNat (48 + d) :: l) := fun d hd => by rw [strOfNums_digit d hd, str_append]; rfl
      have e4 : ∀ d : Nat, d < 10 → (strOfNums ([(wrap64 (48 + (d : Int))) % 256] : List Int)).size + (str l).size ≤ 9223372036854775807 := fun d hd => by rw [strOfNums_digit d hd, str_size, str_size]; simp only [List.length_cons, List.length_nil]; omega
      have hd : x.natAbs % 10 < 10 := by omega
      simp only [spec_FormatInt.l0, if_neg hx, e2]
      by_cases c : Int.tmod x 10 < 0
      · have hm : Int.tmod x 10 = -((x.natAbs % 10 : Nat) : Int) := by rcases (show x < 0 ∨ 0 ≤ x by omega) with c' | c'; exact (ht.2 c').1; (have := (ht.1 c').1; omega)
        have e1 : wrap64 (-(Int.tmod x 10)) = ((x.natAbs % 10 : Nat) : Int) := by rw [hm, w64 (by omega) (by omega)]; omega
        simp only [if_pos c, e1, Option.bind_some, if_pos (e4 _ hd), e3 _ hd]
        exact hr
      · have hm : Int.tmod x 10 = ((x.natAbs % 10 : Nat) : Int) := by rcases (show x < 0 ∨ 0 ≤ x by omega) with c' | c'; (have := (ht.2 c').1; omega); exact (ht.1 c').1
        rw [hm] at c
        simp only [hm, if_neg c, Option.bind_some, if_pos (e4 _ hd), e3 _ hd]
        exact hr
theorem spec_FormatInt.ev (a : Int) (h0 : -9223372036854775808 ≤ a) (h1 : a ≤ 9223372036854775807) : Ev (fun k => spec_FormatInt.f k a) (str (Lib.itoa a)) := by
  by_cases ha : a = 0
  · subst ha
    simp only [spec_FormatInt.f, if_true, itoa_zero]
    exact Ev.now _
  · simp only [spec_FormatInt.f, if_neg ha]
    have h := spec_FormatInt.l0ev (decide (a < 0)) (a, []) ⟨by simp only [List.length_nil]; omega, .inl rfl⟩
    refine ev_eq h ?_
    rw [itoa_digs a ha]
    simp only [List.append_nil, decide_eq_true_eq]

/-- One step of the checksum. -/
def ckStep (c b : Int) : Int := (c * 257 + b + 1) % 9949
/-- The checksum of a string's bytes. -/
def cks (l : List Int) : Int := l.foldl ckStep 5
theorem ckStep_range (c b : Int) : 0 ≤ ckStep c b ∧ ckStep c b ≤ 9948 := by unfold ckStep; omega
theorem ckFold_range (l : List Int) : ∀ c, 0 ≤ c → c ≤ 9948 → 0 ≤ l.foldl ckStep c ∧ l.foldl ckStep c ≤ 9948 := by
  induction l with
  | nil => intro c h0 h1; exact ⟨h0, h1⟩
  | cons b l ih => intro c h0 h1; exact ih _ (ckStep_range c b).1 (ckStep_range c b).2
theorem cks_range (l : List Int) : 0 ≤ cks l ∧ cks l ≤ 9948 := ckFold_range l 5 (by omega) (by omega)

theorem spec_Checksum.step (c b : Int) (h0 : 0 ≤ c) (h1 : c ≤ 9948) (b0 : 0 ≤ b) (b1 : b ≤ 255) : Int.tmod (wrap64 ((wrap64 ((wrap64 (c * 257)) + (wrap64 b))) + 1)) 9949 = ckStep c b := by
  rw [w64 (x := c * 257) (by omega) (by omega), w64 (x := b) (by omega) (by omega), w64 (x := c * 257 + b) (by omega) (by omega), w64 (x := c * 257 + b + 1) (by omega) (by omega), tmod_pos _ _ (by omega)]
  rfl
theorem spec_Checksum.ev (s : ByteArray) (hn : s.size ≤ 9223372036854775806) : Ev (fun k => spec_Checksum.f k s) (cks (bytesOf s)) := by
  have key : ∀ (d i : Nat) (c : Int), i + d = s.size → 0 ≤ c → c ≤ 9948 → Ev (fun k => spec_Checksum.l0 k s c (i : Int)) (((bytesOf s).drop i).foldl ckStep c) := by
    intro d
    induction d with
    | zero =>
      intro i c h h0 h1
      refine ev_shift ?_
      simp only [spec_Checksum.l0, if_neg (show ¬ ((i : Int) < (s.size : Int)) by omega)]
      exact ev_some (by rw [bytes_end s i (by omega)]; rfl)
    | succ d ih =>
      intro i c h h0 h1
      have hb := bt_range s (i : Int)
      have := ih (i + 1) (ckStep c (bt s (i : Int))) (by omega) (ckStep_range _ _).1 (ckStep_range _ _).2
      refine ev_shift ?_
      simp only [spec_Checksum.l0, if_pos (show (i : Int) < (s.size : Int) by omega), if_pos (show (0 : Int) ≤ (i : Int) by omega), w64 (show -9223372036854775808 ≤ (i : Int) + 1 by omega) (by omega),
        spec_Checksum.step c _ h0 h1 hb.1 hb.2]
      rw [bytes_cons s i (by omega), List.foldl_cons]
      simpa using this
  simpa [spec_Checksum.f, cks] using key s.size 0 5 (by omega) (by omega) (by omega)

/-- The number that the digits of a list of bytes tell. -/
def valD (l : List Int) : Int := l.foldl (fun n b => if 48 ≤ b ∧ b ≤ 57 then n * 10 + (b - 48) else n) 0
/-- How many digits there are. -/
def cntD (l : List Int) : Int := l.foldl (fun n b => if 48 ≤ b ∧ b ≤ 57 then n + 1 else n) 0
theorem valD_snoc (l : List Int) (b : Int) : valD (l ++ [b]) = if 48 ≤ b ∧ b ≤ 57 then valD l * 10 + (b - 48) else valD l := by simp [valD, List.foldl_append]
theorem cntD_snoc (l : List Int) (b : Int) : cntD (l ++ [b]) = if 48 ≤ b ∧ b ≤ 57 then cntD l + 1 else cntD l := by simp [cntD, List.foldl_append]
theorem fold_bound : ∀ (l : List Int) (n : Int), 0 ≤ n → 0 ≤ l.foldl (fun n b => if 48 ≤ b ∧ b ≤ 57 then n * 10 + (b - 48) else n) n ∧ l.foldl (fun n b => if 48 ≤ b ∧ b ≤ 57 then n * 10 + (b - 48) else n) n < (n + 1) * 10 ^ l.length := by
  intro l
  induction l with
  | nil => intro n h; simp; omega
  | cons b l ih =>
    intro n h
    have hP : (0 : Int) ≤ 10 ^ l.length := Int.le_of_lt (Int.pow_pos (by decide))
    rw [List.foldl_cons, List.length_cons, Int.pow_succ]
    by_cases hb : 48 ≤ b ∧ b ≤ 57
    · rw [if_pos hb]
      obtain ⟨h1, h2⟩ := ih (n * 10 + (b - 48)) (by omega)
      refine ⟨h1, Int.lt_of_lt_of_le h2 ?_⟩
      have h3 : (n * 10 + (b - 48) + 1) * 10 ^ l.length ≤ ((n + 1) * 10) * 10 ^ l.length := Int.mul_le_mul_of_nonneg_right (by omega) hP
      calc (n * 10 + (b - 48) + 1) * 10 ^ l.length ≤ ((n + 1) * 10) * 10 ^ l.length := h3
        _ = (n + 1) * (10 ^ l.length * 10) := by rw [Int.mul_assoc, Int.mul_comm 10]
    · rw [if_neg hb]
      obtain ⟨h1, h2⟩ := ih n h
      refine ⟨h1, Int.lt_of_lt_of_le h2 ?_⟩
      have h3 : (n + 1) * 10 ^ l.length ≤ ((n + 1) * 10) * 10 ^ l.length := Int.mul_le_mul_of_nonneg_right (by omega) hP
      calc (n + 1) * 10 ^ l.length ≤ ((n + 1) * 10) * 10 ^ l.length := h3
        _ = (n + 1) * (10 ^ l.length * 10) := by rw [Int.mul_assoc, Int.mul_comm 10]
theorem pow10_le {n : Nat} (h : n ≤ 11) : (10 : Int) ^ n ≤ 100000000000 := by
  have : n = 0 ∨ n = 1 ∨ n = 2 ∨ n = 3 ∨ n = 4 ∨ n = 5 ∨ n = 6 ∨ n = 7 ∨ n = 8 ∨ n = 9 ∨ n = 10 ∨ n = 11 := by omega
  rcases this with h | h | h | h | h | h | h | h | h | h | h | h <;> subst h <;> decide
theorem valD_bound (l : List Int) (h : l.length ≤ 11) : 0 ≤ valD l ∧ valD l < 100000000000 := by
  obtain ⟨h1, h2⟩ := fold_bound l 0 (by omega)
  refine ⟨h1, Int.lt_of_lt_of_le h2 ?_⟩
  rw [Int.zero_add, Int.one_mul]
  exact pow10_le h
theorem cnt_bound : ∀ (l : List Int) (n : Int), n ≤ l.foldl (fun n b => if 48 ≤ b ∧ b ≤ 57 then n + 1 else n) n ∧ l.foldl (fun n b => if 48 ≤ b ∧ b ≤ 57 then n + 1 else n) n ≤ n + l.length := by
  intro l
  induction l with
  | nil => intro n; simp
  | cons b l ih =>
    intro n
    rw [List.foldl_cons, List.length_cons]
    by_cases hb : 48 ≤ b ∧ b ≤ 57
    · rw [if_pos hb]; have := ih (n + 1); omega
    · rw [if_neg hb]; have := ih n; omega
theorem cnt_all : ∀ (l : List Int) (n : Int), (∀ b ∈ l, 48 ≤ b ∧ b ≤ 57) → l.foldl (fun n b => if 48 ≤ b ∧ b ≤ 57 then n + 1 else n) n = n + l.length := by
  intro l
  induction l with
  | nil => intro n _; simp
  | cons b l ih =>
    intro n h
    rw [List.foldl_cons, List.length_cons, if_pos (h b (by simp)), ih (n + 1) (fun c hc => h c (by simp [hc]))]
    omega
theorem cntD_all {l : List Int} (h : ∀ b ∈ l, 48 ≤ b ∧ b ≤ 57) : cntD l = l.length := by rw [cntD, cnt_all l 0 h]; omega
theorem valD_minus (l : List Int) : valD (45 :: l) = valD l := by simp [valD]
theorem cntD_minus (l : List Int) : cntD (45 :: l) = cntD l := by simp [cntD]
/-- A list of bytes as numbers. -/
def nums (l : List UInt8) : List Int := l.map fun b => (b.toNat : Int)
theorem bytesOf_str (l : List UInt8) : bytesOf (str l) = nums l := by simp [bytesOf, str, nums]
theorem digit_num (d : Nat) (h : d < 10) : nums [UInt8.ofNat (48 + d)] = [48 + (d : Int)] := by
  simp only [nums, List.map_cons, List.map_nil]
  rw [UInt8.toNat_ofNat_of_lt' (by simp [UInt8.size]; omega)]
  simp
/-- The digits of a number: all of them digits, telling the number. -/
theorem digs_val (m : Nat) : valD (nums (digs m)) = (m : Int) ∧ (∀ b ∈ nums (digs m), 48 ≤ b ∧ b ≤ 57) := by
  induction m using Nat.strongRecOn with
  | ind m ih =>
    by_cases h0 : m = 0
    · subst h0; simp [digs, nums, valD]
    · obtain ⟨h1, h2⟩ := ih (m / 10) (by omega)
      have hd : m % 10 < 10 := by omega
      have e : nums (digs m) = nums (digs (m / 10)) ++ [48 + ((m % 10 : Nat) : Int)] := by
        rw [digs_step m (by omega), ← digit_num (m % 10) hd]; simp [nums]
      rw [e]
      constructor
      · rw [valD_snoc, if_pos (by omega), h1]; omega
      · intro b hb
        rcases List.mem_append.1 hb with hb | hb
        · exact h2 b hb
        · rw [List.mem_singleton.1 hb]; omega
theorem dec_val (m : Nat) : valD (nums (Lib.decDigits m)) = (m : Int) ∧ (∀ b ∈ nums (Lib.decDigits m), 48 ≤ b ∧ b ≤ 57) ∧ 1 ≤ (Lib.decDigits m).length := by
  by_cases h0 : m = 0
  · subst h0; unfold Lib.decDigits; simp [nums, valD]
  · have h := digs_val m
    have e : digs m = Lib.decDigits m := by rw [digs, if_neg h0]
    rw [e] at h
    refine ⟨h.1, h.2, ?_⟩
    rw [← e, digs_step m (by omega)]
    simp
theorem itoa_bytes (a : Int) : bytesOf (str (Lib.itoa a)) = (if a < 0 then [45] else []) ++ nums (Lib.decDigits a.natAbs) := by
  rw [bytesOf_str]
  unfold Lib.itoa
  by_cases c : a < 0
  · rw [if_pos c, if_pos c]; rfl
  · rw [if_neg c, if_neg c, show a.toNat = a.natAbs by omega]; rfl
/-- Is there a minus ahead? -/
def negB (l : List Int) : Bool := decide (l.head? = some 45)
/-- What ParseInt takes for the number and its digits. -/
def tailB (l : List Int) : List Int := if negB l = true then l.tail else l
def numB (l : List Int) : Int := if negB l = true then -valD l else valD l
theorem valD_tailB (l : List Int) : valD (tailB l) = valD l ∧ cntD (tailB l) = cntD l := by
  unfold tailB
  by_cases h : negB l = true
  · rw [if_pos h]
    cases l with
    | nil => simp [negB] at h
    | cons b l => obtain rfl : b = 45 := by simpa [negB] using h
                  exact ⟨(valD_minus l).symm, (cntD_minus l).symm⟩
  · rw [if_neg h]; exact ⟨rfl, rfl⟩
def specOk (s : ByteArray) : Prop := cntD (bytesOf s) ≤ 9 ∧ s.size ≤ 10 ∧ str (Lib.itoa (numB (bytesOf s))) = s
def implOk (s : ByteArray) : Prop := 1 ≤ (tailB (bytesOf s)).length ∧ (tailB (bytesOf s)).length ≤ 9 ∧ (∀ b ∈ tailB (bytesOf s), 48 ≤ b ∧ b ≤ 57) ∧ str (Lib.itoa (numB (bytesOf s))) = s
theorem tailB_length (l : List Int) : l.length ≤ (tailB l).length + 1 := by
  unfold tailB
  by_cases h : negB l = true
  · rw [if_pos h, List.length_tail]; omega
  · rw [if_neg h]; omega
theorem itoa_tail (a : Int) : tailB (bytesOf (str (Lib.itoa a))) = nums (Lib.decDigits a.natAbs) ∧ numB (bytesOf (str (Lib.itoa a))) = a := by
  obtain ⟨h1, h2, h3⟩ := dec_val a.natAbs
  rw [itoa_bytes]
  by_cases c : a < 0
  · rw [if_pos c]
    have hn : negB ([45] ++ nums (Lib.decDigits a.natAbs)) = true := by simp [negB]
    refine ⟨by rw [tailB, if_pos hn]; rfl, ?_⟩
    rw [numB, if_pos hn]
    show -valD (45 :: nums (Lib.decDigits a.natAbs)) = a
    rw [valD_minus, h1]; omega
  · rw [if_neg c, List.nil_append]
    have hn : ¬ negB (nums (Lib.decDigits a.natAbs)) = true := by
      cases hl : nums (Lib.decDigits a.natAbs) with
      | nil => simp [negB]
      | cons b l => have := h2 b (by rw [hl]; simp)
                    simp only [negB, List.head?_cons, Option.some.injEq, decide_eq_true_eq]
                    omega
    refine ⟨by rw [tailB, if_neg hn], ?_⟩
    rw [numB, if_neg hn, h1]; omega
theorem ok_iff (s : ByteArray) : specOk s ↔ implOk s := by
  constructor
  · rintro ⟨h1, h2, h3⟩
    have e := itoa_tail (numB (bytesOf s))
    obtain ⟨d1, d2, d3⟩ := dec_val (numB (bytesOf s)).natAbs
    rw [h3] at e
    have hl : (tailB (bytesOf s)).length = (Lib.decDigits (numB (bytesOf s)).natAbs).length := by rw [e.1]; simp [nums]
    have hd : ∀ b ∈ tailB (bytesOf s), 48 ≤ b ∧ b ≤ 57 := by rw [e.1]; exact d2
    refine ⟨by omega, ?_, hd, h3⟩
    have := cntD_all hd
    rw [(valD_tailB (bytesOf s)).2] at this
    omega
  · rintro ⟨h1, h2, h3, h4⟩
    have := cntD_all h3
    rw [(valD_tailB (bytesOf s)).2] at this
    refine ⟨by omega, ?_, h4⟩
    have := tailB_length (bytesOf s)
    rw [bytesOf_length] at this
    omega

theorem str_data (p : ByteArray) : str p.data.toList = p := by apply ByteArray.ext; simp [str]
/-- A chunk's text. -/
def chunkB (i t : Int) (p : List UInt8) : List UInt8 := Lib.itoa i ++ [47] ++ Lib.itoa t ++ [58] ++ p
def chunkL (i t : Int) (p : List UInt8) : List UInt8 := chunkB i t p ++ [35] ++ Lib.itoa (cks (nums (chunkB i t p)))
theorem spec_l7Chunk.ev (i t : Int) (i0 : -9223372036854775808 ≤ i) (i1 : i ≤ 9223372036854775807) (t0 : -9223372036854775808 ≤ t) (t1 : t ≤ 9223372036854775807) (p : List UInt8) (hp : p.length ≤ 140737488351232) :
    Ev (fun k => spec_l7Chunk.f k i t (str p)) (str (chunkL i t p)) := by
  have l0 := itoa_len i i0 i1
  have l1 := itoa_len t t0 t1
  have hc := cks_range (nums (chunkB i t p))
  have l2 := itoa_len (cks (nums (chunkB i t p))) (by omega) (by omega)
  obtain ⟨K0, g0⟩ := spec_FormatInt.ev i i0 i1
  obtain ⟨K1, g1⟩ := spec_FormatInt.ev t t0 t1
  obtain ⟨K2, g2⟩ := spec_Checksum.ev (str (chunkB i t p)) (by rw [str_size, chunkB]; simp only [List.length_append, List.length_cons, List.length_nil]; omega)
  obtain ⟨K3, g3⟩ := spec_FormatInt.ev (cks (nums (chunkB i t p))) (by omega) (by omega)
  refine ⟨K0 + K1 + K2 + K3, fun k hk => ?_⟩
  have g2' := g2 k (by omega)
  rw [bytesOf_str, chunkB] at g2'
  have g3' := g3 k (by omega)
  rw [chunkB] at g3' l2
  simp only [spec_l7Chunk.f, g0 k (by omega), g1 k (by omega), Option.bind_some, str_lit, str_append, g2', g3', str_size, List.length_append, List.length_cons, List.length_nil]
  simp (disch := omega) only [if_pos]
  rw [chunkL, chunkB]

theorem cntD_take (l : List Int) (n : Nat) : cntD (l.take n) ≤ cntD l := by
  have h : cntD l = (l.drop n).foldl (fun n b => if 48 ≤ b ∧ b ≤ 57 then n + 1 else n) (cntD (l.take n)) := by
    conv => lhs; rw [← List.take_append_drop n l]
    rw [cntD, List.foldl_append]; rfl
  rw [h]
  exact (cnt_bound _ _).1
theorem take_bt (s : ByteArray) (i : Nat) (h : i < s.size) : (bytesOf s).take (i + 1) = (bytesOf s).take i ++ [bt s (i : Int)] ∧ 0 ≤ bt s (i : Int) ∧ bt s (i : Int) ≤ 255 := by
  have h2 : i < (bytesOf s).length := by rw [bytesOf_length]; exact h
  have hb : bt s (i : Int) = (bytesOf s)[i] := by rw [← rd_bytesOf, rd_get _ i h2]
  rw [hb, List.take_succ_eq_append_getElem h2]
  exact ⟨rfl, bytes_range s _ (List.getElem_mem h2)⟩
theorem negB_bt (s : ByteArray) : negB (bytesOf s) = if (s.size : Int) > 0 then (bt s 0 == 45) else false := by
  by_cases h : (s.size : Int) > 0
  · have h2 : 0 < (bytesOf s).length := by rw [bytesOf_length]; omega
    have hb : bt s ((0 : Nat) : Int) = (bytesOf s)[0] := by rw [← rd_bytesOf, rd_get _ 0 h2]
    have hb' : bt s 0 = (bytesOf s)[0] := hb
    rw [if_pos h, hb', negB]
    rw [List.head?_eq_getElem?, List.getElem?_eq_getElem h2]
    simp only [Option.some.injEq]
    by_cases c : (bytesOf s)[0] = 45 <;> simp [c]
  · rw [if_neg h]
    have : (bytesOf s) = [] := List.eq_nil_of_length_eq_zero (by rw [bytesOf_length]; omega)
    rw [this]; rfl
theorem spec_ParseInt.l0ev (s : ByteArray) (r : Int × Bool) (hr : Ev (fun k => spec_ParseInt.j1 k s (valD ((bytesOf s).take 11)) (cntD ((bytesOf s).take 11)) ((min s.size 11 : Nat) : Int) false) r) :
    ∀ d i : Nat, i + d = min s.size 11 → Ev (fun k => spec_ParseInt.l0 k s (valD ((bytesOf s).take i)) (cntD ((bytesOf s).take i)) (i : Int)) r := by
  intro d
  induction d with
  | zero =>
    intro i h
    obtain rfl : i = min s.size 11 := by omega
    have ht : (bytesOf s).take (min s.size 11) = (bytesOf s).take 11 := by
      rcases Nat.le_total s.size 11 with h6 | h6
      · rw [List.take_of_length_le (by rw [bytesOf_length]; omega), List.take_of_length_le (by rw [bytesOf_length]; omega)]
      · rw [Nat.min_eq_right h6]
    refine ev_shift ?_
    rw [ht]
    by_cases hi : ((min s.size 11 : Nat) : Int) < (s.size : Int)
    · simp only [spec_ParseInt.l0, if_pos hi, decide_eq_false (show ¬ (((min s.size 11 : Nat) : Int) < 11) by omega)]
      exact hr
    · simp only [spec_ParseInt.l0, if_neg hi]
      exact hr
  | succ d ih =>
    intro i h
    have e1 := w64 (show -9223372036854775808 ≤ (i : Int) + 1 by omega) (by omega)
    have hi := ih (i + 1) (by omega)
    obtain ⟨tb, b0, b1⟩ := take_bt s i (by omega)
    have hv := valD_bound ((bytesOf s).take i) (by rw [List.length_take]; omega)
    have hc := cnt_bound ((bytesOf s).take i) 0
    have hc1 : 0 ≤ cntD ((bytesOf s).take i) ∧ cntD ((bytesOf s).take i) ≤ 11 := by
      have : ((bytesOf s).take i).length ≤ 11 := by rw [List.length_take]; omega
      unfold cntD
      omega
    have e2 : wrap64 (cntD ((bytesOf s).take i) + 1) = cntD ((bytesOf s).take i) + 1 := w64 (by omega) (by omega)
    rw [tb, valD_snoc, cntD_snoc] at hi
    refine ev_shift ?_
    simp only [spec_ParseInt.l0, if_pos (show (i : Int) < (s.size : Int) by omega), decide_eq_true (show (i : Int) < 11 by omega)]
    refine ev_shift ?_
    simp only [spec_ParseInt.j1, if_true, if_pos (show (0 : Int) ≤ (i : Int) by omega), if_pos (show (i : Int) < (s.size : Int) by omega), e1, e2]
    by_cases c1 : bt s (i : Int) ≥ 48
    · by_cases c2 : bt s (i : Int) ≤ 57
      · have e3 : wrap64 ((wrap64 (valD ((bytesOf s).take i) * 10)) + ((bt s (i : Int) - 48) % 256)) = valD ((bytesOf s).take i) * 10 + (bt s (i : Int) - 48) := by
          rw [w64 (show -9223372036854775808 ≤ valD ((bytesOf s).take i) * 10 by omega) (by omega), show (bt s (i : Int) - 48) % 256 = bt s (i : Int) - 48 by omega, w64 (by omega) (by omega)]
        simp only [if_pos c1, if_pos c2, e3]
        simp only [if_pos (show 48 ≤ bt s (i : Int) ∧ bt s (i : Int) ≤ 57 from ⟨c1, c2⟩)] at hi
        simpa using hi
      · simp only [if_pos c1, if_neg c2]
        simp only [if_neg (show ¬ (48 ≤ bt s (i : Int) ∧ bt s (i : Int) ≤ 57) from fun h => c2 h.2)] at hi
        simpa using hi
    · simp only [if_neg c1]
      simp only [if_neg (show ¬ (48 ≤ bt s (i : Int) ∧ bt s (i : Int) ≤ 57) from fun h => c1 h.1)] at hi
      simpa using hi
theorem spec_ParseInt.ev (s : ByteArray) : (specOk s ∧ Ev (fun k => spec_ParseInt.f k s) (numB (bytesOf s), true)) ∨ (¬ specOk s ∧ Ev (fun k => spec_ParseInt.f k s) (0, false)) := by
  have hv := valD_bound ((bytesOf s).take 11) (by rw [List.length_take]; omega)
  have j3 : ∀ n : Int, -100000000000 < n → n < 100000000000 → (s.size ≤ 10 → n = numB (bytesOf s)) →
      (specOk s ∧ Ev (fun k => spec_ParseInt.j3 k s n (cntD ((bytesOf s).take 11))) (numB (bytesOf s), true)) ∨ (¬ specOk s ∧ Ev (fun k => spec_ParseInt.j3 k s n (cntD ((bytesOf s).take 11))) (0, false)) := by
    intro n n0 n1 hn
    have hbad : Ev (fun k => spec_ParseInt.j4 k n true) (0, false) := ev_shift (ev_val fun k => by simp only [spec_ParseInt.j4, if_true])
    by_cases c1 : cntD ((bytesOf s).take 11) > 9
    · refine .inr ⟨fun h => ?_, ev_shift (by simp only [spec_ParseInt.j3, if_pos c1]; exact hbad)⟩
      have := cntD_take (bytesOf s) 11
      have := h.1
      omega
    · by_cases c2 : (s.size : Int) > 10
      · exact .inr ⟨fun h => by have := h.2.1; omega, ev_shift (by simp only [spec_ParseInt.j3, if_neg c1, if_pos c2]; exact hbad)⟩
      · have e := hn (by omega)
        subst e
        have ht : (bytesOf s).take 11 = bytesOf s := List.take_of_length_le (by rw [bytesOf_length]; omega)
        have hf := spec_FormatInt.ev (numB (bytesOf s)) (by omega) (by omega)
        by_cases c3 : str (Lib.itoa (numB (bytesOf s))) = s
        · refine .inl ⟨⟨by rw [ht] at c1; omega, by omega, c3⟩, ev_shift ?_⟩
          simp only [spec_ParseInt.j3, if_neg c1, if_neg c2]
          refine Ev.bind hf (ev_shift (ev_val fun k => ?_))
          simp only [spec_ParseInt.j4, c3, bne_self_eq_false, Bool.false_eq_true, if_false]
        · refine .inr ⟨fun h => c3 h.2.2, ev_shift ?_⟩
          simp only [spec_ParseInt.j3, if_neg c1, if_neg c2]
          refine Ev.bind hf (ev_shift (ev_val fun k => ?_))
          have : ((str (Lib.itoa (numB (bytesOf s)))).toList != s.toList) = true := bne_iff_ne.2 fun h => c3 (toList_inj' h)
          simp only [spec_ParseInt.j4, this, if_true]
  have hj1 : ∀ r, Ev (fun k => spec_ParseInt.j3 k s (if negB (bytesOf s) = true then -valD ((bytesOf s).take 11) else valD ((bytesOf s).take 11)) (cntD ((bytesOf s).take 11))) r → Ev (fun k => spec_ParseInt.f k s) r := by
    intro r hr
    have hz := spec_ParseInt.l0ev s r ?_ (min s.size 11) 0 (by omega)
    · simpa [spec_ParseInt.f, valD, cntD] using hz
    · refine ev_shift ?_
      simp only [spec_ParseInt.j1, Bool.false_eq_true, if_false]
      have hn := negB_bt s
      have e2 : wrap64 (-valD ((bytesOf s).take 11)) = -valD ((bytesOf s).take 11) := w64 (by omega) (by omega)
      by_cases c : (s.size : Int) > 0
      · rw [if_pos c] at hn
        simp only [if_pos c, if_pos (show (0 : Int) < (s.size : Int) by omega), ← hn]
        refine ev_shift ?_
        simp only [spec_ParseInt.j2, e2]
        cases hb : negB (bytesOf s) with
        | true => rw [hb] at hr; simpa using hr
        | false => rw [hb] at hr; simpa using hr
      · rw [if_neg c] at hn
        rw [hn] at hr
        simp only [if_neg c]
        refine ev_shift ?_
        simp only [spec_ParseInt.j2, Bool.false_eq_true, if_false]
        simpa using hr
  rcases j3 (if negB (bytesOf s) = true then -valD ((bytesOf s).take 11) else valD ((bytesOf s).take 11)) (by split <;> omega) (by split <;> omega) (fun h => by rw [numB, List.take_of_length_le (by rw [bytesOf_length]; omega)]) with ⟨h1, h2⟩ | ⟨h1, h2⟩
  · exact .inl ⟨h1, hj1 _ h2⟩
  · exact .inr ⟨h1, hj1 _ h2⟩

/-- The first place of a byte, or the end. -/
def fstB : List UInt8 → UInt8 → Nat
  | [], _ => 0
  | b :: l, c => if b == c then 0 else fstB l c + 1
theorem fstB_le : ∀ (l : List UInt8) (c : UInt8), fstB l c ≤ l.length
  | [], _ => Nat.le_refl 0
  | b :: l, c => by
    have := fstB_le l c
    unfold fstB
    split <;> simp only [List.length_cons] <;> omega
theorem indexByte_fst : ∀ (l : List UInt8) (c : UInt8), Lib.indexByte l c = if fstB l c < l.length then (fstB l c : Int) else -1
  | [], _ => rfl
  | b :: l, c => by
    have ih := indexByte_fst l c
    have hle := fstB_le l c
    unfold Lib.indexByte fstB
    by_cases h : (b == c) = true
    · rw [if_pos h, if_pos h, if_pos (by simp)]; rfl
    · rw [if_neg h, if_neg h]
      by_cases h2 : fstB l c < l.length
      · rw [if_pos h2] at ih
        rw [ih, if_neg (by simp only [beq_iff_eq]; omega), if_pos (by simp only [List.length_cons]; omega)]
        omega
      · rw [if_neg h2] at ih
        rw [ih, if_pos (by decide), if_neg (by simp only [List.length_cons]; omega)]
theorem str_str (s : ByteArray) : str s.data.toList = s := by apply ByteArray.ext; simp [str]
theorem str_data_ (l : List UInt8) : (str l).data.toList = l := by simp [str]
theorem bt_str (l : List UInt8) (i : Nat) (h : i < l.length) : bt (str l) (i : Int) = (l[i].toNat : Int) := by
  have h' : (i : Int).toNat < (str l).size := by rw [str_size]; simpa using h
  unfold bt
  rw [dif_pos h']
  simp [str]
  rfl
theorem u8_eq (x c : UInt8) : ((x.toNat : Int) = (c.toNat : Int)) ↔ x = c := by
  constructor
  · intro h; exact UInt8.toNat_inj.1 (by omega)
  · intro h; rw [h]
theorem str_extract (l : List UInt8) (i j : Nat) : (str l).extract i j = str ((l.drop i).take (j - i)) := by
  apply ByteArray.ext
  apply Array.ext'
  rw [ByteArray.data_extract, Array.toList_extract, str_data_, str_data_]
theorem fstB_step (l : List UInt8) (c : UInt8) (i : Nat) (h : i < l.length) : fstB (l.drop i) c = if l[i] = c then 0 else fstB (l.drop (i + 1)) c + 1 := by
  rw [List.drop_eq_getElem_cons h]
  by_cases e : l[i] = c
  · simp [fstB, e]
  · simp [fstB, e]
/-- What a text of a number says, or -1. -/
noncomputable def numV (s : ByteArray) : Int := open Classical in if implOk s then numB (bytesOf s) else -1
theorem implOk_len {s : ByteArray} (h : implOk s) : s.size ≤ 10 := by
  have h1 := tailB_length (bytesOf s)
  rw [bytesOf_length] at h1
  have := h.2.1
  omega
theorem numV_range (s : ByteArray) : -100000000000 ≤ numV s ∧ numV s ≤ 100000000000 := by
  unfold numV
  split
  · next h =>
    have hl := implOk_len h
    have hb := valD_bound (bytesOf s) (by rw [bytesOf_length]; omega)
    unfold numB
    split <;> omega
  · omega

theorem spec_l3Num.ev (s : ByteArray) : Ev (fun k => spec_l3Num.f k s) (if numV s < 0 then -1 else numV s) := by
  unfold numV
  rcases spec_ParseInt.ev s with ⟨h, e⟩ | ⟨h, e⟩
  · rw [if_pos ((ok_iff s).1 h)]
    refine Ev.bind e (ev_val fun k => ?_)
    by_cases h2 : numB (bytesOf s) < 0
    · simp [h2]
    · simp [h2]
  · rw [if_neg (fun h' => h ((ok_iff s).2 h'))]
    exact Ev.bind e (ev_val fun k => by simp)

theorem spec_l1In.val (a b c : Int) : spec_l1In.f a b c = some (decide (b ≤ a ∧ a ≤ c)) := by
  unfold spec_l1In.f
  by_cases h : b ≤ a <;> simp [h]

/-- A chunk that was read: the last look at its parts. -/
def finR (i n : Int) (p L : List UInt8) : Int × Int × ByteArray × Bool := if ((1 ≤ n ∧ n ≤ 40) ∧ (0 ≤ i ∧ i ≤ n - 1)) ∧ ¬ (n > 1 ∧ p = []) ∧ chunkL i n p = L then (i, n, str p, true) else (0, 0, (⟨#[]⟩ : ByteArray), false)
/-- What is read of a chunk. -/
noncomputable def rdC (L : List UInt8) : Int × Int × ByteArray × Bool :=
  let R := L.drop (fstB L 47 + 1)
  let Q := R.drop (fstB R 58 + 1)
  let e := Lib.lastIndexByte (str Q) 35
  if fstB L 47 < L.length ∧ fstB R 58 < R.length ∧ 0 ≤ e then finR (numV (str (L.take (fstB L 47)))) (numV (str (R.take (fstB R 58)))) (Q.take e.toNat) L else (0, 0, (⟨#[]⟩ : ByteArray), false)
theorem finR_neg (i n : Int) (p L : List UInt8) : finR (if i < 0 then -1 else i) (if n < 0 then -1 else n) p L = finR i n p L := by
  by_cases h1 : i < 0
  · rw [if_pos h1]
    unfold finR
    rw [if_neg (fun h => by omega), if_neg (fun h => by omega)]
  · rw [if_neg h1]
    by_cases h2 : n < 0
    · rw [if_pos h2]
      unfold finR
      rw [if_neg (fun h => by omega), if_neg (fun h => by omega)]
    · rw [if_neg h2]
theorem last_range (Q : List UInt8) : -1 ≤ Lib.lastIndexByte (str Q) 35 ∧ Lib.lastIndexByte (str Q) 35 < (Q.length : Int) := by
  rcases Lib.lastIndexByte_spec (str Q) 35 with ⟨h, _⟩ | ⟨i, hi, h, _⟩
  · rw [h]; omega
  · rw [str_size] at hi; rw [h]; omega
theorem take_nil (Q : List UInt8) (e : Int) (h0 : 0 ≤ e) (h1 : e < (Q.length : Int)) : Q.take e.toNat = [] ↔ e = 0 := by
  rw [List.take_eq_nil_iff]
  constructor
  · rintro (h | h)
    · omega
    · rw [h] at h1; simp at h1; omega
  · intro h; left; omega
theorem rdC_ok (L : List UInt8) (h : (rdC L).2.2.2 = true) : 0 ≤ (rdC L).1 ∧ (rdC L).1 ≤ (rdC L).2.1 - 1 ∧ 1 ≤ (rdC L).2.1 ∧ (rdC L).2.1 ≤ 40 := by
  unfold rdC at h ⊢
  simp only at h ⊢
  split at h
  · next hc =>
    rw [if_pos hc]
    unfold finR at h ⊢
    split at h
    · next hf => rw [if_pos hf]; exact ⟨hf.1.2.1, hf.1.2.2, hf.1.1.1, hf.1.1.2⟩
    · simp at h
  · simp at h
theorem rdC_len (L : List UInt8) : (rdC L).2.2.1.size ≤ L.length := by
  unfold rdC
  simp only
  split
  · unfold finR
    split
    · simp only [str_size, List.length_take, List.length_drop]; omega
    · exact Nat.zero_le _
  · exact Nat.zero_le _

theorem spec_l7Read.l0ev (L : List UInt8) (hn : L.length ≤ 1000000000) (r : Int × Int × ByteArray × Bool) : ∀ d i : Nat, i + d = L.length → Ev (fun k => spec_l7Read.j1 k (str L) ((i + fstB (L.drop i) 47 : Nat) : Int)) r → Ev (fun k => spec_l7Read.l0 k (str L) (i : Int)) r := by
  intro d
  induction d with
  | zero =>
    intro i h hj
    obtain rfl : i = L.length := by omega
    refine ev_shift (Ev.congr (fun k => ?_) hj)
    simp only [spec_l7Read.l0, str_size, if_neg (show ¬ ((L.length : Int) < (L.length : Int)) by omega), List.drop_length, fstB, Nat.add_zero]
  | succ d ih =>
    intro i h hj
    have hi : i < L.length := by omega
    rw [fstB_step L 47 i hi] at hj
    by_cases e : L[i] = 47
    · rw [if_pos e] at hj
      refine ev_shift (Ev.congr (fun k => ?_) hj)
      simp only [spec_l7Read.l0, str_size, if_pos (show (i : Int) < (L.length : Int) by omega), if_pos (show (0 : Int) ≤ (i : Int) by omega), bt_str L i hi, if_pos (show (L[i].toNat : Int) = 47 from by rw [e]; rfl), Nat.add_zero]
    · rw [if_neg e] at hj
      have := ih (i + 1) (by omega) (by rw [show i + 1 + fstB (L.drop (i + 1)) 47 = i + (fstB (L.drop (i + 1)) 47 + 1) by omega]; exact hj)
      refine ev_shift (Ev.congr (fun k => ?_) this)
      simp only [spec_l7Read.l0, str_size, if_pos (show (i : Int) < (L.length : Int) by omega), if_pos (show (0 : Int) ≤ (i : Int) by omega), bt_str L i hi, if_neg (show ¬ ((L[i].toNat : Int) = 47) from fun h' => e ((u8_eq L[i] 47).1 h')), w64 (show -9223372036854775808 ≤ (i : Int) + 1 by omega) (by omega)]
      rfl
theorem spec_l7Read.l1ev (L : List UInt8) (a : Int) (hn : L.length ≤ 1000000000) (r : Int × Int × ByteArray × Bool) : ∀ d i : Nat, i + d = L.length → Ev (fun k => spec_l7Read.j3 k (str L) a ((i + fstB (L.drop i) 58 : Nat) : Int)) r → Ev (fun k => spec_l7Read.l1 k (str L) a (i : Int)) r := by
  intro d
  induction d with
  | zero =>
    intro i h hj
    obtain rfl : i = L.length := by omega
    refine ev_shift (Ev.congr (fun k => ?_) hj)
    simp only [spec_l7Read.l1, str_size, if_neg (show ¬ ((L.length : Int) < (L.length : Int)) by omega), List.drop_length, fstB, Nat.add_zero]
  | succ d ih =>
    intro i h hj
    have hi : i < L.length := by omega
    rw [fstB_step L 58 i hi] at hj
    by_cases e : L[i] = 58
    · rw [if_pos e] at hj
      refine ev_shift (Ev.congr (fun k => ?_) hj)
      simp only [spec_l7Read.l1, str_size, if_pos (show (i : Int) < (L.length : Int) by omega), if_pos (show (0 : Int) ≤ (i : Int) by omega), bt_str L i hi, if_pos (show (L[i].toNat : Int) = 58 from by rw [e]; rfl), Nat.add_zero]
    · rw [if_neg e] at hj
      have := ih (i + 1) (by omega) (by rw [show i + 1 + fstB (L.drop (i + 1)) 58 = i + (fstB (L.drop (i + 1)) 58 + 1) by omega]; exact hj)
      refine ev_shift (Ev.congr (fun k => ?_) this)
      simp only [spec_l7Read.l1, str_size, if_pos (show (i : Int) < (L.length : Int) by omega), if_pos (show (0 : Int) ≤ (i : Int) by omega), bt_str L i hi, if_neg (show ¬ ((L[i].toNat : Int) = 58) from fun h' => e ((u8_eq L[i] 58).1 h')), w64 (show -9223372036854775808 ≤ (i : Int) + 1 by omega) (by omega)]
      rfl
theorem spec_l7Read.l2ev (L : List UInt8) (a : Int) (b : Nat) (hn : L.length ≤ 1000000000) (r : Int × Int × ByteArray × Bool) : ∀ d : Nat, b + d < L.length → Ev (fun k => spec_l7Read.j5 k (str L) a (b : Int) ((b : Int) + 1 + Lib.lastIdx (str (L.drop (b + 1))) 35 d)) r → Ev (fun k => spec_l7Read.l2 k (str L) a (b : Int) ((b + d : Nat) : Int)) r := by
  intro d
  induction d with
  | zero =>
    intro h hj
    refine ev_shift (Ev.congr (fun k => ?_) hj)
    simp only [spec_l7Read.l2, Nat.add_zero, if_neg (show ¬ ((b : Int) > (b : Int)) by omega), Lib.lastIdx]
    rw [show (b : Int) + 1 + -1 = (b : Int) by omega]
  | succ d ih =>
    intro h hj
    have hd : d < (L.drop (b + 1)).length := by rw [List.length_drop]; omega
    have hQ : (str (L.drop (b + 1))).data[d]! = L[b + (d + 1)] := by
      rw [getElem!_pos (str (L.drop (b + 1))).data d (by simpa [str] using hd)]
      simp only [str, List.getElem_toArray, List.getElem_drop]
      congr 1; omega
    by_cases e : L[b + (d + 1)] = 35
    · rw [Lib.lastIdx_hit _ _ _ (by rw [hQ, e]; rfl)] at hj
      refine ev_shift (Ev.congr (fun k => ?_) hj)
      simp only [spec_l7Read.l2, str_size, if_pos (show ((b + (d + 1) : Nat) : Int) > (b : Int) by omega), if_pos (show (0 : Int) ≤ ((b + (d + 1) : Nat) : Int) by omega), if_pos (show ((b + (d + 1) : Nat) : Int) < (L.length : Int) by omega), bt_str L (b + (d + 1)) h, if_pos (show (L[b + (d + 1)].toNat : Int) = 35 from by rw [e]; rfl)]
      rw [show ((b + (d + 1) : Nat) : Int) = (b : Int) + 1 + (d : Int) by omega]
    · rw [Lib.lastIdx_miss _ _ _ (by rw [hQ]; exact fun h' => e ((u8_eq _ 35).1 h'))] at hj
      have := ih (by omega) hj
      refine ev_shift (Ev.congr (fun k => ?_) this)
      simp only [spec_l7Read.l2, str_size, if_pos (show ((b + (d + 1) : Nat) : Int) > (b : Int) by omega), if_pos (show (0 : Int) ≤ ((b + (d + 1) : Nat) : Int) by omega), if_pos (show ((b + (d + 1) : Nat) : Int) < (L.length : Int) by omega), bt_str L (b + (d + 1)) h, if_neg (show ¬ ((L[b + (d + 1)].toNat : Int) = 35) from fun h' => e ((u8_eq _ 35).1 h')),
        w64 (show -9223372036854775808 ≤ ((b + (d + 1) : Nat) : Int) - 1 by omega) (by omega)]
      rw [show ((b + (d + 1) : Nat) : Int) - 1 = ((b + d : Nat) : Int) by omega]
theorem spec_l7Read.ev (L : List UInt8) (hn : L.length ≤ 1048576) : Ev (fun k => spec_l7Read.f k (str L)) (rdC L) := by
  refine spec_l7Read.l0ev L (by omega) _ L.length 0 (by omega) ?_
  rw [List.drop_zero, Nat.zero_add]
  refine ev_shift ?_
  simp only [spec_l7Read.j1]
  have hale := fstB_le L 47
  obtain ⟨a, ha⟩ : ∃ a, a = fstB L 47 := ⟨_, rfl⟩
  rw [← ha] at hale ⊢
  refine spec_l7Read.l1ev L (a : Int) (by omega) _ (L.length - a) a (by omega) ?_
  refine ev_shift ?_
  simp only [spec_l7Read.j3, str_size]
  by_cases hA : a < L.length
  · have hL : L[a] = 47 := by
      have key : ∀ (l : List UInt8) (h : fstB l 47 < l.length), l[fstB l 47] = 47 := by
        intro l
        induction l with
        | nil => intro h; simp at h
        | cons x l ih =>
          intro h
          by_cases e : x = 47
          · simp [fstB, e]
          · have e2 : fstB (x :: l) 47 = fstB l 47 + 1 := by simp [fstB, e]
            have := ih (by rw [e2] at h; simpa using h)
            simp only [e2, List.getElem_cons_succ]
            exact this
      have := key L (by omega)
      simpa [← ha] using this
    have hb0 : fstB (L.drop a) 58 = fstB (L.drop (a + 1)) 58 + 1 := by
      rw [fstB_step L 58 a hA, if_neg (by rw [hL]; decide)]
    rw [hb0]
    obtain ⟨R, hR⟩ : ∃ R, R = L.drop (a + 1) := ⟨_, rfl⟩
    obtain ⟨b, hb⟩ : ∃ b, b = fstB R 58 := ⟨_, rfl⟩
    have hble := fstB_le R 58
    have hRl : R.length = L.length - (a + 1) := by rw [hR, List.length_drop]
    rw [← hb] at hble
    rw [← hR, ← hb]
    have e0 : ((a + (b + 1) : Nat) : Int) = ((a + 1 + b : Nat) : Int) := by omega
    rw [e0, w64 (show -9223372036854775808 ≤ (L.length : Int) - 1 by omega) (by omega)]
    by_cases hB : b < R.length
    · obtain ⟨Q, hQ⟩ : ∃ Q, Q = R.drop (b + 1) := ⟨_, rfl⟩
      have hQ2 : L.drop (a + 1 + b + 1) = Q := by rw [hQ, hR, List.drop_drop]; congr 1
      have hQl : Q.length = L.length - 1 - (a + 1 + b) := by rw [hQ, List.length_drop]; omega
      have h2 := spec_l7Read.l2ev L (a : Int) (a + 1 + b) (by omega) (rdC L) (L.length - 1 - (a + 1 + b)) (by omega)
      rw [hQ2] at h2
      have e1 : ((a + 1 + b + (L.length - 1 - (a + 1 + b)) : Nat) : Int) = (L.length : Int) - 1 := by omega
      rw [e1] at h2
      refine h2 ?_
      have e2 : Lib.lastIdx (str Q) 35 (L.length - 1 - (a + 1 + b)) = Lib.lastIndexByte (str Q) 35 := by unfold Lib.lastIndexByte; rw [str_size, hQl]
      rw [e2]
      have her := last_range Q
      obtain ⟨e, he⟩ : ∃ e, e = Lib.lastIndexByte (str Q) 35 := ⟨_, rfl⟩
      rw [← he] at her ⊢
      refine ev_shift ?_
      simp only [spec_l7Read.j5, str_size, if_neg (show ¬ (((a + 1 + b : Nat) : Int) ≥ (L.length : Int)) by omega)]
      refine ev_shift ?_
      by_cases hE : 0 ≤ e
      · have hres : rdC L = finR (numV (str (L.take a))) (numV (str (R.take b))) (Q.take e.toNat) L := by
          unfold rdC
          simp only [← ha, ← hR, ← hb, ← hQ, ← he]
          rw [if_pos ⟨hA, hB, hE⟩]
        rw [hres, ← finR_neg]
        have x1 : (str L).extract 0 a = str (L.take a) := by rw [str_extract, List.drop_zero, Nat.sub_zero]
        have x2 : (str L).extract (a + 1) (a + 1 + b) = str (R.take b) := by rw [str_extract, ← hR]; congr 2; omega
        have x3 : (str L).extract (a + 1 + b + 1) (a + 1 + b + 1 + e.toNat) = str (Q.take e.toNat) := by rw [str_extract, hQ2]; congr 2; omega
        have n1 := numV_range (str (L.take a))
        have n2 := numV_range (str (R.take b))
        obtain ⟨K1, g1⟩ := spec_l3Num.ev (str (L.take a))
        obtain ⟨K2, g2⟩ := spec_l3Num.ev (str (R.take b))
        generalize numV (str (L.take a)) = vi at g1 n1 ⊢
        generalize numV (str (R.take b)) = vn at g2 n2 ⊢
        obtain ⟨i', hi'⟩ : ∃ i', i' = if vi < 0 then -1 else vi := ⟨_, rfl⟩
        obtain ⟨n', hn'⟩ : ∃ n', n' = if vn < 0 then -1 else vn := ⟨_, rfl⟩
        have m1 : -1 ≤ i' ∧ i' ≤ 100000000000 := by rw [hi']; split <;> omega
        have m2 : -1 ≤ n' ∧ n' ≤ 100000000000 := by rw [hn']; split <;> omega
        rw [← hi'] at g1 ⊢
        rw [← hn'] at g2 ⊢
        have hp : (Q.take e.toNat).length ≤ 140737488351232 := by rw [List.length_take]; omega
        have hcp := take_nil Q e hE her.2
        obtain ⟨K3, g3⟩ := spec_l7Chunk.ev i' n' (by omega) (by omega) (by omega) (by omega) (Q.take e.toNat) hp
        have t1 : ((a : Int) + 1).toNat = a + 1 := by omega
        have t2 : ((a + 1 + b : Nat) : Int).toNat = a + 1 + b := by omega
        have t3 : (((a + 1 + b : Nat) : Int) + 1).toNat = a + 1 + b + 1 := by omega
        have t4 : (((a + 1 + b : Nat) : Int) + 1 + e).toNat = a + 1 + b + 1 + e.toNat := by omega
        refine ⟨K1 + K2 + K3, fun k hk => ?_⟩
        simp only [spec_l7Read.j6, decide_eq_false (show ¬ (((a + 1 + b : Nat) : Int) + 1 + e ≤ ((a + 1 + b : Nat) : Int)) by omega), Bool.false_eq_true, if_false, if_pos (show 0 ≤ (a : Int) by omega), str_size, if_pos (show (a : Int) ≤ (L.length : Int) by omega), Int.toNat_natCast, x1, g1 k (by omega), Option.bind_some,
          w64 (show -9223372036854775808 ≤ (a : Int) + 1 by omega) (by omega), if_pos (show 0 ≤ (a : Int) + 1 by omega), if_pos (show (a : Int) + 1 ≤ ((a + 1 + b : Nat) : Int) by omega), if_pos (show ((a + 1 + b : Nat) : Int) ≤ (L.length : Int) by omega), t1, t2, x2, g2 k (by omega), spec_l1In.val,
          w64 (show -9223372036854775808 ≤ n' - 1 by omega) (by omega), w64 (show -9223372036854775808 ≤ ((a + 1 + b : Nat) : Int) + 1 by omega) (by omega), if_pos (show 0 ≤ ((a + 1 + b : Nat) : Int) + 1 by omega), if_pos (show ((a + 1 + b : Nat) : Int) + 1 ≤ ((a + 1 + b : Nat) : Int) + 1 + e by omega), if_pos (show ((a + 1 + b : Nat) : Int) + 1 + e ≤ (L.length : Int) by omega), t3, t4, x3, g3 k (by omega), str_toList]
        unfold finR
        by_cases c1 : 1 ≤ n' ∧ n' ≤ 40
        · simp only [decide_eq_true c1, if_true]
          by_cases c2 : 0 ≤ i' ∧ i' ≤ n' - 1
          · simp only [decide_eq_true c2, if_true]
            by_cases c3 : n' > 1
            · simp only [if_pos c3]
              by_cases c4 : e = 0
              · rw [if_pos (by omega), if_neg (fun h => h.2.1 ⟨c3, hcp.2 c4⟩)]
              · rw [if_neg (by omega)]
                by_cases c5 : chunkL i' n' (Q.take e.toNat) = L
                · rw [if_pos c5, if_pos ⟨⟨c1, c2⟩, fun h => c4 (hcp.1 h.2), c5⟩]
                · rw [if_neg c5, if_neg (fun h => c5 h.2.2)]
            · simp only [if_neg c3]
              by_cases c5 : chunkL i' n' (Q.take e.toNat) = L
              · rw [if_pos c5, if_pos ⟨⟨c1, c2⟩, fun h => c3 h.1, c5⟩]
              · rw [if_neg c5, if_neg (fun h => c5 h.2.2)]
          · simp only [decide_eq_false c2, Bool.false_eq_true, if_false]
            rw [if_neg (fun h => c2 h.1.2)]
        · simp only [decide_eq_false c1, Bool.false_eq_true, if_false]
          rw [if_neg (fun h => c1 h.1.1)]
      · have hres : rdC L = (0, 0, (⟨#[]⟩ : ByteArray), false) := by
          unfold rdC
          simp only [← ha, ← hR, ← hb, ← hQ, ← he]
          rw [if_neg (fun h => hE h.2.2)]
        rw [hres]
        exact ev_val fun k => by simp only [spec_l7Read.j6, decide_eq_true (show ((a + 1 + b : Nat) : Int) + 1 + e ≤ ((a + 1 + b : Nat) : Int) by omega), if_true]
    · have hres : rdC L = (0, 0, (⟨#[]⟩ : ByteArray), false) := by
        unfold rdC
        simp only [← ha, ← hR, ← hb]
        rw [if_neg (fun h => hB h.2.1)]
      rw [hres]
      refine ev_shift ?_
      simp only [spec_l7Read.l2, if_neg (show ¬ ((L.length : Int) - 1 > ((a + 1 + b : Nat) : Int)) by omega)]
      refine ev_shift ?_
      simp only [spec_l7Read.j5, str_size, if_pos (show ((a + 1 + b : Nat) : Int) ≥ (L.length : Int) by omega)]
      exact ev_shift (ev_val fun k => by simp only [spec_l7Read.j6, if_true])
  · obtain rfl : a = L.length := by omega
    have hres : rdC L = (0, 0, (⟨#[]⟩ : ByteArray), false) := by
      unfold rdC
      simp only [← ha]
      rw [if_neg (fun h => hA h.1)]
    rw [hres, List.drop_length, w64 (show -9223372036854775808 ≤ (L.length : Int) - 1 by omega) (by omega)]
    simp only [fstB, Nat.add_zero]
    refine ev_shift ?_
    simp only [spec_l7Read.l2, if_neg (show ¬ ((L.length : Int) - 1 > (L.length : Int)) by omega)]
    refine ev_shift ?_
    simp only [spec_l7Read.j5, str_size, if_pos (show (L.length : Int) ≥ (L.length : Int) by omega)]
    exact ev_shift (ev_val fun k => by simp only [spec_l7Read.j6, if_true])

theorem laws_toStringS.ev (xs : List ByteArray) (hn : xs.length ≤ 17592186044416) : Ev (fun k => laws_toStringS.f k xs) xs := by
  have := map_loop (fun k ys i => laws_toStringS.l0 k xs ys i) (fun s => s) xs
    (fun k ys _ => by simp only [laws_toStringS.l0, if_neg (show ¬ ((xs.length : Int) < (xs.length : Int)) by omega)])
    (fun i h ys k hy => by
      simp only [laws_toStringS.l0, if_pos (show (i : Int) < (xs.length : Int) by omega), if_pos (show (0 : Int) ≤ (i : Int) by omega), if_pos (show (i : Int) < (ys.length : Int) by omega),
        rdB xs i h, Int.toNat_natCast, w64 (show -9223372036854775808 ≤ (i : Int) + 1 by omega) (by omega)])
    (List.replicate xs.length (⟨#[]⟩ : ByteArray)) (by simp)
  rw [List.map_id'] at this
  refine Ev.congr (fun k => ?_) this
  simp only [laws_toStringS.f, if_pos (show (0 : Int) ≤ (xs.length : Int) by omega), Int.toNat_natCast, if_pos hn]

theorem impl_FormatInt.val (a : Int) (h0 : -9223372036854775808 ≤ a) (h1 : a ≤ 9223372036854775807) : impl_FormatInt.f a = some (str (Lib.itoa a)) := by
  simp only [impl_FormatInt.f, strconv_Itoa.f, if_pos (show -9223372036854775808 ≤ a ∧ a ≤ 9223372036854775807 from ⟨h0, h1⟩), Option.bind_some]
  rfl

theorem impl_Checksum.step (c b : Int) (h0 : 0 ≤ c) (h1 : c ≤ 9948) (b0 : 0 ≤ b) (b1 : b ≤ 255) : Int.tmod (wrap64 ((wrap64 ((wrap64 (257 * c)) + (wrap64 b))) + 1)) 9949 = ckStep c b := by
  rw [w64 (x := 257 * c) (by omega) (by omega), w64 (x := b) (by omega) (by omega), w64 (x := 257 * c + b) (by omega) (by omega), w64 (x := 257 * c + b + 1) (by omega) (by omega), tmod_pos _ _ (by omega), Int.mul_comm 257 c]
  rfl
theorem impl_Checksum.ev (s : ByteArray) (hn : s.size ≤ 9223372036854775806) : Ev (fun k => impl_Checksum.f k s) (cks (bytesOf s)) := by
  have key : ∀ (d i : Nat) (c : Int), i + d = s.size → 0 ≤ c → c ≤ 9948 → Ev (fun k => impl_Checksum.l0 k s c (s.size : Int) (i : Int)) (((bytesOf s).drop i).foldl ckStep c) := by
    intro d
    induction d with
    | zero =>
      intro i c h h0 h1
      refine ev_shift ?_
      simp only [impl_Checksum.l0, if_neg (show ¬ ((i : Int) < (s.size : Int)) by omega)]
      exact ev_some (by rw [bytes_end s i (by omega)]; rfl)
    | succ d ih =>
      intro i c h h0 h1
      have hb := bt_range s (i : Int)
      have := ih (i + 1) (ckStep c (bt s (i : Int))) (by omega) (ckStep_range _ _).1 (ckStep_range _ _).2
      refine ev_shift ?_
      simp only [impl_Checksum.l0, if_pos (show (i : Int) < (s.size : Int) by omega), if_pos (show (0 : Int) ≤ (i : Int) by omega), w64 (show -9223372036854775808 ≤ (i : Int) + 1 by omega) (by omega),
        impl_Checksum.step c _ h0 h1 hb.1 hb.2]
      rw [bytes_cons s i (by omega), List.foldl_cons]
      simpa using this
  simpa [impl_Checksum.f, cks] using key s.size 0 5 (by omega) (by omega) (by omega)

theorem impl_chunkText.ev (i t : Int) (i0 : -9223372036854775808 ≤ i) (i1 : i ≤ 9223372036854775807) (t0 : -9223372036854775808 ≤ t) (t1 : t ≤ 9223372036854775807) (p : List UInt8) (hp : p.length ≤ 140737488351232) :
    Ev (fun k => impl_chunkText.f k i t (str p)) (str (chunkL i t p)) := by
  have l0 := itoa_len i i0 i1
  have l1 := itoa_len t t0 t1
  have hc := cks_range (nums (chunkB i t p))
  have l2 := itoa_len (cks (nums (chunkB i t p))) (by omega) (by omega)
  have g0 := impl_FormatInt.val i i0 i1
  have g1 := impl_FormatInt.val t t0 t1
  obtain ⟨K2, g2⟩ := impl_Checksum.ev (str (chunkB i t p)) (by rw [str_size, chunkB]; simp only [List.length_append, List.length_cons, List.length_nil]; omega)
  have g3 := impl_FormatInt.val (cks (nums (chunkB i t p))) (by omega) (by omega)
  refine ⟨K2, fun k hk => ?_⟩
  have g2' := g2 k (by omega)
  rw [bytesOf_str, chunkB] at g2'
  have g3' := g3
  rw [chunkB] at g3' l2
  simp only [impl_chunkText.f, g0, g1, Option.bind_some, str_lit, str_append, g2', g3', str_size, List.length_append, List.length_cons, List.length_nil]
  simp (disch := omega) only [if_pos]
  rw [chunkL, chunkB]

theorem internal_stringslite_Index.val (l : List UInt8) (c : UInt8) : internal_stringslite_Index.f (str l) ⟨#[c]⟩ = some (if fstB l c < l.length then (fstB l c : Int) else -1) := by
  simp only [internal_stringslite_Index.f, str_data_, indexByte_fst]

theorem internal_stringslite_Cut.val (l : List UInt8) (c : UInt8) (hn : l.length ≤ 1000000000) : internal_stringslite_Cut.f (str l) ⟨#[c]⟩ = some (if fstB l c < l.length then (str (l.take (fstB l c)), str (l.drop (fstB l c + 1)), true) else (str l, str [], false)) := by
  simp only [internal_stringslite_Cut.f, internal_stringslite_Index.val, Option.bind_some]
  by_cases h : fstB l c < l.length
  · have e1 : wrap64 ((fstB l c : Int) + ((⟨#[c]⟩ : ByteArray).size : Int)) = (fstB l c : Int) + 1 := by
      rw [show (⟨#[c]⟩ : ByteArray).size = 1 from rfl]; exact w64 (by omega) (by omega)
    have e2 : ((fstB l c : Int) + 1).toNat = fstB l c + 1 := by omega
    simp only [if_pos h, if_pos (show (fstB l c : Int) ≥ 0 by omega), if_pos (show 0 ≤ (fstB l c : Int) by omega), str_size, if_pos (show (fstB l c : Int) ≤ (l.length : Int) by omega), e1, e2, if_pos (show 0 ≤ (fstB l c : Int) + 1 by omega), if_pos (show (fstB l c : Int) + 1 ≤ (l.length : Int) by omega), Int.toNat_natCast, str_extract, List.drop_zero, Nat.sub_zero]
    rw [List.take_of_length_le (l := l.drop (fstB l c + 1)) (by rw [List.length_drop]; omega)]
  · simp only [if_neg h, if_neg (show ¬ ((-1 : Int) ≥ 0) by omega)]
    rfl

theorem strings_Cut.val (l : List UInt8) (c : UInt8) (hn : l.length ≤ 1000000000) : strings_Cut.f (str l) ⟨#[c]⟩ = some (if fstB l c < l.length then (str (l.take (fstB l c)), str (l.drop (fstB l c + 1)), true) else (str l, str [], false)) := by
  simp only [strings_Cut.f, internal_stringslite_Cut.val l c hn, Option.bind_some]

theorem impl_within.val (a b c : Int) : impl_within.f a b c = some (decide (b ≤ a ∧ a ≤ c)) := by
  unfold impl_within.f
  by_cases h : b ≤ a <;> simp [h]

theorem bytesOf_tail (s : ByteArray) : bytesOf (s.extract 1 s.size) = (bytesOf s).tail := by
  rw [bytesOf, bytesOf, ← List.map_tail]
  congr 1
  rw [ByteArray.data_extract, Array.toList_extract, ByteArray.size, ← Array.length_toList]
  cases s.data.toList with
  | nil => rfl
  | cons a l => simp [List.extract]
theorem impl_ParseInt.l0ev (s t : ByteArray) (g : Int) (hg : g = 1 ∨ g = -1) (ht : t.size ≤ 9) (r : Int × Bool)
    (hbad : ¬ (∀ b ∈ bytesOf t, 48 ≤ b ∧ b ≤ 57) → r = (0, false))
    (hok : (∀ b ∈ bytesOf t, 48 ≤ b ∧ b ≤ 57) → (if str (Lib.itoa (g * valD (bytesOf t))) = s then (g * valD (bytesOf t), true) else (0, false)) = r) :
    ∀ d i : Nat, i + d = t.size → (∀ b ∈ (bytesOf t).take i, 48 ≤ b ∧ b ≤ 57) → Ev (fun k => impl_ParseInt.l0 k s t g (valD ((bytesOf t).take i)) (t.size : Int) (i : Int)) r := by
  intro d
  induction d with
  | zero =>
    intro i h hd
    obtain rfl : i = t.size := by omega
    have hall : (bytesOf t).take t.size = bytesOf t := List.take_of_length_le (by rw [bytesOf_length]; omega)
    rw [hall] at hd ⊢
    have hv := valD_bound (bytesOf t) (by rw [bytesOf_length]; omega)
    have e1 : wrap64 (g * valD (bytesOf t)) = g * valD (bytesOf t) := by rcases hg with rfl | rfl <;> exact w64 (by omega) (by omega)
    have hr := hok hd
    refine ev_shift ?_
    simp only [impl_ParseInt.l0, if_neg (show ¬ ((t.size : Int) < (t.size : Int)) by omega), e1, impl_FormatInt.val (g * valD (bytesOf t)) (by rcases hg with rfl | rfl <;> omega) (by rcases hg with rfl | rfl <;> omega), Option.bind_some]
    by_cases c : str (Lib.itoa (g * valD (bytesOf t))) = s
    · rw [if_pos c] at hr
      subst hr
      exact ev_val fun k => by rw [c]; simp
    · rw [if_neg c] at hr
      subst hr
      exact ev_val fun k => by rw [if_neg (fun h => c (toList_inj' h))]
  | succ d ih =>
    intro i h hd
    have e1 := w64 (show -9223372036854775808 ≤ (i : Int) + 1 by omega) (by omega)
    obtain ⟨tb, b0, b1⟩ := take_bt t i (by omega)
    have hv := valD_bound ((bytesOf t).take i) (by rw [List.length_take]; omega)
    have hm : bt t (i : Int) ∈ bytesOf t := List.mem_of_mem_take (i := i + 1) (by rw [tb]; simp)
    refine ev_shift ?_
    by_cases c1 : bt t (i : Int) < 48
    · rw [hbad fun hh => by have := hh _ hm; omega]
      exact ev_val fun k => by simp only [impl_ParseInt.l0, if_pos (show (i : Int) < (t.size : Int) by omega), if_pos (show (0 : Int) ≤ (i : Int) by omega), if_pos c1]
    · by_cases c2 : bt t (i : Int) > 57
      · rw [hbad fun hh => by have := hh _ hm; omega]
        exact ev_val fun k => by simp only [impl_ParseInt.l0, if_pos (show (i : Int) < (t.size : Int) by omega), if_pos (show (0 : Int) ≤ (i : Int) by omega), if_neg c1, if_pos c2]
      · have hi := ih (i + 1) (by omega) (by
          rw [tb]
          intro b hb
          rcases List.mem_append.1 hb with hb | hb
          · exact hd b hb
          · rw [List.mem_singleton.1 hb]; omega)
        rw [tb, valD_snoc, if_pos (by omega)] at hi
        have e3 : wrap64 ((wrap64 (10 * valD ((bytesOf t).take i))) + ((bt t (i : Int) - 48) % 256)) = valD ((bytesOf t).take i) * 10 + (bt t (i : Int) - 48) := by
          rw [w64 (show -9223372036854775808 ≤ 10 * valD ((bytesOf t).take i) by omega) (by omega), show (bt t (i : Int) - 48) % 256 = bt t (i : Int) - 48 by omega, w64 (by omega) (by omega)]
          omega
        simp only [impl_ParseInt.l0, if_pos (show (i : Int) < (t.size : Int) by omega), if_pos (show (0 : Int) ≤ (i : Int) by omega), if_neg c1, if_neg c2, e1, e3]
        simpa using hi
theorem impl_ParseInt.ev (s : ByteArray) : (implOk s ∧ Ev (fun k => impl_ParseInt.f k s) (numB (bytesOf s), true)) ∨ (¬ implOk s ∧ Ev (fun k => impl_ParseInt.f k s) (0, false)) := by
  have j1 : ∀ (t : ByteArray) (g : Int), (g = 1 ∨ g = -1) → bytesOf t = tailB (bytesOf s) → g * valD (bytesOf t) = numB (bytesOf s) →
      (implOk s ∧ Ev (fun k => impl_ParseInt.j1 k s t g) (numB (bytesOf s), true)) ∨ (¬ implOk s ∧ Ev (fun k => impl_ParseInt.j1 k s t g) (0, false)) := by
    intro t g hg ht hn
    have hl : t.size = (tailB (bytesOf s)).length := by rw [← ht, bytesOf_length]
    by_cases c : 1 ≤ (t.size : Int) ∧ (t.size : Int) ≤ 9
    · have go : ∀ r, (¬ (∀ b ∈ bytesOf t, 48 ≤ b ∧ b ≤ 57) → r = (0, false)) → ((∀ b ∈ bytesOf t, 48 ≤ b ∧ b ≤ 57) → (if str (Lib.itoa (g * valD (bytesOf t))) = s then (g * valD (bytesOf t), true) else (0, false)) = r) → Ev (fun k => impl_ParseInt.j1 k s t g) r := by
        intro r h1 h2
        refine ev_shift ?_
        simp only [impl_ParseInt.j1, impl_within.val, Option.bind_some, decide_eq_true c, if_true]
        have := impl_ParseInt.l0ev s t g hg (by omega) r h1 h2 t.size 0 (by omega) (by simp)
        simpa [valD] using this
      by_cases hd : ∀ b ∈ bytesOf t, 48 ≤ b ∧ b ≤ 57
      · by_cases hs : str (Lib.itoa (numB (bytesOf s))) = s
        · exact .inl ⟨⟨by omega, by omega, by rw [← ht]; exact hd, hs⟩, go _ (fun h => absurd hd h) (fun _ => by rw [hn, if_pos hs])⟩
        · exact .inr ⟨fun h => hs h.2.2.2, go _ (fun _ => rfl) (fun _ => by rw [hn, if_neg hs])⟩
      · exact .inr ⟨fun h => hd (by rw [ht]; exact h.2.2.1), go _ (fun _ => rfl) (fun h => absurd h hd)⟩
    · refine .inr ⟨fun h => c (by have := h.1; have := h.2.1; omega), ev_shift (ev_val fun k => ?_)⟩
      simp only [impl_ParseInt.j1, impl_within.val, Option.bind_some, decide_eq_false c, Bool.false_eq_true, if_false]
  have hn := negB_bt s
  cases hb : negB (bytesOf s) with
  | true =>
    rw [hb] at hn
    have c : (s.size : Int) > 0 := by
      by_cases c : (s.size : Int) > 0
      · exact c
      · rw [if_neg c] at hn; exact absurd hn (by decide)
    rw [if_pos c] at hn
    have hj := j1 (s.extract 1 s.size) (-1) (.inr rfl) (by rw [bytesOf_tail, tailB, if_pos hb]) (by
      rw [numB, if_pos hb, bytesOf_tail]
      have := (valD_tailB (bytesOf s)).1
      rw [tailB, if_pos hb] at this
      rw [this]; omega)
    have hup : ∀ r, Ev (fun k => impl_ParseInt.j1 k s (s.extract 1 s.size) (-1)) r → Ev (fun k => impl_ParseInt.f k s) r := fun r hr => by
      simp only [impl_ParseInt.f, if_pos c, if_pos (show (0 : Int) < (s.size : Int) by omega), ← hn]
      refine ev_shift ?_
      simp only [impl_ParseInt.j0, if_true, if_pos (show 1 ≤ (s.size : Int) by omega)]
      exact hr
    rcases hj with ⟨h1, h2⟩ | ⟨h1, h2⟩
    · exact .inl ⟨h1, hup _ h2⟩
    · exact .inr ⟨h1, hup _ h2⟩
  | false =>
    rw [hb] at hn
    have hj := j1 s 1 (.inl rfl) (by rw [tailB, hb]; rfl) (by rw [numB, hb, Int.one_mul]; rfl)
    have hup : ∀ r, Ev (fun k => impl_ParseInt.j1 k s s 1) r → Ev (fun k => impl_ParseInt.f k s) r := fun r hr => by
      by_cases c : (s.size : Int) > 0
      · rw [if_pos c] at hn
        simp only [impl_ParseInt.f, if_pos c, if_pos (show (0 : Int) < (s.size : Int) by omega), ← hn]
        refine ev_shift ?_
        simp only [impl_ParseInt.j0, Bool.false_eq_true, if_false]
        exact hr
      · simp only [impl_ParseInt.f, if_neg c]
        refine ev_shift ?_
        simp only [impl_ParseInt.j0, Bool.false_eq_true, if_false]
        exact hr
    rcases hj with ⟨h1, h2⟩ | ⟨h1, h2⟩
    · exact .inl ⟨h1, hup _ h2⟩
    · exact .inr ⟨h1, hup _ h2⟩

theorem impl_number.ev (s : ByteArray) : Ev (fun k => impl_number.f k s) (numV s) := by
  unfold numV
  rcases impl_ParseInt.ev s with ⟨h, e⟩ | ⟨h, e⟩
  · rw [if_pos h]
    exact Ev.bind e (ev_val fun k => by simp)
  · rw [if_neg h]
    exact Ev.bind e (ev_val fun k => by simp)



theorem impl_readChunk.ev (L : List UInt8) (hn : L.length ≤ 1048576) : Ev (fun k => impl_readChunk.f k (str L)) (rdC L) := by
  have hale := fstB_le L 47
  simp only [impl_readChunk.f, strings_Cut.val L 47 (by omega), Option.bind_some]
  by_cases hA : fstB L 47 < L.length
  · simp only [if_pos hA]
    obtain ⟨R, hR⟩ : ∃ R, R = L.drop (fstB L 47 + 1) := ⟨_, rfl⟩
    have hRl : R.length = L.length - (fstB L 47 + 1) := by rw [hR, List.length_drop]
    have hble := fstB_le R 58
    simp only [← hR, strings_Cut.val R 58 (by omega), Option.bind_some]
    by_cases hB : fstB R 58 < R.length
    · simp only [if_pos hB]
      obtain ⟨Q, hQ⟩ : ∃ Q, Q = R.drop (fstB R 58 + 1) := ⟨_, rfl⟩
      have hQl : Q.length = R.length - (fstB R 58 + 1) := by rw [hQ, List.length_drop]
      have hl : strings_LastIndexByte.f (str Q) 35 = some (Lib.lastIndexByte (str Q) 35) := by
        simp only [strings_LastIndexByte.f, str_size, if_pos (show Q.length < 4611686018427387904 by omega)]
      simp only [← hQ, hl, Option.bind_some]
      have her := last_range Q
      obtain ⟨e, he⟩ : ∃ e, e = Lib.lastIndexByte (str Q) 35 := ⟨_, rfl⟩
      rw [← he] at her
      simp only [← he]
      refine Ev.bind (impl_number.ev _) (Ev.bind (impl_number.ev _) ?_)
      by_cases hE : 0 ≤ e
      · have hres : rdC L = finR (numV (str (L.take (fstB L 47)))) (numV (str (R.take (fstB R 58)))) (Q.take e.toNat) L := by
          unfold rdC
          simp only [← hR, ← hQ, ← he]
          rw [if_pos ⟨hA, hB, hE⟩]
        rw [hres]
        have n1 := numV_range (str (L.take (fstB L 47)))
        have n2 := numV_range (str (R.take (fstB R 58)))
        generalize numV (str (L.take (fstB L 47))) = i' at n1 ⊢
        generalize numV (str (R.take (fstB R 58))) = n' at n2 ⊢
        have hp : (Q.take e.toNat).length ≤ 140737488351232 := by rw [List.length_take]; omega
        have hcp := take_nil Q e hE her.2
        have x3 : (str Q).extract 0 e.toNat = str (Q.take e.toNat) := by rw [str_extract, List.drop_zero, Nat.sub_zero]
        obtain ⟨K3, g3⟩ := impl_chunkText.ev i' n' (by omega) (by omega) (by omega) (by omega) (Q.take e.toNat) hp
        refine ⟨K3, fun k hk => ?_⟩
        simp only [if_neg (show ¬ (e < 0) by omega), impl_within.val, Option.bind_some, w64 (show -9223372036854775808 ≤ n' - 1 by omega) (by omega), if_pos hE, str_size, if_pos (show e ≤ (Q.length : Int) by omega), x3, g3 k hk, str_toList]
        unfold finR
        by_cases c1 : 1 ≤ n' ∧ n' ≤ 40
        · simp only [decide_eq_true c1, if_true]
          by_cases c2 : 0 ≤ i' ∧ i' ≤ n' - 1
          · simp only [decide_eq_true c2, if_true]
            by_cases c4 : e = 0
            · simp only [if_pos c4]
              by_cases c3 : n' > 1
              · rw [if_pos c3, if_neg (fun h => h.2.1 ⟨c3, hcp.2 c4⟩)]
              · rw [if_neg c3]
                by_cases c5 : chunkL i' n' (Q.take e.toNat) = L
                · rw [if_pos c5, if_pos ⟨⟨c1, c2⟩, fun h => c3 h.1, c5⟩]
                · rw [if_neg c5, if_neg (fun h => c5 h.2.2)]
            · simp only [if_neg c4]
              by_cases c5 : chunkL i' n' (Q.take e.toNat) = L
              · rw [if_pos c5, if_pos ⟨⟨c1, c2⟩, fun h => c4 (hcp.1 h.2), c5⟩]
              · rw [if_neg c5, if_neg (fun h => c5 h.2.2)]
          · simp only [decide_eq_false c2, Bool.false_eq_true, if_false]
            rw [if_neg (fun h => c2 h.1.2)]
        · simp only [decide_eq_false c1, Bool.false_eq_true, if_false]
          rw [if_neg (fun h => c1 h.1.1)]
      · have hres : rdC L = (0, 0, (⟨#[]⟩ : ByteArray), false) := by
          unfold rdC
          simp only [← hR, ← hQ, ← he]
          rw [if_neg (fun h => hE h.2.2)]
        rw [hres]
        exact ev_val fun k => by simp only [if_pos (show e < 0 by omega)]
    · simp only [if_neg hB]
      have hres : rdC L = (0, 0, (⟨#[]⟩ : ByteArray), false) := by
        unfold rdC
        simp only [← hR]
        rw [if_neg (fun h => hB h.2.1)]
      rw [hres]
      have hl : strings_LastIndexByte.f (str []) 35 = some (-1) := rfl
      simp only [hl, Option.bind_some]
      refine Ev.bind (impl_number.ev _) (Ev.bind (impl_number.ev _) ?_)
      exact ev_val fun k => by simp only [if_pos (show (-1 : Int) < 0 by omega)]
  · simp only [if_neg hA]
    have hres : rdC L = (0, 0, (⟨#[]⟩ : ByteArray), false) := by
      unfold rdC
      simp only
      rw [if_neg (fun h => hA h.1)]
    rw [hres]
    have hl : strings_LastIndexByte.f (str []) 35 = some (-1) := rfl
    have hc : strings_Cut.f (str []) (⟨#[58]⟩ : ByteArray) = some (str [], str [], false) := by rw [strings_Cut.val [] 58 (by simp)]; rfl
    simp only [hc, hl, Option.bind_some]
    refine Ev.bind (impl_number.ev _) (Ev.bind (impl_number.ev _) ?_)
    exact ev_val fun k => by simp only [if_pos (show (-1 : Int) < 0 by omega)]

theorem laws_eqStringS.ev (xs ys : List ByteArray) (hn : xs.length ≤ 9223372036854775806) : ∃ b, Ev (fun k => laws_eqStringS.f k xs ys) b ∧ (b = true ↔ xs = ys) := by
  by_cases hl : xs.length = ys.length
  · obtain ⟨b, hb, hq⟩ := eq_loop (fun k i => laws_eqStringS.l0 k xs ys i) xs ys hl
      (fun k => by simp only [laws_eqStringS.l0, if_neg (show ¬ ((xs.length : Int) < (xs.length : Int)) by omega)])
      (fun i h1 h2 => by
        by_cases h : xs[i] = ys[i]
        · exact .inl ⟨h, 0, fun k _ => by simp only [laws_eqStringS.l0, if_pos (show (i : Int) < (xs.length : Int) by omega), if_pos (show (0 : Int) ≤ (i : Int) by omega), if_pos (show (i : Int) < (ys.length : Int) by omega), rdB xs i h1, rdB ys i h2, toList_inj, if_pos h, w64 (show -9223372036854775808 ≤ (i : Int) + 1 by omega) (by omega)]⟩
        · exact .inr ⟨h, 0, fun k _ => by simp only [laws_eqStringS.l0, if_pos (show (i : Int) < (xs.length : Int) by omega), if_pos (show (0 : Int) ≤ (i : Int) by omega), if_pos (show (i : Int) < (ys.length : Int) by omega), rdB xs i h1, rdB ys i h2, toList_inj, if_neg h]⟩)
    refine ⟨b, ?_, hq⟩
    refine Ev.congr (fun k => ?_) hb
    simp only [laws_eqStringS.f, if_pos (show (xs.length : Int) = (ys.length : Int) by omega)]
  · refine ⟨false, ev_val (fun k => ?_), ?_⟩
    · simp only [laws_eqStringS.f, if_neg (show ¬ ((xs.length : Int) = (ys.length : Int)) by omega)]
    · constructor
      · intro h; cases h
      · intro h; subst h; exact absurd rfl hl
theorem laws_eqStringS.same (xs : List ByteArray) (hn : xs.length ≤ 9223372036854775806) : Ev (fun k => laws_eqStringS.f k xs xs) true := by
  obtain ⟨b, hb, hq⟩ := laws_eqStringS.ev xs xs hn
  exact ev_eq hb (hq.2 rfl)

/-- The first empty string's place, or -1. -/
def firstE : List ByteArray → Int → Int
  | [], _ => -1
  | s :: l, i => if s = ⟨#[]⟩ then i else firstE l (i + 1)
/-- The first chunk that is missing. -/
def missC (xs : List ByteArray) (total : Int) : Int := if xs.length = 0 ∧ total > 0 then 0 else firstE xs 0
theorem empty_toList : (⟨#[]⟩ : ByteArray).toList = [] := by rw [toList_data]
theorem toList_nil (s : ByteArray) : s.toList = [] ↔ s = ⟨#[]⟩ := ⟨fun h => (toList_inj s ⟨#[]⟩).1 (h.trans empty_toList.symm), fun h => by rw [h, empty_toList]⟩

/-- The parts behind a chunk that came. -/
noncomputable def rcvC (xs : List ByteArray) (c : ByteArray) : List ByteArray × Bool :=
  if (rdC c.data.toList).2.2.2 = true then (if xs.length = 0 then ((List.replicate (rdC c.data.toList).2.1.toNat (⟨#[]⟩ : ByteArray)).set (rdC c.data.toList).1.toNat c, true)
    else if (xs.length : Int) = (rdC c.data.toList).2.1 ∧ (rdOf ByteArray.empty xs (rdC c.data.toList).1).toList = [] then (xs.set (rdC c.data.toList).1.toNat c, true) else (xs, false)) else (xs, false)
theorem rcvC_len (xs : List ByteArray) (c : ByteArray) (h : xs.length ≤ 1048576) : (rcvC xs c).1.length ≤ 1048576 := by
  have hk := rdC_ok c.data.toList
  unfold rcvC
  generalize rdC c.data.toList = q at hk
  split
  · next hq =>
    have := hk hq
    split
    · simp only [List.length_set, List.length_replicate]; omega
    · split
      · simp only [List.length_set]; exact h
      · exact h
  · exact h
theorem rd_rep (n : Nat) (i : Int) : (rdOf ByteArray.empty (List.replicate n (⟨#[]⟩ : ByteArray)) i).toList = [] := by
  have : rdOf ByteArray.empty (List.replicate n (⟨#[]⟩ : ByteArray)) i = ⟨#[]⟩ := by
    simp only [rdOf, List.getD_eq_getElem?_getD, List.getElem?_replicate]
    split <;> rfl
  rw [this]; exact empty_toList

theorem spec_ReceiveChunk.ev (xs : List ByteArray) (c : ByteArray) (hn : xs.length ≤ 1048576) (hs : c.size ≤ 1048576) : Ev (fun k => spec_ReceiveChunk.f k xs c) (rcvC xs c) := by
  have hr := spec_l7Read.ev c.data.toList (by rw [Array.length_toList]; exact hs)
  rw [str_str] at hr
  have hk := rdC_ok c.data.toList
  refine Ev.bind hr ?_
  simp only [Option.bind_some, List.length_nil, List.nil_append, Nat.zero_add, if_pos (show xs.length < 8796093022208 by omega)]
  unfold rcvC
  generalize rdC c.data.toList = q at hk
  obtain ⟨qi, qn, qp, qb⟩ := q
  simp only at hk ⊢
  cases qb with
  | false =>
    simp only [Bool.false_eq_true, if_false]
    exact ev_shift (ev_val fun k => by simp only [spec_ReceiveChunk.j0, if_true])
  | true =>
    obtain ⟨h0, h1, h2, h3⟩ := hk rfl
    simp only [if_true]
    by_cases hz : xs.length = 0
    · simp only [if_neg (show ¬ ((xs.length : Int) > 0) by omega), if_pos hz]
      refine ev_shift ?_
      simp only [spec_ReceiveChunk.j0, Bool.false_eq_true, if_false]
      obtain rfl : xs = [] := List.length_eq_zero_iff.1 hz
      have key : ∀ d j : Nat, j + d = qn.toNat → Ev (fun k => spec_ReceiveChunk.l0 k c qi qn (List.replicate j (⟨#[]⟩ : ByteArray))) ((List.replicate qn.toNat (⟨#[]⟩ : ByteArray)).set qi.toNat c, true) := by
        intro d
        induction d with
        | zero =>
          intro j hj
          obtain rfl : j = qn.toNat := by omega
          refine ev_shift (ev_val fun k => ?_)
          simp only [spec_ReceiveChunk.l0, List.length_replicate, if_neg (show ¬ ((qn.toNat : Int) < qn) by omega), if_pos h0, if_pos (show qi < (qn.toNat : Int) by omega), rd_rep, if_true]
        | succ d ih =>
          intro j hj
          refine ev_shift (Ev.congr (fun k => ?_) (ih (j + 1) (by omega)))
          simp only [spec_ReceiveChunk.l0, List.length_replicate, if_pos (show (j : Int) < qn by omega), if_pos (show j < 8796093022208 by omega)]
          rw [← List.replicate_succ']
      exact key qn.toNat 0 (by omega)
    · simp only [if_pos (show (xs.length : Int) > 0 by omega), if_neg hz]
      by_cases hl : (xs.length : Int) = qn
      · refine ev_shift ?_
        simp only [spec_ReceiveChunk.j0, hl, bne_self_eq_false, Bool.false_eq_true, if_false, true_and]
        refine ev_shift (ev_val fun k => ?_)
        simp only [spec_ReceiveChunk.l0, hl, if_neg (show ¬ (qn < qn) by omega), if_pos h0, if_pos (show qi < qn by omega)]
        split <;> rfl
      · refine ev_shift (ev_val fun k => ?_)
        have : ((xs.length : Int) != qn) = true := by simp [hl]
        simp only [spec_ReceiveChunk.j0, this, if_true]
        rw [if_neg (fun h => hl h.1)]

theorem slices_Clone_string_string.val (xs : List ByteArray) (h : xs.length < 8796093022208) : slices_Clone_string_string.f xs = some xs := by
  simp only [slices_Clone_string_string.f, if_pos h]

theorem impl_ReceiveChunk.ev (xs : List ByteArray) (c : ByteArray) (hn : xs.length ≤ 1048576) (hs : c.size ≤ 1048576) : Ev (fun k => impl_ReceiveChunk.f k xs c) (rcvC xs c) := by
  have hr := impl_readChunk.ev c.data.toList (by rw [Array.length_toList]; exact hs)
  rw [str_str] at hr
  have hk := rdC_ok c.data.toList
  have hcl := slices_Clone_string_string.val xs (by omega)
  simp only [impl_ReceiveChunk.f, hcl, Option.bind_some]
  refine Ev.bind hr ?_
  unfold rcvC
  generalize rdC c.data.toList = q at hk
  obtain ⟨qi, qn, qp, qb⟩ := q
  simp only at hk ⊢
  cases qb with
  | false =>
    simp only [Bool.false_eq_true, if_false]
    exact ev_shift (ev_val fun k => by simp only [impl_ReceiveChunk.j0, Bool.false_eq_true, if_false, hcl, Option.bind_some])
  | true =>
    obtain ⟨h0, h1, h2, h3⟩ := hk rfl
    simp only [if_true]
    by_cases hz : xs.length = 0
    · rw [if_pos hz]
      have hb : ((xs.length : Int) == 0) = true := by simp [hz]
      refine ev_shift (ev_val fun k => ?_)
      simp only [impl_ReceiveChunk.j0, hb, if_true, if_pos (show 0 ≤ qn by omega), if_pos (show qn.toNat ≤ 17592186044416 by omega), Option.bind_some, List.length_replicate, if_pos (show (qn.toNat : Int) = qn by omega), if_pos h0, if_pos (show qi < (qn.toNat : Int) by omega), rd_rep]
    · rw [if_neg hz]
      have hb : ((xs.length : Int) == 0) = false := by simp; exact fun h => hz (by rw [h]; rfl)
      refine ev_shift (ev_val fun k => ?_)
      simp only [impl_ReceiveChunk.j0, hb, Bool.false_eq_true, if_false, if_true]
      by_cases hl : (xs.length : Int) = qn
      · simp only [if_pos hl, if_pos h0, if_pos (show qi < (xs.length : Int) by omega)]
        by_cases he : (rdOf ByteArray.empty xs qi).toList = []
        · rw [if_pos he, if_pos ⟨hl, he⟩]
        · rw [if_neg he, if_neg (fun h => he h.2), hcl]
          rfl
      · simp only [if_neg hl, hcl, Option.bind_some]
        rw [if_neg (fun h => hl h.1)]

/-- A mark's text. -/
def mtx (a : Int) : List UInt8 := if a ≤ 0 then [109, 48] else [109] ++ digs a.natAbs
theorem laws_markText.ev (a : Int) (h1 : a ≤ 1000000000000000) : Ev (fun k => laws_markText.f k a) (str (mtx a)) := by
  have key : ∀ s : Int × List UInt8, (0 ≤ s.1 ∧ s.1 + s.2.length ≤ 2000000000000000) → Ev (fun k => laws_markText.l0 k s.1 (str s.2)) (str ([109] ++ digs s.1.natAbs ++ s.2)) := by
    refine loop_ev (fun k (s : Int × List UInt8) => laws_markText.l0 k s.1 (str s.2)) _ (fun s => s.1.natAbs) (fun s => str ([109] ++ digs s.1.natAbs ++ s.2)) ?_
    rintro ⟨x, l⟩ ⟨h1, h2⟩
    simp only at h1 h2 ⊢
    by_cases hx : x > 0
    · have ht := (tmod10 x).1 h1
      have hd : x.natAbs % 10 < 10 := by omega
      have hq : (Int.tdiv x 10).natAbs = x.natAbs / 10 := by have := ht.2; omega
      have e2 : wrap64 (Int.tdiv x 10) = Int.tdiv x 10 := w64 (by have := ht.2; omega) (by have := ht.2; omega)
      refine .inr ⟨(Int.tdiv x 10, UInt8.ofNat (48 + x.natAbs % 10) :: l), ⟨by have := ht.2; simp only; omega, by have := ht.2; simp only [List.length_cons]; omega⟩, by simp only [hq]; omega, ?_, ?_⟩
      · simp only [hq]
        rw [digs_step x.natAbs (by omega)]
        simp
      · intro r hr
        refine ev_shift ?_
        simp only [laws_markText.l0, if_pos hx, ht.1, Option.bind_some, strOfNums_digit _ hd, str_append, str_size, List.length_cons, List.length_nil, if_pos (show 0 + 1 + l.length ≤ 9223372036854775807 by omega), e2]
        exact hr
    · obtain rfl : x = 0 := by omega
      refine .inl (ev_shift (ev_val fun k => ?_))
      simp only [laws_markText.l0, if_neg hx, str_size, if_pos (show 1 + l.length ≤ 9223372036854775807 by omega), str_lit, str_append]
      simp [digs]
  by_cases h : a ≤ 0
  · exact ev_val fun k => by simp only [laws_markText.f, if_pos h, mtx]; rfl
  · simp only [laws_markText.f, if_neg h, mtx]
    have := key (a, []) ⟨by simp only; omega, by simp only [List.length_nil]; omega⟩
    simp only [List.append_nil] at this
    exact this

/-- The marks of a list of strings. -/
def marksT (n : Nat) (a : Int) : List ByteArray := (List.range n).map fun (i : Nat) => str (mtx (a + (i : Int)))
theorem marksT_length (n : Nat) (a : Int) : (marksT n a).length = n := by simp [marksT]
theorem marksT_get (n : Nat) (a : Int) (i : Nat) (h : i < (marksT n a).length) : (marksT n a)[i] = str (mtx (a + (i : Int))) := by simp [marksT]
theorem laws_markStringS.ev (xs : List ByteArray) (a : Int) (hn : xs.length ≤ 1048576000) (h0 : 0 ≤ a) (h1 : a ≤ 1048576000000) : Ev (fun k => laws_markStringS.f k xs a) (a + xs.length, marksT xs.length a) := by
  have key : ∀ s : Nat × List ByteArray, (s.1 ≤ xs.length ∧ s.2.length = xs.length) → Ev (fun k => laws_markStringS.l0 k s.2 (a + (s.1 : Int)) (s.1 : Int)) (a + xs.length, s.2.take s.1 ++ (marksT xs.length a).drop s.1) := by
    refine loop_ev (fun k (s : Nat × List ByteArray) => laws_markStringS.l0 k s.2 (a + (s.1 : Int)) (s.1 : Int)) _ (fun s => xs.length - s.1) (fun s => (a + xs.length, s.2.take s.1 ++ (marksT xs.length a).drop s.1)) ?_
    rintro ⟨i, ys⟩ ⟨g1, g2⟩
    simp only at g1 g2 ⊢
    by_cases hi : i < xs.length
    · have e1 := w64 (show -9223372036854775808 ≤ (i : Int) + 1 by omega) (by omega)
      have e2 := w64 (show -9223372036854775808 ≤ a + (i : Int) + 1 by omega) (by omega)
      refine .inr ⟨(i + 1, ys.set i (str (mtx (a + (i : Int))))), ⟨by simp only; omega, by simp only [List.length_set]; exact g2⟩, by simp only; omega, ?_, ?_⟩
      · simp only [Prod.mk.injEq, true_and]
        rw [List.take_succ_eq_append_getElem (by rw [List.length_set]; omega), List.getElem_set_self, List.take_set_of_le (Nat.le_refl _), List.drop_eq_getElem_cons (show i < (marksT xs.length a).length by rw [marksT_length]; exact hi), marksT_get, List.append_assoc]
        rfl
      · intro r hr
        refine ev_shift ?_
        simp only [laws_markStringS.l0, if_pos (show (i : Int) < (ys.length : Int) by omega), if_pos (show (0 : Int) ≤ (i : Int) by omega), Int.toNat_natCast, e1, e2]
        refine Ev.bind (laws_markText.ev (a + (i : Int)) (by omega)) ?_
        simpa [Int.add_assoc] using hr
    · refine .inl (ev_shift (ev_val fun k => ?_))
      obtain rfl : i = xs.length := by omega
      simp only [laws_markStringS.l0, if_neg (show ¬ ((xs.length : Int) < (ys.length : Int)) by omega)]
      rw [List.take_of_length_le (by omega), List.drop_eq_nil_of_le (by rw [marksT_length]; exact Nat.le_refl _), List.append_nil]
  have := key (0, xs) ⟨Nat.zero_le _, rfl⟩
  simpa [laws_markStringS.f] using this

theorem laws_heldStringS.ev (n : Nat) (a : Int) (hn : n ≤ 1048576000) (h0 : 0 ≤ a) (h1 : a ≤ 1048576000000) : Ev (fun k => laws_heldStringS.f k (marksT n a) a) (a + n) := by
  have key : ∀ d i : Nat, i + d = n → Ev (fun k => laws_heldStringS.l0 k (marksT n a) (a + (i : Int)) (i : Int)) (a + n) := by
    intro d
    induction d with
    | zero =>
      intro i h
      refine ev_shift (ev_val fun k => ?_)
      simp only [laws_heldStringS.l0, marksT_length, if_neg (show ¬ ((i : Int) < (n : Int)) by omega)]
      rw [show i = n by omega]
    | succ d ih =>
      intro i h
      have e1 := w64 (show -9223372036854775808 ≤ (i : Int) + 1 by omega) (by omega)
      have e2 := w64 (show -9223372036854775808 ≤ a + (i : Int) + 1 by omega) (by omega)
      have hr := ih (i + 1) (by omega)
      refine ev_shift ?_
      have hi : i < (marksT n a).length := by rw [marksT_length]; omega
      simp only [laws_heldStringS.l0, marksT_length, if_pos (show (i : Int) < (n : Int) by omega), if_pos (show (0 : Int) ≤ (i : Int) by omega), rdB _ i hi, marksT_get, e1, e2]
      refine Ev.bind (laws_markText.ev (a + (i : Int)) (by omega)) ?_
      simp only [if_true]
      simpa [Int.add_assoc] using hr
  simpa [laws_heldStringS.f] using key n 0 (by omega)

theorem FnExactReceiveChunk : FnExactReceiveChunkPure := by
  intro l c h hc
  refine Ev.rounds (g := fun k => laws_FnExactReceiveChunk.f k l c) ?_
  by_cases hb : (c.size : Int) > 1048576
  · simp only [laws_FnExactReceiveChunk.f, if_pos hb]; exact Ev.now _
  simp only [laws_FnExactReceiveChunk.f, if_neg hb]
  obtain ⟨r, hr, hq⟩ := laws_szStringS.ev l 1048576 h.1 h.2 (by omega) (by omega)
  refine Ev.bind hr ?_
  by_cases hneg : r < 0
  · simp only [if_pos hneg]; exact Ev.now _
  · have hl := hq hneg
    simp only [if_neg hneg]
    have hT := laws_toStringS.ev l (by omega)
    have hS := spec_ReceiveChunk.ev l c (by omega) (by omega)
    have hI := impl_ReceiveChunk.ev l c (by omega) (by omega)
    have hlen := rcvC_len l c (by omega)
    generalize rcvC l c = q at hS hI hlen
    obtain ⟨z, t⟩ := q
    simp only at hlen
    have hm := laws_markStringS.ev l 1 (by omega) (by omega) (by omega)
    have hmz := laws_markStringS.ev z 1 (by omega) (by omega) (by omega)
    have hhz := laws_heldStringS.ev z.length 1 (by omega) (by omega) (by omega)
    refine Ev.bind hT (Ev.bind hS (Ev.bind hT (Ev.bind hI (Ev.bind (laws_eqStringS.same z (by omega)) ?_))))
    simp only [if_true, bne_self_eq_false]
    refine ev_shift ?_
    simp only [laws_FnExactReceiveChunk.j0, Bool.false_eq_true, if_false]
    refine Ev.bind hT (Ev.bind (laws_eqStringS.same l (by omega)) ?_)
    simp only [if_true]
    refine Ev.bind hm ?_
    simp only [if_neg (show ¬ ((1 : Int) + (l.length : Int) < 0) by omega)]
    refine Ev.bind (laws_eqStringS.same z (by omega)) ?_
    simp only [if_true, bne_self_eq_false]
    refine ev_shift ?_
    simp only [laws_FnExactReceiveChunk.j1, Bool.false_eq_true, if_false]
    refine Ev.bind hmz (Ev.bind hhz ?_)
    simp only [if_neg (show ¬ ((1 : Int) + (z.length : Int) < 0) by omega), if_true]
    refine Ev.bind hT (Ev.bind hI (Ev.bind (laws_eqStringS.same z (by omega)) ?_))
    simp only [if_true, bne_self_eq_false]
    refine ev_shift ?_
    simp only [laws_FnExactReceiveChunk.j2, Bool.false_eq_true, if_false]
    refine Ev.bind hhz ?_
    simp only [if_neg (show ¬ ((1 : Int) + (z.length : Int) < 0) by omega), if_true]
    exact Ev.now _

end Go.Proofs.YtijjfnkblfimfaaDoor.Pure
