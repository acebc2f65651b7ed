/- For every string the law FnExactParseMachine returns true; no conditions. -/
import Derived.Test.YtcikahnmiiichaaDoorQFnExactParseMachine
import Derived.Test.YtcikahnmiiichaaDoorPCom
set_option linter.unusedVariables false
set_option linter.unusedSimpArgs false
namespace Go.Proofs.YtcikahnmiiichaaDoor.Pure
open Go.RowKit Go.Proofs.YtcikahnmiiichaaDoor.P Go.Proofs.YtcikahnmiiichaaDoorW.PrintWords Go.Proofs.YtcikahnmiiichaaDoorW.PrintLast
open Go.Proofs.YtcikahnmiiichaaDoor.Opens
open Go.Proofs.YtcikahnmiiichaaDoor.Com
open Go.Proofs.YtcikahnmiiichaaDoor.Given

def str (l : List UInt8) : ByteArray := ⟨l.toArray⟩
theorem str_append (a b : List UInt8) : str a ++ str b = str (a ++ b) := by
 apply ByteArray.ext
 simp [str]
theorem str_size (l : List UInt8) : (str l).size = l.length := by simp [str, ByteArray.size]
theorem str_toList (l : List UInt8) : (str l).toList = l := by rw [toList_data]; simp [str]
theorem toList_inj' {a b : ByteArray} (h : a.toList = b.toList) : a = b := bytesOf_inj (bytesOf_congr h)
def digs (m : Nat) : List UInt8 := if m = 0 then [] else Lib.decDigits m
theorem digs_step (m : Nat) (h : 0 < m) : digs m = digs (m / 10) ++ [UInt8.ofNat (48 + m % 10)] := by
 unfold digs
 rw [if_neg (by omega), Lib.decDigits]
 by_cases h9 : m < 10
 ·rw [dif_pos h9, if_pos (by omega), Nat.mod_eq_of_lt h9]; rfl
 ·rw [dif_neg h9, if_neg (by omega)]
theorem tmod10 (x : Int) : (0 ≤ x → Int.tmod x 10 = ((x.natAbs % 10 : Nat) : Int) ∧ Int.tdiv x 10 = ((x.natAbs / 10 : Nat) : Int)) ∧ (x < 0 → Int.tmod x 10 = -((x.natAbs % 10 : Nat) : Int) ∧ Int.tdiv x 10 = -((x.natAbs / 10 : Nat) : Int)) := by
 constructor
 ·intro h
  obtain ⟨n, rfl⟩ := Int.eq_ofNat_of_zero_le h
  exact ⟨rfl, rfl⟩
 ·intro h
  obtain ⟨n, rfl⟩ := Int.eq_negSucc_of_lt_zero h
  exact ⟨rfl, rfl⟩
theorem strOfNums_digit (d : Nat) (h : d < 10) : strOfNums ([(wrap64 (48 + (d : Int))) % 256] : List Int) = str [UInt8.ofNat (48 + d)] := by
 rw [w64 (by omega) (by omega)]
 apply ByteArray.ext
 apply Array.ext'
 rw [strOfNums_data]
 have e : ((48 + (d : Int)) % 256).toNat = 48 + d := by omega
 simp [str, e]
theorem itoa_zero : Lib.itoa 0 = [48] := by unfold Lib.itoa Lib.decDigits; simp
theorem itoa_digs (a : Int) (h : a ≠ 0) : Lib.itoa a = (if a < 0 then [45] else []) ++ digs a.natAbs := by
 have hn : ¬ a.natAbs = 0 := by omega
 unfold Lib.itoa digs
 by_cases c : a < 0
 ·rw [if_pos c, if_pos c, if_neg hn]; rfl
 ·rw [if_neg c, if_neg c, if_neg hn, show a.toNat = a.natAbs by omega]; rfl
theorem digs_len : ∀ n m : Nat, m < 10 ^ n → (digs m).length ≤ n := by
 intro n
 induction n with
 | zero =>
  intro m h; obtain rfl : m = 0 := by simpa using h
  simp [digs]
 | succ n ih =>
  intro m h
  by_cases h0 : m = 0
  ·subst h0; simp [digs]
  ·rw [digs_step m (by omega), List.length_append]
   have := ih (m / 10) (by rw [Nat.pow_succ] at h; omega)
   simp only [List.length_cons, List.length_nil]
   omega
theorem itoa_len (a : Int) (h0 : -9223372036854775808 ≤ a) (h1 : a ≤ 9223372036854775807) : (Lib.itoa a).length ≤ 20 := by
 by_cases h : a = 0
 ·subst h; rw [itoa_zero]; simp
 ·rw [itoa_digs a h, List.length_append]
  have h2 := digs_len 19 a.natAbs (by omega)
  have h3 : (if a < 0 then ([45] : List UInt8) else []).length ≤ 1 := by split <;> simp
  omega
theorem str_lit (l : List UInt8) : (⟨l.toArray⟩ : ByteArray) = str l := rfl
def valD (l : List Int) : Int := l.foldl (fun n b => if 48 ≤ b ∧ b ≤ 57 then n * 10 + (b - 48) else n) 0
def cntD (l : List Int) : Int := l.foldl (fun n b => if 48 ≤ b ∧ b ≤ 57 then n + 1 else n) 0
theorem valD_snoc (l : List Int) (b : Int) : valD (l ++ [b]) = if 48 ≤ b ∧ b ≤ 57 then valD l * 10 + (b - 48) else valD l := by simp [valD, List.foldl_append]
theorem cntD_snoc (l : List Int) (b : Int) : cntD (l ++ [b]) = if 48 ≤ b ∧ b ≤ 57 then cntD l + 1 else cntD l := by simp [cntD, List.foldl_append]
theorem fold_bound : ∀ (l : List Int) (n : Int), 0 ≤ n → 0 ≤ l.foldl (fun n b => if 48 ≤ b ∧ b ≤ 57 then n * 10 + (b - 48) else n) n ∧ l.foldl (fun n b => if 48 ≤ b ∧ b ≤ 57 then n * 10 + (b - 48) else n) n < (n + 1) * 10 ^ l.length := by
 intro l
 induction l with
 | nil => intro n h; simp; omega
 | cons b l ih =>
  intro n h
  have hP : (0 : Int) ≤ 10 ^ l.length := Int.le_of_lt (Int.pow_pos (by decide))
  rw [List.foldl_cons, List.length_cons, Int.pow_succ]
  by_cases hb : 48 ≤ b ∧ b ≤ 57
  ·rw [if_pos hb]
   obtain ⟨h1, h2⟩ := ih (n * 10 + (b - 48)) (by omega)
   refine ⟨h1, Int.lt_of_lt_of_le h2 ?_⟩
   have h3 : (n * 10 + (b - 48) + 1) * 10 ^ l.length ≤ ((n + 1) * 10) * 10 ^ l.length := Int.mul_le_mul_of_nonneg_right (by omega) hP
   calc (n * 10 + (b - 48) + 1) * 10 ^ l.length ≤ ((n + 1) * 10) * 10 ^ l.length := h3
    _ = (n + 1) * (10 ^ l.length * 10) := by rw [Int.mul_assoc, Int.mul_comm 10]
  ·rw [if_neg hb]
   obtain ⟨h1, h2⟩ := ih n h
   refine ⟨h1, Int.lt_of_lt_of_le h2 ?_⟩
   have h3 : (n + 1) * 10 ^ l.length ≤ ((n + 1) * 10) * 10 ^ l.length := Int.mul_le_mul_of_nonneg_right (by omega) hP
   calc (n + 1) * 10 ^ l.length ≤ ((n + 1) * 10) * 10 ^ l.length := h3
    _ = (n + 1) * (10 ^ l.length * 10) := by rw [Int.mul_assoc, Int.mul_comm 10]
theorem pow10_le {n : Nat} (h : n ≤ 11) : (10 : Int) ^ n ≤ 100000000000 := by
 have : n = 0 ∨ n = 1 ∨ n = 2 ∨ n = 3 ∨ n = 4 ∨ n = 5 ∨ n = 6 ∨ n = 7 ∨ n = 8 ∨ n = 9 ∨ n = 10 ∨ n = 11 := by omega
 rcases this with h | h | h | h | h | h | h | h | h | h | h | h <;> subst h <;> decide
theorem valD_bound (l : List Int) (h : l.length ≤ 11) : 0 ≤ valD l ∧ valD l < 100000000000 := by
 obtain ⟨h1, h2⟩ := fold_bound l 0 (by omega)
 refine ⟨h1, Int.lt_of_lt_of_le h2 ?_⟩
 rw [Int.zero_add, Int.one_mul]
 exact pow10_le h
theorem cnt_bound : ∀ (l : List Int) (n : Int), n ≤ l.foldl (fun n b => if 48 ≤ b ∧ b ≤ 57 then n + 1 else n) n ∧ l.foldl (fun n b => if 48 ≤ b ∧ b ≤ 57 then n + 1 else n) n ≤ n + l.length := by
 intro l
 induction l with
 | nil => intro n; simp
 | cons b l ih =>
  intro n
  rw [List.foldl_cons, List.length_cons]
  by_cases hb : 48 ≤ b ∧ b ≤ 57
  ·rw [if_pos hb]; have := ih (n + 1); omega
  ·rw [if_neg hb]; have := ih n; omega
theorem cnt_all : ∀ (l : List Int) (n : Int), (∀ b ∈ l, 48 ≤ b ∧ b ≤ 57) → l.foldl (fun n b => if 48 ≤ b ∧ b ≤ 57 then n + 1 else n) n = n + l.length := by
 intro l
 induction l with
 | nil => intro n _; simp
 | cons b l ih =>
  intro n h
  rw [List.foldl_cons, List.length_cons, if_pos (h b (by simp)), ih (n + 1) (fun c hc => h c (by simp [hc]))]
  omega
theorem cntD_all {l : List Int} (h : ∀ b ∈ l, 48 ≤ b ∧ b ≤ 57) : cntD l = l.length := by rw [cntD, cnt_all l 0 h]; omega
theorem valD_minus (l : List Int) : valD (45 :: l) = valD l := by simp [valD]
theorem cntD_minus (l : List Int) : cntD (45 :: l) = cntD l := by simp [cntD]
def nums (l : List UInt8) : List Int := l.map fun b => (b.toNat : Int)
theorem bytesOf_str (l : List UInt8) : bytesOf (str l) = nums l := by simp [bytesOf, str, nums]
theorem digit_num (d : Nat) (h : d < 10) : nums [UInt8.ofNat (48 + d)] = [48 + (d : Int)] := by
 simp only [nums, List.map_cons, List.map_nil]
 rw [UInt8.toNat_ofNat_of_lt' (by simp [UInt8.size]; omega)]
 simp
theorem digs_val (m : Nat) : valD (nums (digs m)) = (m : Int) ∧ (∀ b ∈ nums (digs m), 48 ≤ b ∧ b ≤ 57) := by
 induction m using Nat.strongRecOn with
 | ind m ih =>
  by_cases h0 : m = 0
  ·subst h0; simp [digs, nums, valD]
  ·obtain ⟨h1, h2⟩ := ih (m / 10) (by omega)
   have hd : m % 10 < 10 := by omega
   have e : nums (digs m) = nums (digs (m / 10)) ++ [48 + ((m % 10 : Nat) : Int)] := by
    rw [digs_step m (by omega), ← digit_num (m % 10) hd]; simp [nums]
   rw [e]
   constructor
   ·rw [valD_snoc, if_pos (by omega), h1]; omega
   ·intro b hb
    rcases List.mem_append.1 hb with hb | hb
    ·exact h2 b hb
    ·rw [List.mem_singleton.1 hb]; omega
theorem dec_val (m : Nat) : valD (nums (Lib.decDigits m)) = (m : Int) ∧ (∀ b ∈ nums (Lib.decDigits m), 48 ≤ b ∧ b ≤ 57) ∧ 1 ≤ (Lib.decDigits m).length := by
 by_cases h0 : m = 0
 ·subst h0; unfold Lib.decDigits; simp [nums, valD]
 ·have h := digs_val m
  have e : digs m = Lib.decDigits m := by rw [digs, if_neg h0]
  rw [e] at h
  refine ⟨h.1, h.2, ?_⟩
  rw [← e, digs_step m (by omega)]
  simp
theorem itoa_bytes (a : Int) : bytesOf (str (Lib.itoa a)) = (if a < 0 then [45] else []) ++ nums (Lib.decDigits a.natAbs) := by
 rw [bytesOf_str]
 unfold Lib.itoa
 by_cases c : a < 0
 ·rw [if_pos c, if_pos c]; rfl
 ·rw [if_neg c, if_neg c, show a.toNat = a.natAbs by omega]; rfl
def negB (l : List Int) : Bool := decide (l.head? = some 45)
def tailB (l : List Int) : List Int := if negB l = true then l.tail else l
def numB (l : List Int) : Int := if negB l = true then -valD l else valD l
theorem valD_tailB (l : List Int) : valD (tailB l) = valD l ∧ cntD (tailB l) = cntD l := by
 unfold tailB
 by_cases h : negB l = true
 ·rw [if_pos h]
  cases l with
  | nil => simp [negB] at h
  | cons b l =>
   obtain rfl : b = 45 := by simpa [negB] using h
   exact ⟨(valD_minus l).symm, (cntD_minus l).symm⟩
 ·rw [if_neg h]; exact ⟨rfl, rfl⟩
def specOk (s : ByteArray) : Prop := cntD (bytesOf s) ≤ 9 ∧ s.size ≤ 10 ∧ str (Lib.itoa (numB (bytesOf s))) = s
def implOk (s : ByteArray) : Prop := 1 ≤ (tailB (bytesOf s)).length ∧ (tailB (bytesOf s)).length ≤ 9 ∧ (∀ b ∈ tailB (bytesOf s), 48 ≤ b ∧ b ≤ 57) ∧ str (Lib.itoa (numB (bytesOf s))) = s
theorem tailB_length (l : List Int) : l.length ≤ (tailB l).length + 1 := by
 unfold tailB
 by_cases h : negB l = true
 ·rw [if_pos h, List.length_tail]; omega
 ·rw [if_neg h]; omega
theorem itoa_tail (a : Int) : tailB (bytesOf (str (Lib.itoa a))) = nums (Lib.decDigits a.natAbs) ∧ numB (bytesOf (str (Lib.itoa a))) = a := by
 obtain ⟨h1, h2, h3⟩ := dec_val a.natAbs
 rw [itoa_bytes]
 by_cases c : a < 0
 ·rw [if_pos c]
  have hn : negB ([45] ++ nums (Lib.decDigits a.natAbs)) = true := by simp [negB]
  refine ⟨by rw [tailB, if_pos hn]; rfl, ?_⟩
  rw [numB, if_pos hn]
  show -valD (45 :: nums (Lib.decDigits a.natAbs)) = a
  rw [valD_minus, h1]; omega
 ·rw [if_neg c, List.nil_append]
  have hn : ¬ negB (nums (Lib.decDigits a.natAbs)) = true := by
   cases hl : nums (Lib.decDigits a.natAbs) with
   | nil => simp [negB]
   | cons b l =>
    have := h2 b (by rw [hl]; simp)
    simp only [negB, List.head?_cons, Option.some.injEq, decide_eq_true_eq]
    omega
  refine ⟨by rw [tailB, if_neg hn], ?_⟩
  rw [numB, if_neg hn, h1]; omega
theorem ok_iff (s : ByteArray) : specOk s ↔ implOk s := by
 constructor
 ·rintro ⟨h1, h2, h3⟩
  have e := itoa_tail (numB (bytesOf s))
  obtain ⟨d1, d2, d3⟩ := dec_val (numB (bytesOf s)).natAbs
  rw [h3] at e
  have hl : (tailB (bytesOf s)).length = (Lib.decDigits (numB (bytesOf s)).natAbs).length := by rw [e.1]; simp [nums]
  have hd : ∀ b ∈ tailB (bytesOf s), 48 ≤ b ∧ b ≤ 57 := by rw [e.1]; exact d2
  refine ⟨by omega, ?_, hd, h3⟩
  have := cntD_all hd
  rw [(valD_tailB (bytesOf s)).2] at this
  omega
 ·rintro ⟨h1, h2, h3, h4⟩
  have := cntD_all h3
  rw [(valD_tailB (bytesOf s)).2] at this
  refine ⟨by omega, ?_, h4⟩
  have := tailB_length (bytesOf s)
  rw [bytesOf_length] at this
  omega
theorem cntD_take (l : List Int) (n : Nat) : cntD (l.take n) ≤ cntD l := by
 have h : cntD l = (l.drop n).foldl (fun n b => if 48 ≤ b ∧ b ≤ 57 then n + 1 else n) (cntD (l.take n)) := by
  conv => lhs; rw [← List.take_append_drop n l]
  rw [cntD, List.foldl_append]; rfl
 rw [h]
 exact (cnt_bound _ _).1
theorem take_bt (s : ByteArray) (i : Nat) (h : i < s.size) : (bytesOf s).take (i + 1) = (bytesOf s).take i ++ [bt s (i : Int)] ∧ 0 ≤ bt s (i : Int) ∧ bt s (i : Int) ≤ 255 := by
 have h2 : i < (bytesOf s).length := by rw [bytesOf_length]; exact h
 have hb : bt s (i : Int) = (bytesOf s)[i] := by rw [← rd_bytesOf, rd_get _ i h2]
 rw [hb, List.take_succ_eq_append_getElem h2]
 exact ⟨rfl, bytes_range s _ (List.getElem_mem h2)⟩
theorem negB_bt (s : ByteArray) : negB (bytesOf s) = if (s.size : Int) > 0 then (bt s 0 == 45) else false := by
 by_cases h : (s.size : Int) > 0
 ·have h2 : 0 < (bytesOf s).length := by rw [bytesOf_length]; omega
  have hb : bt s ((0 : Nat) : Int) = (bytesOf s)[0] := by rw [← rd_bytesOf, rd_get _ 0 h2]
  have hb' : bt s 0 = (bytesOf s)[0] := hb
  rw [if_pos h, hb', negB]
  rw [List.head?_eq_getElem?, List.getElem?_eq_getElem h2]
  simp only [Option.some.injEq]
  by_cases c : (bytesOf s)[0] = 45 <;> simp [c]
 ·rw [if_neg h]
  have : (bytesOf s) = [] := List.eq_nil_of_length_eq_zero (by rw [bytesOf_length]; omega)
  rw [this]; rfl
def fstB : List UInt8 → UInt8 → Nat
 | [], _ => 0
 | b :: l, c => if b == c then 0 else fstB l c + 1
theorem fstB_le : ∀ (l : List UInt8) (c : UInt8), fstB l c ≤ l.length
 | [], _ => Nat.le_refl 0
 | b :: l, c => by
  have := fstB_le l c
  unfold fstB
  split <;> simp only [List.length_cons] <;> omega
theorem indexByte_fst : ∀ (l : List UInt8) (c : UInt8), Lib.indexByte l c = if fstB l c < l.length then (fstB l c : Int) else -1
 | [], _ => rfl
 | b :: l, c => by
  have ih := indexByte_fst l c
  have hle := fstB_le l c
  unfold Lib.indexByte fstB
  by_cases h : (b == c) = true
  ·rw [if_pos h, if_pos h, if_pos (by simp)]; rfl
  ·rw [if_neg h, if_neg h]
   by_cases h2 : fstB l c < l.length
   ·rw [if_pos h2] at ih
    rw [ih, if_neg (by simp only [beq_iff_eq]; omega), if_pos (by simp only [List.length_cons]; omega)]
    omega
   ·rw [if_neg h2] at ih
    rw [ih, if_pos (by decide), if_neg (by simp only [List.length_cons]; omega)]
theorem str_str (s : ByteArray) : str s.data.toList = s := by apply ByteArray.ext; simp [str]
theorem str_data_ (l : List UInt8) : (str l).data.toList = l := by simp [str]
theorem bt_str (l : List UInt8) (i : Nat) (h : i < l.length) : bt (str l) (i : Int) = (l[i].toNat : Int) := by
 have h' : (i : Int).toNat < (str l).size := by rw [str_size]; simpa using h
 unfold bt
 rw [dif_pos h']
 simp [str]
 rfl
theorem u8_eq (x c : UInt8) : ((x.toNat : Int) = (c.toNat : Int)) ↔ x = c := by
 constructor
 ·intro h; exact UInt8.toNat_inj.1 (by omega)
 ·intro h; rw [h]
theorem str_extract (l : List UInt8) (i j : Nat) : (str l).extract i j = str ((l.drop i).take (j - i)) := by
 apply ByteArray.ext
 apply Array.ext'
 rw [ByteArray.data_extract, Array.toList_extract, str_data_, str_data_]
noncomputable def numV (s : ByteArray) : Int := open Classical in if implOk s then numB (bytesOf s) else -1
def splA : List UInt8 → UInt8 → List UInt8 → List (List UInt8)
 | [], _, cur => [cur]
 | b :: l, c, cur => if b = c then cur :: splA l c [] else splA l c (cur ++ [b])
def spl (l : List UInt8) (c : UInt8) : List (List UInt8) := splA l c []
theorem splA_cons (b : UInt8) (l : List UInt8) (c : UInt8) (cur : List UInt8) : splA (b :: l) c cur = if b = c then cur :: splA l c [] else splA l c (cur ++ [b]) := rfl
theorem splA_len : ∀ (l : List UInt8) (c : UInt8) (cur : List UInt8), 1 ≤ (splA l c cur).length ∧ (splA l c cur).length ≤ l.length + 1
 | [], _, _ => by simp [splA]
 | b :: l, c, cur => by
  have h1 := splA_len l c []
  have h2 := splA_len l c (cur ++ [b])
  rw [splA_cons]
  split <;> simp only [List.length_cons] <;> omega
theorem splA_fst : ∀ (l : List UInt8) (c : UInt8) (cur : List UInt8), splA l c cur = if fstB l c < l.length then (cur ++ l.take (fstB l c)) :: splA (l.drop (fstB l c + 1)) c [] else [cur ++ l]
 | [], _, cur => by simp [splA, fstB]
 | b :: l, c, cur => by
  rw [splA_cons]
  by_cases e : b = c
  ·rw [if_pos e]
   have : fstB (b :: l) c = 0 := by simp [fstB, e]
   rw [this, if_pos (by simp)]
   simp
  ·rw [if_neg e, splA_fst l c (cur ++ [b])]
   have : fstB (b :: l) c = fstB l c + 1 := by simp [fstB, e]
   rw [this]
   by_cases h : fstB l c < l.length
   ·rw [if_pos h, if_pos (by simpa using h)]
    simp
   ·rw [if_neg h, if_neg (by simpa using h)]
    simp
theorem count_fst : ∀ (l : List UInt8) (c : UInt8), Lib.countByte l c = if fstB l c < l.length then Lib.countByte (l.drop (fstB l c + 1)) c + 1 else 0
 | [], _ => rfl
 | b :: l, c => by
  by_cases e : b = c
  ·have : fstB (b :: l) c = 0 := by simp [fstB, e]
   rw [this, if_pos (by simp)]
   simp [Lib.countByte, e]
  ·have : fstB (b :: l) c = fstB l c + 1 := by simp [fstB, e]
   rw [this]
   have ih := count_fst l c
   by_cases h : fstB l c < l.length
   ·rw [if_pos (by simpa using h)]
    rw [if_pos h] at ih
    simp only [List.drop_succ_cons, Lib.countByte, List.count_cons] at ih ⊢
    rw [ih]
    simp [e]
   ·rw [if_neg (by simpa using h)]
    rw [if_neg h] at ih
    simp only [Lib.countByte, List.count_cons] at ih ⊢
    rw [ih]
    simp [e]
theorem count_le (l : List UInt8) (c : UInt8) : Lib.countByte l c ≤ l.length := List.count_le_length
theorem splA_free : ∀ (x : List UInt8) (c : UInt8) (cur y : List UInt8), (∀ b ∈ x, b ≠ c) → splA (x ++ y) c cur = splA y c (cur ++ x)
 | [], _, cur, y, _ => by simp
 | b :: x, c, cur, y, h => by
  have hb : b ≠ c := h b (by simp)
  show splA (b :: (x ++ y)) c cur = _
  rw [splA_cons, if_neg hb, splA_free x c (cur ++ [b]) y (fun z hz => h z (by simp [hz]))]
  simp
theorem splA_sep (c : UInt8) (cur y : List UInt8) : splA (c :: y) c cur = cur :: splA y c [] := by simp [splA]
theorem spec_l2Cut.ev (L : List UInt8) (c : UInt8) (hn : L.length ≤ 1000000000) : Ev (fun k => spec_l2Cut.f k (str L) (c.toNat : Int)) ((spl L c).map str) := by
 have key : ∀ d i from_ : Nat, i + d = L.length → from_ ≤ i → ∀ out : List ByteArray, out.length ≤ i → Ev (fun k => spec_l2Cut.l0 k (str L) (c.toNat : Int) out (from_ : Int) (i : Int)) (out ++ (splA (L.drop i) c ((L.take i).drop from_)).map str) := by
  intro d
  induction d with
  | zero =>
   intro i from_ h hf out ho
   obtain rfl : i = L.length := by omega
   refine ev_shift (ev_val fun k => ?_)
   have x1 : (str L).extract from_ L.length = str (L.drop from_) := by rw [str_extract, List.take_of_length_le (by rw [List.length_drop]; omega)]
   simp only [spec_l2Cut.l0, str_size, if_neg (show ¬ ((L.length : Int) < (L.length : Int)) by omega), if_pos (show 0 ≤ (from_ : Int) by omega), if_pos (show (from_ : Int) ≤ (L.length : Int) by omega), if_pos (show out.length < 8796093022208 by omega), Int.toNat_natCast, x1, List.drop_length, splA, List.take_length, List.map_cons, List.map_nil]
  | succ d ih =>
   intro i from_ h hf out ho
   have hi : i < L.length := by omega
   have e1 := w64 (show -9223372036854775808 ≤ (i : Int) + 1 by omega) (by omega)
   rw [List.drop_eq_getElem_cons hi]
   unfold splA
   by_cases e : L[i] = c
   ·have x1 : (str L).extract from_ i = str ((L.take i).drop from_) := by rw [str_extract, List.drop_take]
    rw [if_pos e]
    have := ih (i + 1) (i + 1) (by omega) (Nat.le_refl _) (out ++ [str ((L.take i).drop from_)]) (by simp; omega)
    refine ev_shift (Ev.congr (fun k => ?_) (ev_eq this ?_))
    ·simp only [spec_l2Cut.l0, str_size, if_pos (show (i : Int) < (L.length : Int) by omega), if_pos (show 0 ≤ (i : Int) by omega), bt_str L i hi, if_pos (show (L[i].toNat : Int) = (c.toNat : Int) by rw [e]), if_pos (show 0 ≤ (from_ : Int) by omega), if_pos (show (from_ : Int) ≤ (i : Int) by omega), if_pos (show (i : Int) ≤ (L.length : Int) by omega), if_pos (show out.length < 8796093022208 by omega), Int.toNat_natCast, x1, e1]
     rfl
    ·rw [List.drop_eq_nil_of_le (show (L.take (i + 1)).length ≤ i + 1 by rw [List.length_take]; omega)]
     simp
   ·rw [if_neg e]
    have := ih (i + 1) from_ (by omega) (by omega) out (by omega)
    refine ev_shift (Ev.congr (fun k => ?_) (ev_eq this ?_))
    ·simp only [spec_l2Cut.l0, str_size, if_pos (show (i : Int) < (L.length : Int) by omega), if_pos (show 0 ≤ (i : Int) by omega), bt_str L i hi, if_neg (show ¬ ((L[i].toNat : Int) = (c.toNat : Int)) from fun h' => e ((u8_eq _ _).1 h')), e1]
     rfl
    ·rw [List.take_succ_eq_append_getElem hi, List.drop_append_of_le_length (by rw [List.length_take]; omega)]
 have := key L.length 0 0 (by omega) (Nat.le_refl _) [] (by simp)
 simpa [spec_l2Cut.f, spl] using this
theorem spec_FormatInt.l0ev (neg : Bool) : ∀ s : Int × List UInt8, (s.2.length + s.1.natAbs ≤ 9223372036854775808 ∧ (s.2.length = 0 ∨ s.2.length + s.1.natAbs ≤ 9223372036854775800)) →
  Ev (fun k => spec_FormatInt.l0 k s.1 (str s.2) neg) (str ((if neg then [45] else []) ++ digs s.1.natAbs ++ s.2)) := by
 refine loop_ev (fun k (s : Int × List UInt8) => spec_FormatInt.l0 k s.1 (str s.2) neg) _ (fun s => s.1.natAbs) (fun s => str ((if neg then [45] else []) ++ digs s.1.natAbs ++ s.2)) ?_
 rintro ⟨x, l⟩ ⟨h1, h2⟩
 simp only at h1 h2 ⊢
 by_cases hx : x = 0
 ·subst hx
  refine .inl (ev_shift ?_)
  simp only [spec_FormatInt.l0, if_true, str_size]
  cases neg with
  | false => exact ev_val fun _ => by simp [digs]
  | true =>
   simp only [if_true, if_pos (show 1 + l.length ≤ 9223372036854775807 by omega)]
   exact ev_val fun _ => by rw [show (⟨#[45]⟩ : ByteArray) = str [45] from rfl, str_append]; simp [digs]
 ·refine .inr ⟨(Int.tdiv x 10, UInt8.ofNat (48 + x.natAbs % 10) :: l), ?_, ?_, ?_, ?_⟩
  ·have ht := tmod10 x
   simp only [List.length_cons]
   have : (Int.tdiv x 10).natAbs = x.natAbs / 10 := by rcases (show x < 0 ∨ 0 ≤ x by omega) with c | c; (have := (ht.2 c).2; omega); (have := (ht.1 c).2; omega)
   rw [this]
   omega
  ·have ht := tmod10 x
   have : (Int.tdiv x 10).natAbs = x.natAbs / 10 := by rcases (show x < 0 ∨ 0 ≤ x by omega) with c | c; (have := (ht.2 c).2; omega); (have := (ht.1 c).2; omega)
   simp only [this]
   omega
  ·have ht := tmod10 x
   have : (Int.tdiv x 10).natAbs = x.natAbs / 10 := by rcases (show x < 0 ∨ 0 ≤ x by omega) with c | c; (have := (ht.2 c).2; omega); (have := (ht.1 c).2; omega)
   simp only [this]
   rw [digs_step x.natAbs (by omega)]
   simp
  ·intro r hr
   refine ev_shift ?_
   have ht := tmod10 x
   have e2 : wrap64 (Int.tdiv x 10) = Int.tdiv x 10 := w64 (by rcases (show x < 0 ∨ 0 ≤ x by omega) with c | c; (have := (ht.2 c).2; omega); (have := (ht.1 c).2; omega)) (by rcases (show x < 0 ∨ 0 ≤ x by omega) with c | c; (have := (ht.2 c).2; omega); (have := (ht.1 c).2; omega))
   have e3 : ∀ d : Nat, d < 10 → (strOfNums ([(wrap64 (48 + (d : Int))) % 256] : List Int)) ++ str l = str (UInt8.ofNat (48 + d) :: l) := fun d hd => by rw [strOfNums_digit d hd, str_append]; rfl
   have e4 : ∀ d : Nat, d < 10 → (strOfNums ([(wrap64 (48 + (d : Int))) % 256] : List Int)).size + (str l).size ≤ 9223372036854775807 := fun d hd => by rw [strOfNums_digit d hd, str_size, str_size]; simp only [List.length_cons, List.length_nil]; omega
   have hd : x.natAbs % 10 < 10 := by omega
   simp only [spec_FormatInt.l0, if_neg hx, e2]
   by_cases c : Int.tmod x 10 < 0
   ·have hm : Int.tmod x 10 = -((x.natAbs % 10 : Nat) : Int) := by rcases (show x < 0 ∨ 0 ≤ x by omega) with c' | c'; exact (ht.2 c').1; (have := (ht.1 c').1; omega)
    have e1 : wrap64 (-(Int.tmod x 10)) = ((x.natAbs % 10 : Nat) : Int) := by rw [hm, w64 (by omega) (by omega)]; omega
    simp only [if_pos c, e1, Option.bind_some, if_pos (e4 _ hd), e3 _ hd]
    exact hr
   ·have hm : Int.tmod x 10 = ((x.natAbs % 10 : Nat) : Int) := by rcases (show x < 0 ∨ 0 ≤ x by omega) with c' | c'; (have := (ht.2 c').1; omega); exact (ht.1 c').1
    rw [hm] at c
    simp only [hm, if_neg c, Option.bind_some, if_pos (e4 _ hd), e3 _ hd]
    exact hr
theorem spec_FormatInt.ev (a : Int) (h0 : -9223372036854775808 ≤ a) (h1 : a ≤ 9223372036854775807) : Ev (fun k => spec_FormatInt.f k a) (str (Lib.itoa a)) := by
 by_cases ha : a = 0
 ·subst ha
  simp only [spec_FormatInt.f, if_true, itoa_zero]
  exact Ev.now _
 ·simp only [spec_FormatInt.f, if_neg ha]
  have h := spec_FormatInt.l0ev (decide (a < 0)) (a, []) ⟨by simp only [List.length_nil]; omega, .inl rfl⟩
  refine ev_eq h ?_
  rw [itoa_digs a ha]
  simp only [List.append_nil, decide_eq_true_eq]
theorem spec_ParseInt.l0ev (s : ByteArray) (r : Int × Bool) (hr : Ev (fun k => spec_ParseInt.j1 k s (valD ((bytesOf s).take 11)) (cntD ((bytesOf s).take 11)) ((min s.size 11 : Nat) : Int) false) r) :
  ∀ d i : Nat, i + d = min s.size 11 → Ev (fun k => spec_ParseInt.l0 k s (valD ((bytesOf s).take i)) (cntD ((bytesOf s).take i)) (i : Int)) r := by
 intro d
 induction d with
 | zero =>
  intro i h
  obtain rfl : i = min s.size 11 := by omega
  have ht : (bytesOf s).take (min s.size 11) = (bytesOf s).take 11 := by
   rcases Nat.le_total s.size 11 with h6 | h6
   ·rw [List.take_of_length_le (by rw [bytesOf_length]; omega), List.take_of_length_le (by rw [bytesOf_length]; omega)]
   ·rw [Nat.min_eq_right h6]
  refine ev_shift ?_
  rw [ht]
  by_cases hi : ((min s.size 11 : Nat) : Int) < (s.size : Int)
  ·simp only [spec_ParseInt.l0, if_pos hi, decide_eq_false (show ¬ (((min s.size 11 : Nat) : Int) < 11) by omega)]
   exact hr
  ·simp only [spec_ParseInt.l0, if_neg hi]
   exact hr
 | succ d ih =>
  intro i h
  have e1 := w64 (show -9223372036854775808 ≤ (i : Int) + 1 by omega) (by omega)
  have hi := ih (i + 1) (by omega)
  obtain ⟨tb, b0, b1⟩ := take_bt s i (by omega)
  have hv := valD_bound ((bytesOf s).take i) (by rw [List.length_take]; omega)
  have hc := cnt_bound ((bytesOf s).take i) 0
  have hc1 : 0 ≤ cntD ((bytesOf s).take i) ∧ cntD ((bytesOf s).take i) ≤ 11 := by
   have : ((bytesOf s).take i).length ≤ 11 := by rw [List.length_take]; omega
   unfold cntD
   omega
  have e2 : wrap64 (cntD ((bytesOf s).take i) + 1) = cntD ((bytesOf s).take i) + 1 := w64 (by omega) (by omega)
  rw [tb, valD_snoc, cntD_snoc] at hi
  refine ev_shift ?_
  simp only [spec_ParseInt.l0, if_pos (show (i : Int) < (s.size : Int) by omega), decide_eq_true (show (i : Int) < 11 by omega)]
  refine ev_shift ?_
  simp only [spec_ParseInt.j1, if_true, if_pos (show (0 : Int) ≤ (i : Int) by omega), if_pos (show (i : Int) < (s.size : Int) by omega), e1, e2]
  by_cases c1 : bt s (i : Int) ≥ 48
  ·by_cases c2 : bt s (i : Int) ≤ 57
   ·have e3 : wrap64 ((wrap64 (valD ((bytesOf s).take i) * 10)) + ((bt s (i : Int) - 48) % 256)) = valD ((bytesOf s).take i) * 10 + (bt s (i : Int) - 48) := by
     rw [w64 (show -9223372036854775808 ≤ valD ((bytesOf s).take i) * 10 by omega) (by omega), show (bt s (i : Int) - 48) % 256 = bt s (i : Int) - 48 by omega, w64 (by omega) (by omega)]
    simp only [if_pos c1, if_pos c2, e3]
    simp only [if_pos (show 48 ≤ bt s (i : Int) ∧ bt s (i : Int) ≤ 57 from ⟨c1, c2⟩)] at hi
    simpa using hi
   ·simp only [if_pos c1, if_neg c2]
    simp only [if_neg (show ¬ (48 ≤ bt s (i : Int) ∧ bt s (i : Int) ≤ 57) from fun h => c2 h.2)] at hi
    simpa using hi
  ·simp only [if_neg c1]
   simp only [if_neg (show ¬ (48 ≤ bt s (i : Int) ∧ bt s (i : Int) ≤ 57) from fun h => c1 h.1)] at hi
   simpa using hi
theorem spec_ParseInt.ev (s : ByteArray) : (specOk s ∧ Ev (fun k => spec_ParseInt.f k s) (numB (bytesOf s), true)) ∨ (¬ specOk s ∧ Ev (fun k => spec_ParseInt.f k s) (0, false)) := by
 have hv := valD_bound ((bytesOf s).take 11) (by rw [List.length_take]; omega)
 have j3 : ∀ n : Int, -100000000000 < n → n < 100000000000 → (s.size ≤ 10 → n = numB (bytesOf s)) →
   (specOk s ∧ Ev (fun k => spec_ParseInt.j3 k s n (cntD ((bytesOf s).take 11))) (numB (bytesOf s), true)) ∨ (¬ specOk s ∧ Ev (fun k => spec_ParseInt.j3 k s n (cntD ((bytesOf s).take 11))) (0, false)) := by
  intro n n0 n1 hn
  have hbad : Ev (fun k => spec_ParseInt.j4 k n true) (0, false) := ev_shift (ev_val fun k => by simp only [spec_ParseInt.j4, if_true])
  by_cases c1 : cntD ((bytesOf s).take 11) > 9
  ·refine .inr ⟨fun h => ?_, ev_shift (by simp only [spec_ParseInt.j3, if_pos c1]; exact hbad)⟩
   have := cntD_take (bytesOf s) 11
   have := h.1
   omega
  ·by_cases c2 : (s.size : Int) > 10
   ·exact .inr ⟨fun h => by have := h.2.1; omega, ev_shift (by simp only [spec_ParseInt.j3, if_neg c1, if_pos c2]; exact hbad)⟩
   ·have e := hn (by omega)
    subst e
    have ht : (bytesOf s).take 11 = bytesOf s := List.take_of_length_le (by rw [bytesOf_length]; omega)
    have hf := spec_FormatInt.ev (numB (bytesOf s)) (by omega) (by omega)
    by_cases c3 : str (Lib.itoa (numB (bytesOf s))) = s
    ·refine .inl ⟨⟨by rw [ht] at c1; omega, by omega, c3⟩, ev_shift ?_⟩
     simp only [spec_ParseInt.j3, if_neg c1, if_neg c2]
     refine Ev.bind hf (ev_shift (ev_val fun k => ?_))
     simp only [spec_ParseInt.j4, c3, bne_self_eq_false, Bool.false_eq_true, if_false]
    ·refine .inr ⟨fun h => c3 h.2.2, ev_shift ?_⟩
     simp only [spec_ParseInt.j3, if_neg c1, if_neg c2]
     refine Ev.bind hf (ev_shift (ev_val fun k => ?_))
     have : ((str (Lib.itoa (numB (bytesOf s)))).toList != s.toList) = true := bne_iff_ne.2 fun h => c3 (toList_inj' h)
     simp only [spec_ParseInt.j4, this, if_true]
 have hj1 : ∀ r, Ev (fun k => spec_ParseInt.j3 k s (if negB (bytesOf s) = true then -valD ((bytesOf s).take 11) else valD ((bytesOf s).take 11)) (cntD ((bytesOf s).take 11))) r → Ev (fun k => spec_ParseInt.f k s) r := by
  intro r hr
  have hz := spec_ParseInt.l0ev s r ?_ (min s.size 11) 0 (by omega)
  ·simpa [spec_ParseInt.f, valD, cntD] using hz
  ·refine ev_shift ?_
   simp only [spec_ParseInt.j1, Bool.false_eq_true, if_false]
   have hn := negB_bt s
   have e2 : wrap64 (-valD ((bytesOf s).take 11)) = -valD ((bytesOf s).take 11) := w64 (by omega) (by omega)
   by_cases c : (s.size : Int) > 0
   ·rw [if_pos c] at hn
    simp only [if_pos c, if_pos (show (0 : Int) < (s.size : Int) by omega), ← hn]
    refine ev_shift ?_
    simp only [spec_ParseInt.j2, e2]
    cases hb : negB (bytesOf s) with
    | true => rw [hb] at hr; simpa using hr
    | false => rw [hb] at hr; simpa using hr
   ·rw [if_neg c] at hn
    rw [hn] at hr
    simp only [if_neg c]
    refine ev_shift ?_
    simp only [spec_ParseInt.j2, Bool.false_eq_true, if_false]
    simpa using hr
 rcases j3 (if negB (bytesOf s) = true then -valD ((bytesOf s).take 11) else valD ((bytesOf s).take 11)) (by split <;> omega) (by split <;> omega) (fun h => by rw [numB, List.take_of_length_le (by rw [bytesOf_length]; omega)]) with ⟨h1, h2⟩ | ⟨h1, h2⟩
 ·exact .inl ⟨h1, hj1 _ h2⟩
 ·exact .inr ⟨h1, hj1 _ h2⟩
theorem spec_l3Num.ev (s : ByteArray) : Ev (fun k => spec_l3Num.f k s) (if numV s < 0 then -1 else numV s) := by
 unfold numV
 rcases spec_ParseInt.ev s with ⟨h, e⟩ | ⟨h, e⟩
 ·rw [if_pos ((ok_iff s).1 h)]
  refine Ev.bind e (ev_val fun k => ?_)
  by_cases h2 : numB (bytesOf s) < 0
  ·simp [h2]
  ·simp [h2]
 ·rw [if_neg (fun h' => h ((ok_iff s).2 h'))]
  exact Ev.bind e (ev_val fun k => by simp)
noncomputable def l3V (s : ByteArray) : Int := if numV s < 0 then -1 else numV s
def cutA (l : List UInt8) (c : UInt8) : List UInt8 := if fstB l c < l.length then l.take (fstB l c) else l
def cutB (l : List UInt8) (c : UInt8) : List UInt8 := if fstB l c < l.length then l.drop (fstB l c + 1) else []
theorem rdW (W : List (List UInt8)) (i : Nat) (h : i < W.length) : rdOf ByteArray.empty (W.map str) (i : Int) = str (W.getD i []) := by
 rw [rdB_ (W.map str) i (by simpa using h)]
 simp [h]
  where rdB_ (xs : List ByteArray) (i : Nat) (h : i < xs.length) : rdOf ByteArray.empty xs (i : Int) = xs[i] := by simp [rdOf, h]
theorem itoa_dig (x : Int) (h : 0 ≤ x) : ∀ b ∈ Lib.itoa x, 48 ≤ b.toNat ∧ b.toNat ≤ 57 := by
 intro b hb
 have h1 := itoa_bytes x
 rw [bytesOf_str, if_neg (show ¬ x < 0 by omega), List.nil_append] at h1
 have h2 : (b.toNat : Int) ∈ nums (Lib.itoa x) := List.mem_map.2 ⟨b, hb, rfl⟩
 rw [h1] at h2
 have := (dec_val x.natAbs).2.1 _ h2
 omega
theorem itoa_free (x : Int) (h : 0 ≤ x) (c : UInt8) (hc : c.toNat < 48) : ∀ b ∈ Lib.itoa x, b ≠ c := by
 intro b hb e
 have := itoa_dig x h b hb
 rw [e] at this
 omega
theorem numV_itoa (x : Int) (h0 : 0 ≤ x) (h1 : x ≤ 999) : numV (str (Lib.itoa x)) = x := by
 obtain ⟨t1, t2⟩ := itoa_tail x
 obtain ⟨d1, d2, d3⟩ := dec_val x.natAbs
 have hl : (Lib.decDigits x.natAbs).length ≤ 9 := by
  by_cases hz : x.natAbs = 0
  ·rw [hz]; unfold Lib.decDigits; simp
  ·have := digs_len 3 x.natAbs (by omega)
   simp only [digs, if_neg hz] at this
   omega
 have hn : (nums (Lib.decDigits x.natAbs)).length = (Lib.decDigits x.natAbs).length := by simp [nums]
 have ho : implOk (str (Lib.itoa x)) := by
  unfold implOk
  rw [t1, t2, hn]
  exact ⟨d3, hl, d2, rfl⟩
 unfold numV
 rw [if_pos ho, t2]
theorem l3V_itoa (x : Int) (h0 : 0 ≤ x) (h1 : x ≤ 999) : l3V (str (Lib.itoa x)) = x := by
 unfold l3V
 rw [numV_itoa x h0 h1, if_neg (by omega)]
theorem spl_word (x : List UInt8) (c : UInt8) (y : List UInt8) (h : ∀ b ∈ x, b ≠ c) : spl (x ++ c :: y) c = x :: spl y c := by
 unfold spl
 rw [splA_free x c [] _ h, splA_sep, List.nil_append]
theorem spl_last (x : List UInt8) (c : UInt8) (h : ∀ b ∈ x, b ≠ c) : spl x c = [x] := by
 have := splA_free x c [] [] h
 rw [List.append_nil, List.nil_append] at this
 unfold spl
 rw [this]
 rfl
theorem fstB_free : ∀ (x : List UInt8) (c : UInt8) (y : List UInt8), (∀ b ∈ x, b ≠ c) → fstB (x ++ c :: y) c = x.length
 | [], c, y, _ => by simp [fstB]
 | b :: x, c, y, h => by
  have hb : b ≠ c := h b (by simp)
  have := fstB_free x c y (fun z hz => h z (by simp [hz]))
  simp [fstB, hb, this]
theorem rdS (xs : List S97) (i : Nat) (h : i < xs.length) : rd_T97 xs (i : Int) = xs[i] := by simp [rd_T97, h]
theorem ses_eq (x y : S97) : x = y ↔ x.f0 = y.f0 ∧ x.f1 = y.f1 ∧ x.f2.f0 = y.f2.f0 ∧ x.f2.f1 = y.f2.f1 := by
 constructor
 ·intro h; subst h; simp
 ·rintro ⟨h0, h1, h2, h3⟩
  obtain ⟨a, b, ⟨c, d⟩⟩ := x
  obtain ⟨a', b', ⟨c', d'⟩⟩ := y
  simp_all
def okSes (xs : List S97) (j : Nat) : Prop := (0 ≤ (rd_T97 xs (j : Int)).f0 ∧ (rd_T97 xs (j : Int)).f0 ≤ 2) ∧
 (1 ≤ (rd_T97 xs (j : Int)).f1 ∧ (rd_T97 xs (j : Int)).f1 ≤ 99) ∧ (0 ≤ (rd_T97 xs (j : Int)).f2.f1 ∧ (rd_T97 xs (j : Int)).f2.f1 ≤ 9) ∧
 (0 < j → (rd_T97 xs ((j : Int) - 1)).f0 < (rd_T97 xs (j : Int)).f0)
def vMach (os : List Int) (xs : List S97) : Prop := os.length = 3 ∧ (∀ j : Nat, j < os.length → 0 ≤ rd os (j : Int) ∧ rd os (j : Int) ≤ 9) ∧ ∀ j, j < xs.length → okSes xs j
def catI (xs : List Int) : List UInt8 := xs.flatMap Lib.itoa
theorem catI_drop (xs : List Int) (i : Nat) (h : i < xs.length) : catI (xs.drop i) = Lib.itoa (rd xs (i : Int)) ++ catI (xs.drop (i + 1)) := by
 rw [drop_cons_rd xs i h]; rfl
def sesL (x : S97) : List UInt8 := [32] ++ Lib.itoa x.f0 ++ [46] ++ Lib.itoa x.f1 ++ (if x.f2.f0 = true then [43] else [45]) ++ Lib.itoa x.f2.f1
def catS (xs : List S97) : List UInt8 := xs.flatMap sesL
theorem catS_drop (xs : List S97) (i : Nat) (h : i < xs.length) : catS (xs.drop i) = sesL (rd_T97 xs (i : Int)) ++ catS (xs.drop (i + 1)) := by
 rw [List.drop_eq_getElem_cons h, rdS xs i h]; rfl
theorem sesL_len {xs : List S97} {i : Nat} (h : okSes xs i) : (sesL (rd_T97 xs (i : Int))).length ≤ 70 := by
 obtain ⟨h1, h2, h3, _⟩ := h
 have l0 := itoa_len (rd_T97 xs (i : Int)).f0 (by omega) (by omega)
 have l1 := itoa_len (rd_T97 xs (i : Int)).f1 (by omega) (by omega)
 have l2 := itoa_len (rd_T97 xs (i : Int)).f2.f1 (by omega) (by omega)
 have l3 : (if (rd_T97 xs (i : Int)).f2.f0 = true then ([43] : List UInt8) else [45]).length = 1 := by split <;> rfl
 simp only [sesL, List.length_append, List.length_cons, List.length_nil]
 omega
theorem spec_FormatMachine.l1ev (os : List Int) (xs : List S97) (hn : xs.length ≤ 1048576) (hv : ∀ j, j < xs.length → okSes xs j) :
  ∀ s : Nat × List UInt8, (s.1 ≤ xs.length ∧ s.2.length ≤ 60000000 + 70 * s.1) → Ev (fun k => spec_FormatMachine.l1 k (str s.2) (s.1 : Int) os xs) (str (s.2 ++ catS (xs.drop s.1))) := by
 refine loop_ev (fun k (s : Nat × List UInt8) => spec_FormatMachine.l1 k (str s.2) (s.1 : Int) os xs) _ (fun s => xs.length - s.1) (fun s => str (s.2 ++ catS (xs.drop s.1))) ?_
 rintro ⟨i, acc⟩ ⟨h1, h2⟩
 simp only at h1 h2 ⊢
 by_cases hi : i < xs.length
 ·have hl := sesL_len (hv i hi)
  have e1 := w64 (show -9223372036854775808 ≤ (i : Int) + 1 by omega) (by omega)
  refine .inr ⟨(i + 1, acc ++ sesL (rd_T97 xs (i : Int))), ⟨by simp only; omega, by simp only [List.length_append]; omega⟩, by simp only; omega, ?_, ?_⟩
  ·simp only [catS_drop xs i hi, List.append_assoc]
  ·intro r hr'
   obtain ⟨q1, q2, q3, _⟩ := hv i hi
   obtain ⟨K0, g0⟩ := spec_FormatInt.ev (rd_T97 xs (i : Int)).f0 (by omega) (by omega)
   obtain ⟨K1, g1⟩ := spec_FormatInt.ev (rd_T97 xs (i : Int)).f1 (by omega) (by omega)
   obtain ⟨K2, g2⟩ := spec_FormatInt.ev (rd_T97 xs (i : Int)).f2.f1 (by omega) (by omega)
   have l0 := itoa_len (rd_T97 xs (i : Int)).f0 (by omega) (by omega)
   have l1 := itoa_len (rd_T97 xs (i : Int)).f1 (by omega) (by omega)
   have l2 := itoa_len (rd_T97 xs (i : Int)).f2.f1 (by omega) (by omega)
   obtain ⟨K3, g3⟩ := hr'
   have g3 : ∀ k, K3 ≤ k → spec_FormatMachine.l1 k (str (acc ++ sesL (rd_T97 xs (i : Int)))) ((i : Int) + 1) os xs = some r := fun k hk => by simpa using g3 k hk
   have key : ∀ c : UInt8, (if (rd_T97 xs (i : Int)).f2.f0 = true then ([43] : List UInt8) else [45]) = [c] → Ev (fun k => spec_FormatMachine.j2 k (str acc) (i : Int) (str [c]) os xs (rd_T97 xs (i : Int)).f0 (rd_T97 xs (i : Int)).f1 (rd_T97 xs (i : Int)).f2.f0 (rd_T97 xs (i : Int)).f2.f1) r := by
    intro c hc
    refine ev_shift ⟨K0 + K1 + K2 + K3, fun k hk => ?_⟩
    simp only [spec_FormatMachine.j2, g0 k (by omega), g1 k (by omega), g2 k (by omega), Option.bind_some, str_lit, str_append, str_size, List.length_append, List.length_cons, List.length_nil, e1]
    simp (disch := omega) only [if_pos]
    have g4 := g3 k (by omega)
    simp only [sesL, hc, List.append_assoc] at g4 ⊢
    exact g4
   refine ev_shift ?_
   simp only [spec_FormatMachine.l1, if_pos (show (i : Int) < (xs.length : Int) by omega), if_pos (show (0 : Int) ≤ (i : Int) by omega)]
   cases hd : (rd_T97 xs (i : Int)).f2.f0 with
   | true => simp only [if_true, str_lit]; have := key 43 (by rw [hd]; rfl); rw [hd] at this; exact this
   | false => simp only [Bool.false_eq_true, if_false, str_lit]; have := key 45 (by rw [hd]; rfl); rw [hd] at this; exact this
 ·refine .inl (ev_shift (ev_val fun k => ?_))
  simp only [spec_FormatMachine.l1, if_neg (show ¬ ((i : Int) < (xs.length : Int)) by omega), List.drop_eq_nil_of_le (show xs.length ≤ i by omega), catS, List.flatMap_nil, List.append_nil]
theorem spec_FormatMachine.l0ev (os : List Int) (xs : List S97) (ho : os.length ≤ 1048576) (hn : xs.length ≤ 1048576) (hv : ∀ j, j < xs.length → okSes xs j) (hr : ∀ j : Nat, j < os.length → 0 ≤ rd os (j : Int) ∧ rd os (j : Int) ≤ 9) :
  ∀ s : Nat × List UInt8, (s.1 ≤ os.length ∧ s.2.length ≤ 20 * s.1) → Ev (fun k => spec_FormatMachine.l0 k (str s.2) (s.1 : Int) os xs) (str (s.2 ++ catI (os.drop s.1) ++ catS xs)) := by
 refine loop_ev (fun k (s : Nat × List UInt8) => spec_FormatMachine.l0 k (str s.2) (s.1 : Int) os xs) _ (fun s => os.length - s.1) (fun s => str (s.2 ++ catI (os.drop s.1) ++ catS xs)) ?_
 rintro ⟨i, acc⟩ ⟨h1, h2⟩
 simp only at h1 h2 ⊢
 by_cases hi : i < os.length
 ·obtain ⟨r0, r1⟩ := hr i hi
  have hl := itoa_len (rd os (i : Int)) (by omega) (by omega)
  have e1 := w64 (show -9223372036854775808 ≤ (i : Int) + 1 by omega) (by omega)
  refine .inr ⟨(i + 1, acc ++ Lib.itoa (rd os (i : Int))), ⟨by simp only; omega, by simp only [List.length_append]; omega⟩, by simp only; omega, ?_, ?_⟩
  ·simp only [catI_drop os i hi, List.append_assoc]
  ·intro r hr'
   refine ev_shift ?_
   simp only [spec_FormatMachine.l0, if_pos (show (i : Int) < (os.length : Int) by omega), if_pos (show (0 : Int) ≤ (i : Int) by omega)]
   refine Ev.bind (spec_FormatInt.ev _ (by omega) (by omega)) ?_
   simp only [str_size, str_append, if_pos (show acc.length + (Lib.itoa (rd os (i : Int))).length ≤ 9223372036854775807 by omega), e1]
   exact hr'
 ·refine .inl (ev_shift ?_)
  simp only [spec_FormatMachine.l0, if_neg (show ¬ ((i : Int) < (os.length : Int)) by omega), List.drop_eq_nil_of_le (show os.length ≤ i by omega), catI, List.flatMap_nil, List.append_nil]
  have := spec_FormatMachine.l1ev os xs hn hv (0, acc) ⟨by simp, by simp only; omega⟩
  simpa using this
def machL (b : Bool) (os : List Int) (xs : List S97) : List UInt8 := if b = true then catI os ++ catS xs else []
theorem spec_FormatMachine.ev (os : List Int) (xs : List S97) (ho : os.length ≤ 1048576) (hn : xs.length ≤ 1048576) (b : Bool) (hb : Ev (fun k => spec_IsValidMachine.f k os xs) b) (hv : b = true → vMach os xs) :
  Ev (fun k => spec_FormatMachine.f k os xs) (str (machL b os xs)) := by
 refine Ev.bind hb ?_
 cases b with
 | false => exact ev_val fun _ => rfl
 | true =>
  obtain ⟨v1, v2, v3⟩ := hv rfl
  simp only [if_true, machL]
  exact spec_FormatMachine.l0ev os xs ho hn v3 v2 (0, []) ⟨by simp, by simp⟩
def dgI (l : List UInt8) : List Int := l.map fun b => (b.toNat : Int) - 48
def sesT (x : S97) : List UInt8 := Lib.itoa x.f0 ++ 46 :: (Lib.itoa x.f1 ++ (if x.f2.f0 = true then 43 else 45) :: Lib.itoa x.f2.f1)
noncomputable def sesS (p : List UInt8) : S97 := if p.length < 5 ∨ p.getD 1 0 ≠ 46 then ⟨-1, 0, ⟨false, 0⟩⟩
 else ⟨((p.getD 0 0).toNat : Int) - 48, l3V (str ((p.drop 2).take (p.length - 4))), ⟨decide (p.getD (p.length - 2) 0 = 43), ((p.getD (p.length - 1) 0).toNat : Int) - 48⟩⟩
def atM (p : List UInt8) : Int := Lib.indexAny (cutB p 46) [43, 45]
noncomputable def sesI (p : List UInt8) : S97 := ⟨numV (str (cutA p 46)), numV (str ((cutB p 46).take (atM p).toNat)), ⟨decide ((cutB p 46).getD (atM p).toNat 0 = 43), numV (str ((cutB p 46).drop ((atM p).toNat + 1)))⟩⟩
def finM (b : Bool) (os : List Int) (xs : List S97) (L : List UInt8) : List Int × List S97 × Bool := if L = [] then ([], [], false) else if machL b os xs = L then (os, xs, true) else ([], [], false)
def wordsM (L : List UInt8) : List (List UInt8) := (spl L 32).drop 1
noncomputable def osS (L : List UInt8) : List Int := dgI (((spl L 32).getD 0 []).take 9)
noncomputable def osI (L : List UInt8) : List Int := dgI ((spl L 32).getD 0 [])
noncomputable def xsS (L : List UInt8) : List S97 := ((wordsM L).take 8).map sesS
noncomputable def xsI (L : List UInt8) : List S97 := (wordsM L).map sesI
open Classical in
noncomputable def resI (b : Bool) (W : List (List UInt8)) (os : List Int) (xs : List S97) (L : List UInt8) : List Int × List S97 × Bool := if ∃ p ∈ W, atM p < 0 then ([], [], false) else finM b os xs L
theorem itoa_one (x : Int) (h0 : 0 ≤ x) (h1 : x ≤ 9) : Lib.itoa x = [UInt8.ofNat (48 + x.toNat)] := by
 by_cases h : x = 0
 ·subst h; rw [itoa_zero]; rfl
 ·rw [itoa_digs x h, if_neg (by omega), digs_step _ (by omega), show x.natAbs / 10 = 0 by omega, show x.natAbs % 10 = x.toNat by omega]; rfl
theorem dg_one (x : Int) (h0 : 0 ≤ x) (h1 : x ≤ 9) : ((UInt8.ofNat (48 + x.toNat)).toNat : Int) - 48 = x := by
 rw [UInt8.toNat_ofNat_of_lt' (by simp [UInt8.size]; omega)]; omega
theorem dgI_catI : ∀ os : List Int, (∀ x ∈ os, 0 ≤ x ∧ x ≤ 9) → dgI (catI os) = os ∧ (catI os).length = os.length
 | [], _ => ⟨rfl, rfl⟩
 | x :: os, h => by
  obtain ⟨h1, h2⟩ := dgI_catI os fun y hy => h y (by simp [hy])
  obtain ⟨a, b⟩ := h x (by simp)
  have e : catI (x :: os) = UInt8.ofNat (48 + x.toNat) :: catI os := by
   simp only [catI, List.flatMap_cons, itoa_one x a b]; rfl
  rw [e]
  refine ⟨?_, by simp [h2]⟩
  show (((UInt8.ofNat (48 + x.toNat)).toNat : Int) - 48) :: dgI (catI os) = _
  rw [h1, dg_one x a b]
theorem catI_free (os : List Int) (h : ∀ x ∈ os, 0 ≤ x ∧ x ≤ 9) : ∀ b ∈ catI os, b ≠ 32 := by
 intro b hb
 obtain ⟨x, hx, hb⟩ := List.mem_flatMap.1 hb
 exact itoa_free x (h x hx).1 32 (by decide) b hb
def sesOk (x : S97) : Prop := (0 ≤ x.f0 ∧ x.f0 ≤ 2) ∧ (1 ≤ x.f1 ∧ x.f1 ≤ 99) ∧ (0 ≤ x.f2.f1 ∧ x.f2.f1 ≤ 9)
theorem sesL_T (x : S97) : sesL x = 32 :: sesT x := by
 unfold sesL sesT
 cases x.f2.f0 <;> simp
theorem sesT_free (x : S97) (h : sesOk x) : ∀ b ∈ sesT x, b ≠ 32 := by
 intro b hb
 unfold sesT at hb
 simp only [List.mem_append, List.mem_cons] at hb
 rcases hb with h1 | rfl | h1 | h1 | h1
 ·exact itoa_free _ h.1.1 32 (by decide) b h1
 ·decide
 ·exact itoa_free _ (by have := h.2.1.1; omega) 32 (by decide) b h1
 ·rw [h1]; split <;> decide
 ·exact itoa_free _ h.2.2.1 32 (by decide) b h1
theorem sesT_I (x : S97) (h : sesOk x) : sesI (sesT x) = x ∧ ¬ atM (sesT x) < 0 := by
 obtain ⟨⟨a0, a1⟩, ⟨b0, b1⟩, c0, c1⟩ := h
 have hf : ∀ b ∈ Lib.itoa x.f0, b ≠ 46 := itoa_free _ a0 46 (by decide)
 have hF := fstB_free (Lib.itoa x.f0) 46 (Lib.itoa x.f1 ++ (if x.f2.f0 = true then 43 else 45) :: Lib.itoa x.f2.f1) hf
 have hA : cutA (sesT x) 46 = Lib.itoa x.f0 := by
  unfold cutA sesT; rw [hF, if_pos (by simp)]; simp
 have hB : cutB (sesT x) 46 = Lib.itoa x.f1 ++ (if x.f2.f0 = true then 43 else 45) :: Lib.itoa x.f2.f1 := by
  unfold cutB sesT; rw [hF, if_pos (by simp), List.drop_append, List.drop_eq_nil_of_le (by omega)]; simp
 have hat : atM (sesT x) = ((Lib.itoa x.f1).length : Int) := by
  unfold atM
  rw [hB]
  refine Lib.indexAny_hit (x := if x.f2.f0 = true then 43 else 45) (fun j b hj hb => ?_) (by simp) (by split <;> decide)
  rw [List.getElem?_append_left hj] at hb
  have hm := List.mem_of_getElem? hb
  have e1 := itoa_free _ (show 0 ≤ x.f1 by omega) 43 (by decide) b hm
  have e2 := itoa_free _ (show 0 ≤ x.f1 by omega) 45 (by decide) b hm
  simp [e1, e2]
 refine ⟨?_, by rw [hat]; omega⟩
 unfold sesI
 rw [hat, hA, hB, Int.toNat_natCast]
 rw [ses_eq]
 refine ⟨numV_itoa _ a0 (by omega), ?_, ?_, ?_⟩
 ·simp only [List.take_left']; exact numV_itoa _ (by omega) (by omega)
 ·show decide _ = _
  rw [List.getD_eq_getElem?_getD, List.getElem?_append_right (Nat.le_refl _)]
  cases x.f2.f0 <;> simp
 ·show numV _ = _
  rw [List.drop_append, List.drop_eq_nil_of_le (by omega), show (Lib.itoa x.f1).length + 1 - (Lib.itoa x.f1).length = 1 by omega]
  exact numV_itoa _ c0 (by omega)
theorem sesT_S (x : S97) (h : sesOk x) : sesS (sesT x) = x := by
 obtain ⟨⟨a0, a1⟩, ⟨b0, b1⟩, c0, c1⟩ := h
 have hl : 1 ≤ (Lib.itoa x.f1).length := by
  rw [itoa_digs _ (by omega), if_neg (by omega), digs_step _ (by omega)]; simp
 have e : sesT x = UInt8.ofNat (48 + x.f0.toNat) :: 46 :: (Lib.itoa x.f1 ++ [if x.f2.f0 = true then 43 else 45, UInt8.ofNat (48 + x.f2.f1.toNat)]) := by
  unfold sesT
  rw [itoa_one _ a0 (by omega), itoa_one _ c0 c1]; rfl
 have hn : (sesT x).length = (Lib.itoa x.f1).length + 4 := by rw [e]; simp
 unfold sesS
 rw [if_neg (by rw [hn, e]; simp; omega), hn, e, ses_eq]
 refine ⟨?_, ?_, ?_, ?_⟩
 ·exact dg_one _ a0 (by omega)
 ·show l3V _ = _
  rw [show (Lib.itoa x.f1).length + 4 - 4 = (Lib.itoa x.f1).length by omega]
  simp only [List.drop_succ_cons, List.drop_zero, List.take_left']
  exact l3V_itoa _ (by omega) (by omega)
 ·show decide _ = _
  rw [show (Lib.itoa x.f1).length + 4 - 2 = (Lib.itoa x.f1).length + 1 + 1 by omega, List.getD_eq_getElem?_getD, List.getElem?_cons_succ, List.getElem?_cons_succ, List.getElem?_append_right (Nat.le_refl _)]
  cases x.f2.f0 <;> simp
 ·show ((_ : Nat) : Int) - 48 = _
  rw [show (Lib.itoa x.f1).length + 4 - 1 = (Lib.itoa x.f1).length + 1 + 1 + 1 by omega, List.getD_eq_getElem?_getD, List.getElem?_cons_succ, List.getElem?_cons_succ, List.getElem?_append_right (by omega), show (Lib.itoa x.f1).length + 1 - (Lib.itoa x.f1).length = 1 by omega]
  exact dg_one _ c0 c1
theorem catS_words : ∀ xs : List S97, (∀ x ∈ xs, sesOk x) → ∀ h : List UInt8, (∀ b ∈ h, b ≠ 32) → spl (h ++ catS xs) 32 = h :: xs.map sesT
 | [], _, h, hh => by
  rw [show catS [] = [] from rfl, List.append_nil]
  exact spl_last h 32 hh
 | x :: xs, hx, h, hh => by
  have e : catS (x :: xs) = 32 :: (sesT x ++ catS xs) := by
   simp only [catS, List.flatMap_cons, sesL_T]; rfl
  rw [e, spl_word h 32 _ hh, catS_words xs (fun y hy => hx y (by simp [hy])) _ (sesT_free x (hx x (by simp)))]
  rfl
theorem vMach_get (os : List Int) (xs : List S97) (hv : vMach os xs) : (∀ x ∈ os, 0 ≤ x ∧ x ≤ 9) ∧ (∀ x ∈ xs, sesOk x) ∧ xs.length ≤ 3 := by
 obtain ⟨_, h2, h3⟩ := hv
 refine ⟨fun x hx => ?_, fun x hx => ?_, ?_⟩
 ·obtain ⟨j, hj, rfl⟩ := List.mem_iff_getElem.1 hx
  have := h2 j hj
  rwa [rdI_ os j hj] at this
 ·obtain ⟨j, hj, rfl⟩ := List.mem_iff_getElem.1 hx
  obtain ⟨q1, q2, q3, _⟩ := h3 j hj
  rw [rdS xs j hj] at q1 q2 q3
  exact ⟨q1, q2, q3⟩
 ·have up : ∀ j : Nat, j < xs.length → (j : Int) ≤ (rd_T97 xs (j : Int)).f0 := by
   intro j
   induction j with
   | zero => exact fun h => (h3 0 h).1.1
   | succ j ih =>
    intro h
    have h5 := ih (by omega)
    have h6 := (h3 (j + 1) h).2.2.2 (by omega)
    rw [show ((j + 1 : Nat) : Int) - 1 = (j : Int) by omega] at h6
    omega
  rcases Nat.lt_or_ge 3 xs.length with h | h
  ·have h5 := up 3 h
   have h6 := (h3 3 h).1.2
   omega
  ·exact h
  where rdI_ (xs : List Int) (i : Nat) (h : i < xs.length) : rd xs (i : Int) = xs[i] := by simp [rd, h]
theorem mach_back (os : List Int) (xs : List S97) (hv : vMach os xs) (L : List UInt8) (hL : catI os ++ catS xs = L) :
  osS L = os ∧ xsS L = xs ∧ osI L = os ∧ xsI L = xs ∧ ¬ ∃ p ∈ wordsM L, atM p < 0 := by
 obtain ⟨h1, h2, h3⟩ := vMach_get os xs hv
 have hs := catS_words xs h2 (catI os) (catI_free os h1)
 rw [hL] at hs
 obtain ⟨d1, d2⟩ := dgI_catI os h1
 have h9 : (catI os).length = 3 := by rw [d2]; exact hv.1
 have hw : wordsM L = xs.map sesT := by unfold wordsM; rw [hs]; rfl
 have mb : ∀ f : List UInt8 → S97, (∀ x ∈ xs, f (sesT x) = x) → (xs.map sesT).map f = xs := fun f hf => by
  rw [List.map_map]
  conv => rhs; rw [← List.map_id xs]
  exact List.map_congr_left hf
 refine ⟨?_, ?_, ?_, ?_, ?_⟩
 ·unfold osS; rw [hs]; show dgI ((catI os).take 9) = os; rw [List.take_of_length_le (by omega), d1]
 ·unfold xsS; rw [hw, List.take_of_length_le (by simp; omega)]; exact mb _ fun x hx => sesT_S x (h2 x hx)
 ·unfold osI; rw [hs]; exact d1
 ·unfold xsI; rw [hw]; exact mb _ fun x hx => (sesT_I x (h2 x hx)).1
 ·rw [hw]
  rintro ⟨p, hp, hb⟩
  obtain ⟨x, hx, rfl⟩ := List.mem_map.1 hp
  exact (sesT_I x (h2 x hx)).2 hb
theorem parM_eq (L : List UInt8) (bS bI : Bool) (qS : bS = true ↔ vMach (osS L) (xsS L)) (qI : bI = true ↔ vMach (osI L) (xsI L)) :
  finM bS (osS L) (xsS L) L = resI bI (wordsM L) (osI L) (xsI L) L := by
 by_cases h : ∃ os xs, vMach os xs ∧ catI os ++ catS xs = L
 ·obtain ⟨os, xs, hv, hL⟩ := h
  obtain ⟨e1, e2, e3, e4, e5⟩ := mach_back os xs hv L hL
  rw [e1, e2] at qS ⊢
  rw [e3, e4] at qI ⊢
  have f1 := qS.2 hv
  have f2 := qI.2 hv
  subst f1 f2
  unfold resI
  rw [if_neg e5]
 ·have key : ∀ (b : Bool) (os : List Int) (xs : List S97), (b = true ↔ vMach os xs) → finM b os xs L = ([], [], false) := by
   intro b os xs q
   unfold finM
   by_cases h0 : L = []
   ·rw [if_pos h0]
   ·rw [if_neg h0]
    refine if_neg fun hm => ?_
    unfold machL at hm
    by_cases hb : b = true
    ·rw [if_pos hb] at hm; exact h ⟨os, xs, q.1 hb, hm⟩
    ·rw [if_neg hb] at hm; exact h0 hm.symm
  rw [key _ _ _ qS]
  unfold resI
  split
  ·rfl
  ·rw [key _ _ _ qI]
theorem btD (p : List UInt8) (i : Nat) (h : i < p.length) : bt (str p) (i : Int) = ((p.getD i 0).toNat : Int) := by
 rw [bt_str p i h]; simp [h]
theorem u8_num (x : UInt8) (n : Nat) (hn : n < 256) : ((x.toNat : Int) = (n : Int)) ↔ x = UInt8.ofNat n := by
 constructor
 ·intro h
  apply UInt8.toNat_inj.1
  rw [UInt8.toNat_ofNat_of_lt' (by simpa [UInt8.size] using hn)]
  omega
 ·rintro rfl
  rw [UInt8.toNat_ofNat_of_lt' (by simpa [UInt8.size] using hn)]
theorem dgW (x : UInt8) : wrap64 (wrap64 (x.toNat : Int) - 48) = (x.toNat : Int) - 48 := by
 have := x.toNat_lt
 rw [w64 (x := (x.toNat : Int)) (by omega) (by omega), w64 (by omega) (by omega)]
theorem spec_l4Session.ev (p : List UInt8) (hn : p.length ≤ 1048576) : Ev (fun k => spec_l4Session.f k (str p)) ((sesS p).f0, (sesS p).f1, (sesS p).f2.f0, (sesS p).f2.f1) := by
 unfold sesS
 by_cases h5 : p.length < 5
 ·simp only [spec_l4Session.f, str_size, if_pos (show (p.length : Int) < 5 by omega), if_pos (Or.inl h5 : p.length < 5 ∨ p.getD 1 0 ≠ 46)]
  exact Ev.now _
 have b1 : bt (str p) 1 = ((p.getD 1 0).toNat : Int) := btD p 1 (by omega)
 have c46 : (((p.getD 1 0).toNat : Int) = 46) ↔ p.getD 1 0 = 46 := u8_num _ 46 (by decide)
 simp only [spec_l4Session.f, str_size, if_neg (show ¬ (p.length : Int) < 5 by omega), if_pos (show (1 : Int) < (p.length : Int) by omega), b1]
 by_cases h46 : p.getD 1 0 = 46
 ·have b0 : bt (str p) 0 = ((p.getD 0 0).toNat : Int) := btD p 0 (by omega)
  have e2 : wrap64 ((p.length : Int) - 2) = ((p.length - 2 : Nat) : Int) := by rw [w64 (by omega) (by omega)]; omega
  have e1 : wrap64 ((p.length : Int) - 1) = ((p.length - 1 : Nat) : Int) := by rw [w64 (by omega) (by omega)]; omega
  have b2 := btD p (p.length - 2) (by omega)
  have b3 := btD p (p.length - 1) (by omega)
  simp only [if_pos (c46.2 h46), e1, e2, b0, b2, b3, dgW, if_pos (show (0 : Int) < (p.length : Int) by omega), if_pos (show (2 : Int) ≤ ((p.length - 2 : Nat) : Int) by omega), if_pos (show ((p.length - 2 : Nat) : Int) ≤ (p.length : Int) by omega), if_pos (show (0 : Int) ≤ ((p.length - 2 : Nat) : Int) by omega), if_pos (show ((p.length - 2 : Nat) : Int) < (p.length : Int) by omega), if_pos (show (0 : Int) ≤ ((p.length - 1 : Nat) : Int) by omega), if_pos (show ((p.length - 1 : Nat) : Int) < (p.length : Int) by omega), Int.toNat_natCast, str_extract,
   if_neg (show ¬ (p.length < 5 ∨ p.getD 1 0 ≠ 46) by simp only [not_or, Decidable.not_not]; exact ⟨h5, h46⟩)]
  refine Ev.bind (spec_l3Num.ev _) (ev_val fun k => ?_)
  have c43 : ((((p.getD (p.length - 2) 0).toNat : Int) == 43) : Bool) = decide (p.getD (p.length - 2) 0 = 43) := by
   rw [Bool.eq_iff_iff, beq_iff_eq, decide_eq_true_eq]
   exact u8_num _ 43 (by decide)
  rw [c43, show p.length - 2 - 2 = p.length - 4 by omega]
  rfl
 ·simp only [if_neg (fun h => h46 (c46.1 h)), if_pos (Or.inr h46 : p.length < 5 ∨ p.getD 1 0 ≠ 46)]
  exact Ev.now _
theorem spec_IsValidMachine.ev (os : List Int) (xs : List S97) (h1 : os.length ≤ 9223372036854775806) (h2 : xs.length ≤ 9223372036854775806) : ∃ b, Ev (fun k => spec_IsValidMachine.f k os xs) b ∧ (b = true ↔ vMach os xs) :=
 ⟨decide (vM_ os xs), ev_val fun _ => rfl, decide_eq_true_iff.trans Iff.rfl⟩
theorem splM_mem : ∀ (l : List UInt8) (c : UInt8) (cur : List UInt8), ∀ x ∈ splA l c cur, x.length ≤ l.length + cur.length
 | [], c, cur, x, h => by simp [splA] at h; subst h; simp
 | b :: l, c, cur, x, h => by
  rw [splA_cons] at h
  split at h
  ·rcases List.mem_cons.1 h with rfl | h
   ·simp
   ·have := splM_mem l c [] x h
    simp at this ⊢; omega
  ·have := splM_mem l c (cur ++ [b]) x h
   simp at this ⊢; omega
theorem splM_le (l : List UInt8) (c : UInt8) (i : Nat) : ((spl l c).getD i []).length ≤ l.length := by
 by_cases h : i < (spl l c).length
 ·have h2 : (spl l c).getD i [] = (spl l c)[i] := by simp [h]
  rw [h2]
  have := splM_mem l c [] _ (List.getElem_mem h)
  simpa using this
 ·rw [show (spl l c).getD i [] = [] by simp [Nat.le_of_not_lt h]]; simp
theorem dgI_snoc (p : List UInt8) (i : Nat) (h : i < p.length) : dgI (p.take (i + 1)) = dgI (p.take i) ++ [((p.getD i 0).toNat : Int) - 48] := by
 rw [List.take_succ_eq_append_getElem h, show p.getD i 0 = p[i] by simp [h]]
 exact List.map_append
theorem spec_ParseMachine.j3ev (L : List UInt8) (os : List Int) (xs : List S97) (ho : os.length ≤ 1048576) (hx : xs.length ≤ 1048576) (b : Bool) (hb : Ev (fun k => spec_IsValidMachine.f k os xs) b) (hq : b = true ↔ vMach os xs) :
  Ev (fun k => spec_ParseMachine.j3 k (str L) os xs) (finM b os xs L) := by
 refine ev_shift ?_
 simp only [spec_ParseMachine.j3, str_toList]
 unfold finM
 by_cases h0 : L = []
 ·simp only [if_pos h0]; exact Ev.now _
 ·simp only [if_neg h0]
  refine Ev.bind (spec_FormatMachine.ev os xs ho hx b hb hq.1) (ev_val fun _ => ?_)
  rw [str_toList]
  by_cases h2 : machL b os xs = L
  ·rw [if_pos h2, if_pos h2]
  ·rw [if_neg h2, if_neg h2]
theorem spec_ParseMachine.l1ev (L : List UInt8) (hn : L.length ≤ 1048576) (os : List Int) (r : List Int × List S97 × Bool) (hj : Ev (fun k => spec_ParseMachine.j3 k (str L) os (xsS L)) r) :
  ∀ d j : Nat, j + 1 + d = min (spl L 32).length 9 → Ev (fun k => spec_ParseMachine.l1 k (str L) ((spl L 32).map str) ((j : Int) + 1) os (((wordsM L).take j).map sesS)) r := by
 intro d
 induction d with
 | zero =>
  intro j h
  have ht : ((wordsM L).take j).map sesS = xsS L := by
   unfold xsS wordsM
   rcases Nat.le_total (spl L 32).length 9 with h6 | h6
   ·rw [List.take_of_length_le (by rw [List.length_drop]; omega), List.take_of_length_le (by rw [List.length_drop]; omega)]
   ·rw [show j = 8 by omega]
  rw [ht]
  refine ev_shift ?_
  simp only [spec_ParseMachine.l1, List.length_map]
  by_cases hi : (j : Int) + 1 < ((spl L 32).length : Int)
  ·simp only [if_pos hi, if_neg (show ¬ (j : Int) + 1 < 9 by omega)]
   exact hj
  ·simp only [if_neg hi]
   exact hj
 | succ d ih =>
  intro j h
  have e1 := w64 (show -9223372036854775808 ≤ (j : Int) + 1 + 1 by omega) (by omega)
  have hw : (wordsM L).length = (spl L 32).length - 1 := by unfold wordsM; rw [List.length_drop]
  have hi : j < (wordsM L).length := by omega
  have hI := ih (j + 1) (by omega)
  rw [List.take_succ_eq_append_getElem hi, List.map_append] at hI
  have hp : (spl L 32).getD (j + 1) [] = (wordsM L)[j] := by
   rw [List.getD_eq_getElem?_getD, List.getElem?_eq_getElem (show j + 1 < (spl L 32).length by omega)]
   simp [wordsM, Nat.add_comm]
  have hpl := splM_le L 32 (j + 1)
  have hr := rdW (spl L 32) (j + 1) (by omega)
  rw [hp] at hr hpl
  generalize (wordsM L)[j] = p at hI hpl hr
  have hr' : rdOf ByteArray.empty ((spl L 32).map str) ((j : Int) + 1) = str p := hr
  refine ev_shift ?_
  simp only [spec_ParseMachine.l1, List.length_map, if_pos (show (j : Int) + 1 < ((spl L 32).length : Int) by omega), if_pos (show (j : Int) + 1 < 9 by omega), if_pos (show (0 : Int) ≤ (j : Int) + 1 by omega), hr']
  refine Ev.bind (spec_l4Session.ev p (by omega)) ?_
  simp only [if_pos (show ((wordsM L).take j).length < 4398046511104 by rw [List.length_take]; omega), e1]
  exact hI
theorem spec_ParseMachine.l0ev (L : List UInt8) (hn : L.length ≤ 1048576) (r : List Int × List S97 × Bool) (hj : Ev (fun k => spec_ParseMachine.j1 k (str L) ((spl L 32).map str) (osS L)) r) :
  ∀ d i : Nat, i + d = min ((spl L 32).getD 0 []).length 9 → Ev (fun k => spec_ParseMachine.l0 k (str L) ((spl L 32).map str) (i : Int) (dgI (((spl L 32).getD 0 []).take i))) r := by
 have hl := (splA_len L 32 []).1
 have hl' : 1 ≤ (spl L 32).length := hl
 have hr : rdOf ByteArray.empty ((spl L 32).map str) 0 = str ((spl L 32).getD 0 []) := rdW (spl L 32) 0 (by omega)
 have hpl := splM_le L 32 0
 intro d
 induction d with
 | zero =>
  intro i h
  have ht : dgI (((spl L 32).getD 0 []).take i) = osS L := by
   unfold osS
   rcases Nat.le_total ((spl L 32).getD 0 []).length 9 with h6 | h6
   ·rw [List.take_of_length_le (by omega), List.take_of_length_le (by omega)]
   ·rw [show i = 9 by omega]
  rw [ht]
  refine ev_shift ?_
  simp only [spec_ParseMachine.l0, List.length_map, if_pos (show (0 : Int) < ((spl L 32).length : Int) by omega), hr, str_size]
  by_cases hi : (i : Int) < (((spl L 32).getD 0 []).length : Int)
  ·simp only [if_pos hi, if_neg (show ¬ (i : Int) < 9 by omega)]
   exact hj
  ·simp only [if_neg hi]
   exact hj
 | succ d ih =>
  intro i h
  have e1 := w64 (show -9223372036854775808 ≤ (i : Int) + 1 by omega) (by omega)
  have hi : i < ((spl L 32).getD 0 []).length := by omega
  have hI := ih (i + 1) (by omega)
  rw [dgI_snoc _ i hi] at hI
  refine ev_shift ?_
  simp only [spec_ParseMachine.l0, List.length_map, if_pos (show (0 : Int) < ((spl L 32).length : Int) by omega), hr, str_size, if_pos (show (i : Int) < (((spl L 32).getD 0 []).length : Int) by omega), if_pos (show (i : Int) < 9 by omega), if_pos (show (0 : Int) ≤ (i : Int) by omega), btD _ i hi, dgW, e1,
   if_pos (show (dgI (((spl L 32).getD 0 []).take i)).length < 17592186044416 by unfold dgI; rw [List.length_map, List.length_take]; omega)]
  exact hI
theorem spec_ParseMachine.ev (L : List UInt8) (hn : L.length ≤ 1048576) (b : Bool) (hb : Ev (fun k => spec_IsValidMachine.f k (osS L) (xsS L)) b) (hq : b = true ↔ vMach (osS L) (xsS L)) :
  Ev (fun k => spec_ParseMachine.f k (str L)) (finM b (osS L) (xsS L) L) := by
 have h32 : Ev (fun k => spec_l2Cut.f k (str L) 32) ((spl L 32).map str) := spec_l2Cut.ev L 32 (by omega)
 have hl := (splA_len L 32 []).1
 have hl' : 1 ≤ (spl L 32).length := hl
 refine Ev.bind h32 ?_
 have j3 := spec_ParseMachine.j3ev L (osS L) (xsS L) (by unfold osS dgI; rw [List.length_map, List.length_take]; omega) (by unfold xsS; rw [List.length_map, List.length_take]; omega) b hb hq
 have j1 : Ev (fun k => spec_ParseMachine.j1 k (str L) ((spl L 32).map str) (osS L)) (finM b (osS L) (xsS L) L) := by
  refine ev_shift ?_
  simp only [spec_ParseMachine.j1]
  simpa using spec_ParseMachine.l1ev L hn (osS L) _ j3 (min (spl L 32).length 9 - 1) 0 (by omega)
 simpa [dgI] using spec_ParseMachine.l0ev L hn _ j1 (min ((spl L 32).getD 0 []).length 9) 0 (by omega)
theorem internal_stringslite_Index.val (l : List UInt8) (c : UInt8) : internal_stringslite_Index.f (str l) ⟨#[c]⟩ = some (if fstB l c < l.length then (fstB l c : Int) else -1) := by
 simp only [internal_stringslite_Index.f, str_data_, indexByte_fst]
theorem strings_Index.val (l : List UInt8) (c : UInt8) : strings_Index.f (str l) ⟨#[c]⟩ = some (if fstB l c < l.length then (fstB l c : Int) else -1) := by
 simp only [strings_Index.f, internal_stringslite_Index.val, Option.bind_some]
theorem strings_genSplit.step (c : UInt8) (N m i k : Nat) (l : List UInt8) (a : List ByteArray) (hx : strings_Index.f (str l) ⟨#[c]⟩ = some (m : Int)) (hm : m < l.length) (hl : l.length ≤ 1000000000) (hi : i < N) (hN : N ≤ 1000000001) (ha : a.length = N + 1) :
  strings_genSplit.l0 (k + 1) (str l) ⟨#[c]⟩ 0 (N : Int) a (i : Int) = strings_genSplit.l0 k (str (l.drop (m + 1))) ⟨#[c]⟩ 0 (N : Int) (a.set i (str (l.take m))) ((i : Int) + 1) := by
 have p0 : (i : Int) < (N : Int) := by omega
 have p1 : ¬ ((m : Int) < 0) := by omega
 have p2 : (0 : Int) ≤ (m : Int) := by omega
 have p3 : (m : Int) ≤ (l.length : Int) := by omega
 have p4 : (0 : Int) ≤ (i : Int) := by omega
 have p5 : (i : Int) < (a.length : Int) := by omega
 have p6 : (0 : Int) ≤ (m : Int) + 1 := by omega
 have p7 : (m : Int) + 1 ≤ (l.length : Int) := by omega
 have e4 : ((m : Int) + 1).toNat = m + 1 := by omega
 have e1 : wrap64 ((i : Int) + 1) = (i : Int) + 1 := w64 (by omega) (by omega)
 have e2 : wrap64 ((m : Int) + 0) = (m : Int) := by rw [Int.add_zero]; exact w64 (by omega) (by omega)
 have e3 : wrap64 ((m : Int) + ((⟨#[c]⟩ : ByteArray).size : Int)) = (m : Int) + 1 := by
  rw [show ((⟨#[c]⟩ : ByteArray).size : Int) = 1 from rfl]; exact w64 (by omega) (by omega)
 have x1 : (str l).extract (m + 1) l.length = str (l.drop (m + 1)) := by rw [str_extract, List.take_of_length_le (by rw [List.length_drop]; omega)]
 have x2 : (str l).extract 0 m = str (l.take m) := by rw [str_extract, List.drop_zero, Nat.sub_zero]
 have e5 : (m : Int).toNat = m := by omega
 generalize (m : Int) = q at hx p1 p2 p3 p6 p7 e2 e3 e4 e5
 simp -implicitDefEqProofs only [strings_genSplit.l0, if_pos p0, hx, Option.bind_some, if_neg p1, e2, if_pos p2, str_size, if_pos p3, if_pos p4, if_pos p5, e3, if_pos p6, if_pos p7, e4, x1, e1, e5, Int.toNat_natCast, x2]
theorem strings_genSplit.l0ev (c : UInt8) (N : Nat) (hN : N ≤ 1000000001) :
  ∀ d i : Nat, i + d = N → ∀ (l : List UInt8) (a : List ByteArray), l.length ≤ 1000000000 → a.length = N + 1 → Lib.countByte l c = d → Ev (fun k => strings_genSplit.l0 k (str l) ⟨#[c]⟩ 0 (N : Int) a (i : Int)) (a.take i ++ (splA l c []).map str) := by
 intro d
 induction d with
 | zero =>
  intro i h l a hl ha hc
  obtain rfl : i = N := by omega
  have hf : ¬ fstB l c < l.length := fun h' => by rw [count_fst, if_pos h'] at hc; omega
  refine ev_shift (ev_val fun k => ?_)
  have e1 := w64 (show -9223372036854775808 ≤ (i : Int) + 1 by omega) (by omega)
  have e2 : ((i : Int) + 1).toNat = i + 1 := by omega
  simp -implicitDefEqProofs only [strings_genSplit.l0, if_neg (show ¬ ((i : Int) < (i : Int)) by omega), if_pos (show 0 ≤ (i : Int) by omega), if_pos (show (i : Int) < (a.length : Int) by omega), e1, if_pos (show 0 ≤ (i : Int) + 1 by omega), if_pos (show (i : Int) + 1 ≤ (a.length : Int) by omega), e2, Int.toNat_natCast]
  rw [splA_fst, if_neg hf, List.take_succ_eq_append_getElem (by simp; omega), List.take_set_of_le (Nat.le_refl _)]
  simp
 | succ d ih =>
  intro i h l a hl ha hc
  have hf : fstB l c < l.length := by
   rcases Nat.lt_or_ge (fstB l c) l.length with h' | h'
   ·exact h'
   ·rw [count_fst, if_neg (by omega)] at hc; omega
  have hc2 : Lib.countByte (l.drop (fstB l c + 1)) c = d := by rw [count_fst, if_pos hf] at hc; omega
  have := ih (i + 1) (by omega) (l.drop (fstB l c + 1)) (a.set i (str (l.take (fstB l c)))) (by rw [List.length_drop]; omega) (by simpa using ha) hc2
  rw [show ((i + 1 : Nat) : Int) = (i : Int) + 1 by omega] at this
  refine ev_shift (Ev.congr (fun k => ?_) (ev_eq this ?_))
  ·exact strings_genSplit.step c N (fstB l c) i k l a (by rw [strings_Index.val, if_pos hf]) hf hl (by omega) hN ha
  ·rw [splA_fst l c [], if_pos hf, List.take_succ_eq_append_getElem (by simp; omega), List.take_set_of_le (Nat.le_refl _)]
   simp
theorem strings_Split.ev_ (l : List UInt8) (c : UInt8) (hn : l.length ≤ 1000000000) : Ev (fun k => strings_genSplit.f k (str l) ⟨#[c]⟩ 0 (-1)) ((spl l c).map str) := by
 have hcl := count_le l c
 have h1 : ¬ ((⟨#[c]⟩ : ByteArray).toList = ([] : List UInt8)) := by rw [toList_data]; simp
 have h2 : strings_Count.f (str l) ⟨#[c]⟩ = some (Lib.countByte l c : Int) := by simp only [strings_Count.f, str_data_]
 have e1 := w64 (show -9223372036854775808 ≤ (Lib.countByte l c : Int) + 1 by omega) (by omega)
 have e2 := w64 (show -9223372036854775808 ≤ (l.length : Int) + 1 by omega) (by omega)
 have e4 := w64 (show -9223372036854775808 ≤ (Lib.countByte l c : Int) by omega) (by omega)
 have e5 : ((Lib.countByte l c : Int) + 1).toNat = Lib.countByte l c + 1 := by omega
 simp -implicitDefEqProofs only [strings_genSplit.f, if_neg (show ¬ ((-1 : Int) = 0) by omega), if_neg h1, if_pos (show (-1 : Int) < 0 by omega), h2, Option.bind_some, e1]
 refine ev_shift ?_
 simp -implicitDefEqProofs only [strings_genSplit.j0, str_size, e2, if_neg (show ¬ ((l.length : Int) + 1 < (Lib.countByte l c : Int) + 1) by omega), if_pos (show 0 ≤ (Lib.countByte l c : Int) + 1 by omega), e5, if_pos (show Lib.countByte l c + 1 ≤ 17592186044416 by omega), Int.add_sub_cancel, e4]
 have := strings_genSplit.l0ev c (Lib.countByte l c) (by omega) (Lib.countByte l c) 0 (by omega) l (List.replicate (Lib.countByte l c + 1) (⟨#[]⟩ : ByteArray)) hn (by simp) rfl
 simpa [spl] using this
theorem strings_Split.ev (l : List UInt8) (c : UInt8) (hn : l.length ≤ 1000000000) : Ev (fun k => strings_Split.f k (str l) ⟨#[c]⟩) ((spl l c).map str) :=
 Ev.bind (strings_Split.ev_ l c hn) (Ev.now _)
theorem internal_stringslite_Cut.val (l : List UInt8) (c : UInt8) (hn : l.length ≤ 1000000000) : internal_stringslite_Cut.f (str l) ⟨#[c]⟩ = some (if fstB l c < l.length then (str (l.take (fstB l c)), str (l.drop (fstB l c + 1)), true) else (str l, str [], false)) := by
 simp only [internal_stringslite_Cut.f, internal_stringslite_Index.val, Option.bind_some]
 by_cases h : fstB l c < l.length
 ·have e1 : wrap64 ((fstB l c : Int) + ((⟨#[c]⟩ : ByteArray).size : Int)) = (fstB l c : Int) + 1 := by
   rw [show (⟨#[c]⟩ : ByteArray).size = 1 from rfl]; exact w64 (by omega) (by omega)
  have e2 : ((fstB l c : Int) + 1).toNat = fstB l c + 1 := by omega
  simp only [if_pos h, if_pos (show (fstB l c : Int) ≥ 0 by omega), if_pos (show 0 ≤ (fstB l c : Int) by omega), str_size, if_pos (show (fstB l c : Int) ≤ (l.length : Int) by omega), e1, e2, if_pos (show 0 ≤ (fstB l c : Int) + 1 by omega), if_pos (show (fstB l c : Int) + 1 ≤ (l.length : Int) by omega), Int.toNat_natCast, str_extract, List.drop_zero, Nat.sub_zero]
  rw [List.take_of_length_le (l := l.drop (fstB l c + 1)) (by rw [List.length_drop]; omega)]
 ·simp only [if_neg h, if_neg (show ¬ ((-1 : Int) ≥ 0) by omega)]
  rfl
theorem strings_Cut.val (l : List UInt8) (c : UInt8) (hn : l.length ≤ 1000000000) : strings_Cut.f (str l) ⟨#[c]⟩ = some (if fstB l c < l.length then (str (l.take (fstB l c)), str (l.drop (fstB l c + 1)), true) else (str l, str [], false)) := by
 simp only [strings_Cut.f, internal_stringslite_Cut.val l c hn, Option.bind_some]
theorem impl_within.val (a b c : Int) : impl_within.f a b c = some (decide (b ≤ a ∧ a ≤ c)) := by
 unfold impl_within.f
 by_cases h : b ≤ a <;> simp [h]
theorem impl_FormatInt.val (a : Int) (h0 : -9223372036854775808 ≤ a) (h1 : a ≤ 9223372036854775807) : impl_FormatInt.f a = some (str (Lib.itoa a)) := by
 simp only [impl_FormatInt.f, strconv_Itoa.f, if_pos (show -9223372036854775808 ≤ a ∧ a ≤ 9223372036854775807 from ⟨h0, h1⟩), Option.bind_some]
 rfl
theorem bytesOf_tail (s : ByteArray) : bytesOf (s.extract 1 s.size) = (bytesOf s).tail := by
 rw [bytesOf, bytesOf, ← List.map_tail]
 congr 1
 rw [ByteArray.data_extract, Array.toList_extract, ByteArray.size, ← Array.length_toList]
 cases s.data.toList with
 | nil => rfl
 | cons a l => simp [List.extract]
theorem impl_ParseInt.l0ev (s t : ByteArray) (g : Int) (hg : g = 1 ∨ g = -1) (ht : t.size ≤ 9) (r : Int × Bool)
  (hbad : ¬ (∀ b ∈ bytesOf t, 48 ≤ b ∧ b ≤ 57) → r = (0, false))
  (hok : (∀ b ∈ bytesOf t, 48 ≤ b ∧ b ≤ 57) → (if str (Lib.itoa (g * valD (bytesOf t))) = s then (g * valD (bytesOf t), true) else (0, false)) = r) :
  ∀ d i : Nat, i + d = t.size → (∀ b ∈ (bytesOf t).take i, 48 ≤ b ∧ b ≤ 57) → Ev (fun k => impl_ParseInt.l0 k s t g (valD ((bytesOf t).take i)) (t.size : Int) (i : Int)) r := by
 intro d
 induction d with
 | zero =>
  intro i h hd
  obtain rfl : i = t.size := by omega
  have hall : (bytesOf t).take t.size = bytesOf t := List.take_of_length_le (by rw [bytesOf_length]; omega)
  rw [hall] at hd ⊢
  have hv := valD_bound (bytesOf t) (by rw [bytesOf_length]; omega)
  have e1 : wrap64 (g * valD (bytesOf t)) = g * valD (bytesOf t) := by rcases hg with rfl | rfl <;> exact w64 (by omega) (by omega)
  have hr := hok hd
  refine ev_shift ?_
  simp only [impl_ParseInt.l0, if_neg (show ¬ ((t.size : Int) < (t.size : Int)) by omega), e1, impl_FormatInt.val (g * valD (bytesOf t)) (by rcases hg with rfl | rfl <;> omega) (by rcases hg with rfl | rfl <;> omega), Option.bind_some]
  by_cases c : str (Lib.itoa (g * valD (bytesOf t))) = s
  ·rw [if_pos c] at hr
   subst hr
   exact ev_val fun k => by rw [c]; simp
  ·rw [if_neg c] at hr
   subst hr
   exact ev_val fun k => by rw [if_neg (fun h => c (toList_inj' h))]
 | succ d ih =>
  intro i h hd
  have e1 := w64 (show -9223372036854775808 ≤ (i : Int) + 1 by omega) (by omega)
  obtain ⟨tb, b0, b1⟩ := take_bt t i (by omega)
  have hv := valD_bound ((bytesOf t).take i) (by rw [List.length_take]; omega)
  have hm : bt t (i : Int) ∈ bytesOf t := List.mem_of_mem_take (i := i + 1) (by rw [tb]; simp)
  refine ev_shift ?_
  by_cases c1 : bt t (i : Int) < 48
  ·rw [hbad fun hh => by have := hh _ hm; omega]
   exact ev_val fun k => by simp only [impl_ParseInt.l0, if_pos (show (i : Int) < (t.size : Int) by omega), if_pos (show (0 : Int) ≤ (i : Int) by omega), if_pos c1]
  ·by_cases c2 : bt t (i : Int) > 57
   ·rw [hbad fun hh => by have := hh _ hm; omega]
    exact ev_val fun k => by simp only [impl_ParseInt.l0, if_pos (show (i : Int) < (t.size : Int) by omega), if_pos (show (0 : Int) ≤ (i : Int) by omega), if_neg c1, if_pos c2]
   ·have hi := ih (i + 1) (by omega) (by
     rw [tb]
     intro b hb
     rcases List.mem_append.1 hb with hb | hb
     ·exact hd b hb
     ·rw [List.mem_singleton.1 hb]; omega)
    rw [tb, valD_snoc, if_pos (by omega)] at hi
    have e3 : wrap64 ((wrap64 (10 * valD ((bytesOf t).take i))) + ((bt t (i : Int) - 48) % 256)) = valD ((bytesOf t).take i) * 10 + (bt t (i : Int) - 48) := by
     rw [w64 (show -9223372036854775808 ≤ 10 * valD ((bytesOf t).take i) by omega) (by omega), show (bt t (i : Int) - 48) % 256 = bt t (i : Int) - 48 by omega, w64 (by omega) (by omega)]
     omega
    simp only [impl_ParseInt.l0, if_pos (show (i : Int) < (t.size : Int) by omega), if_pos (show (0 : Int) ≤ (i : Int) by omega), if_neg c1, if_neg c2, e1, e3]
    simpa using hi
theorem impl_ParseInt.ev (s : ByteArray) : (implOk s ∧ Ev (fun k => impl_ParseInt.f k s) (numB (bytesOf s), true)) ∨ (¬ implOk s ∧ Ev (fun k => impl_ParseInt.f k s) (0, false)) := by
 have j1 : ∀ (t : ByteArray) (g : Int), (g = 1 ∨ g = -1) → bytesOf t = tailB (bytesOf s) → g * valD (bytesOf t) = numB (bytesOf s) →
   (implOk s ∧ Ev (fun k => impl_ParseInt.j1 k s t g) (numB (bytesOf s), true)) ∨ (¬ implOk s ∧ Ev (fun k => impl_ParseInt.j1 k s t g) (0, false)) := by
  intro t g hg ht hn
  have hl : t.size = (tailB (bytesOf s)).length := by rw [← ht, bytesOf_length]
  by_cases c : 1 ≤ (t.size : Int) ∧ (t.size : Int) ≤ 9
  ·have go : ∀ r, (¬ (∀ b ∈ bytesOf t, 48 ≤ b ∧ b ≤ 57) → r = (0, false)) → ((∀ b ∈ bytesOf t, 48 ≤ b ∧ b ≤ 57) → (if str (Lib.itoa (g * valD (bytesOf t))) = s then (g * valD (bytesOf t), true) else (0, false)) = r) → Ev (fun k => impl_ParseInt.j1 k s t g) r := by
    intro r h1 h2
    refine ev_shift ?_
    simp only [impl_ParseInt.j1, impl_within.val, Option.bind_some, decide_eq_true c, if_true]
    have := impl_ParseInt.l0ev s t g hg (by omega) r h1 h2 t.size 0 (by omega) (by simp)
    simpa [valD] using this
   by_cases hd : ∀ b ∈ bytesOf t, 48 ≤ b ∧ b ≤ 57
   ·by_cases hs : str (Lib.itoa (numB (bytesOf s))) = s
    ·exact .inl ⟨⟨by omega, by omega, by rw [← ht]; exact hd, hs⟩, go _ (fun h => absurd hd h) (fun _ => by rw [hn, if_pos hs])⟩
    ·exact .inr ⟨fun h => hs h.2.2.2, go _ (fun _ => rfl) (fun _ => by rw [hn, if_neg hs])⟩
   ·exact .inr ⟨fun h => hd (by rw [ht]; exact h.2.2.1), go _ (fun _ => rfl) (fun h => absurd h hd)⟩
  ·refine .inr ⟨fun h => c (by have := h.1; have := h.2.1; omega), ev_shift (ev_val fun k => ?_)⟩
   simp only [impl_ParseInt.j1, impl_within.val, Option.bind_some, decide_eq_false c, Bool.false_eq_true, if_false]
 have hn := negB_bt s
 cases hb : negB (bytesOf s) with
 | true =>
  rw [hb] at hn
  have c : (s.size : Int) > 0 := by
   by_cases c : (s.size : Int) > 0
   ·exact c
   ·rw [if_neg c] at hn; exact absurd hn (by decide)
  rw [if_pos c] at hn
  have hj := j1 (s.extract 1 s.size) (-1) (.inr rfl) (by rw [bytesOf_tail, tailB, if_pos hb]) (by
   rw [numB, if_pos hb, bytesOf_tail]
   have := (valD_tailB (bytesOf s)).1
   rw [tailB, if_pos hb] at this
   rw [this]; omega)
  have hup : ∀ r, Ev (fun k => impl_ParseInt.j1 k s (s.extract 1 s.size) (-1)) r → Ev (fun k => impl_ParseInt.f k s) r := fun r hr => by
   simp only [impl_ParseInt.f, if_pos c, if_pos (show (0 : Int) < (s.size : Int) by omega), ← hn]
   refine ev_shift ?_
   simp only [impl_ParseInt.j0, if_true, if_pos (show 1 ≤ (s.size : Int) by omega)]
   exact hr
  rcases hj with ⟨h1, h2⟩ | ⟨h1, h2⟩
  ·exact .inl ⟨h1, hup _ h2⟩
  ·exact .inr ⟨h1, hup _ h2⟩
 | false =>
  rw [hb] at hn
  have hj := j1 s 1 (.inl rfl) (by rw [tailB, hb]; rfl) (by rw [numB, hb, Int.one_mul]; rfl)
  have hup : ∀ r, Ev (fun k => impl_ParseInt.j1 k s s 1) r → Ev (fun k => impl_ParseInt.f k s) r := fun r hr => by
   by_cases c : (s.size : Int) > 0
   ·rw [if_pos c] at hn
    simp only [impl_ParseInt.f, if_pos c, if_pos (show (0 : Int) < (s.size : Int) by omega), ← hn]
    refine ev_shift ?_
    simp only [impl_ParseInt.j0, Bool.false_eq_true, if_false]
    exact hr
   ·simp only [impl_ParseInt.f, if_neg c]
    refine ev_shift ?_
    simp only [impl_ParseInt.j0, Bool.false_eq_true, if_false]
    exact hr
  rcases hj with ⟨h1, h2⟩ | ⟨h1, h2⟩
  ·exact .inl ⟨h1, hup _ h2⟩
  ·exact .inr ⟨h1, hup _ h2⟩
theorem impl_number.ev (s : ByteArray) : Ev (fun k => impl_number.f k s) (numV s) := by
 unfold numV
 rcases impl_ParseInt.ev s with ⟨h, e⟩ | ⟨h, e⟩
 ·rw [if_pos h]
  exact Ev.bind e (ev_val fun k => by simp)
 ·rw [if_neg h]
  exact Ev.bind e (ev_val fun k => by simp)
theorem strings_IndexAny.val (l : List UInt8) (hn : l.length ≤ 1048576) : strings_IndexAny.f (str l) ⟨#[43, 45]⟩ = some (Lib.indexAny l [43, 45]) := by
 unfold strings_IndexAny.f
 rw [if_pos ⟨str_toList [43, 45], by rw [str_size]; omega⟩]
 simp [str]
theorem indexAny_lt : ∀ l cs : List UInt8, Lib.indexAny l cs < (l.length : Int)
 | [], _ => by simp [Lib.indexAny]
 | b :: l, cs => by
  have := indexAny_lt l cs
  unfold Lib.indexAny
  simp only [List.length_cons]
  split
  ·omega
  ·split <;> omega
theorem impl_IsValidMachine.ev (os : List Int) (xs : List S97) (h1 : os.length ≤ 9223372036854775806) (h2 : xs.length ≤ 9223372036854775806) : ∃ b, Ev (fun k => impl_IsValidMachine.f k os xs) b ∧ (b = true ↔ vMach os xs) :=
 ⟨decide (vM_ os xs), ev_val fun _ => rfl, decide_eq_true_iff.trans Iff.rfl⟩
theorem impl_FormatMachine.l1ev (xs : List S97) (hn : xs.length ≤ 1048576) (hv : ∀ j, j < xs.length → okSes xs j) :
  ∀ s : Nat × List UInt8, (s.1 ≤ xs.length ∧ s.2.length ≤ 60000000 + 70 * s.1) → Ev (fun k => impl_FormatMachine.l1 k (str s.2) xs (xs.length : Int) (s.1 : Int)) (str (s.2 ++ catS (xs.drop s.1))) := by
 refine loop_ev (fun k (s : Nat × List UInt8) => impl_FormatMachine.l1 k (str s.2) xs (xs.length : Int) (s.1 : Int)) _ (fun s => xs.length - s.1) (fun s => str (s.2 ++ catS (xs.drop s.1))) ?_
 rintro ⟨i, acc⟩ ⟨h1, h2⟩
 simp only at h1 h2 ⊢
 by_cases hi : i < xs.length
 ·have hl := sesL_len (hv i hi)
  have e1 := w64 (show -9223372036854775808 ≤ (i : Int) + 1 by omega) (by omega)
  refine .inr ⟨(i + 1, acc ++ sesL (rd_T97 xs (i : Int))), ⟨by simp only; omega, by simp only [List.length_append]; omega⟩, by simp only; omega, ?_, ?_⟩
  ·simp only [catS_drop xs i hi, List.append_assoc]
  ·intro r hr'
   obtain ⟨q1, q2, q3, _⟩ := hv i hi
   have g0 := impl_FormatInt.val (rd_T97 xs (i : Int)).f0 (by omega) (by omega)
   have g1 := impl_FormatInt.val (rd_T97 xs (i : Int)).f1 (by omega) (by omega)
   have g2 := impl_FormatInt.val (rd_T97 xs (i : Int)).f2.f1 (by omega) (by omega)
   have l0 := itoa_len (rd_T97 xs (i : Int)).f0 (by omega) (by omega)
   have l1 := itoa_len (rd_T97 xs (i : Int)).f1 (by omega) (by omega)
   have l2 := itoa_len (rd_T97 xs (i : Int)).f2.f1 (by omega) (by omega)
   obtain ⟨K3, g3⟩ := hr'
   have g3 : ∀ k, K3 ≤ k → impl_FormatMachine.l1 k (str (acc ++ sesL (rd_T97 xs (i : Int)))) xs (xs.length : Int) ((i : Int) + 1) = some r := fun k hk => by simpa using g3 k hk
   have key : ∀ c : UInt8, (if (rd_T97 xs (i : Int)).f2.f0 = true then ([43] : List UInt8) else [45]) = [c] → Ev (fun k => impl_FormatMachine.j2 k (str acc) (str [c]) xs (xs.length : Int) (i : Int) (rd_T97 xs (i : Int)).f0 (rd_T97 xs (i : Int)).f1 (rd_T97 xs (i : Int)).f2.f0 (rd_T97 xs (i : Int)).f2.f1) r := by
    intro c hc
    refine ev_shift ⟨K3, fun k hk => ?_⟩
    simp only [impl_FormatMachine.j2, g0, g1, g2, Option.bind_some, str_lit, str_append, str_size, List.length_append, List.length_cons, List.length_nil, e1]
    simp (disch := omega) only [if_pos]
    have g4 := g3 k (by omega)
    simp only [sesL, hc, List.append_assoc] at g4 ⊢
    exact g4
   refine ev_shift ?_
   simp only [impl_FormatMachine.l1, if_pos (show (i : Int) < (xs.length : Int) by omega), if_pos (show (0 : Int) ≤ (i : Int) by omega)]
   cases hd : (rd_T97 xs (i : Int)).f2.f0 with
   | true => simp only [if_true, str_lit]; have := key 43 (by rw [hd]; rfl); rw [hd] at this; exact this
   | false => simp only [Bool.false_eq_true, if_false, str_lit]; have := key 45 (by rw [hd]; rfl); rw [hd] at this; exact this
 ·refine .inl (ev_shift (ev_val fun k => ?_))
  simp only [impl_FormatMachine.l1, if_neg (show ¬ ((i : Int) < (xs.length : Int)) by omega), List.drop_eq_nil_of_le (show xs.length ≤ i by omega), catS, List.flatMap_nil, List.append_nil]
theorem impl_FormatMachine.l0ev (os : List Int) (xs : List S97) (ho : os.length ≤ 1048576) (hn : xs.length ≤ 1048576) (hv : ∀ j, j < xs.length → okSes xs j) (hr : ∀ j : Nat, j < os.length → 0 ≤ rd os (j : Int) ∧ rd os (j : Int) ≤ 9) :
  ∀ s : Nat × List UInt8, (s.1 ≤ os.length ∧ s.2.length ≤ 20 * s.1) → Ev (fun k => impl_FormatMachine.l0 k (str s.2) os (os.length : Int) (s.1 : Int) os xs) (str (s.2 ++ catI (os.drop s.1) ++ catS xs)) := by
 refine loop_ev (fun k (s : Nat × List UInt8) => impl_FormatMachine.l0 k (str s.2) os (os.length : Int) (s.1 : Int) os xs) _ (fun s => os.length - s.1) (fun s => str (s.2 ++ catI (os.drop s.1) ++ catS xs)) ?_
 rintro ⟨i, acc⟩ ⟨h1, h2⟩
 simp only at h1 h2 ⊢
 by_cases hi : i < os.length
 ·obtain ⟨r0, r1⟩ := hr i hi
  have hl := itoa_len (rd os (i : Int)) (by omega) (by omega)
  have e1 := w64 (show -9223372036854775808 ≤ (i : Int) + 1 by omega) (by omega)
  refine .inr ⟨(i + 1, acc ++ Lib.itoa (rd os (i : Int))), ⟨by simp only; omega, by simp only [List.length_append]; omega⟩, by simp only; omega, ?_, ?_⟩
  ·simp only [catI_drop os i hi, List.append_assoc]
  ·intro r hr'
   refine ev_shift ?_
   simp only [impl_FormatMachine.l0, if_pos (show (i : Int) < (os.length : Int) by omega), if_pos (show (0 : Int) ≤ (i : Int) by omega), impl_FormatInt.val (rd os (i : Int)) (by omega) (by omega), Option.bind_some, str_size, str_append, if_pos (show acc.length + (Lib.itoa (rd os (i : Int))).length ≤ 9223372036854775807 by omega), e1]
   exact hr'
 ·refine .inl (ev_shift ?_)
  simp only [impl_FormatMachine.l0, if_neg (show ¬ ((i : Int) < (os.length : Int)) by omega), List.drop_eq_nil_of_le (show os.length ≤ i by omega), catI, List.flatMap_nil, List.append_nil]
  have := impl_FormatMachine.l1ev xs hn hv (0, acc) ⟨by simp, by simp only; omega⟩
  simpa using this
theorem impl_FormatMachine.ev (os : List Int) (xs : List S97) (ho : os.length ≤ 1048576) (hn : xs.length ≤ 1048576) (b : Bool) (hb : Ev (fun k => impl_IsValidMachine.f k os xs) b) (hv : b = true → vMach os xs) :
  Ev (fun k => impl_FormatMachine.f k os xs) (str (machL b os xs)) := by
 refine Ev.bind hb ?_
 cases b with
 | false => exact ev_val fun _ => rfl
 | true =>
  obtain ⟨v1, v2, v3⟩ := hv rfl
  simp only [if_true, machL]
  exact impl_FormatMachine.l0ev os xs ho hn v3 v2 (0, []) ⟨by simp, by simp⟩
theorem resI_cons (b : Bool) (p : List UInt8) (W : List (List UInt8)) (os : List Int) (xs : List S97) (L : List UInt8) (h : ¬ atM p < 0) : resI b (p :: W) os xs L = resI b W os xs L := by
 unfold resI
 by_cases h2 : ∃ q ∈ W, atM q < 0
 ·obtain ⟨q, hq, hb⟩ := h2
  rw [if_pos ⟨q, List.mem_cons_of_mem _ hq, hb⟩, if_pos ⟨q, hq, hb⟩]
 ·rw [if_neg h2, if_neg]
  rintro ⟨q, hq, hb⟩
  rcases List.mem_cons.1 hq with rfl | hq
  ·exact h hb
  ·exact h2 ⟨q, hq, hb⟩
theorem resI_bad (b : Bool) (p : List UInt8) (W : List (List UInt8)) (os : List Int) (xs : List S97) (L : List UInt8) (h : atM p < 0) : resI b (p :: W) os xs L = ([], [], false) := by
 unfold resI
 rw [if_pos ⟨p, List.mem_cons_self .., h⟩]
theorem atB (n m : Nat) (h : (n : Int) < (m : Int)) (hm : m ≤ 1048576) : (0 : Int) ≤ (n : Int) ∧ (n : Int) ≤ (m : Int) ∧ (0 : Int) ≤ ((n + 1 : Nat) : Int) ∧ ((n + 1 : Nat) : Int) ≤ (m : Int) ∧ n < m ∧ wrap64 ((n : Int) + 1) = ((n + 1 : Nat) : Int) := by
 refine ⟨by omega, by omega, by omega, by omega, by omega, ?_⟩
 rw [w64 (by omega) (by omega)]; rfl
theorem impl_ParseMachine.l1ev (L : List UInt8) (os : List Int) (ho : os.length ≤ 1048576) (W : List (List UInt8)) (hW : W.length ≤ 1048576) (hw : ∀ p ∈ W, p.length ≤ 1048576) (b : Bool) (hb : Ev (fun k => impl_IsValidMachine.f k os (W.map sesI)) b) (hq : b = true ↔ vMach os (W.map sesI)) :
  ∀ d i : Nat, i + d = W.length → Ev (fun k => impl_ParseMachine.l1 k (str L) (W.map str) (W.length : Int) (i : Int) os ((W.take i).map sesI)) (resI b (W.drop i) os (W.map sesI) L) := by
 intro d
 induction d with
 | zero =>
  intro i h
  rw [List.take_of_length_le (show W.length ≤ i by omega), List.drop_eq_nil_of_le (show W.length ≤ i by omega)]
  have hR : resI b [] os (W.map sesI) L = finM b os (W.map sesI) L := by unfold resI; exact if_neg (by simp)
  rw [hR]
  refine ev_shift ?_
  simp only [impl_ParseMachine.l1, if_neg (show ¬ ((i : Int) < (W.length : Int)) by omega), str_toList]
  unfold finM
  by_cases h0 : L = []
  ·simp only [if_pos h0]; exact Ev.now _
  ·simp only [if_neg h0]
   refine Ev.bind (impl_FormatMachine.ev os _ ho (by rw [List.length_map]; omega) b hb hq.1) (ev_val fun _ => ?_)
   rw [str_toList]
   by_cases h2 : machL b os (W.map sesI) = L
   ·rw [if_pos h2, if_pos h2]
   ·rw [if_neg h2, if_neg h2]
 | succ d ih =>
  intro i h
  have e1 := w64 (show -9223372036854775808 ≤ (i : Int) + 1 by omega) (by omega)
  have hi : i < W.length := by omega
  have hti : (W.take i).length < 4398046511104 := by rw [List.length_take]; omega
  have hI := ih (i + 1) (by omega)
  rw [List.take_succ_eq_append_getElem hi, List.map_append] at hI
  rw [List.drop_eq_getElem_cons hi]
  have hp : W.getD i [] = W[i] := by simp [hi]
  have hpl := hw _ (List.getElem_mem hi)
  have hr := rdW W i hi
  rw [hp] at hr
  generalize W[i] = p at hI hpl hr ⊢
  have hcut : strings_Cut.f (str p) ⟨#[46]⟩ = some (str (cutA p 46), str (cutB p 46), decide (fstB p 46 < p.length)) := by
   rw [strings_Cut.val p 46 (by omega)]
   unfold cutA cutB
   split <;> simp [*]
  have hcb : (cutB p 46).length ≤ 1048576 := by
   unfold cutB
   split
   ·rw [List.length_drop]; omega
   ·simp
  have hat : Lib.indexAny (cutB p 46) [43, 45] = atM p := rfl
  have hlt := indexAny_lt (cutB p 46) [43, 45]
  rw [hat] at hlt
  refine ev_shift ?_
  simp only [impl_ParseMachine.l1, List.length_map, if_pos (show (i : Int) < (W.length : Int) by omega), if_pos (show (0 : Int) ≤ (i : Int) by omega), hr, hcut, Option.bind_some, strings_IndexAny.val _ hcb, hat]
  by_cases hbad : atM p < 0
  ·simp only [if_pos hbad]
   rw [resI_bad _ _ _ _ _ _ hbad]
   exact Ev.now _
  ·simp only [if_neg hbad]
   rw [resI_cons _ _ _ _ _ _ hbad]
   obtain ⟨n, hnat⟩ := Int.eq_ofNat_of_zero_le (Int.not_lt.1 hbad)
   have hsI : sesI p = ⟨numV (str (cutA p 46)), numV (str ((cutB p 46).take n)), ⟨decide ((cutB p 46).getD n 0 = 43), numV (str ((cutB p 46).drop (n + 1)))⟩⟩ := by
    unfold sesI; rw [hnat, Int.toNat_natCast]
   rw [hnat] at hlt
   obtain ⟨q0, q1, q2, q3, q4, e2⟩ := atB n _ hlt hcb
   have c43 : ((((cutB p 46).getD n 0).toNat : Int) == 43 : Bool) = decide ((cutB p 46).getD n 0 = 43) := by
    rw [Bool.eq_iff_iff, beq_iff_eq, decide_eq_true_eq]
    exact u8_num _ 43 (by decide)
   refine Ev.bind (impl_number.ev _) ?_
   simp only [hnat, e2, str_size, if_pos q0, if_pos q1, if_pos hlt, if_pos q2, if_pos q3, Int.toNat_natCast, str_extract, btD (cutB p 46) n q4, c43, List.drop_zero, Nat.sub_zero]
   refine Ev.bind (impl_number.ev _) (Ev.bind (impl_number.ev _) ?_)
   simp only [if_pos hti, e1]
   rw [show ((cutB p 46).drop (n + 1)).take ((cutB p 46).length - (n + 1)) = (cutB p 46).drop (n + 1) from List.take_of_length_le (by rw [List.length_drop]; exact Nat.le_refl _)]
   simp only [List.map_cons, List.map_nil, hsI] at hI
   exact hI
theorem impl_ParseMachine.l0ev (L : List UInt8) (hn : L.length ≤ 1048576) (r : List Int × List S97 × Bool)
  (hj : Ev (fun k => impl_ParseMachine.l1 k (str L) ((wordsM L).map str) ((wordsM L).length : Int) 0 (osI L) []) r) :
  ∀ d i : Nat, i + d = ((spl L 32).getD 0 []).length → Ev (fun k => impl_ParseMachine.l0 k (str L) ((spl L 32).map str) (((spl L 32).getD 0 []).length : Int) (i : Int) (dgI (((spl L 32).getD 0 []).take i))) r := by
 have hl := (splA_len L 32 []).1
 have hl' : 1 ≤ (spl L 32).length := hl
 have hr : rdOf ByteArray.empty ((spl L 32).map str) 0 = str ((spl L 32).getD 0 []) := rdW (spl L 32) 0 (by omega)
 have hpl := splM_le L 32 0
 intro d
 induction d with
 | zero =>
  intro i h
  rw [List.take_of_length_le (by omega)]
  refine ev_shift ?_
  simp only [impl_ParseMachine.l0, if_neg (show ¬ (i : Int) < (((spl L 32).getD 0 []).length : Int) by omega), List.length_map, if_pos (show (1 : Int) ≤ ((spl L 32).length : Int) by omega), Option.bind_some, ← List.map_drop]
  exact hj
 | succ d ih =>
  intro i h
  have e1 := w64 (show -9223372036854775808 ≤ (i : Int) + 1 by omega) (by omega)
  have hi : i < ((spl L 32).getD 0 []).length := by omega
  have hI := ih (i + 1) (by omega)
  rw [dgI_snoc _ i hi] at hI
  refine ev_shift ?_
  simp only [impl_ParseMachine.l0, List.length_map, if_pos (show (0 : Int) < ((spl L 32).length : Int) by omega), hr, str_size, if_pos (show (i : Int) < (((spl L 32).getD 0 []).length : Int) by omega), if_pos (show (0 : Int) ≤ (i : Int) by omega), btD _ i hi, dgW, e1,
   if_pos (show (dgI (((spl L 32).getD 0 []).take i)).length < 17592186044416 by unfold dgI; rw [List.length_map, List.length_take]; omega)]
  exact hI
theorem impl_ParseMachine.ev (L : List UInt8) (hn : L.length ≤ 1048576) (b : Bool) (hb : Ev (fun k => impl_IsValidMachine.f k (osI L) (xsI L)) b) (hq : b = true ↔ vMach (osI L) (xsI L)) :
  Ev (fun k => impl_ParseMachine.f k (str L)) (resI b (wordsM L) (osI L) (xsI L) L) := by
 obtain ⟨hl, hl2⟩ := splA_len L 32 []
 have hl' : 1 ≤ (spl L 32).length := hl
 have hl2' : (spl L 32).length ≤ L.length + 1 := hl2
 have hr : rdOf ByteArray.empty ((spl L 32).map str) 0 = str ((spl L 32).getD 0 []) := rdW (spl L 32) 0 (by omega)
 have hpl := splM_le L 32 0
 refine Ev.bind (strings_Split.ev L 32 (by omega)) ?_
 simp only [List.length_map, if_pos (show (0 : Int) < ((spl L 32).length : Int) by omega), hr, str_size]
 have l1 := impl_ParseMachine.l1ev L (osI L) (by unfold osI dgI; rw [List.length_map]; omega) (wordsM L) (by unfold wordsM; rw [List.length_drop]; omega)
  (fun p hp => by have := splM_mem L 32 [] p (List.mem_of_mem_drop hp); simp at this; omega) b hb hq (wordsM L).length 0 (by omega)
 have l0 := impl_ParseMachine.l0ev L hn _ (by simpa using l1) ((spl L 32).getD 0 []).length 0 (by omega)
 simpa [dgI, xsI] using l0
theorem laws_eqIntS.ev (xs ys : List Int) (hn : xs.length ≤ 9223372036854775806) : ∃ b, Ev (fun k => laws_eqIntS.f k xs ys) b ∧ (b = true ↔ xs = ys) := by
 by_cases hl : xs.length = ys.length
 ·obtain ⟨b, hb, hq⟩ := all_loop (fun k i => laws_eqIntS.l0 k xs ys i) (fun i => rd xs (i : Int) = rd ys (i : Int)) xs.length
   (fun k => by simp only [laws_eqIntS.l0, if_neg (show ¬ ((xs.length : Int) < (xs.length : Int)) by omega)])
   (fun i hi => by
    by_cases h : rd xs (i : Int) = rd ys (i : Int)
    ·exact .inl ⟨h, 0, fun k _ => by simp only [laws_eqIntS.l0, if_pos (show (i : Int) < (xs.length : Int) by omega), if_pos (show (0 : Int) ≤ (i : Int) by omega), if_pos (show (i : Int) < (ys.length : Int) by omega), if_pos h, w64 (show -9223372036854775808 ≤ (i : Int) + 1 by omega) (by omega)]⟩
    ·exact .inr ⟨h, 0, fun k _ => by simp only [laws_eqIntS.l0, if_pos (show (i : Int) < (xs.length : Int) by omega), if_pos (show (0 : Int) ≤ (i : Int) by omega), if_pos (show (i : Int) < (ys.length : Int) by omega), if_neg h]⟩)
   xs.length 0 (by omega)
  refine ⟨b, ?_, hq.trans ?_⟩
  ·refine Ev.congr (fun k => ?_) hb
   simp only [laws_eqIntS.f, if_pos (show (xs.length : Int) = (ys.length : Int) by omega)]
   rfl
  ·constructor
   ·intro h
    refine List.ext_getElem hl (fun i h1 h2 => ?_)
    have := h i (by omega) h1
    rwa [rd_get xs i h1, rd_get ys i h2] at this
   ·intro h; subst h; intro j _ _; rfl
 ·refine ⟨false, ev_val (fun k => ?_), ?_⟩
  ·simp only [laws_eqIntS.f, if_neg (show ¬ ((xs.length : Int) = (ys.length : Int)) by omega)]
  ·constructor
   ·intro h; cases h
   ·intro h; subst h; exact absurd rfl hl
theorem laws_eqResult.val (a : Bool) (b : Int) (a' : Bool) (b' : Int) : laws_eqResult.f a b a' b' = some (decide (a = a' ∧ b = b')) := by
 unfold laws_eqResult.f
 by_cases h1 : a = a' <;> by_cases h2 : b = b' <;> simp [h1, h2]
theorem laws_eqSession.val0 (a b : Int) (c : Bool) (d a' b' : Int) (c' : Bool) (d' : Int) : laws_eqSession.f a b c d a' b' c' d' = some (decide (a = a' ∧ b = b' ∧ c = c' ∧ d = d')) := by
 unfold laws_eqSession.f
 simp only [laws_eqResult.val, Option.bind_some]
 by_cases h1 : a = a' <;> by_cases h2 : b = b' <;> by_cases h3 : c = c' <;> by_cases h4 : d = d' <;> simp [h1, h2, h3, h4]
theorem laws_eqSession.val (x y : S97) : ∃ b, laws_eqSession.f x.f0 x.f1 x.f2.f0 x.f2.f1 y.f0 y.f1 y.f2.f0 y.f2.f1 = some b ∧ (b = true ↔ x = y) :=
 ⟨_, laws_eqSession.val0 _ _ _ _ _ _ _ _, by rw [decide_eq_true_iff, ses_eq]⟩
theorem laws_eqSessionS.ev (xs ys : List S97) (hn : xs.length ≤ 9223372036854775806) : ∃ b, Ev (fun k => laws_eqSessionS.f k xs ys) b ∧ (b = true ↔ xs = ys) := by
 by_cases hl : xs.length = ys.length
 ·obtain ⟨b, hb, hq⟩ := eq_loop (fun k i => laws_eqSessionS.l0 k xs ys i) xs ys hl
   (fun k => by simp only [laws_eqSessionS.l0, if_neg (show ¬ ((xs.length : Int) < (xs.length : Int)) by omega)])
   (fun i h1 h2 => by
    obtain ⟨b, hb, hq⟩ := laws_eqSession.val xs[i] ys[i]
    cases b with
    | true => exact .inl ⟨hq.1 rfl, 0, fun k _ => by simp only [laws_eqSessionS.l0, if_pos (show (i : Int) < (xs.length : Int) by omega), if_pos (show (0 : Int) ≤ (i : Int) by omega), if_pos (show (i : Int) < (ys.length : Int) by omega), rdS xs i h1, rdS ys i h2, hb, Option.bind_some, if_true, w64 (show -9223372036854775808 ≤ (i : Int) + 1 by omega) (by omega)]⟩
    | false => exact .inr ⟨fun h => by simpa using hq.2 h, 0, fun k _ => by simp only [laws_eqSessionS.l0, if_pos (show (i : Int) < (xs.length : Int) by omega), if_pos (show (0 : Int) ≤ (i : Int) by omega), if_pos (show (i : Int) < (ys.length : Int) by omega), rdS xs i h1, rdS ys i h2, hb, Option.bind_some, Bool.false_eq_true, if_false]⟩)
  refine ⟨b, ?_, hq⟩
  refine Ev.congr (fun k => ?_) hb
  simp only [laws_eqSessionS.f, if_pos (show (xs.length : Int) = (ys.length : Int) by omega)]
 ·refine ⟨false, ev_val (fun k => ?_), ?_⟩
  ·simp only [laws_eqSessionS.f, if_neg (show ¬ ((xs.length : Int) = (ys.length : Int)) by omega)]
  ·constructor
   ·intro h; cases h
   ·intro h; subst h; exact absurd rfl hl
theorem laws_eqMachine.ev (os : List Int) (xs : List S97) (os' : List Int) (xs' : List S97) (ho : os.length ≤ 9223372036854775806) (hn : xs.length ≤ 9223372036854775806) :
  ∃ b, Ev (fun k => laws_eqMachine.f k os xs os' xs') b ∧ (b = true ↔ os = os' ∧ xs = xs') := by
 obtain ⟨b, hb, hq⟩ := laws_eqIntS.ev os os' ho
 obtain ⟨c, hc, hr⟩ := laws_eqSessionS.ev xs xs' hn
 cases b with
 | true =>
  cases c with
  | true => exact ⟨true, Ev.bind hb (Ev.bind hc (ev_val fun _ => by simp)), by simp only [true_iff]; exact ⟨hq.1 rfl, hr.1 rfl⟩⟩
  | false => exact ⟨false, Ev.bind hb (Ev.bind hc (ev_val fun _ => by simp)), by simp only [Bool.false_eq_true, false_iff]; exact fun h => by simpa using hr.2 h.2⟩
 | false => exact ⟨false, Ev.bind hb (ev_val fun _ => by simp), by simp only [Bool.false_eq_true, false_iff]; exact fun h => by simpa using hq.2 h.1⟩
theorem laws_eqMachine.same (os : List Int) (xs : List S97) (ho : os.length ≤ 9223372036854775806) (hn : xs.length ≤ 9223372036854775806) : Ev (fun k => laws_eqMachine.f k os xs os xs) true := by
 obtain ⟨b, hb, hq⟩ := laws_eqMachine.ev os xs os xs ho hn
 exact ev_eq hb (hq.2 ⟨rfl, rfl⟩)
def marksI (n : Nat) (a : Int) : List Int := (List.range n).map fun (i : Nat) => a + 1 * (i : Int)
theorem marksI_length (n : Nat) (a : Int) : (marksI n a).length = n := by simp [marksI]
theorem laws_markIntS.ev (xs : List Int) (a : Int) (hn : xs.length ≤ 1048576000) (h0 : 0 ≤ a) (h1 : a ≤ 1048576000000) : Ev (fun k => laws_markIntS.f k xs a) (a + 1 * xs.length, marksI xs.length a) := by
 have := mark_loop (fun k ys a i => laws_markIntS.l0 k ys a i) 1 (fun a => a) ⟨by omega, by omega⟩
  (fun k xs a => by simp only [laws_markIntS.l0, if_neg (show ¬ ((xs.length : Int) < (xs.length : Int)) by omega)])
  (fun xs a i k hi hi2 ha ha' => by
   simp only [laws_markIntS.l0, if_pos (show (i : Int) < (xs.length : Int) by omega), if_pos (show (0 : Int) ≤ (i : Int) by omega), Int.toNat_natCast, w64 (show -9223372036854775808 ≤ (i : Int) + 1 by omega) (by omega), w64 (show -9223372036854775808 ≤ a + 1 by omega) (by omega)])
  xs a hn h0 h1
 exact this
def markS (a : Int) : S97 := ⟨a, a + 1, ⟨Int.tmod (a + 2) 3 == 0, a + 3⟩⟩
def marksS (n : Nat) (a : Int) : List S97 := (List.range n).map fun (i : Nat) => markS (a + 4 * (i : Int))
theorem marksS_length (n : Nat) (a : Int) : (marksS n a).length = n := by simp [marksS]
theorem laws_markSessionS.ev (xs : List S97) (a : Int) (hn : xs.length ≤ 1048576000) (h0 : 0 ≤ a) (h1 : a ≤ 1048576000000) : Ev (fun k => laws_markSessionS.f k xs a) (a + 4 * xs.length, marksS xs.length a) := by
 have := mark_loop (fun k ys a i => laws_markSessionS.l0 k ys a i) 4 markS ⟨by omega, by omega⟩
  (fun k xs a => by simp only [laws_markSessionS.l0, if_neg (show ¬ ((xs.length : Int) < (xs.length : Int)) by omega)])
  (fun xs a i k hi hi2 ha ha' => by
   have r1 : ∀ (ys : List S97) (v : S97), i < ys.length → rd_T97 (ys.set i v) (i : Int) = v := fun ys v h => by
    rw [rdS _ i (by simpa using h)]; simp
   simp only [laws_markSessionS.l0, if_pos (show (i : Int) < (xs.length : Int) by omega), if_pos (show (0 : Int) ≤ (i : Int) by omega), Int.toNat_natCast, w64 (show -9223372036854775808 ≤ (i : Int) + 1 by omega) (by omega), w64 (show -9223372036854775808 ≤ a + 1 by omega) (by omega), w64 (show -9223372036854775808 ≤ a + 1 + 1 by omega) (by omega), w64 (show -9223372036854775808 ≤ a + 1 + 1 + 1 by omega) (by omega), w64 (show -9223372036854775808 ≤ a + 1 + 1 + 1 + 1 by omega) (by omega), Option.bind_some]
   rw [r1 xs _ hi]
   simp only []
   rw [r1 _ _ (by simpa using hi)]
   simp only []
   rw [r1 _ _ (by simpa using hi)]
   simp only [List.set_set, markS, show a + 1 + 1 = a + 2 by omega, show a + 2 + 1 = a + 3 by omega, show a + 3 + 1 = a + 4 by omega])
  xs a hn h0 h1
 exact this
theorem laws_markMachine.ev (os : List Int) (xs : List S97) (a : Int) (ho : os.length ≤ 1048576000) (hn : xs.length ≤ 1048576000) (h0 : 0 ≤ a) (h1 : a ≤ 1048576000) :
  Ev (fun k => laws_markMachine.f k os xs a) (a + 1 * os.length + 4 * xs.length, marksI os.length a, marksS xs.length (a + 1 * os.length)) :=
 Ev.bind (laws_markIntS.ev os a ho h0 (by omega)) (Ev.bind (laws_markSessionS.ev xs (a + 1 * os.length) hn (by omega) (by omega)) (Ev.now _))
theorem laws_heldIntS.ev (n : Nat) (a : Int) (hn : n ≤ 1048576000) (h0 : 0 ≤ a) (h1 : a ≤ 1048576000000) : Ev (fun k => laws_heldIntS.f k (marksI n a) a) (a + 1 * n) := by
 have := held_loop (fun k a' i => laws_heldIntS.l0 k (marksI n a) a' i) 1 (fun a => a) ⟨by omega, by omega⟩ (marksI n a)
  (fun k a' => by simp only [laws_heldIntS.l0, if_neg (show ¬ (((marksI n a).length : Int) < ((marksI n a).length : Int)) by omega)])
  (fun a' i k hi hi2 ha ha' hx => by
   simp only [laws_heldIntS.l0, if_pos (show (i : Int) < ((marksI n a).length : Int) by omega), if_pos (show (0 : Int) ≤ (i : Int) by omega), rd_get (marksI n a) i hi, if_pos hx, w64 (show -9223372036854775808 ≤ (i : Int) + 1 by omega) (by omega), w64 (show -9223372036854775808 ≤ a' + 1 by omega) (by omega)])
  a (by rw [marksI_length]; exact hn) h0 h1 (by rw [marksI_length]; rfl)
 rw [marksI_length] at this
 exact this
theorem laws_heldSessionS.ev (n : Nat) (a : Int) (hn : n ≤ 1048576000) (h0 : 0 ≤ a) (h1 : a ≤ 1048576000000) : Ev (fun k => laws_heldSessionS.f k (marksS n a) a) (a + 4 * n) := by
 have := held_loop (fun k a' i => laws_heldSessionS.l0 k (marksS n a) a' i) 4 markS ⟨by omega, by omega⟩ (marksS n a)
  (fun k a' => by simp only [laws_heldSessionS.l0, if_neg (show ¬ (((marksS n a).length : Int) < ((marksS n a).length : Int)) by omega)])
  (fun a' i k hi hi2 ha ha' hx => by
   simp only [laws_heldSessionS.l0, if_pos (show (i : Int) < ((marksS n a).length : Int) by omega), if_pos (show (0 : Int) ≤ (i : Int) by omega), rdS (marksS n a) i hi, hx, markS, w64 (show -9223372036854775808 ≤ (i : Int) + 1 by omega) (by omega), w64 (show -9223372036854775808 ≤ a' + 1 by omega) (by omega), w64 (show -9223372036854775808 ≤ a' + 2 by omega) (by omega), w64 (show -9223372036854775808 ≤ a' + 3 by omega) (by omega), w64 (show -9223372036854775808 ≤ a' + 4 by omega) (by omega), if_true,
    show a' + 1 + 1 = a' + 2 by omega, show a' + 2 + 1 = a' + 3 by omega, show a' + 3 + 1 = a' + 4 by omega, bne_self_eq_false, Bool.false_eq_true, if_false])
  a (by rw [marksS_length]; exact hn) h0 h1 (by rw [marksS_length]; rfl)
 rw [marksS_length] at this
 exact this
theorem laws_heldMachine.ev (n m : Nat) (a : Int) (ho : n ≤ 1048576000) (hn : m ≤ 1048576000) (h0 : 0 ≤ a) (h1 : a ≤ 1048576000) :
  Ev (fun k => laws_heldMachine.f k (marksI n a) (marksS m (a + 1 * n)) a) (a + 1 * n + 4 * m) := by
 refine Ev.bind (laws_heldIntS.ev n a ho h0 (by omega)) ?_
 simp only [if_neg (show ¬ (a + 1 * (n : Int) < 0) by omega)]
 refine Ev.bind (laws_heldSessionS.ev m (a + 1 * n) hn (by omega) (by omega)) ?_
 simp only [if_neg (show ¬ (a + 1 * (n : Int) + 4 * (m : Int) < 0) by omega)]
 exact Ev.now _
theorem FnExactParseMachine : FnExactParseMachinePure := by
 intro s hs
 refine Ev.rounds (g := fun k => laws_FnExactParseMachine.f k s) ?_
 by_cases hb : (s.size : Int) > 1048576
 ·simp only [laws_FnExactParseMachine.f, if_pos hb]; exact Ev.now _
 simp only [laws_FnExactParseMachine.f, if_neg hb]
 have hl : s.data.toList.length ≤ 1048576 := by rw [Array.length_toList]; have : s.data.size = s.size := rfl; omega
 have hPl : (spl s.data.toList 32).length ≤ s.data.toList.length + 1 := (splA_len s.data.toList 32 []).2
 have h0l := splM_le s.data.toList 32 0
 have hoI : (osI s.data.toList).length ≤ 1048576 := by unfold osI dgI; rw [List.length_map]; omega
 have hxI : (xsI s.data.toList).length ≤ 1048577 := by unfold xsI wordsM; rw [List.length_map, List.length_drop]; omega
 obtain ⟨bS, sv, qS⟩ := spec_IsValidMachine.ev (osS s.data.toList) (xsS s.data.toList) (by unfold osS dgI; rw [List.length_map, List.length_take]; omega) (by unfold xsS; rw [List.length_map, List.length_take]; omega)
 obtain ⟨bI, iv, qI⟩ := impl_IsValidMachine.ev (osI s.data.toList) (xsI s.data.toList) (by omega) (by omega)
 have hS := spec_ParseMachine.ev s.data.toList hl bS sv qS
 have hI := impl_ParseMachine.ev s.data.toList hl bI iv qI
 rw [str_str] at hS hI
 rw [parM_eq s.data.toList bS bI qS qI] at hS
 have hlen : (resI bI (wordsM s.data.toList) (osI s.data.toList) (xsI s.data.toList) s.data.toList).1.length ≤ 1048577 ∧ (resI bI (wordsM s.data.toList) (osI s.data.toList) (xsI s.data.toList) s.data.toList).2.1.length ≤ 1048577 := by
  unfold resI finM
  split
  ·simp
  ·split
   ·simp
   ·split
    ·exact ⟨Nat.le_trans hoI (by decide), hxI⟩
    ·simp
 generalize resI bI (wordsM s.data.toList) (osI s.data.toList) (xsI s.data.toList) s.data.toList = q at hS hI hlen
 obtain ⟨os, xs, t⟩ := q
 obtain ⟨hlo, hlx⟩ := hlen
 simp only at hlo hlx
 refine Ev.bind hS (Ev.bind hI (Ev.bind (laws_eqMachine.same os xs (by omega) (by omega)) ?_))
 simp only [if_true, bne_self_eq_false]
 refine ev_shift ?_
 simp only [laws_FnExactParseMachine.j0, Bool.false_eq_true, if_false]
 refine Ev.bind (laws_markMachine.ev os xs 1 (by omega) (by omega) (by omega) (by omega)) (Ev.bind (laws_heldMachine.ev os.length xs.length 1 (by omega) (by omega) (by omega) (by omega)) ?_)
 simp only [if_neg (show ¬ (1 + 1 * (os.length : Int) + 4 * (xs.length : Int) < 0) by omega), if_true]
 refine Ev.bind hI (Ev.bind (laws_eqMachine.same os xs (by omega) (by omega)) ?_)
 simp only [if_true, bne_self_eq_false]
 refine ev_shift ?_
 simp only [laws_FnExactParseMachine.j1, Bool.false_eq_true, if_false]
 refine Ev.bind (laws_heldMachine.ev os.length xs.length 1 (by omega) (by omega) (by omega) (by omega)) ?_
 simp only [if_neg (show ¬ (1 + 1 * (os.length : Int) + 4 * (xs.length : Int) < 0) by omega), if_true]
 exact Ev.now _
end Go.Proofs.YtcikahnmiiichaaDoor.Pure
