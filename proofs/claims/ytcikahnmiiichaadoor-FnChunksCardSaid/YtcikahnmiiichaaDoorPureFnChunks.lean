/- For every code the law FnChunks returns true; no conditions. -/
import Derived.Test.YtcikahnmiiichaaDoorQFnChunks
import Derived.Test.YtcikahnmiiichaaDoorKCom
set_option linter.unusedVariables false
set_option linter.unusedSimpArgs false
namespace Go.Proofs.YtcikahnmiiichaaDoor.Pure
open Go.RowKit Go.Proofs.YtcikahnmiiichaaDoor.K Go.Proofs.YtcikahnmiiichaaDoorW.PrintWords Go.Proofs.YtcikahnmiiichaaDoorW.PrintLast
open Go.Proofs.YtcikahnmiiichaaDoor.Opens
open Go.Proofs.YtcikahnmiiichaaDoor.Com
open Go.Proofs.YtcikahnmiiichaaDoor.Given


theorem and255 (x : Int) : 0 ≤ Go.bits .and .i64 x 255 ∧ Go.bits .and .i64 x 255 ≤ 255 := by
 have h : (BitVec.ofInt IntKind.i64.bits x &&& BitVec.ofInt IntKind.i64.bits 255).toNat ≤ 255 := by
  rw [BitVec.toNat_and]
  refine Nat.le_trans Nat.and_le_right ?_
  decide
 simp only [Go.bits]
 rw [Go.IntKind.wrap_i64]
 omega
def CurI (i : Int) : Prop := 0 ≤ i ∧ i ≤ 1048576
theorem cur0 : CurI 0 := ⟨by omega, by omega⟩
theorem spec_l1New.ev (c : List Int) (hc : c.length ≤ 1048576) : ∃ h, Ev (fun k => spec_l1New.f k c) (c, 0, h) := by
 have key : ∀ d i : Nat, i + d = c.length → ∀ h, ∃ h', Ev (fun k => spec_l1New.l0 k c h (i : Int)) (c, 0, h') := by
  intro d
  induction d with
  | zero =>
   intro i hi h
   refine ⟨h, ev_shift (ev_val fun k => ?_)⟩
   simp only [spec_l1New.l0, if_neg (show ¬ ((i : Int) < (c.length : Int)) by omega)]
  | succ d ih =>
   intro i hi h
   by_cases h4 : (i : Int) < 4000
   ·obtain ⟨h', hh⟩ := ih (i + 1) (by omega) (Go.bits .and .i64 (wrap64 ((wrap64 ((wrap64 (h * 131)) + (wrap64 (rd c (i : Int))))) + 7)) 1073741823)
    rw [show ((i + 1 : Nat) : Int) = (i : Int) + 1 by omega] at hh
    refine ⟨h', ev_shift (ev_to ⟨0, fun k _ => ?_⟩ hh)⟩
    simp only [spec_l1New.l0, if_pos (show (i : Int) < (c.length : Int) by omega), if_pos h4, if_pos (show (0 : Int) ≤ (i : Int) by omega), w64 (show -9223372036854775808 ≤ (i : Int) + 1 by omega) (by omega)]
   ·refine ⟨h, ev_shift (ev_val fun k => ?_)⟩
    simp only [spec_l1New.l0, if_pos (show (i : Int) < (c.length : Int) by omega), if_neg h4]
 exact key c.length 0 (by omega) _
theorem spec_l1Byte.is (c : List Int) (hc : c.length ≤ 1048576) (i h : Int) (hi : CurI i) : ∃ x i' h', spec_l1Byte.f c i h = some (x, i', h') ∧ (0 ≤ x ∧ x ≤ 255) ∧ CurI i' := by
 obtain ⟨h0, h1⟩ := hi
 rw [spec_l1Byte.f]
 by_cases hl : i < (c.length : Int)
 ·rw [if_pos hl, if_pos h0, w64 (show -9223372036854775808 ≤ i + 1 by omega) (by omega)]
  exact ⟨_, _, _, rfl, and255 _, by omega, by omega⟩
 ·rw [if_neg hl]
  exact ⟨_, _, _, rfl, and255 _, h0, h1⟩
theorem spec_l1Below.is (c : List Int) (hc : c.length ≤ 1048576) (i h n : Int) (hi : CurI i) : ∃ x i' h', spec_l1Below.f c i h n = some (x, i', h') ∧ (n ≤ 0 → x = 0) ∧ (0 < n → 0 ≤ x ∧ x < n) ∧ CurI i' := by
 rw [spec_l1Below.f]
 by_cases h0 : n ≤ 0
 ·rw [if_pos h0]
  exact ⟨_, _, _, rfl, fun _ => rfl, fun h => absurd h (by omega), hi⟩
 rw [if_neg h0]
 have hn : 0 < n := by omega
 have hz : ¬ (n = 0) := by omega
 have md : ∀ x : Int, 0 ≤ x → 0 ≤ Int.tmod x n ∧ Int.tmod x n < n := fun x hx => by
  rw [tmod_pos x n hx]; exact ⟨Int.emod_nonneg _ hz, Int.emod_lt_of_pos _ hn⟩
 by_cases h1 : n ≤ 256
 ·rw [if_pos h1]
  obtain ⟨x, i', h', e, hx, hi'⟩ := spec_l1Byte.is c hc i h hi
  rw [e]
  simp only [Option.bind_some, if_neg hz]
  exact ⟨_, _, _, rfl, fun h => absurd h h0, fun _ => md x hx.1, hi'⟩
 ·rw [if_neg h1]
  obtain ⟨x, i1, g1, e1, hx, hi1⟩ := spec_l1Byte.is c hc i h hi
  obtain ⟨y, i2, g2, e2, hy, hi2⟩ := spec_l1Byte.is c hc i1 g1 hi1
  obtain ⟨z, i3, g3, e3, hz3, hi3⟩ := spec_l1Byte.is c hc i2 g2 hi2
  obtain ⟨w, i4, g4, e4, hw, hi4⟩ := spec_l1Byte.is c hc i3 g3 hi3
  simp only [e1, e2, e3, e4, Option.bind_some, if_neg hz]
  refine ⟨_, _, _, rfl, fun h => absurd h h0, fun _ => md _ ?_, hi4⟩
  simp only [wrap64]
  omega
theorem spec_l1Once.is (c : List Int) (hc : c.length ≤ 1048576) (i h n : Int) (hi : CurI i) : ∃ b i' h', spec_l1Once.f c i h n = some (b, i', h') ∧ CurI i' := by
 obtain ⟨x, i', h', e, _, _, hi'⟩ := spec_l1Below.is c hc i h n hi
 rw [spec_l1Once.f, e]
 exact ⟨_, _, _, rfl, hi'⟩
theorem spec_l1In.val (a b c : Int) : spec_l1In.f a b c = some (decide (b ≤ a ∧ a ≤ c)) := by
 unfold spec_l1In.f
 by_cases h : b ≤ a <;> simp [h]
def ckStep (c b : Int) : Int := (c * 257 + b + 1) % 9949
def cks (l : List Int) : Int := l.foldl ckStep 5
theorem ckStep_range (c b : Int) : 0 ≤ ckStep c b ∧ ckStep c b ≤ 9948 := by unfold ckStep; omega
theorem ckFold_range (l : List Int) : ∀ c, 0 ≤ c → c ≤ 9948 → 0 ≤ l.foldl ckStep c ∧ l.foldl ckStep c ≤ 9948 := by
 induction l with
 | nil => intro c h0 h1; exact ⟨h0, h1⟩
 | cons b l ih => intro c h0 h1; exact ih _ (ckStep_range c b).1 (ckStep_range c b).2
theorem cks_range (l : List Int) : 0 ≤ cks l ∧ cks l ≤ 9948 := ckFold_range l 5 (by omega) (by omega)
theorem spec_Checksum.step (c b : Int) (h0 : 0 ≤ c) (h1 : c ≤ 9948) (b0 : 0 ≤ b) (b1 : b ≤ 255) : Int.tmod (wrap64 ((wrap64 ((wrap64 (c * 257)) + (wrap64 b))) + 1)) 9949 = ckStep c b := by
 rw [w64 (x := c * 257) (by omega) (by omega), w64 (x := b) (by omega) (by omega), w64 (x := c * 257 + b) (by omega) (by omega), w64 (x := c * 257 + b + 1) (by omega) (by omega), tmod_pos _ _ (by omega)]
 rfl
theorem spec_Checksum.ev (s : ByteArray) (hn : s.size ≤ 9223372036854775806) : Ev (fun k => spec_Checksum.f k s) (cks (bytesOf s)) := by
 have key : ∀ (d i : Nat) (c : Int), i + d = s.size → 0 ≤ c → c ≤ 9948 → Ev (fun k => spec_Checksum.l0 k s c (i : Int)) (((bytesOf s).drop i).foldl ckStep c) := by
  intro d
  induction d with
  | zero =>
   intro i c h h0 h1
   refine ev_shift ?_
   simp only [spec_Checksum.l0, if_neg (show ¬ ((i : Int) < (s.size : Int)) by omega)]
   exact ev_some (by rw [bytes_end s i (by omega)]; rfl)
  | succ d ih =>
   intro i c h h0 h1
   have hb := bt_range s (i : Int)
   have := ih (i + 1) (ckStep c (bt s (i : Int))) (by omega) (ckStep_range _ _).1 (ckStep_range _ _).2
   refine ev_shift ?_
   simp only [spec_Checksum.l0, if_pos (show (i : Int) < (s.size : Int) by omega), if_pos (show (0 : Int) ≤ (i : Int) by omega), w64 (show -9223372036854775808 ≤ (i : Int) + 1 by omega) (by omega),
    spec_Checksum.step c _ h0 h1 hb.1 hb.2]
   rw [bytes_cons s i (by omega), List.foldl_cons]
   simpa using this
 simpa [spec_Checksum.f, cks] using key s.size 0 5 (by omega) (by omega) (by omega)
def str (l : List UInt8) : ByteArray := ⟨l.toArray⟩
theorem str_append (a b : List UInt8) : str a ++ str b = str (a ++ b) := by
 apply ByteArray.ext
 simp [str]
theorem str_size (l : List UInt8) : (str l).size = l.length := by simp [str, ByteArray.size]
theorem str_toList (l : List UInt8) : (str l).toList = l := by rw [toList_data]; simp [str]
theorem toList_inj' {a b : ByteArray} (h : a.toList = b.toList) : a = b := bytesOf_inj (bytesOf_congr h)
def digs (m : Nat) : List UInt8 := if m = 0 then [] else Lib.decDigits m
theorem digs_step (m : Nat) (h : 0 < m) : digs m = digs (m / 10) ++ [UInt8.ofNat (48 + m % 10)] := by
 unfold digs
 rw [if_neg (by omega), Lib.decDigits]
 by_cases h9 : m < 10
 ·rw [dif_pos h9, if_pos (by omega), Nat.mod_eq_of_lt h9]; rfl
 ·rw [dif_neg h9, if_neg (by omega)]
theorem tmod10 (x : Int) : (0 ≤ x → Int.tmod x 10 = ((x.natAbs % 10 : Nat) : Int) ∧ Int.tdiv x 10 = ((x.natAbs / 10 : Nat) : Int)) ∧ (x < 0 → Int.tmod x 10 = -((x.natAbs % 10 : Nat) : Int) ∧ Int.tdiv x 10 = -((x.natAbs / 10 : Nat) : Int)) := by
 constructor
 ·intro h
  obtain ⟨n, rfl⟩ := Int.eq_ofNat_of_zero_le h
  exact ⟨rfl, rfl⟩
 ·intro h
  obtain ⟨n, rfl⟩ := Int.eq_negSucc_of_lt_zero h
  exact ⟨rfl, rfl⟩
theorem strOfNums_digit (d : Nat) (h : d < 10) : strOfNums ([(wrap64 (48 + (d : Int))) % 256] : List Int) = str [UInt8.ofNat (48 + d)] := by
 rw [w64 (by omega) (by omega)]
 apply ByteArray.ext
 apply Array.ext'
 rw [strOfNums_data]
 have e : ((48 + (d : Int)) % 256).toNat = 48 + d := by omega
 simp [str, e]
theorem itoa_zero : Lib.itoa 0 = [48] := by unfold Lib.itoa Lib.decDigits; simp
theorem itoa_digs (a : Int) (h : a ≠ 0) : Lib.itoa a = (if a < 0 then [45] else []) ++ digs a.natAbs := by
 have hn : ¬ a.natAbs = 0 := by omega
 unfold Lib.itoa digs
 by_cases c : a < 0
 ·rw [if_pos c, if_pos c, if_neg hn]; rfl
 ·rw [if_neg c, if_neg c, if_neg hn, show a.toNat = a.natAbs by omega]; rfl
theorem digs_len : ∀ n m : Nat, m < 10 ^ n → (digs m).length ≤ n := by
 intro n
 induction n with
 | zero =>
  intro m h; obtain rfl : m = 0 := by simpa using h
  simp [digs]
 | succ n ih =>
  intro m h
  by_cases h0 : m = 0
  ·subst h0; simp [digs]
  ·rw [digs_step m (by omega), List.length_append]
   have := ih (m / 10) (by rw [Nat.pow_succ] at h; omega)
   simp only [List.length_cons, List.length_nil]
   omega
theorem itoa_len (a : Int) (h0 : -9223372036854775808 ≤ a) (h1 : a ≤ 9223372036854775807) : (Lib.itoa a).length ≤ 20 := by
 by_cases h : a = 0
 ·subst h; rw [itoa_zero]; simp
 ·rw [itoa_digs a h, List.length_append]
  have h2 := digs_len 19 a.natAbs (by omega)
  have h3 : (if a < 0 then ([45] : List UInt8) else []).length ≤ 1 := by split <;> simp
  omega
theorem str_lit (l : List UInt8) : (⟨l.toArray⟩ : ByteArray) = str l := rfl
theorem spec_FormatInt.l0ev (neg : Bool) : ∀ s : Int × List UInt8, (s.2.length + s.1.natAbs ≤ 9223372036854775808 ∧ (s.2.length = 0 ∨ s.2.length + s.1.natAbs ≤ 9223372036854775800)) →
  Ev (fun k => spec_FormatInt.l0 k s.1 (str s.2) neg) (str ((if neg then [45] else []) ++ digs s.1.natAbs ++ s.2)) := by
 refine loop_ev (fun k (s : Int × List UInt8) => spec_FormatInt.l0 k s.1 (str s.2) neg) _ (fun s => s.1.natAbs) (fun s => str ((if neg then [45] else []) ++ digs s.1.natAbs ++ s.2)) ?_
 rintro ⟨x, l⟩ ⟨h1, h2⟩
 simp only at h1 h2 ⊢
 by_cases hx : x = 0
 ·subst hx
  refine .inl (ev_shift ?_)
  simp only [spec_FormatInt.l0, if_true, str_size]
  cases neg with
  | false => exact ev_val fun _ => by simp [digs]
  | true =>
   simp only [if_true, if_pos (show 1 + l.length ≤ 9223372036854775807 by omega)]
   exact ev_val fun _ => by rw [show (⟨#[45]⟩ : ByteArray) = str [45] from rfl, str_append]; simp [digs]
 ·refine .inr ⟨(Int.tdiv x 10, UInt8.ofNat (48 + x.natAbs % 10) :: l), ?_, ?_, ?_, ?_⟩
  ·have ht := tmod10 x
   simp only [List.length_cons]
   have : (Int.tdiv x 10).natAbs = x.natAbs / 10 := by rcases (show x < 0 ∨ 0 ≤ x by omega) with c | c; (have := (ht.2 c).2; omega); (have := (ht.1 c).2; omega)
   rw [this]
   omega
  ·have ht := tmod10 x
   have : (Int.tdiv x 10).natAbs = x.natAbs / 10 := by rcases (show x < 0 ∨ 0 ≤ x by omega) with c | c; (have := (ht.2 c).2; omega); (have := (ht.1 c).2; omega)
   simp only [this]
   omega
  ·have ht := tmod10 x
   have : (Int.tdiv x 10).natAbs = x.natAbs / 10 := by rcases (show x < 0 ∨ 0 ≤ x by omega) with c | c; (have := (ht.2 c).2; omega); (have := (ht.1 c).2; omega)
   simp only [this]
   rw [digs_step x.natAbs (by omega)]
   simp
  ·intro r hr
   refine ev_shift ?_
   have ht := tmod10 x
   have e2 : wrap64 (Int.tdiv x 10) = Int.tdiv x 10 := w64 (by rcases (show x < 0 ∨ 0 ≤ x by omega) with c | c; (have := (ht.2 c).2; omega); (have := (ht.1 c).2; omega)) (by rcases (show x < 0 ∨ 0 ≤ x by omega) with c | c; (have := (ht.2 c).2; omega); (have := (ht.1 c).2; omega))
   have e3 : ∀ d : Nat, d < 10 → (strOfNums ([(wrap64 (48 + (d : Int))) % 256] : List Int)) ++ str l = str (UInt8.ofNat (48 + d) :: l) := fun d hd => by rw [strOfNums_digit d hd, str_append]; rfl
   have e4 : ∀ d : Nat, d < 10 → (strOfNums ([(wrap64 (48 + (d : Int))) % 256] : List Int)).size + (str l).size ≤ 9223372036854775807 := fun d hd => by rw [strOfNums_digit d hd, str_size, str_size]; simp only [List.length_cons, List.length_nil]; omega
   have hd : x.natAbs % 10 < 10 := by omega
   simp only [spec_FormatInt.l0, if_neg hx, e2]
   by_cases c : Int.tmod x 10 < 0
   ·have hm : Int.tmod x 10 = -((x.natAbs % 10 : Nat) : Int) := by rcases (show x < 0 ∨ 0 ≤ x by omega) with c' | c'; exact (ht.2 c').1; (have := (ht.1 c').1; omega)
    have e1 : wrap64 (-(Int.tmod x 10)) = ((x.natAbs % 10 : Nat) : Int) := by rw [hm, w64 (by omega) (by omega)]; omega
    simp only [if_pos c, e1, Option.bind_some, if_pos (e4 _ hd), e3 _ hd]
    exact hr
   ·have hm : Int.tmod x 10 = ((x.natAbs % 10 : Nat) : Int) := by rcases (show x < 0 ∨ 0 ≤ x by omega) with c' | c'; (have := (ht.2 c').1; omega); exact (ht.1 c').1
    rw [hm] at c
    simp only [hm, if_neg c, Option.bind_some, if_pos (e4 _ hd), e3 _ hd]
    exact hr
theorem spec_FormatInt.ev (a : Int) (h0 : -9223372036854775808 ≤ a) (h1 : a ≤ 9223372036854775807) : Ev (fun k => spec_FormatInt.f k a) (str (Lib.itoa a)) := by
 by_cases ha : a = 0
 ·subst ha
  simp only [spec_FormatInt.f, if_true, itoa_zero]
  exact Ev.now _
 ·simp only [spec_FormatInt.f, if_neg ha]
  have h := spec_FormatInt.l0ev (decide (a < 0)) (a, []) ⟨by simp only [List.length_nil]; omega, .inl rfl⟩
  refine ev_eq h ?_
  rw [itoa_digs a ha]
  simp only [List.append_nil, decide_eq_true_eq]
def valD (l : List Int) : Int := l.foldl (fun n b => if 48 ≤ b ∧ b ≤ 57 then n * 10 + (b - 48) else n) 0
def cntD (l : List Int) : Int := l.foldl (fun n b => if 48 ≤ b ∧ b ≤ 57 then n + 1 else n) 0
theorem valD_snoc (l : List Int) (b : Int) : valD (l ++ [b]) = if 48 ≤ b ∧ b ≤ 57 then valD l * 10 + (b - 48) else valD l := by simp [valD, List.foldl_append]
theorem cntD_snoc (l : List Int) (b : Int) : cntD (l ++ [b]) = if 48 ≤ b ∧ b ≤ 57 then cntD l + 1 else cntD l := by simp [cntD, List.foldl_append]
theorem fold_bound : ∀ (l : List Int) (n : Int), 0 ≤ n → 0 ≤ l.foldl (fun n b => if 48 ≤ b ∧ b ≤ 57 then n * 10 + (b - 48) else n) n ∧ l.foldl (fun n b => if 48 ≤ b ∧ b ≤ 57 then n * 10 + (b - 48) else n) n < (n + 1) * 10 ^ l.length := by
 intro l
 induction l with
 | nil => intro n h; simp; omega
 | cons b l ih =>
  intro n h
  have hP : (0 : Int) ≤ 10 ^ l.length := Int.le_of_lt (Int.pow_pos (by decide))
  rw [List.foldl_cons, List.length_cons, Int.pow_succ]
  by_cases hb : 48 ≤ b ∧ b ≤ 57
  ·rw [if_pos hb]
   obtain ⟨h1, h2⟩ := ih (n * 10 + (b - 48)) (by omega)
   refine ⟨h1, Int.lt_of_lt_of_le h2 ?_⟩
   have h3 : (n * 10 + (b - 48) + 1) * 10 ^ l.length ≤ ((n + 1) * 10) * 10 ^ l.length := Int.mul_le_mul_of_nonneg_right (by omega) hP
   calc (n * 10 + (b - 48) + 1) * 10 ^ l.length ≤ ((n + 1) * 10) * 10 ^ l.length := h3
    _ = (n + 1) * (10 ^ l.length * 10) := by rw [Int.mul_assoc, Int.mul_comm 10]
  ·rw [if_neg hb]
   obtain ⟨h1, h2⟩ := ih n h
   refine ⟨h1, Int.lt_of_lt_of_le h2 ?_⟩
   have h3 : (n + 1) * 10 ^ l.length ≤ ((n + 1) * 10) * 10 ^ l.length := Int.mul_le_mul_of_nonneg_right (by omega) hP
   calc (n + 1) * 10 ^ l.length ≤ ((n + 1) * 10) * 10 ^ l.length := h3
    _ = (n + 1) * (10 ^ l.length * 10) := by rw [Int.mul_assoc, Int.mul_comm 10]
theorem pow10_le {n : Nat} (h : n ≤ 11) : (10 : Int) ^ n ≤ 100000000000 := by
 have : n = 0 ∨ n = 1 ∨ n = 2 ∨ n = 3 ∨ n = 4 ∨ n = 5 ∨ n = 6 ∨ n = 7 ∨ n = 8 ∨ n = 9 ∨ n = 10 ∨ n = 11 := by omega
 rcases this with h | h | h | h | h | h | h | h | h | h | h | h <;> subst h <;> decide
theorem valD_bound (l : List Int) (h : l.length ≤ 11) : 0 ≤ valD l ∧ valD l < 100000000000 := by
 obtain ⟨h1, h2⟩ := fold_bound l 0 (by omega)
 refine ⟨h1, Int.lt_of_lt_of_le h2 ?_⟩
 rw [Int.zero_add, Int.one_mul]
 exact pow10_le h
theorem cnt_bound : ∀ (l : List Int) (n : Int), n ≤ l.foldl (fun n b => if 48 ≤ b ∧ b ≤ 57 then n + 1 else n) n ∧ l.foldl (fun n b => if 48 ≤ b ∧ b ≤ 57 then n + 1 else n) n ≤ n + l.length := by
 intro l
 induction l with
 | nil => intro n; simp
 | cons b l ih =>
  intro n
  rw [List.foldl_cons, List.length_cons]
  by_cases hb : 48 ≤ b ∧ b ≤ 57
  ·rw [if_pos hb]; have := ih (n + 1); omega
  ·rw [if_neg hb]; have := ih n; omega
theorem cnt_all : ∀ (l : List Int) (n : Int), (∀ b ∈ l, 48 ≤ b ∧ b ≤ 57) → l.foldl (fun n b => if 48 ≤ b ∧ b ≤ 57 then n + 1 else n) n = n + l.length := by
 intro l
 induction l with
 | nil => intro n _; simp
 | cons b l ih =>
  intro n h
  rw [List.foldl_cons, List.length_cons, if_pos (h b (by simp)), ih (n + 1) (fun c hc => h c (by simp [hc]))]
  omega
theorem cntD_all {l : List Int} (h : ∀ b ∈ l, 48 ≤ b ∧ b ≤ 57) : cntD l = l.length := by rw [cntD, cnt_all l 0 h]; omega
theorem valD_minus (l : List Int) : valD (45 :: l) = valD l := by simp [valD]
theorem cntD_minus (l : List Int) : cntD (45 :: l) = cntD l := by simp [cntD]
def nums (l : List UInt8) : List Int := l.map fun b => (b.toNat : Int)
theorem bytesOf_str (l : List UInt8) : bytesOf (str l) = nums l := by simp [bytesOf, str, nums]
theorem digit_num (d : Nat) (h : d < 10) : nums [UInt8.ofNat (48 + d)] = [48 + (d : Int)] := by
 simp only [nums, List.map_cons, List.map_nil]
 rw [UInt8.toNat_ofNat_of_lt' (by simp [UInt8.size]; omega)]
 simp
theorem digs_val (m : Nat) : valD (nums (digs m)) = (m : Int) ∧ (∀ b ∈ nums (digs m), 48 ≤ b ∧ b ≤ 57) := by
 induction m using Nat.strongRecOn with
 | ind m ih =>
  by_cases h0 : m = 0
  ·subst h0; simp [digs, nums, valD]
  ·obtain ⟨h1, h2⟩ := ih (m / 10) (by omega)
   have hd : m % 10 < 10 := by omega
   have e : nums (digs m) = nums (digs (m / 10)) ++ [48 + ((m % 10 : Nat) : Int)] := by
    rw [digs_step m (by omega), ← digit_num (m % 10) hd]; simp [nums]
   rw [e]
   constructor
   ·rw [valD_snoc, if_pos (by omega), h1]; omega
   ·intro b hb
    rcases List.mem_append.1 hb with hb | hb
    ·exact h2 b hb
    ·rw [List.mem_singleton.1 hb]; omega
theorem dec_val (m : Nat) : valD (nums (Lib.decDigits m)) = (m : Int) ∧ (∀ b ∈ nums (Lib.decDigits m), 48 ≤ b ∧ b ≤ 57) ∧ 1 ≤ (Lib.decDigits m).length := by
 by_cases h0 : m = 0
 ·subst h0; unfold Lib.decDigits; simp [nums, valD]
 ·have h := digs_val m
  have e : digs m = Lib.decDigits m := by rw [digs, if_neg h0]
  rw [e] at h
  refine ⟨h.1, h.2, ?_⟩
  rw [← e, digs_step m (by omega)]
  simp
theorem itoa_bytes (a : Int) : bytesOf (str (Lib.itoa a)) = (if a < 0 then [45] else []) ++ nums (Lib.decDigits a.natAbs) := by
 rw [bytesOf_str]
 unfold Lib.itoa
 by_cases c : a < 0
 ·rw [if_pos c, if_pos c]; rfl
 ·rw [if_neg c, if_neg c, show a.toNat = a.natAbs by omega]; rfl
def negB (l : List Int) : Bool := decide (l.head? = some 45)
def tailB (l : List Int) : List Int := if negB l = true then l.tail else l
def numB (l : List Int) : Int := if negB l = true then -valD l else valD l
theorem valD_tailB (l : List Int) : valD (tailB l) = valD l ∧ cntD (tailB l) = cntD l := by
 unfold tailB
 by_cases h : negB l = true
 ·rw [if_pos h]
  cases l with
  | nil => simp [negB] at h
  | cons b l =>
   obtain rfl : b = 45 := by simpa [negB] using h
   exact ⟨(valD_minus l).symm, (cntD_minus l).symm⟩
 ·rw [if_neg h]; exact ⟨rfl, rfl⟩
def specOk (s : ByteArray) : Prop := cntD (bytesOf s) ≤ 9 ∧ s.size ≤ 10 ∧ str (Lib.itoa (numB (bytesOf s))) = s
def implOk (s : ByteArray) : Prop := 1 ≤ (tailB (bytesOf s)).length ∧ (tailB (bytesOf s)).length ≤ 9 ∧ (∀ b ∈ tailB (bytesOf s), 48 ≤ b ∧ b ≤ 57) ∧ str (Lib.itoa (numB (bytesOf s))) = s
theorem tailB_length (l : List Int) : l.length ≤ (tailB l).length + 1 := by
 unfold tailB
 by_cases h : negB l = true
 ·rw [if_pos h, List.length_tail]; omega
 ·rw [if_neg h]; omega
theorem itoa_tail (a : Int) : tailB (bytesOf (str (Lib.itoa a))) = nums (Lib.decDigits a.natAbs) ∧ numB (bytesOf (str (Lib.itoa a))) = a := by
 obtain ⟨h1, h2, h3⟩ := dec_val a.natAbs
 rw [itoa_bytes]
 by_cases c : a < 0
 ·rw [if_pos c]
  have hn : negB ([45] ++ nums (Lib.decDigits a.natAbs)) = true := by simp [negB]
  refine ⟨by rw [tailB, if_pos hn]; rfl, ?_⟩
  rw [numB, if_pos hn]
  show -valD (45 :: nums (Lib.decDigits a.natAbs)) = a
  rw [valD_minus, h1]; omega
 ·rw [if_neg c, List.nil_append]
  have hn : ¬ negB (nums (Lib.decDigits a.natAbs)) = true := by
   cases hl : nums (Lib.decDigits a.natAbs) with
   | nil => simp [negB]
   | cons b l =>
    have := h2 b (by rw [hl]; simp)
    simp only [negB, List.head?_cons, Option.some.injEq, decide_eq_true_eq]
    omega
  refine ⟨by rw [tailB, if_neg hn], ?_⟩
  rw [numB, if_neg hn, h1]; omega
theorem ok_iff (s : ByteArray) : specOk s ↔ implOk s := by
 constructor
 ·rintro ⟨h1, h2, h3⟩
  have e := itoa_tail (numB (bytesOf s))
  obtain ⟨d1, d2, d3⟩ := dec_val (numB (bytesOf s)).natAbs
  rw [h3] at e
  have hl : (tailB (bytesOf s)).length = (Lib.decDigits (numB (bytesOf s)).natAbs).length := by rw [e.1]; simp [nums]
  have hd : ∀ b ∈ tailB (bytesOf s), 48 ≤ b ∧ b ≤ 57 := by rw [e.1]; exact d2
  refine ⟨by omega, ?_, hd, h3⟩
  have := cntD_all hd
  rw [(valD_tailB (bytesOf s)).2] at this
  omega
 ·rintro ⟨h1, h2, h3, h4⟩
  have := cntD_all h3
  rw [(valD_tailB (bytesOf s)).2] at this
  refine ⟨by omega, ?_, h4⟩
  have := tailB_length (bytesOf s)
  rw [bytesOf_length] at this
  omega
theorem cntD_take (l : List Int) (n : Nat) : cntD (l.take n) ≤ cntD l := by
 have h : cntD l = (l.drop n).foldl (fun n b => if 48 ≤ b ∧ b ≤ 57 then n + 1 else n) (cntD (l.take n)) := by
  conv => lhs; rw [← List.take_append_drop n l]
  rw [cntD, List.foldl_append]; rfl
 rw [h]
 exact (cnt_bound _ _).1
theorem take_bt (s : ByteArray) (i : Nat) (h : i < s.size) : (bytesOf s).take (i + 1) = (bytesOf s).take i ++ [bt s (i : Int)] ∧ 0 ≤ bt s (i : Int) ∧ bt s (i : Int) ≤ 255 := by
 have h2 : i < (bytesOf s).length := by rw [bytesOf_length]; exact h
 have hb : bt s (i : Int) = (bytesOf s)[i] := by rw [← rd_bytesOf, rd_get _ i h2]
 rw [hb, List.take_succ_eq_append_getElem h2]
 exact ⟨rfl, bytes_range s _ (List.getElem_mem h2)⟩
theorem negB_bt (s : ByteArray) : negB (bytesOf s) = if (s.size : Int) > 0 then (bt s 0 == 45) else false := by
 by_cases h : (s.size : Int) > 0
 ·have h2 : 0 < (bytesOf s).length := by rw [bytesOf_length]; omega
  have hb : bt s ((0 : Nat) : Int) = (bytesOf s)[0] := by rw [← rd_bytesOf, rd_get _ 0 h2]
  have hb' : bt s 0 = (bytesOf s)[0] := hb
  rw [if_pos h, hb', negB]
  rw [List.head?_eq_getElem?, List.getElem?_eq_getElem h2]
  simp only [Option.some.injEq]
  by_cases c : (bytesOf s)[0] = 45 <;> simp [c]
 ·rw [if_neg h]
  have : (bytesOf s) = [] := List.eq_nil_of_length_eq_zero (by rw [bytesOf_length]; omega)
  rw [this]; rfl
theorem str_data (p : ByteArray) : str p.data.toList = p := by apply ByteArray.ext; simp [str]
def chunkB (i t : Int) (p : List UInt8) : List UInt8 := Lib.itoa i ++ [47] ++ Lib.itoa t ++ [58] ++ p
def chunkL (i t : Int) (p : List UInt8) : List UInt8 := chunkB i t p ++ [35] ++ Lib.itoa (cks (nums (chunkB i t p)))
theorem spec_l7Chunk.ev (i t : Int) (i0 : -9223372036854775808 ≤ i) (i1 : i ≤ 9223372036854775807) (t0 : -9223372036854775808 ≤ t) (t1 : t ≤ 9223372036854775807) (p : List UInt8) (hp : p.length ≤ 140737488351232) :
  Ev (fun k => spec_l7Chunk.f k i t (str p)) (str (chunkL i t p)) := by
 have l0 := itoa_len i i0 i1
 have l1 := itoa_len t t0 t1
 have hc := cks_range (nums (chunkB i t p))
 have l2 := itoa_len (cks (nums (chunkB i t p))) (by omega) (by omega)
 obtain ⟨K0, g0⟩ := spec_FormatInt.ev i i0 i1
 obtain ⟨K1, g1⟩ := spec_FormatInt.ev t t0 t1
 obtain ⟨K2, g2⟩ := spec_Checksum.ev (str (chunkB i t p)) (by rw [str_size, chunkB]; simp only [List.length_append, List.length_cons, List.length_nil]; omega)
 obtain ⟨K3, g3⟩ := spec_FormatInt.ev (cks (nums (chunkB i t p))) (by omega) (by omega)
 refine ⟨K0 + K1 + K2 + K3, fun k hk => ?_⟩
 have g2' := g2 k (by omega)
 rw [bytesOf_str, chunkB] at g2'
 have g3' := g3 k (by omega)
 rw [chunkB] at g3' l2
 simp only [spec_l7Chunk.f, g0 k (by omega), g1 k (by omega), Option.bind_some, str_lit, str_append, g2', g3', str_size, List.length_append, List.length_cons, List.length_nil]
 simp (disch := omega) only [if_pos]
 rw [chunkL, chunkB]
theorem spec_ParseInt.l0ev (s : ByteArray) (r : Int × Bool) (hr : Ev (fun k => spec_ParseInt.j1 k s (valD ((bytesOf s).take 11)) (cntD ((bytesOf s).take 11)) ((min s.size 11 : Nat) : Int) false) r) :
  ∀ d i : Nat, i + d = min s.size 11 → Ev (fun k => spec_ParseInt.l0 k s (valD ((bytesOf s).take i)) (cntD ((bytesOf s).take i)) (i : Int)) r := by
 intro d
 induction d with
 | zero =>
  intro i h
  obtain rfl : i = min s.size 11 := by omega
  have ht : (bytesOf s).take (min s.size 11) = (bytesOf s).take 11 := by
   rcases Nat.le_total s.size 11 with h6 | h6
   ·rw [List.take_of_length_le (by rw [bytesOf_length]; omega), List.take_of_length_le (by rw [bytesOf_length]; omega)]
   ·rw [Nat.min_eq_right h6]
  refine ev_shift ?_
  rw [ht]
  by_cases hi : ((min s.size 11 : Nat) : Int) < (s.size : Int)
  ·simp only [spec_ParseInt.l0, if_pos hi, decide_eq_false (show ¬ (((min s.size 11 : Nat) : Int) < 11) by omega)]
   exact hr
  ·simp only [spec_ParseInt.l0, if_neg hi]
   exact hr
 | succ d ih =>
  intro i h
  have e1 := w64 (show -9223372036854775808 ≤ (i : Int) + 1 by omega) (by omega)
  have hi := ih (i + 1) (by omega)
  obtain ⟨tb, b0, b1⟩ := take_bt s i (by omega)
  have hv := valD_bound ((bytesOf s).take i) (by rw [List.length_take]; omega)
  have hc := cnt_bound ((bytesOf s).take i) 0
  have hc1 : 0 ≤ cntD ((bytesOf s).take i) ∧ cntD ((bytesOf s).take i) ≤ 11 := by
   have : ((bytesOf s).take i).length ≤ 11 := by rw [List.length_take]; omega
   unfold cntD
   omega
  have e2 : wrap64 (cntD ((bytesOf s).take i) + 1) = cntD ((bytesOf s).take i) + 1 := w64 (by omega) (by omega)
  rw [tb, valD_snoc, cntD_snoc] at hi
  refine ev_shift ?_
  simp only [spec_ParseInt.l0, if_pos (show (i : Int) < (s.size : Int) by omega), decide_eq_true (show (i : Int) < 11 by omega)]
  refine ev_shift ?_
  simp only [spec_ParseInt.j1, if_true, if_pos (show (0 : Int) ≤ (i : Int) by omega), if_pos (show (i : Int) < (s.size : Int) by omega), e1, e2]
  by_cases c1 : bt s (i : Int) ≥ 48
  ·by_cases c2 : bt s (i : Int) ≤ 57
   ·have e3 : wrap64 ((wrap64 (valD ((bytesOf s).take i) * 10)) + ((bt s (i : Int) - 48) % 256)) = valD ((bytesOf s).take i) * 10 + (bt s (i : Int) - 48) := by
     rw [w64 (show -9223372036854775808 ≤ valD ((bytesOf s).take i) * 10 by omega) (by omega), show (bt s (i : Int) - 48) % 256 = bt s (i : Int) - 48 by omega, w64 (by omega) (by omega)]
    simp only [if_pos c1, if_pos c2, e3]
    simp only [if_pos (show 48 ≤ bt s (i : Int) ∧ bt s (i : Int) ≤ 57 from ⟨c1, c2⟩)] at hi
    simpa using hi
   ·simp only [if_pos c1, if_neg c2]
    simp only [if_neg (show ¬ (48 ≤ bt s (i : Int) ∧ bt s (i : Int) ≤ 57) from fun h => c2 h.2)] at hi
    simpa using hi
  ·simp only [if_neg c1]
   simp only [if_neg (show ¬ (48 ≤ bt s (i : Int) ∧ bt s (i : Int) ≤ 57) from fun h => c1 h.1)] at hi
   simpa using hi
theorem spec_ParseInt.ev (s : ByteArray) : (specOk s ∧ Ev (fun k => spec_ParseInt.f k s) (numB (bytesOf s), true)) ∨ (¬ specOk s ∧ Ev (fun k => spec_ParseInt.f k s) (0, false)) := by
 have hv := valD_bound ((bytesOf s).take 11) (by rw [List.length_take]; omega)
 have j3 : ∀ n : Int, -100000000000 < n → n < 100000000000 → (s.size ≤ 10 → n = numB (bytesOf s)) →
   (specOk s ∧ Ev (fun k => spec_ParseInt.j3 k s n (cntD ((bytesOf s).take 11))) (numB (bytesOf s), true)) ∨ (¬ specOk s ∧ Ev (fun k => spec_ParseInt.j3 k s n (cntD ((bytesOf s).take 11))) (0, false)) := by
  intro n n0 n1 hn
  have hbad : Ev (fun k => spec_ParseInt.j4 k n true) (0, false) := ev_shift (ev_val fun k => by simp only [spec_ParseInt.j4, if_true])
  by_cases c1 : cntD ((bytesOf s).take 11) > 9
  ·refine .inr ⟨fun h => ?_, ev_shift (by simp only [spec_ParseInt.j3, if_pos c1]; exact hbad)⟩
   have := cntD_take (bytesOf s) 11
   have := h.1
   omega
  ·by_cases c2 : (s.size : Int) > 10
   ·exact .inr ⟨fun h => by have := h.2.1; omega, ev_shift (by simp only [spec_ParseInt.j3, if_neg c1, if_pos c2]; exact hbad)⟩
   ·have e := hn (by omega)
    subst e
    have ht : (bytesOf s).take 11 = bytesOf s := List.take_of_length_le (by rw [bytesOf_length]; omega)
    have hf := spec_FormatInt.ev (numB (bytesOf s)) (by omega) (by omega)
    by_cases c3 : str (Lib.itoa (numB (bytesOf s))) = s
    ·refine .inl ⟨⟨by rw [ht] at c1; omega, by omega, c3⟩, ev_shift ?_⟩
     simp only [spec_ParseInt.j3, if_neg c1, if_neg c2]
     refine Ev.bind hf (ev_shift (ev_val fun k => ?_))
     simp only [spec_ParseInt.j4, c3, bne_self_eq_false, Bool.false_eq_true, if_false]
    ·refine .inr ⟨fun h => c3 h.2.2, ev_shift ?_⟩
     simp only [spec_ParseInt.j3, if_neg c1, if_neg c2]
     refine Ev.bind hf (ev_shift (ev_val fun k => ?_))
     have : ((str (Lib.itoa (numB (bytesOf s)))).toList != s.toList) = true := bne_iff_ne.2 fun h => c3 (toList_inj' h)
     simp only [spec_ParseInt.j4, this, if_true]
 have hj1 : ∀ r, Ev (fun k => spec_ParseInt.j3 k s (if negB (bytesOf s) = true then -valD ((bytesOf s).take 11) else valD ((bytesOf s).take 11)) (cntD ((bytesOf s).take 11))) r → Ev (fun k => spec_ParseInt.f k s) r := by
  intro r hr
  have hz := spec_ParseInt.l0ev s r ?_ (min s.size 11) 0 (by omega)
  ·simpa [spec_ParseInt.f, valD, cntD] using hz
  ·refine ev_shift ?_
   simp only [spec_ParseInt.j1, Bool.false_eq_true, if_false]
   have hn := negB_bt s
   have e2 : wrap64 (-valD ((bytesOf s).take 11)) = -valD ((bytesOf s).take 11) := w64 (by omega) (by omega)
   by_cases c : (s.size : Int) > 0
   ·rw [if_pos c] at hn
    simp only [if_pos c, if_pos (show (0 : Int) < (s.size : Int) by omega), ← hn]
    refine ev_shift ?_
    simp only [spec_ParseInt.j2, e2]
    cases hb : negB (bytesOf s) with
    | true => rw [hb] at hr; simpa using hr
    | false => rw [hb] at hr; simpa using hr
   ·rw [if_neg c] at hn
    rw [hn] at hr
    simp only [if_neg c]
    refine ev_shift ?_
    simp only [spec_ParseInt.j2, Bool.false_eq_true, if_false]
    simpa using hr
 rcases j3 (if negB (bytesOf s) = true then -valD ((bytesOf s).take 11) else valD ((bytesOf s).take 11)) (by split <;> omega) (by split <;> omega) (fun h => by rw [numB, List.take_of_length_le (by rw [bytesOf_length]; omega)]) with ⟨h1, h2⟩ | ⟨h1, h2⟩
 ·exact .inl ⟨h1, hj1 _ h2⟩
 ·exact .inr ⟨h1, hj1 _ h2⟩
def fstB : List UInt8 → UInt8 → Nat
 | [], _ => 0
 | b :: l, c => if b == c then 0 else fstB l c + 1
theorem fstB_le : ∀ (l : List UInt8) (c : UInt8), fstB l c ≤ l.length
 | [], _ => Nat.le_refl 0
 | b :: l, c => by
  have := fstB_le l c
  unfold fstB
  split <;> simp only [List.length_cons] <;> omega
theorem indexByte_fst : ∀ (l : List UInt8) (c : UInt8), Lib.indexByte l c = if fstB l c < l.length then (fstB l c : Int) else -1
 | [], _ => rfl
 | b :: l, c => by
  have ih := indexByte_fst l c
  have hle := fstB_le l c
  unfold Lib.indexByte fstB
  by_cases h : (b == c) = true
  ·rw [if_pos h, if_pos h, if_pos (by simp)]; rfl
  ·rw [if_neg h, if_neg h]
   by_cases h2 : fstB l c < l.length
   ·rw [if_pos h2] at ih
    rw [ih, if_neg (by simp only [beq_iff_eq]; omega), if_pos (by simp only [List.length_cons]; omega)]
    omega
   ·rw [if_neg h2] at ih
    rw [ih, if_pos (by decide), if_neg (by simp only [List.length_cons]; omega)]
theorem str_str (s : ByteArray) : str s.data.toList = s := by apply ByteArray.ext; simp [str]
theorem str_data_ (l : List UInt8) : (str l).data.toList = l := by simp [str]
theorem bt_str (l : List UInt8) (i : Nat) (h : i < l.length) : bt (str l) (i : Int) = (l[i].toNat : Int) := by
 have h' : (i : Int).toNat < (str l).size := by rw [str_size]; simpa using h
 unfold bt
 rw [dif_pos h']
 simp [str]
 rfl
theorem u8_eq (x c : UInt8) : ((x.toNat : Int) = (c.toNat : Int)) ↔ x = c := by
 constructor
 ·intro h; exact UInt8.toNat_inj.1 (by omega)
 ·intro h; rw [h]
theorem str_extract (l : List UInt8) (i j : Nat) : (str l).extract i j = str ((l.drop i).take (j - i)) := by
 apply ByteArray.ext
 apply Array.ext'
 rw [ByteArray.data_extract, Array.toList_extract, str_data_, str_data_]
theorem fstB_step (l : List UInt8) (c : UInt8) (i : Nat) (h : i < l.length) : fstB (l.drop i) c = if l[i] = c then 0 else fstB (l.drop (i + 1)) c + 1 := by
 rw [List.drop_eq_getElem_cons h]
 by_cases e : l[i] = c
 ·simp [fstB, e]
 ·simp [fstB, e]
noncomputable def numV (s : ByteArray) : Int := open Classical in if implOk s then numB (bytesOf s) else -1
theorem implOk_len {s : ByteArray} (h : implOk s) : s.size ≤ 10 := by
 have h1 := tailB_length (bytesOf s)
 rw [bytesOf_length] at h1
 have := h.2.1
 omega
theorem numV_range (s : ByteArray) : -100000000000 ≤ numV s ∧ numV s ≤ 100000000000 := by
 unfold numV
 split
 ·next h =>
  have hl := implOk_len h
  have hb := valD_bound (bytesOf s) (by rw [bytesOf_length]; omega)
  unfold numB
  split <;> omega
 ·omega
theorem spec_l3Num.ev (s : ByteArray) : Ev (fun k => spec_l3Num.f k s) (if numV s < 0 then -1 else numV s) := by
 unfold numV
 rcases spec_ParseInt.ev s with ⟨h, e⟩ | ⟨h, e⟩
 ·rw [if_pos ((ok_iff s).1 h)]
  refine Ev.bind e (ev_val fun k => ?_)
  by_cases h2 : numB (bytesOf s) < 0
  ·simp [h2]
  ·simp [h2]
 ·rw [if_neg (fun h' => h ((ok_iff s).2 h'))]
  exact Ev.bind e (ev_val fun k => by simp)
def finR (i n : Int) (p L : List UInt8) : Int × Int × ByteArray × Bool := if ((1 ≤ n ∧ n ≤ 40) ∧ (0 ≤ i ∧ i ≤ n - 1)) ∧ ¬ (n > 1 ∧ p = []) ∧ chunkL i n p = L then (i, n, str p, true) else (0, 0, (⟨#[]⟩ : ByteArray), false)
noncomputable def rdC (L : List UInt8) : Int × Int × ByteArray × Bool :=
 let R := L.drop (fstB L 47 + 1)
 let Q := R.drop (fstB R 58 + 1)
 let e := Lib.lastIndexByte (str Q) 35
 if fstB L 47 < L.length ∧ fstB R 58 < R.length ∧ 0 ≤ e then finR (numV (str (L.take (fstB L 47)))) (numV (str (R.take (fstB R 58)))) (Q.take e.toNat) L else (0, 0, (⟨#[]⟩ : ByteArray), false)
theorem finR_neg (i n : Int) (p L : List UInt8) : finR (if i < 0 then -1 else i) (if n < 0 then -1 else n) p L = finR i n p L := by
 by_cases h1 : i < 0
 ·rw [if_pos h1]
  unfold finR
  rw [if_neg (fun h => by omega), if_neg (fun h => by omega)]
 ·rw [if_neg h1]
  by_cases h2 : n < 0
  ·rw [if_pos h2]
   unfold finR
   rw [if_neg (fun h => by omega), if_neg (fun h => by omega)]
  ·rw [if_neg h2]
theorem last_range (Q : List UInt8) : -1 ≤ Lib.lastIndexByte (str Q) 35 ∧ Lib.lastIndexByte (str Q) 35 < (Q.length : Int) := by
 rcases Lib.lastIndexByte_spec (str Q) 35 with ⟨h, _⟩ | ⟨i, hi, h, _⟩
 ·rw [h]; omega
 ·rw [str_size] at hi; rw [h]; omega
theorem take_nil (Q : List UInt8) (e : Int) (h0 : 0 ≤ e) (h1 : e < (Q.length : Int)) : Q.take e.toNat = [] ↔ e = 0 := by
 rw [List.take_eq_nil_iff]
 constructor
 ·rintro (h | h)
  ·omega
  ·rw [h] at h1; simp at h1; omega
 ·intro h; left; omega
theorem rdC_ok (L : List UInt8) (h : (rdC L).2.2.2 = true) : 0 ≤ (rdC L).1 ∧ (rdC L).1 ≤ (rdC L).2.1 - 1 ∧ 1 ≤ (rdC L).2.1 ∧ (rdC L).2.1 ≤ 40 := by
 unfold rdC at h ⊢
 simp only at h ⊢
 split at h
 ·next hc =>
  rw [if_pos hc]
  unfold finR at h ⊢
  split at h
  ·next hf => rw [if_pos hf]; exact ⟨hf.1.2.1, hf.1.2.2, hf.1.1.1, hf.1.1.2⟩
  ·simp at h
 ·simp at h
theorem rdC_len (L : List UInt8) : (rdC L).2.2.1.size ≤ L.length := by
 unfold rdC
 simp only
 split
 ·unfold finR
  split
  ·simp only [str_size, List.length_take, List.length_drop]; omega
  ·exact Nat.zero_le _
 ·exact Nat.zero_le _
theorem spec_l7Read.l0ev (L : List UInt8) (hn : L.length ≤ 1000000000) (r : Int × Int × ByteArray × Bool) : ∀ d i : Nat, i + d = L.length → Ev (fun k => spec_l7Read.j1 k (str L) ((i + fstB (L.drop i) 47 : Nat) : Int)) r → Ev (fun k => spec_l7Read.l0 k (str L) (i : Int)) r := by
 intro d
 induction d with
 | zero =>
  intro i h hj
  obtain rfl : i = L.length := by omega
  refine ev_shift (Ev.congr (fun k => ?_) hj)
  simp only [spec_l7Read.l0, str_size, if_neg (show ¬ ((L.length : Int) < (L.length : Int)) by omega), List.drop_length, fstB, Nat.add_zero]
 | succ d ih =>
  intro i h hj
  have hi : i < L.length := by omega
  rw [fstB_step L 47 i hi] at hj
  by_cases e : L[i] = 47
  ·rw [if_pos e] at hj
   refine ev_shift (Ev.congr (fun k => ?_) hj)
   simp only [spec_l7Read.l0, str_size, if_pos (show (i : Int) < (L.length : Int) by omega), if_pos (show (0 : Int) ≤ (i : Int) by omega), bt_str L i hi, if_pos (show (L[i].toNat : Int) = 47 from by rw [e]; rfl), Nat.add_zero]
  ·rw [if_neg e] at hj
   have := ih (i + 1) (by omega) (by rw [show i + 1 + fstB (L.drop (i + 1)) 47 = i + (fstB (L.drop (i + 1)) 47 + 1) by omega]; exact hj)
   refine ev_shift (Ev.congr (fun k => ?_) this)
   simp only [spec_l7Read.l0, str_size, if_pos (show (i : Int) < (L.length : Int) by omega), if_pos (show (0 : Int) ≤ (i : Int) by omega), bt_str L i hi, if_neg (show ¬ ((L[i].toNat : Int) = 47) from fun h' => e ((u8_eq L[i] 47).1 h')), w64 (show -9223372036854775808 ≤ (i : Int) + 1 by omega) (by omega)]
   rfl
theorem spec_l7Read.l1ev (L : List UInt8) (a : Int) (hn : L.length ≤ 1000000000) (r : Int × Int × ByteArray × Bool) : ∀ d i : Nat, i + d = L.length → Ev (fun k => spec_l7Read.j3 k (str L) a ((i + fstB (L.drop i) 58 : Nat) : Int)) r → Ev (fun k => spec_l7Read.l1 k (str L) a (i : Int)) r := by
 intro d
 induction d with
 | zero =>
  intro i h hj
  obtain rfl : i = L.length := by omega
  refine ev_shift (Ev.congr (fun k => ?_) hj)
  simp only [spec_l7Read.l1, str_size, if_neg (show ¬ ((L.length : Int) < (L.length : Int)) by omega), List.drop_length, fstB, Nat.add_zero]
 | succ d ih =>
  intro i h hj
  have hi : i < L.length := by omega
  rw [fstB_step L 58 i hi] at hj
  by_cases e : L[i] = 58
  ·rw [if_pos e] at hj
   refine ev_shift (Ev.congr (fun k => ?_) hj)
   simp only [spec_l7Read.l1, str_size, if_pos (show (i : Int) < (L.length : Int) by omega), if_pos (show (0 : Int) ≤ (i : Int) by omega), bt_str L i hi, if_pos (show (L[i].toNat : Int) = 58 from by rw [e]; rfl), Nat.add_zero]
  ·rw [if_neg e] at hj
   have := ih (i + 1) (by omega) (by rw [show i + 1 + fstB (L.drop (i + 1)) 58 = i + (fstB (L.drop (i + 1)) 58 + 1) by omega]; exact hj)
   refine ev_shift (Ev.congr (fun k => ?_) this)
   simp only [spec_l7Read.l1, str_size, if_pos (show (i : Int) < (L.length : Int) by omega), if_pos (show (0 : Int) ≤ (i : Int) by omega), bt_str L i hi, if_neg (show ¬ ((L[i].toNat : Int) = 58) from fun h' => e ((u8_eq L[i] 58).1 h')), w64 (show -9223372036854775808 ≤ (i : Int) + 1 by omega) (by omega)]
   rfl
theorem spec_l7Read.l2ev (L : List UInt8) (a : Int) (b : Nat) (hn : L.length ≤ 1000000000) (r : Int × Int × ByteArray × Bool) : ∀ d : Nat, b + d < L.length → Ev (fun k => spec_l7Read.j5 k (str L) a (b : Int) ((b : Int) + 1 + Lib.lastIdx (str (L.drop (b + 1))) 35 d)) r → Ev (fun k => spec_l7Read.l2 k (str L) a (b : Int) ((b + d : Nat) : Int)) r := by
 intro d
 induction d with
 | zero =>
  intro h hj
  refine ev_shift (Ev.congr (fun k => ?_) hj)
  simp only [spec_l7Read.l2, Nat.add_zero, if_neg (show ¬ ((b : Int) > (b : Int)) by omega), Lib.lastIdx]
  rw [show (b : Int) + 1 + -1 = (b : Int) by omega]
 | succ d ih =>
  intro h hj
  have hd : d < (L.drop (b + 1)).length := by rw [List.length_drop]; omega
  have hQ : (str (L.drop (b + 1))).data[d]! = L[b + (d + 1)] := by
   rw [getElem!_pos (str (L.drop (b + 1))).data d (by simpa [str] using hd)]
   simp only [str, List.getElem_toArray, List.getElem_drop]
   congr 1; omega
  by_cases e : L[b + (d + 1)] = 35
  ·rw [Lib.lastIdx_hit _ _ _ (by rw [hQ, e]; rfl)] at hj
   refine ev_shift (Ev.congr (fun k => ?_) hj)
   simp only [spec_l7Read.l2, str_size, if_pos (show ((b + (d + 1) : Nat) : Int) > (b : Int) by omega), if_pos (show (0 : Int) ≤ ((b + (d + 1) : Nat) : Int) by omega), if_pos (show ((b + (d + 1) : Nat) : Int) < (L.length : Int) by omega), bt_str L (b + (d + 1)) h, if_pos (show (L[b + (d + 1)].toNat : Int) = 35 from by rw [e]; rfl)]
   rw [show ((b + (d + 1) : Nat) : Int) = (b : Int) + 1 + (d : Int) by omega]
  ·rw [Lib.lastIdx_miss _ _ _ (by rw [hQ]; exact fun h' => e ((u8_eq _ 35).1 h'))] at hj
   have := ih (by omega) hj
   refine ev_shift (Ev.congr (fun k => ?_) this)
   simp only [spec_l7Read.l2, str_size, if_pos (show ((b + (d + 1) : Nat) : Int) > (b : Int) by omega), if_pos (show (0 : Int) ≤ ((b + (d + 1) : Nat) : Int) by omega), if_pos (show ((b + (d + 1) : Nat) : Int) < (L.length : Int) by omega), bt_str L (b + (d + 1)) h, if_neg (show ¬ ((L[b + (d + 1)].toNat : Int) = 35) from fun h' => e ((u8_eq _ 35).1 h')),
    w64 (show -9223372036854775808 ≤ ((b + (d + 1) : Nat) : Int) - 1 by omega) (by omega)]
   rw [show ((b + (d + 1) : Nat) : Int) - 1 = ((b + d : Nat) : Int) by omega]
theorem spec_l7Read.ev (L : List UInt8) (hn : L.length ≤ 1048576) : Ev (fun k => spec_l7Read.f k (str L)) (rdC L) := by
 refine spec_l7Read.l0ev L (by omega) _ L.length 0 (by omega) ?_
 rw [List.drop_zero, Nat.zero_add]
 refine ev_shift ?_
 simp only [spec_l7Read.j1]
 have hale := fstB_le L 47
 obtain ⟨a, ha⟩ : ∃ a, a = fstB L 47 := ⟨_, rfl⟩
 rw [← ha] at hale ⊢
 refine spec_l7Read.l1ev L (a : Int) (by omega) _ (L.length - a) a (by omega) ?_
 refine ev_shift ?_
 simp only [spec_l7Read.j3, str_size]
 by_cases hA : a < L.length
 ·have hL : L[a] = 47 := by
   have key : ∀ (l : List UInt8) (h : fstB l 47 < l.length), l[fstB l 47] = 47 := by
    intro l
    induction l with
    | nil => intro h; simp at h
    | cons x l ih =>
     intro h
     by_cases e : x = 47
     ·simp [fstB, e]
     ·have e2 : fstB (x :: l) 47 = fstB l 47 + 1 := by simp [fstB, e]
      have := ih (by rw [e2] at h; simpa using h)
      simp only [e2, List.getElem_cons_succ]
      exact this
   have := key L (by omega)
   simpa [← ha] using this
  have hb0 : fstB (L.drop a) 58 = fstB (L.drop (a + 1)) 58 + 1 := by
   rw [fstB_step L 58 a hA, if_neg (by rw [hL]; decide)]
  rw [hb0]
  obtain ⟨R, hR⟩ : ∃ R, R = L.drop (a + 1) := ⟨_, rfl⟩
  obtain ⟨b, hb⟩ : ∃ b, b = fstB R 58 := ⟨_, rfl⟩
  have hble := fstB_le R 58
  have hRl : R.length = L.length - (a + 1) := by rw [hR, List.length_drop]
  rw [← hb] at hble
  rw [← hR, ← hb]
  have e0 : ((a + (b + 1) : Nat) : Int) = ((a + 1 + b : Nat) : Int) := by omega
  rw [e0, w64 (show -9223372036854775808 ≤ (L.length : Int) - 1 by omega) (by omega)]
  by_cases hB : b < R.length
  ·obtain ⟨Q, hQ⟩ : ∃ Q, Q = R.drop (b + 1) := ⟨_, rfl⟩
   have hQ2 : L.drop (a + 1 + b + 1) = Q := by rw [hQ, hR, List.drop_drop]; congr 1
   have hQl : Q.length = L.length - 1 - (a + 1 + b) := by rw [hQ, List.length_drop]; omega
   have h2 := spec_l7Read.l2ev L (a : Int) (a + 1 + b) (by omega) (rdC L) (L.length - 1 - (a + 1 + b)) (by omega)
   rw [hQ2] at h2
   have e1 : ((a + 1 + b + (L.length - 1 - (a + 1 + b)) : Nat) : Int) = (L.length : Int) - 1 := by omega
   rw [e1] at h2
   refine h2 ?_
   have e2 : Lib.lastIdx (str Q) 35 (L.length - 1 - (a + 1 + b)) = Lib.lastIndexByte (str Q) 35 := by unfold Lib.lastIndexByte; rw [str_size, hQl]
   rw [e2]
   have her := last_range Q
   obtain ⟨e, he⟩ : ∃ e, e = Lib.lastIndexByte (str Q) 35 := ⟨_, rfl⟩
   rw [← he] at her ⊢
   refine ev_shift ?_
   simp only [spec_l7Read.j5, str_size, if_neg (show ¬ (((a + 1 + b : Nat) : Int) ≥ (L.length : Int)) by omega)]
   refine ev_shift ?_
   by_cases hE : 0 ≤ e
   ·have hres : rdC L = finR (numV (str (L.take a))) (numV (str (R.take b))) (Q.take e.toNat) L := by
     unfold rdC
     simp only [← ha, ← hR, ← hb, ← hQ, ← he]
     rw [if_pos ⟨hA, hB, hE⟩]
    rw [hres, ← finR_neg]
    have x1 : (str L).extract 0 a = str (L.take a) := by rw [str_extract, List.drop_zero, Nat.sub_zero]
    have x2 : (str L).extract (a + 1) (a + 1 + b) = str (R.take b) := by rw [str_extract, ← hR]; congr 2; omega
    have x3 : (str L).extract (a + 1 + b + 1) (a + 1 + b + 1 + e.toNat) = str (Q.take e.toNat) := by rw [str_extract, hQ2]; congr 2; omega
    have n1 := numV_range (str (L.take a))
    have n2 := numV_range (str (R.take b))
    obtain ⟨K1, g1⟩ := spec_l3Num.ev (str (L.take a))
    obtain ⟨K2, g2⟩ := spec_l3Num.ev (str (R.take b))
    generalize numV (str (L.take a)) = vi at g1 n1 ⊢
    generalize numV (str (R.take b)) = vn at g2 n2 ⊢
    obtain ⟨i', hi'⟩ : ∃ i', i' = if vi < 0 then -1 else vi := ⟨_, rfl⟩
    obtain ⟨n', hn'⟩ : ∃ n', n' = if vn < 0 then -1 else vn := ⟨_, rfl⟩
    have m1 : -1 ≤ i' ∧ i' ≤ 100000000000 := by rw [hi']; split <;> omega
    have m2 : -1 ≤ n' ∧ n' ≤ 100000000000 := by rw [hn']; split <;> omega
    rw [← hi'] at g1 ⊢
    rw [← hn'] at g2 ⊢
    have hp : (Q.take e.toNat).length ≤ 140737488351232 := by rw [List.length_take]; omega
    have hcp := take_nil Q e hE her.2
    obtain ⟨K3, g3⟩ := spec_l7Chunk.ev i' n' (by omega) (by omega) (by omega) (by omega) (Q.take e.toNat) hp
    have t1 : ((a : Int) + 1).toNat = a + 1 := by omega
    have t2 : ((a + 1 + b : Nat) : Int).toNat = a + 1 + b := by omega
    have t3 : (((a + 1 + b : Nat) : Int) + 1).toNat = a + 1 + b + 1 := by omega
    have t4 : (((a + 1 + b : Nat) : Int) + 1 + e).toNat = a + 1 + b + 1 + e.toNat := by omega
    refine ⟨K1 + K2 + K3, fun k hk => ?_⟩
    simp only [spec_l7Read.j6, decide_eq_false (show ¬ (((a + 1 + b : Nat) : Int) + 1 + e ≤ ((a + 1 + b : Nat) : Int)) by omega), Bool.false_eq_true, if_false, if_pos (show 0 ≤ (a : Int) by omega), str_size, if_pos (show (a : Int) ≤ (L.length : Int) by omega), Int.toNat_natCast, x1, g1 k (by omega), Option.bind_some,
     w64 (show -9223372036854775808 ≤ (a : Int) + 1 by omega) (by omega), if_pos (show 0 ≤ (a : Int) + 1 by omega), if_pos (show (a : Int) + 1 ≤ ((a + 1 + b : Nat) : Int) by omega), if_pos (show ((a + 1 + b : Nat) : Int) ≤ (L.length : Int) by omega), t1, t2, x2, g2 k (by omega), spec_l1In.val,
     w64 (show -9223372036854775808 ≤ n' - 1 by omega) (by omega), w64 (show -9223372036854775808 ≤ ((a + 1 + b : Nat) : Int) + 1 by omega) (by omega), if_pos (show 0 ≤ ((a + 1 + b : Nat) : Int) + 1 by omega), if_pos (show ((a + 1 + b : Nat) : Int) + 1 ≤ ((a + 1 + b : Nat) : Int) + 1 + e by omega), if_pos (show ((a + 1 + b : Nat) : Int) + 1 + e ≤ (L.length : Int) by omega), t3, t4, x3, g3 k (by omega), str_toList]
    unfold finR
    by_cases c1 : 1 ≤ n' ∧ n' ≤ 40
    ·simp only [decide_eq_true c1, if_true]
     by_cases c2 : 0 ≤ i' ∧ i' ≤ n' - 1
     ·simp only [decide_eq_true c2, if_true]
      by_cases c3 : n' > 1
      ·simp only [if_pos c3]
       by_cases c4 : e = 0
       ·rw [if_pos (by omega), if_neg (fun h => h.2.1 ⟨c3, hcp.2 c4⟩)]
       ·rw [if_neg (by omega)]
        by_cases c5 : chunkL i' n' (Q.take e.toNat) = L
        ·rw [if_pos c5, if_pos ⟨⟨c1, c2⟩, fun h => c4 (hcp.1 h.2), c5⟩]
        ·rw [if_neg c5, if_neg (fun h => c5 h.2.2)]
      ·simp only [if_neg c3]
       by_cases c5 : chunkL i' n' (Q.take e.toNat) = L
       ·rw [if_pos c5, if_pos ⟨⟨c1, c2⟩, fun h => c3 h.1, c5⟩]
       ·rw [if_neg c5, if_neg (fun h => c5 h.2.2)]
     ·simp only [decide_eq_false c2, Bool.false_eq_true, if_false]
      rw [if_neg (fun h => c2 h.1.2)]
    ·simp only [decide_eq_false c1, Bool.false_eq_true, if_false]
     rw [if_neg (fun h => c1 h.1.1)]
   ·have hres : rdC L = (0, 0, (⟨#[]⟩ : ByteArray), false) := by
     unfold rdC
     simp only [← ha, ← hR, ← hb, ← hQ, ← he]
     rw [if_neg (fun h => hE h.2.2)]
    rw [hres]
    exact ev_val fun k => by simp only [spec_l7Read.j6, decide_eq_true (show ((a + 1 + b : Nat) : Int) + 1 + e ≤ ((a + 1 + b : Nat) : Int) by omega), if_true]
  ·have hres : rdC L = (0, 0, (⟨#[]⟩ : ByteArray), false) := by
    unfold rdC
    simp only [← ha, ← hR, ← hb]
    rw [if_neg (fun h => hB h.2.1)]
   rw [hres]
   refine ev_shift ?_
   simp only [spec_l7Read.l2, if_neg (show ¬ ((L.length : Int) - 1 > ((a + 1 + b : Nat) : Int)) by omega)]
   refine ev_shift ?_
   simp only [spec_l7Read.j5, str_size, if_pos (show ((a + 1 + b : Nat) : Int) ≥ (L.length : Int) by omega)]
   exact ev_shift (ev_val fun k => by simp only [spec_l7Read.j6, if_true])
 ·obtain rfl : a = L.length := by omega
  have hres : rdC L = (0, 0, (⟨#[]⟩ : ByteArray), false) := by
   unfold rdC
   simp only [← ha]
   rw [if_neg (fun h => hA h.1)]
  rw [hres, List.drop_length, w64 (show -9223372036854775808 ≤ (L.length : Int) - 1 by omega) (by omega)]
  simp only [fstB, Nat.add_zero]
  refine ev_shift ?_
  simp only [spec_l7Read.l2, if_neg (show ¬ ((L.length : Int) - 1 > (L.length : Int)) by omega)]
  refine ev_shift ?_
  simp only [spec_l7Read.j5, str_size, if_pos (show (L.length : Int) ≥ (L.length : Int) by omega)]
  exact ev_shift (ev_val fun k => by simp only [spec_l7Read.j6, if_true])
theorem rdB (xs : List ByteArray) (i : Nat) (h : i < xs.length) : rdOf ByteArray.empty xs (i : Int) = xs[i] := by simp [rdOf, h]
theorem toList_inj (a b : ByteArray) : a.toList = b.toList ↔ a = b := ⟨fun h => bytesOf_inj (bytesOf_congr h), fun h => by rw [h]⟩
def firstE : List ByteArray → Int → Int
 | [], _ => -1
 | s :: l, i => if s = ⟨#[]⟩ then i else firstE l (i + 1)
def missC (xs : List ByteArray) (total : Int) : Int := if xs.length = 0 ∧ total > 0 then 0 else firstE xs 0
theorem empty_toList : (⟨#[]⟩ : ByteArray).toList = [] := by rw [toList_data]
theorem toList_nil (s : ByteArray) : s.toList = [] ↔ s = ⟨#[]⟩ := ⟨fun h => (toList_inj s ⟨#[]⟩).1 (h.trans empty_toList.symm), fun h => by rw [h, empty_toList]⟩
noncomputable def rcvC (xs : List ByteArray) (c : ByteArray) : List ByteArray × Bool :=
 if (rdC c.data.toList).2.2.2 = true then (if xs.length = 0 then ((List.replicate (rdC c.data.toList).2.1.toNat (⟨#[]⟩ : ByteArray)).set (rdC c.data.toList).1.toNat c, true)
  else if (xs.length : Int) = (rdC c.data.toList).2.1 ∧ (rdOf ByteArray.empty xs (rdC c.data.toList).1).toList = [] then (xs.set (rdC c.data.toList).1.toNat c, true) else (xs, false)) else (xs, false)
theorem rcvC_len (xs : List ByteArray) (c : ByteArray) (h : xs.length ≤ 1048576) : (rcvC xs c).1.length ≤ 1048576 := by
 have hk := rdC_ok c.data.toList
 unfold rcvC
 generalize rdC c.data.toList = q at hk
 split
 ·next hq =>
  have := hk hq
  split
  ·simp only [List.length_set, List.length_replicate]; omega
  ·split
   ·simp only [List.length_set]; exact h
   ·exact h
 ·exact h
theorem rd_rep (n : Nat) (i : Int) : (rdOf ByteArray.empty (List.replicate n (⟨#[]⟩ : ByteArray)) i).toList = [] := by
 have : rdOf ByteArray.empty (List.replicate n (⟨#[]⟩ : ByteArray)) i = ⟨#[]⟩ := by
  simp only [rdOf, List.getD_eq_getElem?_getD, List.getElem?_replicate]
  split <;> rfl
 rw [this]; exact empty_toList
theorem spec_ReceiveChunk.ev (xs : List ByteArray) (c : ByteArray) (hn : xs.length ≤ 1048576) (hs : c.size ≤ 1048576) : Ev (fun k => spec_ReceiveChunk.f k xs c) (rcvC xs c) := by
 have hr := spec_l7Read.ev c.data.toList (by rw [Array.length_toList]; exact hs)
 rw [str_str] at hr
 have hk := rdC_ok c.data.toList
 refine Ev.bind hr ?_
 simp only [Option.bind_some, List.length_nil, List.nil_append, Nat.zero_add, if_pos (show xs.length < 8796093022208 by omega)]
 unfold rcvC
 generalize rdC c.data.toList = q at hk
 obtain ⟨qi, qn, qp, qb⟩ := q
 simp only at hk ⊢
 cases qb with
 | false =>
  simp only [Bool.false_eq_true, if_false]
  exact ev_shift (ev_val fun k => by simp only [spec_ReceiveChunk.j0, if_true])
 | true =>
  obtain ⟨h0, h1, h2, h3⟩ := hk rfl
  simp only [if_true]
  by_cases hz : xs.length = 0
  ·simp only [if_neg (show ¬ ((xs.length : Int) > 0) by omega), if_pos hz]
   refine ev_shift ?_
   simp only [spec_ReceiveChunk.j0, Bool.false_eq_true, if_false]
   obtain rfl : xs = [] := List.length_eq_zero_iff.1 hz
   have key : ∀ d j : Nat, j + d = qn.toNat → Ev (fun k => spec_ReceiveChunk.l0 k c qi qn (List.replicate j (⟨#[]⟩ : ByteArray))) ((List.replicate qn.toNat (⟨#[]⟩ : ByteArray)).set qi.toNat c, true) := by
    intro d
    induction d with
    | zero =>
     intro j hj
     obtain rfl : j = qn.toNat := by omega
     refine ev_shift (ev_val fun k => ?_)
     simp only [spec_ReceiveChunk.l0, List.length_replicate, if_neg (show ¬ ((qn.toNat : Int) < qn) by omega), if_pos h0, if_pos (show qi < (qn.toNat : Int) by omega), rd_rep, if_true]
    | succ d ih =>
     intro j hj
     refine ev_shift (Ev.congr (fun k => ?_) (ih (j + 1) (by omega)))
     simp only [spec_ReceiveChunk.l0, List.length_replicate, if_pos (show (j : Int) < qn by omega), if_pos (show j < 8796093022208 by omega)]
     rw [← List.replicate_succ']
   exact key qn.toNat 0 (by omega)
  ·simp only [if_pos (show (xs.length : Int) > 0 by omega), if_neg hz]
   by_cases hl : (xs.length : Int) = qn
   ·refine ev_shift ?_
    simp only [spec_ReceiveChunk.j0, hl, bne_self_eq_false, Bool.false_eq_true, if_false, true_and]
    refine ev_shift (ev_val fun k => ?_)
    simp only [spec_ReceiveChunk.l0, hl, if_neg (show ¬ (qn < qn) by omega), if_pos h0, if_pos (show qi < qn by omega)]
    split <;> rfl
   ·refine ev_shift (ev_val fun k => ?_)
    have : ((xs.length : Int) != qn) = true := by simp [hl]
    simp only [spec_ReceiveChunk.j0, this, if_true]
    rw [if_neg (fun h => hl h.1)]
theorem rdS (xs : List S97) (i : Nat) (h : i < xs.length) : rd_T97 xs (i : Int) = xs[i] := by simp [rd_T97, h]
def okSes (xs : List S97) (j : Nat) : Prop := (0 ≤ (rd_T97 xs (j : Int)).f0 ∧ (rd_T97 xs (j : Int)).f0 ≤ 2) ∧
 (1 ≤ (rd_T97 xs (j : Int)).f1 ∧ (rd_T97 xs (j : Int)).f1 ≤ 99) ∧ (0 ≤ (rd_T97 xs (j : Int)).f2.f1 ∧ (rd_T97 xs (j : Int)).f2.f1 ≤ 9) ∧
 (0 < j → (rd_T97 xs ((j : Int) - 1)).f0 < (rd_T97 xs (j : Int)).f0)
def vMach (os : List Int) (xs : List S97) : Prop := os.length = 3 ∧ (∀ j : Nat, j < os.length → 0 ≤ rd os (j : Int) ∧ rd os (j : Int) ≤ 9) ∧ ∀ j, j < xs.length → okSes xs j
theorem spec_IsValidMachine.ev (os : List Int) (xs : List S97) (h1 : os.length ≤ 9223372036854775806) (h2 : xs.length ≤ 9223372036854775806) : ∃ b, Ev (fun k => spec_IsValidMachine.f k os xs) b ∧ (b = true ↔ vMach os xs) :=
 ⟨decide (vM_ os xs), ev_val fun _ => rfl, decide_eq_true_iff.trans Iff.rfl⟩
def catI (xs : List Int) : List UInt8 := xs.flatMap Lib.itoa
theorem catI_drop (xs : List Int) (i : Nat) (h : i < xs.length) : catI (xs.drop i) = Lib.itoa (rd xs (i : Int)) ++ catI (xs.drop (i + 1)) := by
 rw [drop_cons_rd xs i h]; rfl
def sesL (x : S97) : List UInt8 := [32] ++ Lib.itoa x.f0 ++ [46] ++ Lib.itoa x.f1 ++ (if x.f2.f0 = true then [43] else [45]) ++ Lib.itoa x.f2.f1
def catS (xs : List S97) : List UInt8 := xs.flatMap sesL
theorem catS_drop (xs : List S97) (i : Nat) (h : i < xs.length) : catS (xs.drop i) = sesL (rd_T97 xs (i : Int)) ++ catS (xs.drop (i + 1)) := by
 rw [List.drop_eq_getElem_cons h, rdS xs i h]; rfl
theorem sesL_len {xs : List S97} {i : Nat} (h : okSes xs i) : (sesL (rd_T97 xs (i : Int))).length ≤ 70 := by
 obtain ⟨h1, h2, h3, _⟩ := h
 have l0 := itoa_len (rd_T97 xs (i : Int)).f0 (by omega) (by omega)
 have l1 := itoa_len (rd_T97 xs (i : Int)).f1 (by omega) (by omega)
 have l2 := itoa_len (rd_T97 xs (i : Int)).f2.f1 (by omega) (by omega)
 have l3 : (if (rd_T97 xs (i : Int)).f2.f0 = true then ([43] : List UInt8) else [45]).length = 1 := by split <;> rfl
 simp only [sesL, List.length_append, List.length_cons, List.length_nil]
 omega
theorem spec_FormatMachine.l1ev (os : List Int) (xs : List S97) (hn : xs.length ≤ 1048576) (hv : ∀ j, j < xs.length → okSes xs j) :
  ∀ s : Nat × List UInt8, (s.1 ≤ xs.length ∧ s.2.length ≤ 60000000 + 70 * s.1) → Ev (fun k => spec_FormatMachine.l1 k (str s.2) (s.1 : Int) os xs) (str (s.2 ++ catS (xs.drop s.1))) := by
 refine loop_ev (fun k (s : Nat × List UInt8) => spec_FormatMachine.l1 k (str s.2) (s.1 : Int) os xs) _ (fun s => xs.length - s.1) (fun s => str (s.2 ++ catS (xs.drop s.1))) ?_
 rintro ⟨i, acc⟩ ⟨h1, h2⟩
 simp only at h1 h2 ⊢
 by_cases hi : i < xs.length
 ·have hl := sesL_len (hv i hi)
  have e1 := w64 (show -9223372036854775808 ≤ (i : Int) + 1 by omega) (by omega)
  refine .inr ⟨(i + 1, acc ++ sesL (rd_T97 xs (i : Int))), ⟨by simp only; omega, by simp only [List.length_append]; omega⟩, by simp only; omega, ?_, ?_⟩
  ·simp only [catS_drop xs i hi, List.append_assoc]
  ·intro r hr'
   obtain ⟨q1, q2, q3, _⟩ := hv i hi
   obtain ⟨K0, g0⟩ := spec_FormatInt.ev (rd_T97 xs (i : Int)).f0 (by omega) (by omega)
   obtain ⟨K1, g1⟩ := spec_FormatInt.ev (rd_T97 xs (i : Int)).f1 (by omega) (by omega)
   obtain ⟨K2, g2⟩ := spec_FormatInt.ev (rd_T97 xs (i : Int)).f2.f1 (by omega) (by omega)
   have l0 := itoa_len (rd_T97 xs (i : Int)).f0 (by omega) (by omega)
   have l1 := itoa_len (rd_T97 xs (i : Int)).f1 (by omega) (by omega)
   have l2 := itoa_len (rd_T97 xs (i : Int)).f2.f1 (by omega) (by omega)
   obtain ⟨K3, g3⟩ := hr'
   have g3 : ∀ k, K3 ≤ k → spec_FormatMachine.l1 k (str (acc ++ sesL (rd_T97 xs (i : Int)))) ((i : Int) + 1) os xs = some r := fun k hk => by simpa using g3 k hk
   have key : ∀ c : UInt8, (if (rd_T97 xs (i : Int)).f2.f0 = true then ([43] : List UInt8) else [45]) = [c] → Ev (fun k => spec_FormatMachine.j2 k (str acc) (i : Int) (str [c]) os xs (rd_T97 xs (i : Int)).f0 (rd_T97 xs (i : Int)).f1 (rd_T97 xs (i : Int)).f2.f0 (rd_T97 xs (i : Int)).f2.f1) r := by
    intro c hc
    refine ev_shift ⟨K0 + K1 + K2 + K3, fun k hk => ?_⟩
    simp only [spec_FormatMachine.j2, g0 k (by omega), g1 k (by omega), g2 k (by omega), Option.bind_some, str_lit, str_append, str_size, List.length_append, List.length_cons, List.length_nil, e1]
    simp (disch := omega) only [if_pos]
    have g4 := g3 k (by omega)
    simp only [sesL, hc, List.append_assoc] at g4 ⊢
    exact g4
   refine ev_shift ?_
   simp only [spec_FormatMachine.l1, if_pos (show (i : Int) < (xs.length : Int) by omega), if_pos (show (0 : Int) ≤ (i : Int) by omega)]
   cases hd : (rd_T97 xs (i : Int)).f2.f0 with
   | true => simp only [if_true, str_lit]; have := key 43 (by rw [hd]; rfl); rw [hd] at this; exact this
   | false => simp only [Bool.false_eq_true, if_false, str_lit]; have := key 45 (by rw [hd]; rfl); rw [hd] at this; exact this
 ·refine .inl (ev_shift (ev_val fun k => ?_))
  simp only [spec_FormatMachine.l1, if_neg (show ¬ ((i : Int) < (xs.length : Int)) by omega), List.drop_eq_nil_of_le (show xs.length ≤ i by omega), catS, List.flatMap_nil, List.append_nil]
theorem spec_FormatMachine.l0ev (os : List Int) (xs : List S97) (ho : os.length ≤ 1048576) (hn : xs.length ≤ 1048576) (hv : ∀ j, j < xs.length → okSes xs j) (hr : ∀ j : Nat, j < os.length → 0 ≤ rd os (j : Int) ∧ rd os (j : Int) ≤ 9) :
  ∀ s : Nat × List UInt8, (s.1 ≤ os.length ∧ s.2.length ≤ 20 * s.1) → Ev (fun k => spec_FormatMachine.l0 k (str s.2) (s.1 : Int) os xs) (str (s.2 ++ catI (os.drop s.1) ++ catS xs)) := by
 refine loop_ev (fun k (s : Nat × List UInt8) => spec_FormatMachine.l0 k (str s.2) (s.1 : Int) os xs) _ (fun s => os.length - s.1) (fun s => str (s.2 ++ catI (os.drop s.1) ++ catS xs)) ?_
 rintro ⟨i, acc⟩ ⟨h1, h2⟩
 simp only at h1 h2 ⊢
 by_cases hi : i < os.length
 ·obtain ⟨r0, r1⟩ := hr i hi
  have hl := itoa_len (rd os (i : Int)) (by omega) (by omega)
  have e1 := w64 (show -9223372036854775808 ≤ (i : Int) + 1 by omega) (by omega)
  refine .inr ⟨(i + 1, acc ++ Lib.itoa (rd os (i : Int))), ⟨by simp only; omega, by simp only [List.length_append]; omega⟩, by simp only; omega, ?_, ?_⟩
  ·simp only [catI_drop os i hi, List.append_assoc]
  ·intro r hr'
   refine ev_shift ?_
   simp only [spec_FormatMachine.l0, if_pos (show (i : Int) < (os.length : Int) by omega), if_pos (show (0 : Int) ≤ (i : Int) by omega)]
   refine Ev.bind (spec_FormatInt.ev _ (by omega) (by omega)) ?_
   simp only [str_size, str_append, if_pos (show acc.length + (Lib.itoa (rd os (i : Int))).length ≤ 9223372036854775807 by omega), e1]
   exact hr'
 ·refine .inl (ev_shift ?_)
  simp only [spec_FormatMachine.l0, if_neg (show ¬ ((i : Int) < (os.length : Int)) by omega), List.drop_eq_nil_of_le (show os.length ≤ i by omega), catI, List.flatMap_nil, List.append_nil]
  have := spec_FormatMachine.l1ev os xs hn hv (0, acc) ⟨by simp, by simp only; omega⟩
  simpa using this
def machL (b : Bool) (os : List Int) (xs : List S97) : List UInt8 := if b = true then catI os ++ catS xs else []
theorem spec_FormatMachine.ev (os : List Int) (xs : List S97) (ho : os.length ≤ 1048576) (hn : xs.length ≤ 1048576) (b : Bool) (hb : Ev (fun k => spec_IsValidMachine.f k os xs) b) (hv : b = true → vMach os xs) :
  Ev (fun k => spec_FormatMachine.f k os xs) (str (machL b os xs)) := by
 refine Ev.bind hb ?_
 cases b with
 | false => exact ev_val fun _ => rfl
 | true =>
  obtain ⟨v1, v2, v3⟩ := hv rfl
  simp only [if_true, machL]
  exact spec_FormatMachine.l0ev os xs ho hn v3 v2 (0, []) ⟨by simp, by simp⟩
theorem flat_len {α : Type} (f : α → List UInt8) (c : Nat) : ∀ xs : List α, (∀ x ∈ xs, (f x).length ≤ c) → (xs.flatMap f).length ≤ c * xs.length := by
 intro xs
 induction xs with
 | nil => intro _; simp
 | cons x xs ih =>
  intro h
  rw [List.flatMap_cons, List.length_append, List.length_cons]
  have h1 := h x (by simp)
  have h2 := ih (fun y hy => h y (by simp [hy]))
  rw [Nat.mul_add, Nat.mul_one]
  omega
theorem machL_len (b : Bool) (os : List Int) (xs : List S97) (ho : os.length ≤ 1048576) (hn : xs.length ≤ 1048576) (hv : b = true → vMach os xs) : (machL b os xs).length ≤ 100000000 := by
 cases b with
 | false => simp [machL]
 | true =>
  obtain ⟨v1, v2, v3⟩ := hv rfl
  have h1 := flat_len Lib.itoa 20 os (fun x hx => by
   obtain ⟨i, hi, rfl⟩ := List.mem_iff_getElem.1 hx
   have := v2 i hi
   rw [rd_get os i hi] at this
   exact itoa_len _ (by omega) (by omega))
  have h2 := flat_len sesL 70 xs (fun x hx => by
   obtain ⟨i, hi, rfl⟩ := List.mem_iff_getElem.1 hx
   have := sesL_len (v3 i hi)
   rwa [rdS xs i hi] at this)
  simp only [machL, if_true, catI, catS, List.length_append]
  omega
def snapG (p q : Int) (b : Bool) : Prop := (0 ≤ p ∧ p ≤ 16) ∧ (0 ≤ q ∧ q ≤ 9972) ∧ b = true
instance (p q : Int) (b : Bool) : Decidable (snapG p q b) := by unfold snapG; infer_instance
def snapL (p q : Int) (b : Bool) (os : List Int) (xs : List S97) : List UInt8 := if snapG p q b then Lib.itoa p ++ [44] ++ Lib.itoa q ++ [44] ++ machL b os xs else []
theorem spec_l7Good.ev (p q : Int) (os : List Int) (xs : List S97) (b : Bool) (hb : Ev (fun k => spec_IsValidMachine.f k os xs) b) : Ev (fun k => spec_l7Good.f k p q os xs) (decide (snapG p q b)) := by
 simp only [spec_l7Good.f, spec_l1In.val, Option.bind_some]
 by_cases h1 : 0 ≤ p ∧ p ≤ 16
 ·by_cases h2 : 0 ≤ q ∧ q ≤ 9972
  ·simp only [decide_eq_true h1, decide_eq_true h2, if_true]
   refine Ev.bind hb (ev_val fun _ => ?_)
   cases b <;> simp [snapG, h1, h2]
  ·simp only [decide_eq_true h1, decide_eq_false h2, if_true, Bool.false_eq_true, if_false]
   exact ev_some (decide_eq_false fun h => h2 h.2.1).symm
 ·simp only [decide_eq_false h1, Bool.false_eq_true, if_false]
  exact ev_some (decide_eq_false fun h => h1 h.1).symm
theorem spec_SnapshotText.ev (p q : Int) (os : List Int) (xs : List S97) (ho : os.length ≤ 1048576) (hn : xs.length ≤ 1048576) (b : Bool) (hb : Ev (fun k => spec_IsValidMachine.f k os xs) b) (hv : b = true → vMach os xs) :
  Ev (fun k => spec_SnapshotText.f k p q os xs) (str (snapL p q b os xs)) := by
 refine Ev.bind (spec_l7Good.ev p q os xs b hb) ?_
 by_cases hg : snapG p q b
 ·obtain ⟨h1, h2, h3⟩ := hg
  obtain ⟨K0, g0⟩ := spec_FormatInt.ev p (by omega) (by omega)
  obtain ⟨K1, g1⟩ := spec_FormatInt.ev q (by omega) (by omega)
  obtain ⟨K2, g2⟩ := spec_FormatMachine.ev os xs ho hn b hb hv
  have l0 := itoa_len p (by omega) (by omega)
  have l1 := itoa_len q (by omega) (by omega)
  have l2 := machL_len b os xs ho hn hv
  refine ⟨K0 + K1 + K2, fun k hk => ?_⟩
  simp only [decide_eq_true (show snapG p q b from ⟨h1, h2, h3⟩), if_true, g0 k (by omega), g1 k (by omega), g2 k (by omega), Option.bind_some, str_lit, str_append, str_size, List.length_append, List.length_cons, List.length_nil]
  simp (disch := omega) only [if_pos]
  rw [snapL, if_pos ⟨h1, h2, h3⟩]
 ·simp only [decide_eq_false hg, Bool.false_eq_true, if_false, snapL, if_neg hg]
  exact Ev.now _
theorem spec_l1PickInt.is (c : List Int) (hc : c.length ≤ 1048576) (i h : Int) (l : List Int) (hl : 0 < l.length) (hi : CurI i) : ∃ x i' h', spec_l1PickInt.f c i h l = some (x, i', h') ∧ x ∈ l ∧ CurI i' := by
 obtain ⟨x, i', h', e, _, hx, hi'⟩ := spec_l1Below.is c hc i h (l.length : Int) hi
 obtain ⟨h0, h1⟩ := hx (by omega)
 rw [spec_l1PickInt.f, e]
 simp only [Option.bind_some, if_pos h0, if_pos h1]
 refine ⟨_, _, _, rfl, ?_, hi'⟩
 obtain ⟨j, rfl⟩ := Int.eq_ofNat_of_zero_le h0
 rw [rd_get l j (by omega)]
 exact List.getElem_mem _
theorem spec_l3Op.is (c : List Int) (hc : c.length ≤ 1048576) (i h : Int) (hi : CurI i) : ∃ o0 o1 o2 o3 o4 o5 i' h', spec_l3Op.f c i h = some (o0, o1, o2, o3, o4, o5, i', h') ∧ CurI i' := by
 obtain ⟨a, i1, h1, e1, _, _, hi1⟩ := spec_l1Below.is c hc i h 3 hi
 obtain ⟨b, i2, h2, e2, _, _, hi2⟩ := spec_l1Below.is c hc i1 h1 5 hi1
 obtain ⟨d, i3, h3, e3, _, _, hi3⟩ := spec_l1Below.is c hc i2 h2 3 hi2
 obtain ⟨e, i4, h4, e4, _, _, hi4⟩ := spec_l1Below.is c hc i3 h3 10 hi3
 obtain ⟨q, i5, h5, e5, hi5⟩ := spec_l1Once.is c hc i4 h4 3 hi4
 cases q with
 | true =>
  obtain ⟨x, i6, h6, e6, _, hi6⟩ := spec_l1PickInt.is c hc i5 h5 [0, 0, 1, 5, 9] (by simp) hi5
  exact ⟨_, _, _, _, _, _, _, _, by simp only [spec_l3Op.f, e1, e2, e3, e4, e5, e6, Option.bind_some, if_true]; rfl, hi6⟩
 | false => exact ⟨_, _, _, _, _, _, _, _, by simp only [spec_l3Op.f, e1, e2, e3, e4, e5, Option.bind_some, Bool.false_eq_true, if_false]; rfl, hi5⟩
theorem rdE (xs : List S66) (i : Nat) (h : i < xs.length) : rd_T66 xs (i : Int) = xs[i] := by simp [rd_T66, h]
theorem spec_l5Log.ev (c : List Int) (hc : c.length ≤ 1048576) (i h : Int) (hi : CurI i) : ∃ l i' h', Ev (fun k => spec_l5Log.f k c i h) (l, i', h') ∧ l.length ≤ 7 ∧ CurI i' := by
 have key : ∀ d : Nat, d ≤ 7 → ∀ (acc : List S66) (e : Int), acc.length + d ≤ 7 → ∀ i h : Int, CurI i → ∃ l i' h', Ev (fun k => spec_l5Log.l0 k acc e (d : Int) c i h) (l, i', h') ∧ l.length ≤ 7 ∧ CurI i' := by
  intro d
  induction d with
  | zero =>
   intro _ acc e ha i h hi
   refine ⟨acc, i, h, ev_shift (ev_val fun k => ?_), by omega, hi⟩
   simp only [spec_l5Log.l0, if_neg (show ¬ ((0 : Nat) : Int) > 0 by omega)]
  | succ d ih =>
   intro hd acc e ha i h hi
   obtain ⟨q, i1, h1, e1, hi1⟩ := spec_l1Once.is c hc i h 3 hi
   obtain ⟨o0, o1, o2, o3, o4, o5, i2, h2, e2, hi2⟩ := spec_l3Op.is c hc i1 h1 hi1
   have e4 : wrap64 (((d + 1 : Nat) : Int) - 1) = (d : Int) := by rw [w64 (by omega) (by omega)]; omega
   have step : ∀ e' : Int, ∃ l i' h', Ev (fun k => spec_l5Log.l0 k (acc ++ [(⟨e', (⟨o0, o1, o2, o3, o4, o5⟩ : S64)⟩ : S66)]) e' (d : Int) c i2 h2) (l, i', h') ∧ l.length ≤ 7 ∧ CurI i' := fun e' =>
    ih (by omega) (acc ++ [(⟨e', (⟨o0, o1, o2, o3, o4, o5⟩ : S64)⟩ : S66)]) e' (by simp; omega) i2 h2 hi2
   have hlim : acc.length < 2513169434916 := by omega
   cases q with
   | true =>
    obtain ⟨l, i', h', hl, hp⟩ := step (wrap64 (e + 1))
    refine ⟨l, i', h', ev_shift (ev_to ⟨0, fun k _ => ?_⟩ hl), hp⟩
    simp only [spec_l5Log.l0, if_pos (show ((d + 1 : Nat) : Int) > 0 by omega), e1, Option.bind_some, if_true, e2, if_pos hlim, e4]
   | false =>
    obtain ⟨l, i', h', hl, hp⟩ := step e
    refine ⟨l, i', h', ev_shift (ev_to ⟨0, fun k _ => ?_⟩ hl), hp⟩
    simp only [spec_l5Log.l0, if_pos (show ((d + 1 : Nat) : Int) > 0 by omega), e1, Option.bind_some, Bool.false_eq_true, if_false, e2, if_pos hlim, e4]
 obtain ⟨n, i1, h1, e1, _, hn, hi1⟩ := spec_l1Below.is c hc i h 7 hi
 have hn' := hn (by omega)
 obtain ⟨N, rfl⟩ := Int.eq_ofNat_of_zero_le hn'.1
 obtain ⟨l, i', h', hl, hp⟩ := key N (by omega) [] 1 (by simp; omega) i1 h1 hi1
 refine ⟨l, i', h', ?_, hp⟩
 simp only [spec_l5Log.f, e1, Option.bind_some]
 exact hl
def vop (a b c d e f : Int) : Bool := decide ((0 ≤ a ∧ a ≤ 2) ∧ (1 ≤ b ∧ b ≤ 99) ∧ (0 ≤ d ∧ d ≤ 2) ∧ (0 ≤ f ∧ f ≤ 9) ∧ ((c = 1 ∧ e = 0) ∨ (c = 2 ∧ 0 ≤ e ∧ e ≤ 9)))
theorem spec_IsValidOp.val (a b c d e f : Int) : spec_IsValidOp.f a b c d e f = some (vop a b c d e f) := by
 unfold spec_IsValidOp.f vop
 simp only [spec_l1In.val, Option.bind_some]
 by_cases h1 : 0 ≤ a ∧ a ≤ 2
 ·by_cases h2 : 1 ≤ b ∧ b ≤ 99
  ·by_cases h3 : 0 ≤ d ∧ d ≤ 2
   ·by_cases h4 : 0 ≤ f ∧ f ≤ 9
    ·simp only [decide_eq_true h1, decide_eq_true h2, decide_eq_true h3, decide_eq_true h4, if_true]
     by_cases hc : c = 1
     ·by_cases he : e = 0
      ·simp [hc, he, h1, h2, h3, h4]
      ·simp [hc, he, h1, h2, h3, h4]
     ·by_cases hc2 : c = 2
      ·simp [hc2, h1, h2, h3, h4]
      ·simp [hc, hc2]
    ·simp only [decide_eq_true h1, decide_eq_true h2, decide_eq_true h3, decide_eq_false h4, if_true, Bool.false_eq_true, if_false]
     simp; intros; omega
   ·simp only [decide_eq_true h1, decide_eq_true h2, decide_eq_false h3, if_true, Bool.false_eq_true, if_false]
    simp; intros; omega
  ·simp only [decide_eq_true h1, decide_eq_false h2, if_true, Bool.false_eq_true, if_false]
   simp; intros; omega
 ·simp only [decide_eq_false h1, Bool.false_eq_true, if_false]
  simp; intros; omega
def okAt (xs : List S66) (j : Nat) : Prop := (1 ≤ (rd_T66 xs (j : Int)).f0 ∧ (rd_T66 xs (j : Int)).f0 ≤ 20) ∧
 vop (rd_T66 xs (j : Int)).f1.f0 (rd_T66 xs (j : Int)).f1.f1 (rd_T66 xs (j : Int)).f1.f2 (rd_T66 xs (j : Int)).f1.f3 (rd_T66 xs (j : Int)).f1.f4 (rd_T66 xs (j : Int)).f1.f5 = true ∧
 (0 < j → (rd_T66 xs ((j : Int) - 1)).f0 ≤ (rd_T66 xs (j : Int)).f0)
def isLog (xs : List S66) : Prop := (∀ j, j < xs.length → okAt xs j) ∧ xs.length ≤ 16
theorem spec_IsLog.ev (xs : List S66) (hn : xs.length ≤ 9223372036854775806) : ∃ b, Ev (fun k => spec_IsLog.f k xs) b ∧ (b = true ↔ isLog xs) := by
 refine ⟨decide (vL_spec xs), ev_val fun _ => rfl, decide_eq_true_iff.trans ?_⟩
 simp only [vL_spec, isLog, okE_spec, okAt, spec_IsValidOp.val, Option.some.injEq]
 exact And.comm
def opL (a b c d e f : Int) : List UInt8 := Lib.itoa a ++ [46] ++ Lib.itoa b ++ (if c = 2 then [32, 115, 119, 97, 112, 32] ++ Lib.itoa d ++ [32] ++ Lib.itoa e ++ [32] ++ Lib.itoa f else [32, 119, 114, 105, 116, 101, 32] ++ Lib.itoa d ++ [32] ++ Lib.itoa f)
def fopL (a b c d e f : Int) : List UInt8 := if vop a b c d e f = true then opL a b c d e f else []
theorem spec_FormatOp.ev (a b c d e f : Int) : Ev (fun k => spec_FormatOp.f k a b c d e f) (str (fopL a b c d e f)) := by
 cases hv : vop a b c d e f with
 | false => exact ev_val fun k => by simp only [spec_FormatOp.f, spec_IsValidOp.val, hv, Option.bind_some, Bool.false_eq_true, if_false, fopL]; rfl
 | true =>
  have hq := hv
  simp only [vop, decide_eq_true_eq] at hq
  obtain ⟨K0, h0⟩ := spec_FormatInt.ev a (by omega) (by omega)
  obtain ⟨K1, h1⟩ := spec_FormatInt.ev b (by omega) (by omega)
  obtain ⟨K3, h3⟩ := spec_FormatInt.ev d (by omega) (by omega)
  obtain ⟨K4, h4⟩ := spec_FormatInt.ev e (by omega) (by omega)
  obtain ⟨K5, h5⟩ := spec_FormatInt.ev f (by omega) (by omega)
  have l0 := itoa_len a (by omega) (by omega)
  have l1 := itoa_len b (by omega) (by omega)
  have l3 := itoa_len d (by omega) (by omega)
  have l4 := itoa_len e (by omega) (by omega)
  have l5 := itoa_len f (by omega) (by omega)
  refine ⟨K0 + K1 + K3 + K4 + K5, fun k hk => ?_⟩
  rcases (show (c = 1 ∧ ¬ c = 2) ∨ (c = 2 ∧ ¬ c = 1) by omega) with ⟨hc, hn⟩ | ⟨hc, hn⟩
  ·simp only [spec_FormatOp.f, spec_IsValidOp.val, hv, Option.bind_some, if_true, h0 k (by omega), h1 k (by omega), h3 k (by omega), h5 k (by omega), if_pos hc, str_lit, str_append, str_size, List.length_append, List.length_cons, List.length_nil]
   simp (disch := omega) only [if_pos]
   simp only [fopL, hv, if_true, opL, if_neg hn, List.append_assoc, List.cons_append, List.nil_append]
  ·simp only [spec_FormatOp.f, spec_IsValidOp.val, hv, Option.bind_some, if_true, h0 k (by omega), h1 k (by omega), h3 k (by omega), h4 k (by omega), h5 k (by omega), if_neg hn, str_lit, str_append, str_size, List.length_append, List.length_cons, List.length_nil]
   simp (disch := omega) only [if_pos]
   simp only [fopL, hv, if_true, opL, if_pos hc, List.append_assoc, List.cons_append, List.nil_append]
def entL (x : S66) : List UInt8 := Lib.itoa x.f0 ++ [58] ++ fopL x.f1.f0 x.f1.f1 x.f1.f2 x.f1.f3 x.f1.f4 x.f1.f5
def restL (xs : List S66) (i : Nat) : List UInt8 := if i = 0 then Lib.join (xs.map entL) [59] else Lib.joinTail [59] ((xs.drop i).map entL)
def logL (xs : List S66) : List UInt8 := if xs.length = 0 then [110, 111, 110, 101] else Lib.join (xs.map entL) [59]
theorem restL_step (xs : List S66) (i : Nat) (h : i < xs.length) : restL xs i = (if i = 0 then entL xs[i] else [59] ++ entL xs[i]) ++ restL xs (i + 1) := by
 have hd : xs.drop i = xs[i] :: xs.drop (i + 1) := List.drop_eq_getElem_cons h
 unfold restL
 rw [if_neg (show ¬ (i + 1 = 0) by omega)]
 by_cases h0 : i = 0
 ·subst h0
  rw [if_pos rfl, if_pos rfl]
  have e : xs.map entL = entL xs[0] :: (xs.drop 1).map entL := by
   conv => lhs; rw [← List.drop_zero (l := xs), hd]
   rfl
  rw [e, Lib.join_cons]
 ·rw [if_neg h0, if_neg h0, hd]
  simp only [Lib.joinTail, List.map_cons, List.flatten_cons]
theorem restL_end (xs : List S66) : restL xs xs.length = [] := by
 unfold restL
 by_cases h : xs.length = 0
 ·rw [if_pos h, List.length_eq_zero_iff.1 h]; rfl
 ·rw [if_neg h, List.drop_length]; rfl
theorem fopL_len (a b c d e f : Int) : (fopL a b c d e f).length ≤ 150 := by
 unfold fopL
 cases hv : vop a b c d e f with
 | false => simp
 | true =>
  simp only [vop, decide_eq_true_eq] at hv
  have l0 := itoa_len a (by omega) (by omega)
  have l1 := itoa_len b (by omega) (by omega)
  have l3 := itoa_len d (by omega) (by omega)
  have l4 := itoa_len e (by omega) (by omega)
  have l5 := itoa_len f (by omega) (by omega)
  simp only [if_true, opL]
  split <;> simp only [List.length_append, List.length_cons, List.length_nil] <;> omega
theorem isLog_epoch (xs : List S66) (hv : isLog xs) (i : Nat) (h : i < xs.length) : 1 ≤ xs[i].f0 ∧ xs[i].f0 ≤ 20 := by
 have := (hv.1 i h).1
 rwa [rdE xs i h] at this
theorem spec_FormatLog.l0ev (xs : List S66) (hv : isLog xs) :
  ∀ s : Nat × List UInt8, (s.1 ≤ xs.length ∧ s.2.length ≤ 400 * s.1) → Ev (fun k => spec_FormatLog.l0 k xs (str s.2) (s.1 : Int)) (str (s.2 ++ restL xs s.1)) := by
 refine loop_ev (fun k (s : Nat × List UInt8) => spec_FormatLog.l0 k xs (str s.2) (s.1 : Int)) _ (fun s => xs.length - s.1) (fun s => str (s.2 ++ restL xs s.1)) ?_
 rintro ⟨i, acc⟩ ⟨h1, h2⟩
 simp only at h1 h2 ⊢
 have h16 := hv.2
 by_cases hi : i < xs.length
 ·have hep := isLog_epoch xs hv i hi
  obtain ⟨K1, f1⟩ := spec_FormatInt.ev xs[i].f0 (by omega) (by omega)
  obtain ⟨K2, f2⟩ := spec_FormatOp.ev xs[i].f1.f0 xs[i].f1.f1 xs[i].f1.f2 xs[i].f1.f3 xs[i].f1.f4 xs[i].f1.f5
  have hl := itoa_len xs[i].f0 (by omega) (by omega)
  have hl2 := fopL_len xs[i].f1.f0 xs[i].f1.f1 xs[i].f1.f2 xs[i].f1.f3 xs[i].f1.f4 xs[i].f1.f5
  have e1 := w64 (show -9223372036854775808 ≤ (i : Int) + 1 by omega) (by omega)
  refine .inr ⟨(i + 1, acc ++ (if i = 0 then entL xs[i] else [59] ++ entL xs[i])), ⟨by simp only; omega, ?_⟩, by simp only; omega, ?_, ?_⟩
  ·simp only [List.length_append]
   split <;> simp only [entL, List.length_append, List.length_cons, List.length_nil] <;> omega
  ·simp only [restL_step xs i hi, List.append_assoc]
  ·intro r hr'
   obtain ⟨K3, hr3⟩ := hr'
   refine ⟨K1 + K2 + K3 + 1, fun k hk => ?_⟩
   obtain ⟨k, rfl⟩ : ∃ m, k = m + 1 := ⟨k - 1, by omega⟩
   rw [← hr3 k (by omega)]
   by_cases h0 : i = 0
   ·simp only [spec_FormatLog.l0, if_pos (show (i : Int) < (xs.length : Int) by omega), if_pos (show (0 : Int) ≤ (i : Int) by omega), if_neg (show ¬ ((i : Int) > 0) by omega), rdE xs i hi, f1 k (by omega), f2 k (by omega), Option.bind_some, str_lit, str_append, str_size, List.length_append, List.length_cons, List.length_nil, e1]
    simp (disch := omega) only [if_pos]
    simp only [entL, List.append_assoc, List.cons_append, List.nil_append]
    rfl
   ·simp only [spec_FormatLog.l0, if_pos (show (i : Int) < (xs.length : Int) by omega), if_pos (show (0 : Int) ≤ (i : Int) by omega), if_pos (show (i : Int) > 0 by omega), rdE xs i hi, f1 k (by omega), f2 k (by omega), Option.bind_some, str_lit, str_append, str_size, List.length_append, List.length_cons, List.length_nil, e1]
    simp (disch := omega) only [if_pos, if_neg]
    simp only [entL, List.append_assoc, List.cons_append, List.nil_append]
    rfl
 ·refine .inl (ev_shift (ev_val fun k => ?_))
  obtain rfl : i = xs.length := by omega
  simp only [spec_FormatLog.l0, if_neg (show ¬ ((xs.length : Int) < (xs.length : Int)) by omega), restL_end, List.append_nil]
theorem spec_FormatLog.ev (xs : List S66) (hn : xs.length ≤ 1048577) (b : Bool) (hb : Ev (fun k => spec_IsLog.f k xs) b) (hq : b = true ↔ isLog xs) : Ev (fun k => spec_FormatLog.f k xs) (str (if b = true then logL xs else [])) := by
 refine Ev.bind hb ?_
 cases b with
 | false => exact ev_val fun _ => rfl
 | true =>
  simp only [if_true, logL]
  by_cases h : xs.length = 0
  ·simp only [if_pos h, if_pos (show (xs.length : Int) = 0 by omega)]; exact Ev.now _
  ·simp only [if_neg h, if_neg (show ¬ ((xs.length : Int) = 0) by omega)]
   have := spec_FormatLog.l0ev xs (hq.1 rfl) (0, []) ⟨by simp, by simp⟩
   have e : (⟨#[]⟩ : ByteArray) = str [] := rfl
   rw [e]
   simpa [restL] using this
def dgStep (c : Int) (x : S66) : Int := (c * 31 + cks (bytesOf (str (entL x)))) % 9973
theorem dgStep_range (c : Int) (x : S66) : 0 ≤ dgStep c x ∧ dgStep c x ≤ 9972 := by unfold dgStep; omega
def dgs : Int → List S66 → List Int
 | c, [] => [c]
 | c, x :: r => c :: dgs (dgStep c x) r
theorem dgs_len : ∀ (xs : List S66) (c : Int), (dgs c xs).length = xs.length + 1
 | [], _ => rfl
 | x :: r, c => by simp [dgs, dgs_len r]
theorem isLog_one (xs : List S66) (hv : isLog xs) (i : Nat) (h : i < xs.length) : isLog [xs[i]] := by
 have h1 := hv.1 i h
 refine ⟨fun j hj => ?_, by simp⟩
 obtain rfl : j = 0 := by simpa using hj
 simp only [okAt, rdE xs i h] at h1
 have e : rd_T66 [xs[i]] ((0 : Nat) : Int) = xs[i] := rdE [xs[i]] 0 (by simp)
 simp only [okAt, e]
 exact ⟨h1.1, h1.2.1, fun h0 => absurd h0 (Nat.lt_irrefl 0)⟩
theorem logL_one (x : S66) : logL [x] = entL x := by
 simp only [logL, List.length_singleton, if_neg (show ¬ (1 = 0) by omega), List.map_cons, List.map_nil]
 exact Lib.join_one _ _
theorem cut_one (xs : List S66) (i : Nat) (h : i < xs.length) : (xs.take (i + 1)).drop i = [xs[i]] := by
 rw [List.take_succ_eq_append_getElem h, List.drop_append_of_le_length (by rw [List.length_take]; omega), List.drop_eq_nil_of_le (by rw [List.length_take]; omega)]
 rfl
theorem entL_len (xs : List S66) (hv : isLog xs) (i : Nat) (h : i < xs.length) : (entL xs[i]).length ≤ 400 := by
 have hep := isLog_epoch xs hv i h
 have hl := itoa_len xs[i].f0 (by omega) (by omega)
 have hl2 := fopL_len xs[i].f1.f0 xs[i].f1.f1 xs[i].f1.f2 xs[i].f1.f3 xs[i].f1.f4 xs[i].f1.f5
 simp only [entL, List.length_append, List.length_cons, List.length_nil]
 omega
def dgAt (l : List Int) (a : Int) : Int := if 0 ≤ a ∧ a ≤ (l.length : Int) - 1 then rd l a else -1
theorem spec_FormatLog.one (x : S66) (h : isLog [x]) : Ev (fun k => spec_FormatLog.f k [x]) (str (entL x)) := by
 obtain ⟨b, hb, hq⟩ := spec_IsLog.ev [x] (by simp)
 have := spec_FormatLog.ev [x] (by simp) b hb hq
 rw [if_pos (hq.2 h), logL_one] at this
 exact this
theorem spec_DigestList.l0ev (xs : List S66) (hv : isLog xs) :
  ∀ s : List Int × Int, (s.1.length ≤ xs.length ∧ 0 ≤ s.2 ∧ s.2 ≤ 9972) → Ev (fun k => spec_DigestList.l0 k xs (s.1 ++ [s.2]) s.2 (s.1.length : Int)) (s.1 ++ dgs s.2 (xs.drop s.1.length)) := by
 refine loop_ev (fun k (s : List Int × Int) => spec_DigestList.l0 k xs (s.1 ++ [s.2]) s.2 (s.1.length : Int)) _ (fun s => xs.length - s.1.length) (fun s => s.1 ++ dgs s.2 (xs.drop s.1.length)) ?_
 rintro ⟨pre, d⟩ ⟨h1, h2, h3⟩
 simp only at h1 h2 h3 ⊢
 have h16 := hv.2
 obtain ⟨i, hi0⟩ : ∃ i, i = pre.length := ⟨_, rfl⟩
 rw [← hi0] at h1 ⊢
 by_cases hi : i < xs.length
 ·have hd : xs.drop i = xs[i] :: xs.drop (i + 1) := List.drop_eq_getElem_cons hi
  have e1 := w64 (show -9223372036854775808 ≤ (i : Int) + 1 by omega) (by omega)
  have e2 : (((i : Int) + 1).toNat) = i + 1 := by omega
  have hck := cks_range (bytesOf (str (entL xs[i])))
  have hl := entL_len xs hv i hi
  obtain ⟨K1, f1⟩ := spec_FormatLog.one xs[i] (isLog_one xs hv i hi)
  obtain ⟨K2, f2⟩ := spec_Checksum.ev (str (entL xs[i])) (by rw [str_size]; omega)
  have hst := dgStep_range d xs[i]
  refine .inr ⟨(pre ++ [d], dgStep d xs[i]), ⟨by simp only [List.length_append, List.length_singleton]; omega, hst.1, hst.2⟩, by simp only [List.length_append, List.length_singleton]; omega, ?_, ?_⟩
  ·simp only [List.length_append, List.length_singleton, ← hi0]
   rw [hd]
   simp only [dgs, List.append_assoc, List.singleton_append]
  ·rintro r ⟨K3, hr3⟩
   simp only [List.length_append, List.length_singleton, ← hi0] at hr3
   refine ⟨K1 + K2 + K3 + 1, fun k hk => ?_⟩
   obtain ⟨k, rfl⟩ : ∃ m, k = m + 1 := ⟨k - 1, by omega⟩
   rw [← hr3 k (by omega)]
   simp only [spec_DigestList.l0, if_pos (show (i : Int) < (xs.length : Int) by omega), if_pos (show (0 : Int) ≤ (i : Int) by omega), e1, e2, if_pos (show (i : Int) ≤ (i : Int) + 1 by omega), if_pos (show (i : Int) + 1 ≤ (xs.length : Int) by omega), Int.toNat_natCast, cut_one xs i hi, f1 k (by omega), f2 k (by omega), Option.bind_some, List.length_append, List.length_singleton, ← hi0, if_pos (show i + 1 < 17592186044416 by omega),
    w64 (show -9223372036854775808 ≤ d * 31 by omega) (by omega), w64 (show -9223372036854775808 ≤ d * 31 + cks (bytesOf (str (entL xs[i]))) by omega) (by omega), tmod_pos (d * 31 + cks (bytesOf (str (entL xs[i])))) 9973 (by omega)]
   rfl
 ·obtain rfl : i = xs.length := by omega
  refine .inl (ev_shift (ev_val fun k => ?_))
  simp only [spec_DigestList.l0, if_neg (show ¬ ((xs.length : Int) < (xs.length : Int)) by omega), List.drop_length, dgs]
theorem spec_DigestList.ev (xs : List S66) (hn : xs.length ≤ 1048576) (b : Bool) (hb : Ev (fun k => spec_IsLog.f k xs) b) (hq : b = true ↔ isLog xs) : Ev (fun k => spec_DigestList.f k xs) (if b = true then dgs 11 xs else []) := by
 simp only [spec_DigestList.f, Option.bind_some, List.length_nil, if_pos (show 0 < 17592186044416 by omega), List.nil_append]
 refine Ev.bind hb ?_
 cases b with
 | false => exact ev_val fun _ => rfl
 | true =>
  simp only [if_true]
  have := spec_DigestList.l0ev xs (hq.1 rfl) ([], 11) ⟨by simp, by simp, by simp⟩
  simpa using this
theorem spec_DigestOf.ev (xs : List S66) (a : Int) (l : List Int) (hl : Ev (fun k => spec_DigestList.f k xs) l) (hn : l.length ≤ 1000000) : Ev (fun k => spec_DigestOf.f k xs a) (dgAt l a) := by
 refine Ev.bind hl (ev_val fun k => ?_)
 have e1 := w64 (show -9223372036854775808 ≤ (l.length : Int) - 1 by omega) (by omega)
 by_cases h : 0 ≤ a ∧ a ≤ (l.length : Int) - 1
 ·simp only [spec_l1In.val, e1, Option.bind_some, decide_eq_true h, if_true, if_pos h.1, if_pos (show a < (l.length : Int) by omega), dgAt, if_pos h]
 ·simp only [spec_l1In.val, e1, Option.bind_some, decide_eq_false h, Bool.false_eq_true, if_false, dgAt, if_neg h]
theorem spec_NewMachine.val : spec_NewMachine.f = some ([0, 0, 0], []) := rfl
theorem spec_l4Copy.val (os : List Int) (xs : List S97) (h1 : os.length < 17592186044416) (h2 : xs.length < 4398046511104) : spec_l4Copy.f os xs = some (os, xs) := by
 simp only [spec_l4Copy.f, Option.bind_some, List.length_nil, Nat.zero_add, if_pos h1, if_pos h2, List.nil_append]
def sesOut : Option S97 → Int × Int × Bool × Int × Bool
 | none => (0, 0, false, 0, false)
 | some s => (s.f0, s.f1, s.f2.f0, s.f2.f1, true)
def sesOf (xs : List S97) (c : Int) : Option S97 := xs.find? fun s => s.f0 == c
theorem spec_SessionOf.ev (os : List Int) (xs : List S97) (c : Int) (hn : xs.length ≤ 9223372036854775806) : Ev (fun k => spec_SessionOf.f k os xs c) (sesOut (sesOf xs c)) := by
 have key : ∀ (d i : Nat), i + d = xs.length → Ev (fun k => spec_SessionOf.l0 k c (i : Int) os xs) (sesOut (sesOf (xs.drop i) c)) := by
  intro d
  induction d with
  | zero =>
   intro i h
   refine ev_shift ?_
   simp only [spec_SessionOf.l0, if_neg (show ¬ ((i : Int) < (xs.length : Int)) by omega)]
   exact ev_some (by rw [List.drop_eq_nil_of_le (show xs.length ≤ i by omega)]; rfl)
  | succ d ih =>
   intro i h
   have h1 : i < xs.length := by omega
   have := ih (i + 1) (by omega)
   refine ev_shift ?_
   simp only [spec_SessionOf.l0, if_pos (show (i : Int) < (xs.length : Int) by omega), if_pos (show (0 : Int) ≤ (i : Int) by omega), w64 (show -9223372036854775808 ≤ (i : Int) + 1 by omega) (by omega), rdS xs i h1]
   rw [List.drop_eq_getElem_cons h1, sesOf, List.find?_cons]
   by_cases hc : xs[i].f0 = c
   ·simp only [if_pos hc]
    rw [show (xs[i].f0 == c) = true by simpa using hc]
    exact Ev.now _
   ·simp only [if_neg hc]
    rw [show (xs[i].f0 == c) = false by simpa using hc]
    simpa [sesOf] using this
 have := key xs.length 0 (by omega)
 simpa [spec_SessionOf.f] using this
theorem insAt_lt (c : Int) : ∀ xs : List S97, (∃ s ∈ xs, s.f0 = c) → insAt_ c xs < xs.length
 | [], h => by simp at h
 | x :: xs, h => by
  by_cases hx : x.f0 < c
  ·have : insAt_ c (x :: xs) = insAt_ c xs + 1 := by simp [insAt_, List.takeWhile_cons, hx]
   rw [this]
   obtain ⟨s, hs, hc⟩ := h
   rcases List.mem_cons.1 hs with rfl | hs
   ·omega
   ·have := insAt_lt c xs ⟨s, hs, hc⟩
    simp only [List.length_cons]; omega
  ·simp [insAt_, List.takeWhile_cons, hx]
theorem sesOut_in (xs : List S97) (c : Int) (h : (sesOut (sesOf xs c)).2.2.2.2 = true) : ∃ s ∈ xs, s.f0 = c := by
 cases hs : sesOf xs c with
 | none => rw [hs] at h; simp [sesOut] at h
 | some s => exact ⟨s, List.mem_of_find?_eq_some hs, by have := List.find?_some hs; simpa using this⟩
def stepR (os : List Int) (xs : List S97) (a b c d e f : Int) : Option (List Int × List S97 × Bool × Int × Bool) :=
 step_ os os xs (sesOut (sesOf xs a)).2.1 (sesOut (sesOf xs a)).2.2.1 (sesOut (sesOf xs a)).2.2.2.1 (sesOut (sesOf xs a)).2.2.2.2 a b c d e f
open Classical in
noncomputable def appR (os : List Int) (xs : List S97) (a b c d e f : Int) : List Int × List S97 × Bool × Int × Bool :=
 if vMach os xs then (if vop a b c d e f = true then (stepR os xs a b c d e f).getD (os, xs, false, 0, false) else (os, xs, false, 0, false)) else (os, xs, false, 0, false)
theorem stepR_some (os : List Int) (xs : List S97) (a b c d e f : Int) (hm : vMach os xs) (hv : vop a b c d e f = true) (hn : xs.length < 1099511627776) : ∃ r, stepR os xs a b c d e f = some r ∧ r.1.length = os.length ∧ r.2.1.length ≤ xs.length + 1 := by
 have hd : 0 ≤ d ∧ d ≤ 2 := by simp only [vop, decide_eq_true_eq] at hv; exact hv.2.2.1
 have ho := hm.1
 unfold stepR step_
 split
 ·exact ⟨_, rfl, rfl, by simp⟩
 split
 ·exact ⟨_, rfl, rfl, by simp⟩
 rw [if_pos ⟨hd.1, by omega, by omega, hn, fun h => insAt_lt a xs (sesOut_in xs a h)⟩]
 refine ⟨_, rfl, by simp only; split <;> simp, ?_⟩
 simp only [List.length_append, List.length_take, List.length_drop, List.length_singleton]
 have := insAt_le a xs
 split <;> omega
theorem appR_len (os : List Int) (xs : List S97) (a b c d e f : Int) (hn : xs.length < 1099511627776) : (appR os xs a b c d e f).1.length = os.length ∧ (appR os xs a b c d e f).2.1.length ≤ xs.length + 1 := by
 unfold appR
 split
 ·split
  ·rename_i hm hv
   obtain ⟨r, hr, h1, h2⟩ := stepR_some os xs a b c d e f hm hv hn
   rw [hr]; exact ⟨h1, h2⟩
  ·simp
 ·simp
theorem spec_ApplyOp.ev (os : List Int) (xs : List S97) (a b c d e f : Int) (ho : os.length < 17592186044416) (hn : xs.length < 1099511627776) : Ev (fun k => spec_ApplyOp.f k os xs a b c d e f) (appR os xs a b c d e f) := by
 obtain ⟨q, hq, hq2⟩ := spec_IsValidMachine.ev os xs (by omega) (by omega)
 simp only [spec_ApplyOp.f, spec_l4Copy.val os xs ho (by omega), Option.bind_some]
 refine Ev.bind hq ?_
 cases q with
 | true =>
  simp only [if_true, spec_IsValidOp.val, Option.bind_some]
  rw [appR, if_pos (hq2.1 rfl)]
  by_cases hv : vop a b c d e f = true
  ·rw [if_pos hv]
   simp only [if_pos hv]
   obtain ⟨r, hr, _⟩ := stepR_some os xs a b c d e f (hq2.1 rfl) hv hn
   refine Ev.bind (spec_SessionOf.ev os xs a (by omega)) (ev_val fun _ => ?_)
   rw [hr]; exact hr
  ·rw [if_neg hv]
   simp only [if_neg hv]
   exact Ev.now _
 | false =>
  rw [appR, if_neg (show ¬ vMach os xs from fun h => by simpa using hq2.2 h)]
  simp only [Bool.false_eq_true, if_false]
  exact Ev.now _
noncomputable def repl : List S66 → List Int → List S97 → List Int × List S97
 | [], os, xs => (os, xs)
 | e :: es, os, xs => repl es (appR os xs e.f1.f0 e.f1.f1 e.f1.f2 e.f1.f3 e.f1.f4 e.f1.f5).1 (appR os xs e.f1.f0 e.f1.f1 e.f1.f2 e.f1.f3 e.f1.f4 e.f1.f5).2.1
theorem repl_len : ∀ (es : List S66) (os : List Int) (xs : List S97), xs.length + es.length < 1099511627776 → (repl es os xs).1.length = os.length ∧ (repl es os xs).2.length ≤ xs.length + es.length
 | [], os, xs, _ => ⟨rfl, Nat.le_refl _⟩
 | e :: es, os, xs, h => by
  simp only [List.length_cons] at h
  have h1 := appR_len os xs e.f1.f0 e.f1.f1 e.f1.f2 e.f1.f3 e.f1.f4 e.f1.f5 (by omega)
  have h2 := repl_len es (appR os xs e.f1.f0 e.f1.f1 e.f1.f2 e.f1.f3 e.f1.f4 e.f1.f5).1 (appR os xs e.f1.f0 e.f1.f1 e.f1.f2 e.f1.f3 e.f1.f4 e.f1.f5).2.1 (show (appR os xs e.f1.f0 e.f1.f1 e.f1.f2 e.f1.f3 e.f1.f4 e.f1.f5).2.1.length + es.length < 1099511627776 by omega)
  rw [repl]
  exact ⟨h2.1.trans h1.1, by simp only [List.length_cons]; omega⟩
open Classical in
noncomputable def repR (es : List S66) : List Int × List S97 × Bool := if isLog es then ((repl es [0, 0, 0] []).1, (repl es [0, 0, 0] []).2, true) else ([], [], false)
theorem repR_len (es : List S66) : (repR es).1.length ≤ 3 ∧ (repR es).2.1.length ≤ 16 := by
 unfold repR
 split
 ·rename_i h
  have := h.2
  have := repl_len es [0, 0, 0] [] (by simp; omega)
  simp only [List.length_cons, List.length_nil] at this ⊢
  omega
 ·simp
theorem rep_loop (xs : List S66) (g : Nat → Int → List Int → List S97 → Option (List Int × List S97 × Bool)) (hn : xs.length ≤ 2000000)
  (h0 : ∀ os ss, Ev (fun k => g k (xs.length : Int) os ss) (os, ss, true))
  (h1 : ∀ (i : Nat) (os : List Int) (ss : List S97) (r : List Int × List S97 × Bool), (hi : i < xs.length) → os.length < 1000 → ss.length < 1000000000 → Ev (fun k => g k ((i : Int) + 1) (appR os ss xs[i].f1.f0 xs[i].f1.f1 xs[i].f1.f2 xs[i].f1.f3 xs[i].f1.f4 xs[i].f1.f5).1 (appR os ss xs[i].f1.f0 xs[i].f1.f1 xs[i].f1.f2 xs[i].f1.f3 xs[i].f1.f4 xs[i].f1.f5).2.1) r → Ev (fun k => g k (i : Int) os ss) r) :
  ∀ (d i : Nat) (os : List Int) (ss : List S97), i + d = xs.length → os.length < 1000 → ss.length ≤ i → Ev (fun k => g k (i : Int) os ss) ((repl (xs.drop i) os ss).1, (repl (xs.drop i) os ss).2, true)
 | 0, i, os, ss, h, _, _ => by
  obtain rfl : i = xs.length := by omega
  rw [List.drop_length]
  exact h0 os ss
 | d + 1, i, os, ss, h, h2, h3 => by
  have hl := appR_len os ss xs[i].f1.f0 xs[i].f1.f1 xs[i].f1.f2 xs[i].f1.f3 xs[i].f1.f4 xs[i].f1.f5 (by omega)
  rw [List.drop_eq_getElem_cons (show i < xs.length by omega), repl]
  exact h1 i os ss _ (by omega) h2 (by omega) (rep_loop xs g hn h0 h1 d (i + 1) _ _ (by omega) (by omega) (by omega))
theorem spec_ReplayLog.ev (xs : List S66) (hn : xs.length ≤ 2000000) : Ev (fun k => spec_ReplayLog.f k xs) (repR xs) := by
 obtain ⟨q, hq, hq2⟩ := spec_IsLog.ev xs (by omega)
 simp only [spec_ReplayLog.f, spec_NewMachine.val, Option.bind_some]
 refine Ev.bind hq ?_
 cases q with
 | true =>
  simp only [if_true]
  rw [repR, if_pos (hq2.1 rfl)]
  refine rep_loop xs (fun k i os ss => spec_ReplayLog.l0 k xs i os ss) hn (fun os ss => ev_shift (ev_val fun k => ?_)) (fun i os ss r hi h1 h2 h3 => ev_shift ?_) xs.length 0 [0, 0, 0] [] (by omega) (by simp) (by simp)
  ·simp only [spec_ReplayLog.l0, if_neg (show ¬ ((xs.length : Int) < (xs.length : Int)) by omega)]
  ·simp only [spec_ReplayLog.l0, if_pos (show (i : Int) < (xs.length : Int) by omega), if_pos (show (0 : Int) ≤ (i : Int) by omega), w64 (show -9223372036854775808 ≤ (i : Int) + 1 by omega) (by omega), rdE xs i hi]
   exact Ev.bind (spec_ApplyOp.ev os ss _ _ _ _ _ _ (by omega) (by omega)) h3
 | false =>
  simp only [Bool.false_eq_true, if_false]
  rw [repR, if_neg (fun h => by simpa using hq2.2 h)]
  exact Ev.now _
theorem spec_TakeSnapshot.ev (l : List S66) (n : Int) (hl : l.length ≤ 1000) : ∃ p q os xs b, Ev (fun k => spec_TakeSnapshot.f k l n) (p, q, os, xs, b) ∧ os.length ≤ 3 ∧ xs.length ≤ 16 := by
 obtain ⟨b, sb, qb⟩ := spec_IsLog.ev l (by omega)
 have hbad : Ev (fun k => spec_TakeSnapshot.j0 k l n true) (0, 0, [], [], false) := ev_shift (ev_val fun k => by simp only [spec_TakeSnapshot.j0, if_true])
 cases b with
 | false => exact ⟨_, _, _, _, _, Ev.bind sb (by simp only [Bool.false_eq_true, if_false]; exact hbad), by simp, by simp⟩
 | true =>
  by_cases hin : 0 ≤ n ∧ n ≤ (l.length : Int)
  ·have hR := spec_ReplayLog.ev (l.take n.toNat) (by rw [List.length_take]; omega)
   obtain ⟨hz1, hz2⟩ := repR_len (l.take n.toNat)
   have hS := spec_DigestList.ev l (by omega) true sb qb
   have hD := spec_DigestOf.ev l n _ hS (by simp only [if_true, dgs_len]; omega)
   refine ⟨n, dgAt (if true = true then dgs 11 l else []) n, (repR (l.take n.toNat)).1, (repR (l.take n.toNat)).2.1, true, Ev.bind sb ?_, hz1, hz2⟩
   ·simp only [if_true, spec_l1In.val, Option.bind_some, decide_eq_true hin, Bool.not_true]
    refine ev_shift ?_
    simp only [spec_TakeSnapshot.j0, Bool.false_eq_true, if_false, if_pos hin.1, if_pos hin.2]
    exact Ev.bind hR (Ev.bind hD (Ev.now _))
  ·refine ⟨0, 0, [], [], false, Ev.bind sb ?_, by simp, by simp⟩
   simp only [if_true, spec_l1In.val, Option.bind_some, decide_eq_false hin, Bool.not_false]
   exact hbad
theorem spec_l4Machine.ev (c : List Int) (hc : c.length ≤ 1048576) (i h : Int) (hi : CurI i) : ∃ os xs i' h', Ev (fun k => spec_l4Machine.f k c i h) (os, xs, i', h') ∧ os.length = 3 ∧ xs.length ≤ 6 ∧ CurI i' := by
 have key : ∀ d : Nat, d ≤ 6 → ∀ (os : List Int) (xs : List S97), os.length = 3 → xs.length + d ≤ 6 → ∀ i h : Int, CurI i → ∃ os' xs' i' h', Ev (fun k => spec_l4Machine.l0 k (d : Int) c i h os xs) (os', xs', i', h') ∧ os'.length = 3 ∧ xs'.length ≤ 6 ∧ CurI i' := by
  intro d
  induction d with
  | zero =>
   intro _ os xs ho hx i h hi
   refine ⟨os, xs, i, h, ev_shift (ev_val fun k => ?_), ho, by omega, hi⟩
   simp only [spec_l4Machine.l0, if_neg (show ¬ ((0 : Nat) : Int) > 0 by omega)]
  | succ d ih =>
   intro hd os xs ho hx i h hi
   obtain ⟨o0, o1, o2, o3, o4, o5, i2, h2, e2, hi2⟩ := spec_l3Op.is c hc i h hi
   have e4 : wrap64 (((d + 1 : Nat) : Int) - 1) = (d : Int) := by rw [w64 (by omega) (by omega)]; omega
   have hA := spec_ApplyOp.ev os xs o0 o1 o2 o3 o4 o5 (by omega) (by omega)
   have hL := appR_len os xs o0 o1 o2 o3 o4 o5 (by omega)
   generalize appR os xs o0 o1 o2 o3 o4 o5 = r at hA hL
   obtain ⟨os', xs', i', h', hl, hp⟩ := ih (by omega) r.1 r.2.1 (by omega) (by omega) i2 h2 hi2
   refine ⟨os', xs', i', h', ev_shift ?_, hp⟩
   simp only [spec_l4Machine.l0, if_pos (show ((d + 1 : Nat) : Int) > 0 by omega), e2, Option.bind_some, e4]
   exact Ev.bind hA hl
 obtain ⟨n, i1, h1, e1, _, hn, hi1⟩ := spec_l1Below.is c hc i h 6 hi
 have hn' := hn (by omega)
 obtain ⟨N, rfl⟩ := Int.eq_ofNat_of_zero_le hn'.1
 obtain ⟨os', xs', i', h', hl, hp⟩ := key N (by omega) [0, 0, 0] [] rfl (by simp; omega) i1 h1 hi1
 refine ⟨os', xs', i', h', ?_, hp⟩
 simp only [spec_l4Machine.f, spec_NewMachine.val, e1, Option.bind_some]
 exact hl
theorem spec_l4Any.ev (c : List Int) (hc : c.length ≤ 1048576) (i h : Int) (hi : CurI i) : ∃ os xs i' h', Ev (fun k => spec_l4Any.f k c i h) (os, xs, i', h') ∧ os.length ≤ 3 ∧ xs.length ≤ 7 ∧ CurI i' := by
 obtain ⟨os, xs, i1, h1, e1, ho, hx, hi1⟩ := spec_l4Machine.ev c hc i h hi
 obtain ⟨q, i2, h2, e2, _, _, hi2⟩ := spec_l1Below.is c hc i1 h1 14 hi1
 by_cases c0 : q = 0
 ·obtain ⟨n, i3, h3, e3, _, hn, hi3⟩ := spec_l1Below.is c hc i2 h2 3 hi2
  have hn' := hn (by omega)
  obtain ⟨x, i4, h4, e4, _, hi4⟩ := spec_l1PickInt.is c hc i3 h3 [(-1), 9, 10] (by simp) hi3
  refine ⟨os.set n.toNat x, xs, i4, h4, Ev.bind e1 (ev_val fun _ => ?_), ?_, ?_, hi4⟩
  ·simp only [e2, Option.bind_some, if_pos c0, e3, e4, if_pos hn'.1, if_pos (show n < (os.length : Int) by omega)]
  ·simp only [List.length_set]; omega
  ·omega
 by_cases c1 : q = 1
 ·refine ⟨os.drop (1 : Int).toNat, xs, i2, h2, Ev.bind e1 (ev_val fun _ => ?_), ?_, ?_, hi2⟩
  ·simp only [e2, Option.bind_some, if_neg c0, if_pos c1, if_pos (show 1 ≤ (os.length : Int) by omega)]
  ·simp only [List.length_drop]; omega
  ·omega
 by_cases c2 : q = 2
 ·obtain ⟨n, i3, h3, e3, _, _, hi3⟩ := spec_l1Below.is c hc i2 h2 4 hi2
  obtain ⟨m, i4, h4, e4, _, _, hi4⟩ := spec_l1Below.is c hc i3 h3 3 hi3
  obtain ⟨x, i5, h5, e5, _, hi5⟩ := spec_l1PickInt.is c hc i4 h4 [0, 10] (by simp) hi4
  refine ⟨os, xs ++ [(⟨n, m, (⟨false, x⟩ : S95)⟩ : S97)], i5, h5, Ev.bind e1 (ev_val fun _ => ?_), ?_, ?_, hi5⟩
  ·simp only [e2, Option.bind_some, if_neg c0, if_neg c1, if_pos c2, e3, e4, e5, if_pos (show xs.length < 4398046511104 by omega)]
  ·omega
  ·simp only [List.length_append, List.length_singleton]; omega
 refine ⟨os, xs, i2, h2, Ev.bind e1 (ev_val fun _ => ?_), ?_, ?_, hi2⟩
 ·simp only [e2, Option.bind_some, if_neg c0, if_neg c1, if_neg c2]
 ·omega
 ·omega
theorem spec_l7Snap.ev (c : List Int) (hc : c.length ≤ 1048576) (i h : Int) (hi : CurI i) : ∃ p q os xs i' h', Ev (fun k => spec_l7Snap.f k c i h) (p, q, os, xs, i', h') ∧ os.length ≤ 3 ∧ xs.length ≤ 16 ∧ CurI i' := by
 obtain ⟨l, i1, h1, e1, hl, hi1⟩ := spec_l5Log.ev c hc i h hi
 obtain ⟨n, i2, h2, e2, _, _, hi2⟩ := spec_l1Below.is c hc i1 h1 (wrap64 ((l.length : Int) + 1)) hi1
 obtain ⟨p, q, os, xs, b, e3, ho, hx⟩ := spec_TakeSnapshot.ev l n (by omega)
 obtain ⟨m, i4, h4, e4, _, _, hi4⟩ := spec_l1Below.is c hc i2 h2 14 hi2
 by_cases c0 : m = 0
 ·obtain ⟨x, i5, h5, e5, _, hi5⟩ := spec_l1PickInt.is c hc i4 h4 [(-1), 16, 17] (by simp) hi4
  refine ⟨x, q, os, xs, i5, h5, Ev.bind e1 ?_, ho, hx, hi5⟩
  simp only [e2, Option.bind_some]
  refine Ev.bind e3 (ev_val fun _ => ?_)
  simp only [e4, Option.bind_some, if_pos c0, e5]
 by_cases c1 : m = 1
 ·obtain ⟨x, i5, h5, e5, _, hi5⟩ := spec_l1PickInt.is c hc i4 h4 [(-1), 9972, 9973] (by simp) hi4
  refine ⟨p, x, os, xs, i5, h5, Ev.bind e1 ?_, ho, hx, hi5⟩
  simp only [e2, Option.bind_some]
  refine Ev.bind e3 (ev_val fun _ => ?_)
  simp only [e4, Option.bind_some, if_neg c0, if_pos c1, e5]
 by_cases c2 : m = 2
 ·obtain ⟨os', xs', i5, h5, e5, ho', hx', hi5⟩ := spec_l4Any.ev c hc i4 h4 hi4
  refine ⟨p, q, os', xs', i5, h5, Ev.bind e1 ?_, ho', by omega, hi5⟩
  simp only [e2, Option.bind_some]
  refine Ev.bind e3 ?_
  simp only [e4, Option.bind_some, if_neg c0, if_neg c1, if_pos c2]
  exact Ev.bind e5 (Ev.now _)
 ·refine ⟨p, q, os, xs, i4, h4, Ev.bind e1 ?_, ho, hx, hi4⟩
  simp only [e2, Option.bind_some]
  refine Ev.bind e3 (ev_val fun _ => ?_)
  simp only [e4, Option.bind_some, if_neg c0, if_neg c1, if_neg c2]
theorem rcvC_sz (xs : List ByteArray) (c : ByteArray) (B : Nat) (hx : ∀ x ∈ xs, x.size ≤ B) (hc : c.size ≤ B) (hl : xs.length ≤ 40) : (rcvC xs c).1.length ≤ 40 ∧ ∀ x ∈ (rcvC xs c).1, x.size ≤ B := by
 have hk := rdC_ok c.data.toList
 unfold rcvC
 generalize rdC c.data.toList = q at hk
 have hset : ∀ (l : List ByteArray) (i : Nat), (∀ x ∈ l, x.size ≤ B) → ∀ x ∈ l.set i c, x.size ≤ B := fun l i h x hx2 => by
  rcases List.mem_or_eq_of_mem_set hx2 with h2 | h2
  ·exact h x h2
  ·rw [h2]; exact hc
 split
 ·next hq =>
  have := hk hq
  split
  ·refine ⟨by simp only [List.length_set, List.length_replicate]; omega, hset _ _ fun x hx2 => ?_⟩
   rw [(List.mem_replicate.1 hx2).2]
   exact Nat.zero_le _
  ·split
   ·exact ⟨by simp only [List.length_set]; exact hl, hset _ _ hx⟩
   ·exact ⟨hl, hx⟩
 ·exact ⟨hl, hx⟩
theorem rcvC_again (xs : List ByteArray) (c : ByteArray) (h : (rcvC xs c).2 = true) : (rcvC (rcvC xs c).1 c).2 = false := by
 have hk := rdC_ok c.data.toList
 have hne : (rdC c.data.toList).2.2.2 = true → ¬ c.toList = [] := by
  intro h1 h2
  rw [toList_data] at h2
  rw [h2] at h1
  unfold rdC at h1
  simp [fstB] at h1
 by_cases hq : (rdC c.data.toList).2.2.2 = true
 ·have hb := hk hq
  have hc := hne hq
  have key : ∀ l : List ByteArray, (l.length : Int) = (rdC c.data.toList).2.1 → (rcvC (l.set (rdC c.data.toList).1.toNat c) c).2 = false := by
   intro l hl
   unfold rcvC
   obtain ⟨I, hI⟩ := Int.eq_ofNat_of_zero_le hb.1
   rw [if_pos hq, if_neg (show ¬ (l.set (rdC c.data.toList).1.toNat c).length = 0 by rw [List.length_set]; omega)]
   have hr : rdOf ByteArray.empty (l.set (rdC c.data.toList).1.toNat c) (rdC c.data.toList).1 = c := by
    rw [hI]
    simp only [Int.toNat_natCast]
    rw [rdB _ I (by rw [List.length_set]; omega)]
    simp
   rw [hr, if_neg (fun h => hc h.2)]
  by_cases h0 : xs.length = 0
  ·have e : rcvC xs c = ((List.replicate (rdC c.data.toList).2.1.toNat (⟨#[]⟩ : ByteArray)).set (rdC c.data.toList).1.toNat c, true) := by unfold rcvC; rw [if_pos hq, if_pos h0]
   rw [e]
   exact key _ (by rw [List.length_replicate]; omega)
  ·by_cases h1 : (xs.length : Int) = (rdC c.data.toList).2.1 ∧ (rdOf ByteArray.empty xs (rdC c.data.toList).1).toList = []
   ·have e : rcvC xs c = (xs.set (rdC c.data.toList).1.toNat c, true) := by unfold rcvC; rw [if_pos hq, if_neg h0, if_pos h1]
    rw [e]
    exact key _ h1.1
   ·unfold rcvC at h; rw [if_pos hq, if_neg h0, if_neg h1] at h; simp at h
 ·unfold rcvC at h; rw [if_neg hq] at h; simp at h
theorem snapL_len (p q : Int) (b : Bool) (os : List Int) (xs : List S97) (ho : os.length ≤ 3) (hn : xs.length ≤ 100) (hv : b = true → vMach os xs) : (snapL p q b os xs).length ≤ 10000 := by
 unfold snapL
 split
 ·next hg =>
  obtain ⟨h1, h2, h3⟩ := hg
  have l0 := itoa_len p (by omega) (by omega)
  have l1 := itoa_len q (by omega) (by omega)
  subst h3
  obtain ⟨v1, v2, v3⟩ := hv rfl
  have h1 := flat_len Lib.itoa 20 os (fun x hx => by
   obtain ⟨i, hi, rfl⟩ := List.mem_iff_getElem.1 hx
   have := v2 i hi
   rw [rd_get os i hi] at this
   exact itoa_len _ (by omega) (by omega))
  have h2 := flat_len sesL 70 xs (fun x hx => by
   obtain ⟨i, hi, rfl⟩ := List.mem_iff_getElem.1 hx
   have := sesL_len (v3 i hi)
   rwa [rdS xs i hi] at this)
  simp only [machL, if_true, catI, catS, List.length_append, List.length_cons, List.length_nil]
  omega
 ·simp
theorem impl_FormatInt.val (a : Int) (h0 : -9223372036854775808 ≤ a) (h1 : a ≤ 9223372036854775807) : impl_FormatInt.f a = some (str (Lib.itoa a)) := by
 simp only [impl_FormatInt.f, strconv_Itoa.f, if_pos (show -9223372036854775808 ≤ a ∧ a ≤ 9223372036854775807 from ⟨h0, h1⟩), Option.bind_some]
 rfl
theorem impl_Checksum.step (c b : Int) (h0 : 0 ≤ c) (h1 : c ≤ 9948) (b0 : 0 ≤ b) (b1 : b ≤ 255) : Int.tmod (wrap64 ((wrap64 ((wrap64 (257 * c)) + (wrap64 b))) + 1)) 9949 = ckStep c b := by
 rw [w64 (x := 257 * c) (by omega) (by omega), w64 (x := b) (by omega) (by omega), w64 (x := 257 * c + b) (by omega) (by omega), w64 (x := 257 * c + b + 1) (by omega) (by omega), tmod_pos _ _ (by omega), Int.mul_comm 257 c]
 rfl
theorem impl_Checksum.ev (s : ByteArray) (hn : s.size ≤ 9223372036854775806) : Ev (fun k => impl_Checksum.f k s) (cks (bytesOf s)) := by
 have key : ∀ (d i : Nat) (c : Int), i + d = s.size → 0 ≤ c → c ≤ 9948 → Ev (fun k => impl_Checksum.l0 k s c (s.size : Int) (i : Int)) (((bytesOf s).drop i).foldl ckStep c) := by
  intro d
  induction d with
  | zero =>
   intro i c h h0 h1
   refine ev_shift ?_
   simp only [impl_Checksum.l0, if_neg (show ¬ ((i : Int) < (s.size : Int)) by omega)]
   exact ev_some (by rw [bytes_end s i (by omega)]; rfl)
  | succ d ih =>
   intro i c h h0 h1
   have hb := bt_range s (i : Int)
   have := ih (i + 1) (ckStep c (bt s (i : Int))) (by omega) (ckStep_range _ _).1 (ckStep_range _ _).2
   refine ev_shift ?_
   simp only [impl_Checksum.l0, if_pos (show (i : Int) < (s.size : Int) by omega), if_pos (show (0 : Int) ≤ (i : Int) by omega), w64 (show -9223372036854775808 ≤ (i : Int) + 1 by omega) (by omega),
    impl_Checksum.step c _ h0 h1 hb.1 hb.2]
   rw [bytes_cons s i (by omega), List.foldl_cons]
   simpa using this
 simpa [impl_Checksum.f, cks] using key s.size 0 5 (by omega) (by omega) (by omega)
theorem impl_chunkText.ev (i t : Int) (i0 : -9223372036854775808 ≤ i) (i1 : i ≤ 9223372036854775807) (t0 : -9223372036854775808 ≤ t) (t1 : t ≤ 9223372036854775807) (p : List UInt8) (hp : p.length ≤ 140737488351232) :
  Ev (fun k => impl_chunkText.f k i t (str p)) (str (chunkL i t p)) := by
 have l0 := itoa_len i i0 i1
 have l1 := itoa_len t t0 t1
 have hc := cks_range (nums (chunkB i t p))
 have l2 := itoa_len (cks (nums (chunkB i t p))) (by omega) (by omega)
 have g0 := impl_FormatInt.val i i0 i1
 have g1 := impl_FormatInt.val t t0 t1
 obtain ⟨K2, g2⟩ := impl_Checksum.ev (str (chunkB i t p)) (by rw [str_size, chunkB]; simp only [List.length_append, List.length_cons, List.length_nil]; omega)
 have g3 := impl_FormatInt.val (cks (nums (chunkB i t p))) (by omega) (by omega)
 refine ⟨K2, fun k hk => ?_⟩
 have g2' := g2 k (by omega)
 rw [bytesOf_str, chunkB] at g2'
 have g3' := g3
 rw [chunkB] at g3' l2
 simp only [impl_chunkText.f, g0, g1, Option.bind_some, str_lit, str_append, g2', g3', str_size, List.length_append, List.length_cons, List.length_nil]
 simp (disch := omega) only [if_pos]
 rw [chunkL, chunkB]
theorem div_le (n a : Int) (h0 : 0 ≤ n) (a0 : 1 ≤ a) : n / a ≤ n := by
 have h1 := Int.ediv_nonneg h0 (show 0 ≤ a by omega)
 have h2 : n / a * 1 ≤ n / a * a := Int.mul_le_mul_of_nonneg_left a0 h1
 have h3 := Int.ediv_mul_le n (show a ≠ 0 by omega)
 omega
theorem mn_facts (a b : Int) : mn a b ≤ a ∧ mn a b ≤ b ∧ (mn a b = a ∨ mn a b = b) := by unfold mn; split <;> omega
theorem ext_len (s : ByteArray) (x y : Nat) (hn : s.size ≤ 1048576) : (s.extract x y).data.toList.length ≤ 140737488351232 := by
 have h : (s.extract x y).size ≤ s.size := by rw [ByteArray.size_extract]; omega
 have e : (s.extract x y).data.toList.length = (s.extract x y).size := by rw [ByteArray.size, ← Array.length_toList]
 rw [e]
 exact Nat.le_trans h (Nat.le_trans hn (by decide))
theorem encode_loop (s : ByteArray) (a t : Int) (hn : s.size ≤ 1048576) (a0 : 1 ≤ a) (a1 : a ≤ 9223372036854775807) (t0 : 0 ≤ t) (t1 : t ≤ 40) (hi : ∀ i : Nat, (i : Int) < t → (i : Int) * a ≤ (s.size : Int)) :
  ∀ (d i : Nat) (acc : List ByteArray), (i : Int) + d = t → acc.length = i → ∃ r, Ev (fun k => spec_EncodeChunks.l0 k s a acc t (i : Int)) r ∧ Ev (fun k => impl_EncodeChunks.l0 k s a acc t t (i : Int)) r ∧ r.length ≤ 40 ∧ ((∀ x ∈ acc, x.size ≤ s.size + 100) → ∀ x ∈ r, x.size ≤ s.size + 100) := by
 intro d
 induction d with
 | zero =>
  intro i acc h hl
  refine ⟨acc, ev_shift (ev_val fun k => ?_), ev_shift (ev_val fun k => ?_), by omega, fun h => h⟩
  ·simp only [spec_EncodeChunks.l0, if_neg (show ¬ ((i : Int) < t) by omega)]
  ·simp only [impl_EncodeChunks.l0, if_neg (show ¬ ((i : Int) < t) by omega)]
 | succ d ih =>
  intro i acc h hl
  have c0 : (i : Int) < t := by omega
  have i0 : -9223372036854775808 ≤ (i : Int) := by omega
  have i1 : (i : Int) ≤ 9223372036854775807 := by omega
  have t2 : -9223372036854775808 ≤ t := by omega
  have t3 : t ≤ 9223372036854775807 := by omega
  have hb := hi i c0
  have hb0 : 0 ≤ (i : Int) * a := Int.mul_nonneg (by omega) (by omega)
  have m1 := mn_facts a (s.size : Int)
  obtain ⟨x, hx⟩ : ∃ x, (i : Int) * a = x := ⟨_, rfl⟩
  rw [hx] at hb hb0
  obtain ⟨z, hz⟩ : ∃ z, mn a (s.size : Int) = z := ⟨_, rfl⟩
  rw [hz] at m1
  have m2 := mn_facts (s.size : Int) (x + z)
  obtain ⟨y, hy⟩ : ∃ y, mn (s.size : Int) (x + z) = y := ⟨_, rfl⟩
  rw [hy] at m2
  have b1 : -9223372036854775808 ≤ (i : Int) + 1 := by omega
  have b2 : (i : Int) + 1 ≤ 9223372036854775807 := by omega
  have b3 : -9223372036854775808 ≤ x := by omega
  have b4 : x ≤ 9223372036854775807 := by omega
  have b5 : -9223372036854775808 ≤ x + z := by omega
  have b6 : x + z ≤ 9223372036854775807 := by omega
  have xy : x ≤ y := by omega
  have yn : y ≤ (s.size : Int) := by omega
  have al : acc.length < 8796093022208 := by omega
  have di : ((i + 1 : Nat) : Int) + d = t := by omega
  obtain ⟨p, hpe⟩ : ∃ p, s.extract x.toNat y.toNat = p := ⟨_, rfl⟩
  have hp : p.data.toList.length ≤ 140737488351232 := by rw [← hpe]; exact ext_len s _ _ hn
  have f1 := spec_l7Chunk.ev (i : Int) t i0 i1 t2 t3 _ hp
  have f2 := impl_chunkText.ev (i : Int) t i0 i1 t2 t3 _ hp
  rw [str_data] at f1 f2
  obtain ⟨r, r1, r2, r3⟩ := ih (i + 1) (acc ++ [str (chunkL (i : Int) t p.data.toList)]) di (by rw [List.length_append, hl]; rfl)
  have e1 : wrap64 x = x := w64 b3 b4
  have e2 : wrap64 (x + z) = x + z := w64 b5 b6
  have e3 : wrap64 ((i : Int) + 1) = (i : Int) + 1 := w64 b1 b2
  have hsz : (str (chunkL (i : Int) t p.data.toList)).size ≤ s.size + 100 := by
   have hq : p.size ≤ s.size := by rw [← hpe, ByteArray.size_extract]; omega
   have hq2 : p.data.toList.length = p.size := by rw [ByteArray.size, ← Array.length_toList]
   have hc := cks_range (nums (chunkB (i : Int) t p.data.toList))
   have l0 := itoa_len (i : Int) i0 i1
   have l1 := itoa_len t t2 t3
   have l2 := itoa_len (cks (nums (chunkB (i : Int) t p.data.toList))) (by omega) (by omega)
   rw [str_size]
   unfold chunkL
   generalize cks (nums (chunkB (i : Int) t p.data.toList)) = ck at l2 ⊢
   simp only [chunkB, List.length_append, List.length_cons, List.length_nil]
   omega
  refine ⟨r, ev_shift ?_, ev_shift ?_, r3.1, fun ha => r3.2 fun w hw => ?_⟩
  rotate_left 2
  ·rcases List.mem_append.1 hw with hw | hw
   ·exact ha w hw
   ·rw [List.mem_singleton] at hw; rw [hw]; exact hsz
  ·simp only [spec_EncodeChunks.l0, if_pos c0, hx, e1, hz, e2, hy, if_pos hb0, if_pos xy, if_pos yn, hpe, e3]
   refine Ev.bind f1 ?_
   simp only [if_pos al]
   exact r1
  ·simp only [impl_EncodeChunks.l0, if_pos c0, hx, e1, hz, e2, hy, if_pos hb0, if_pos xy, if_pos yn, hpe, e3]
   refine Ev.bind f2 ?_
   simp only [if_pos al]
   exact r2
def totalN (n a : Int) : Int := if a ≥ n then 1 else (n - 1) / a + 1
theorem total_facts (n a : Int) (h0 : 0 ≤ n) (h1 : n ≤ 1048576) (a0 : 1 ≤ a) : 1 ≤ totalN n a ∧ totalN n a ≤ 1048577 ∧ (n / a > 40 → totalN n a > 40) ∧ 0 ≤ n / a ∧ n / a ≤ 1048576 ∧ (∀ i : Nat, (i : Int) < totalN n a → (i : Int) * a ≤ n) := by
 have hq0 : 0 ≤ n / a := Int.ediv_nonneg h0 (by omega)
 have hq1 : n / a ≤ n := div_le n a h0 a0
 have hm := Int.ediv_mul_le n (show a ≠ 0 by omega)
 unfold totalN
 by_cases c : a ≥ n
 ·rw [if_pos c]
  refine ⟨by omega, by omega, fun h => ?_, hq0, by omega, fun i hi => ?_⟩
  ·have : 41 * a ≤ n / a * a := Int.mul_le_mul_of_nonneg_right (by omega) (by omega)
   omega
  ·obtain rfl : i = 0 := by omega
   simp; omega
 ·rw [if_neg c]
  have p0 : 0 ≤ (n - 1) / a := Int.ediv_nonneg (by omega) (by omega)
  have p1 : (n - 1) / a ≤ n - 1 := div_le _ a (by omega) (by omega)
  have pm := Int.ediv_mul_le (n - 1) (show a ≠ 0 by omega)
  refine ⟨by omega, by omega, fun h => ?_, hq0, by omega, fun i hi => ?_⟩
  ·have h2 : 41 * a ≤ n / a * a := Int.mul_le_mul_of_nonneg_right (by omega) (by omega)
   have h3 : 40 ≤ (n - 1) / a := (Int.le_ediv_iff_mul_le (by omega)).2 (by omega)
   omega
  ·have h2 : (i : Int) * a ≤ (n - 1) / a * a := Int.mul_le_mul_of_nonneg_right (by omega) (by omega)
   omega
theorem encode_chunks (s : ByteArray) (a : Int) (hn : s.size ≤ 1048576) (a1 : a ≤ 9223372036854775807) : ∃ r, Ev (fun k => spec_EncodeChunks.f k s a) r ∧ Ev (fun k => impl_EncodeChunks.f k s a) r ∧ r.length ≤ 40 ∧ ∀ x ∈ r, x.size ≤ s.size + 100 := by
 have hbad : Ev (fun k => impl_EncodeChunks.j0 k s a [] true) [] := ev_shift (ev_val fun k => by simp only [impl_EncodeChunks.j0, if_true])
 by_cases c : a < 1
 ·exact ⟨[], ev_val fun k => by simp only [spec_EncodeChunks.f, Option.bind_some, if_pos c], by simp only [impl_EncodeChunks.f, Option.bind_some, if_pos c]; exact hbad, by simp, by simp⟩
 ·obtain ⟨n, hs⟩ : ∃ n : Int, (s.size : Int) = n := ⟨_, rfl⟩
  obtain ⟨f1, f2, f3, f4, f5, f6⟩ := total_facts n a (by omega) (by omega) (by omega)
  have hT : (a ≥ n ∧ totalN n a = 1) ∨ (a < n ∧ mx 1 (wrap64 (Int.tdiv (wrap64 ((wrap64 (n + a)) - 1)) a)) = totalN n a) := by
   by_cases h : a ≥ n
   ·exact .inl ⟨h, by rw [totalN, if_pos h]⟩
   ·refine .inr ⟨by omega, ?_⟩
    have e : (n + a - 1) / a = (n - 1) / a + 1 := by rw [show n + a - 1 = n - 1 + 1 * a by omega, Int.add_mul_ediv_right _ _ (by omega)]
    have ht : totalN n a = (n - 1) / a + 1 := by rw [totalN, if_neg h]
    rw [w64 (x := n + a) (by omega) (by omega), w64 (x := n + a - 1) (by omega) (by omega), tdiv_pos _ _ (by omega), e, ← ht, w64 (x := totalN n a) (by omega) (by omega), mx]
    split <;> omega
  have hI : mx 1 (wrap64 ((wrap64 (Int.tdiv (wrap64 (n - 1)) a)) + 1)) = totalN n a := by
   rw [w64 (x := n - 1) (by omega) (by omega)]
   by_cases h0 : n = 0
   ·subst h0
    have e : Int.tdiv (0 - 1) a = -(1 / a) := by rw [show (0 : Int) - 1 = -1 by omega, Int.neg_tdiv, tdiv_pos _ _ (by omega)]
    have e2 : 0 ≤ 1 / a ∧ 1 / a ≤ 1 := ⟨Int.ediv_nonneg (by omega) (by omega), div_le 1 a (by omega) (by omega)⟩
    rw [e, w64 (x := -(1 / a)) (by omega) (by omega), w64 (x := -(1 / a) + 1) (by omega) (by omega), mx, totalN, if_pos (show a ≥ 0 by omega)]
    split <;> omega
   ·have p0 : 0 ≤ (n - 1) / a := Int.ediv_nonneg (by omega) (by omega)
    have p1 : (n - 1) / a ≤ n - 1 := div_le _ a (by omega) (by omega)
    have e : (n - 1) / a + 1 = totalN n a := by
     by_cases h : a ≥ n
     ·rw [totalN, if_pos h, Int.ediv_eq_zero_of_lt (by omega) (by omega)]; rfl
     ·rw [totalN, if_neg h]
    rw [tdiv_pos _ _ (by omega), w64 (x := (n - 1) / a) (by omega) (by omega), w64 (x := (n - 1) / a + 1) (by omega) (by omega), e, mx]
    split <;> omega
  have hspec : ∀ r, Ev (fun k => spec_EncodeChunks.j0 k s a [] (totalN n a)) r → Ev (fun k => spec_EncodeChunks.f k s a) r := fun r hr => by
   simp only [spec_EncodeChunks.f, Option.bind_some, if_neg c, if_neg (show ¬ (a = 0) by omega), hs]
   rcases hT with ⟨g1, g2⟩ | ⟨g1, g2⟩
   ·simp only [if_pos g1]; rw [g2] at hr; exact hr
   ·simp only [if_neg (show ¬ (a ≥ n) by omega), g2]; exact hr
  have himpl : ∀ r, Ev (fun k => impl_EncodeChunks.j0 k s a [] (decide (n / a > 40))) r → Ev (fun k => impl_EncodeChunks.f k s a) r := fun r hr => by
   simp only [impl_EncodeChunks.f, Option.bind_some, if_neg c, if_neg (show ¬ (a = 0) by omega), hs, w64 (show -9223372036854775808 ≤ n / a by omega) (by omega)]
   exact hr
  by_cases h40 : totalN n a > 40
  ·refine ⟨[], hspec _ (ev_shift (ev_val fun k => by simp only [spec_EncodeChunks.j0, if_pos h40])), himpl _ ?_, by simp, by simp⟩
   by_cases h : n / a > 40
   ·rw [decide_eq_true h]; exact hbad
   ·rw [decide_eq_false h]
    refine ev_shift (ev_val fun k => ?_)
    simp only [impl_EncodeChunks.j0, Bool.false_eq_true, if_false, if_neg (show ¬ (a = 0) by omega), hs, hI, if_pos h40]
  ·obtain ⟨r, r1, r2, r3⟩ := encode_loop s a (totalN n a) hn (by omega) a1 (by omega) (by omega) (fun i hi => by rw [hs]; exact f6 i hi) (totalN n a).toNat 0 [] (by omega) rfl
   refine ⟨r, hspec _ (ev_shift ?_), himpl _ ?_, r3.1, r3.2 (by simp)⟩
   ·simp only [spec_EncodeChunks.j0, if_neg h40]; exact r1
   ·rw [decide_eq_false (fun h => h40 (f3 h))]
    refine ev_shift ?_
    simp only [impl_EncodeChunks.j0, Bool.false_eq_true, if_false, if_neg (show ¬ (a = 0) by omega), hs, hI, if_neg h40]
    exact r2
theorem spec_l7Parts.ev (c : List Int) (hc : c.length ≤ 1048576) (i h : Int) (hi : CurI i) : ∃ a b i' h', Ev (fun k => spec_l7Parts.f k c i h) (a, b, i', h') ∧ (a.length ≤ 40 ∧ ∀ x ∈ a, x.size ≤ 20000) ∧ (b.length ≤ 40 ∧ ∀ x ∈ b, x.size ≤ 20000) ∧ CurI i' := by
 have key : ∀ d : Nat, d ≤ 9 → ∀ (a b : List ByteArray), (a.length ≤ 40 ∧ ∀ x ∈ a, x.size ≤ 20000) → (b.length ≤ 40 ∧ ∀ x ∈ b, x.size ≤ 20000) → ∀ i h : Int, CurI i → ∃ b' i' h', Ev (fun k => spec_l7Parts.l0 k a b (d : Int) c i h) (a, b', i', h') ∧ (b'.length ≤ 40 ∧ ∀ x ∈ b', x.size ≤ 20000) ∧ CurI i' := by
  intro d
  induction d with
  | zero =>
   intro _ a b ha hb i h hi
   refine ⟨b, i, h, ev_shift ?_, hb, hi⟩
   simp only [spec_l7Parts.l0, if_neg (show ¬ ((0 : Nat) : Int) > 0 by omega)]
   refine ev_shift (ev_val fun _ => ?_)
   simp only [spec_l7Parts.j1, Bool.false_eq_true, if_false]
  | succ d ih =>
   intro hd a b ha hb i h hi
   have e4 : wrap64 (((d + 1 : Nat) : Int) - 1) = (d : Int) := by rw [w64 (by omega) (by omega)]; omega
   by_cases h0 : (a.length : Int) > 0
   ·obtain ⟨n, i1, h1, e1, _, hn, hi1⟩ := spec_l1Below.is c hc i h (a.length : Int) hi
    have hn' := hn h0
    obtain ⟨M, rfl⟩ := Int.eq_ofNat_of_zero_le hn'.1
    have hr := rdB a M (by omega)
    have hm : a[M].size ≤ 20000 := ha.2 _ (List.getElem_mem _)
    have hR := spec_ReceiveChunk.ev b a[M] (by omega) (by omega)
    have hz := rcvC_sz b a[M] 20000 hb.2 hm hb.1
    generalize rcvC b a[M] = q at hR hz
    obtain ⟨b', i', h', hl, hp⟩ := ih (by omega) a q.1 ha hz i1 h1 hi1
    refine ⟨b', i', h', ev_shift ?_, hp⟩
    simp only [spec_l7Parts.l0, if_pos (show ((d + 1 : Nat) : Int) > 0 by omega), decide_eq_true h0]
    refine ev_shift ?_
    simp only [spec_l7Parts.j1, if_true, e1, Option.bind_some, if_pos hn'.1, if_pos hn'.2, hr, e4]
    exact Ev.bind hR hl
   ·refine ⟨b, i, h, ev_shift ?_, hb, hi⟩
    simp only [spec_l7Parts.l0, if_pos (show ((d + 1 : Nat) : Int) > 0 by omega), decide_eq_false h0]
    refine ev_shift (ev_val fun _ => ?_)
    simp only [spec_l7Parts.j1, Bool.false_eq_true, if_false]
 obtain ⟨p, q, os, xs, i1, h1, e1, ho, hx, hi1⟩ := spec_l7Snap.ev c hc i h hi
 obtain ⟨b, sv, qb⟩ := spec_IsValidMachine.ev os xs (by omega) (by omega)
 have hT := spec_SnapshotText.ev p q os xs (by omega) (by omega) b sv (fun h => qb.1 h)
 have hTl := snapL_len p q b os xs ho (by omega) (fun h => qb.1 h)
 obtain ⟨n, i2, h2, e2, _, hn, hi2⟩ := spec_l1Below.is c hc i1 h1 9 hi1
 have hn' := hn (by omega)
 obtain ⟨r, r1, r2, r3, r4⟩ := encode_chunks (str (snapL p q b os xs)) (wrap64 (1 + n)) (by rw [str_size]; omega) (by rw [w64 (by omega) (by omega)]; omega)
 rw [str_size] at r4
 obtain ⟨m, i3, h3, e3, _, hm, hi3⟩ := spec_l1Below.is c hc i2 h2 8 hi2
 have hm' := hm (by omega)
 obtain ⟨M, rfl⟩ := Int.eq_ofNat_of_zero_le hm'.1
 have hr : r.length ≤ 40 ∧ ∀ x ∈ r, x.size ≤ 20000 := ⟨r3, fun x hx => by have := r4 x hx; omega⟩
 obtain ⟨b', i', h', hl, hp⟩ := key M (by omega) r [] hr (by simp) i3 h3 hi3
 refine ⟨r, b', i', h', Ev.bind e1 (Ev.bind hT ?_), hr, hp⟩
 simp only [e2, Option.bind_some]
 refine Ev.bind r1 ?_
 simp only [e3, Option.bind_some]
 exact hl
theorem spec_l1Text.ev (c : List Int) (hc : c.length ≤ 1048576) (i h m : Int) (hm : 0 ≤ m ∧ m ≤ 1000) (hi : CurI i) : ∃ s i' h', Ev (fun k => spec_l1Text.f k c i h m) (s, i', h') ∧ s.size ≤ 1001 ∧ CurI i' := by
 obtain ⟨q, i1, h1, e1, _, _, hi1⟩ := spec_l1Below.is c hc i h 4 hi
 obtain ⟨n, i2, h2, e2, _, hn, hi2⟩ := spec_l1Below.is c hc i1 h1 (m + 1) hi1
 have hn' := hn (by omega)
 have key : ∀ (d : Nat) (acc : List Int), acc.length + d ≤ 1001 → ∀ i h : Int, CurI i → ∃ s i' h', Ev (fun k => spec_l1Text.l0 k acc q (d : Int) c i h) (s, i', h') ∧ s.size ≤ 1001 ∧ CurI i' := by
  intro d
  induction d with
  | zero =>
   intro acc ha i h hi
   refine ⟨strOfNums acc, i, h, ev_shift (ev_val fun k => ?_), by rw [strOfNums_size]; omega, hi⟩
   simp only [spec_l1Text.l0, if_neg (show ¬ ((0 : Nat) : Int) > 0 by omega)]
  | succ d ih =>
   intro acc ha i h hi
   obtain ⟨x, i3, h3, e3, _, hi3⟩ := spec_l1Byte.is c hc i h hi
   have e4 : wrap64 (((d + 1 : Nat) : Int) - 1) = (d : Int) := by rw [w64 (by omega) (by omega)]; omega
   have go : ∀ y : Int, ∃ s i' h', Ev (fun k => spec_l1Text.l0 k (acc ++ [y]) q (d : Int) c i3 h3) (s, i', h') ∧ s.size ≤ 1001 ∧ CurI i' := fun y => ih (acc ++ [y]) (by simp; omega) i3 h3 hi3
   by_cases c1 : q = 1
   ·by_cases c2 : q = 2
    ·omega
    ·obtain ⟨s, i', h', es, hs⟩ := go ((Int.tmod x 2) % 256)
     refine ⟨s, i', h', ev_shift (ev_to ⟨0, fun k _ => ?_⟩ es), hs⟩
     simp only [spec_l1Text.l0, if_pos (show ((d + 1 : Nat) : Int) > 0 by omega), e3, Option.bind_some, if_pos c1, if_neg c2, if_pos (show acc.length < 140737488355328 by omega), e4]
   ·by_cases c2 : q = 2
    ·obtain ⟨s, i', h', es, hs⟩ := go ((wrap64 (97 + (Int.tmod x 4))) % 256)
     refine ⟨s, i', h', ev_shift (ev_to ⟨0, fun k _ => ?_⟩ es), hs⟩
     simp only [spec_l1Text.l0, if_pos (show ((d + 1 : Nat) : Int) > 0 by omega), e3, Option.bind_some, if_neg c1, if_pos c2, if_pos (show acc.length < 140737488355328 by omega), e4]
    ·obtain ⟨s, i', h', es, hs⟩ := go (x % 256)
     refine ⟨s, i', h', ev_shift (ev_to ⟨0, fun k _ => ?_⟩ es), hs⟩
     simp only [spec_l1Text.l0, if_pos (show ((d + 1 : Nat) : Int) > 0 by omega), e3, Option.bind_some, if_neg c1, if_neg c2, if_pos (show acc.length < 140737488355328 by omega), e4]
 obtain ⟨N, rfl⟩ := Int.eq_ofNat_of_zero_le hn'.1
 obtain ⟨s, i', h', es, hs⟩ := key N [] (by simp; omega) i2 h2 hi2
 refine ⟨s, i', h', ?_, hs⟩
 simp only [spec_l1Text.f, e1, Option.bind_some, w64 (show -9223372036854775808 ≤ m + 1 by omega) (by omega), e2]
 exact es
theorem spec_l1Spoil.ev (c : List Int) (hc : c.length ≤ 1048576) (i h : Int) (hi : CurI i) (s : ByteArray) (hs : s.size ≤ 20000) : ∃ t i' h', Ev (fun k => spec_l1Spoil.f k c i h s) (t, i', h') ∧ t.size ≤ 50000 ∧ CurI i' := by
 have hst : ∀ x : Int, (strOfNums [x]).size = 1 := fun x => rfl
 by_cases h0 : (s.size : Int) = 0
 ·obtain ⟨t, i1, h1, e1, ht, hi1⟩ := spec_l1Text.ev c hc i h 3 (by omega) hi
  refine ⟨t, i1, h1, ?_, by omega, hi1⟩
  simp only [spec_l1Spoil.f, if_pos h0]
  exact Ev.bind e1 (Ev.now _)
 obtain ⟨n, i1, h1, e1, _, hn, hi1⟩ := spec_l1Below.is c hc i h (s.size : Int) hi
 have hn' := hn (by omega)
 obtain ⟨m, i2, h2, e2, _, _, hi2⟩ := spec_l1Below.is c hc i1 h1 4 hi1
 have w1 : wrap64 (n + 1) = n + 1 := w64 (by omega) (by omega)
 have s1 : (s.extract 0 n.toNat).size ≤ 20000 := by rw [ByteArray.size_extract]; omega
 have s2 : ∀ k, (s.extract k s.size).size ≤ 20000 := fun k => by rw [ByteArray.size_extract]; omega
 by_cases c0 : m = 0
 ·have s3 := s2 (n + 1).toNat
  refine ⟨(s.extract 0 n.toNat) ++ (s.extract (n + 1).toNat s.size), i2, h2, ev_val fun _ => ?_, by rw [ByteArray.size_append]; omega, hi2⟩
  simp only [spec_l1Spoil.f, if_neg h0, e1, e2, Option.bind_some, if_pos c0, if_pos hn'.1, w1, if_pos (show n ≤ (s.size : Int) by omega), if_pos (show 0 ≤ n + 1 by omega), if_pos (show n + 1 ≤ (s.size : Int) by omega), if_pos (show (s.extract 0 n.toNat).size + (s.extract (n + 1).toNat s.size).size ≤ 9223372036854775807 by omega)]
 by_cases c1 : m = 1
 ·obtain ⟨x, i3, h3, e3, _, hi3⟩ := spec_l1Byte.is c hc i2 h2 hi2
  have s3 := s2 n.toNat
  have s4 := hst (x % 256)
  have s5 : ((s.extract 0 n.toNat) ++ (strOfNums [x % 256])).size ≤ 20001 := by rw [ByteArray.size_append]; omega
  refine ⟨((s.extract 0 n.toNat) ++ (strOfNums [x % 256])) ++ (s.extract n.toNat s.size), i3, h3, ev_val fun _ => ?_, by rw [ByteArray.size_append]; omega, hi3⟩
  simp only [spec_l1Spoil.f, if_neg h0, e1, e2, e3, Option.bind_some, if_neg c0, if_pos c1, if_pos hn'.1, if_pos (show n ≤ (s.size : Int) by omega), if_pos (show (s.extract 0 n.toNat).size + (strOfNums [x % 256]).size ≤ 9223372036854775807 by omega), if_pos (show ((s.extract 0 n.toNat) ++ (strOfNums [x % 256])).size + (s.extract n.toNat s.size).size ≤ 9223372036854775807 by omega)]
 by_cases c2 : m = 2
 ·refine ⟨s.extract 0 n.toNat, i2, h2, ev_val fun _ => ?_, by omega, hi2⟩
  simp only [spec_l1Spoil.f, if_neg h0, e1, e2, Option.bind_some, if_neg c0, if_neg c1, if_pos c2, if_pos hn'.1, if_pos (show n ≤ (s.size : Int) by omega)]
 ·obtain ⟨x, i3, h3, e3, _, _, hi3⟩ := spec_l1Below.is c hc i2 h2 255 hi2
  obtain ⟨y, hy⟩ : ∃ y, Go.bits .xor .i64 (wrap64 (bt s n)) (wrap64 (1 + x)) % 256 = y := ⟨_, rfl⟩
  have s3 := s2 (n + 1).toNat
  have s4 := hst y
  have s5 : ((s.extract 0 n.toNat) ++ (strOfNums [y])).size ≤ 20001 := by rw [ByteArray.size_append]; omega
  refine ⟨((s.extract 0 n.toNat) ++ (strOfNums [y])) ++ (s.extract (n + 1).toNat s.size), i3, h3, ev_val fun _ => ?_, by rw [ByteArray.size_append]; omega, hi3⟩
  simp only [spec_l1Spoil.f, if_neg h0, e1, e2, e3, Option.bind_some, if_neg c0, if_neg c1, if_neg c2, hy, w1, if_pos hn'.1, if_pos (show n ≤ (s.size : Int) by omega), if_pos (show n < (s.size : Int) by omega), if_pos (show 0 ≤ n + 1 by omega), if_pos (show n + 1 ≤ (s.size : Int) by omega), if_pos (show (s.extract 0 n.toNat).size + (strOfNums [y]).size ≤ 9223372036854775807 by omega), if_pos (show ((s.extract 0 n.toNat) ++ (strOfNums [y])).size + (s.extract (n + 1).toNat s.size).size ≤ 9223372036854775807 by omega)]
theorem spec_DrawReceiveChunk.ev (c : List Int) (hc : c.length ≤ 1048576) : ∃ l s, Ev (fun k => spec_DrawReceiveChunk.f k c) (l, s) ∧ l.length ≤ 40 ∧ s.size ≤ 50000 := by
 obtain ⟨h, e0⟩ := spec_l1New.ev c hc
 obtain ⟨a, b, i1, h1, e1, ha, hb, hi1⟩ := spec_l7Parts.ev c hc 0 h cur0
 by_cases h0 : (a.length : Int) = 0
 ·refine ⟨b, ⟨#[48, 47, 49, 58, 35, 48]⟩, Ev.bind e0 (Ev.bind e1 (ev_val fun _ => ?_)), hb.1, by decide⟩
  simp only [if_pos h0]
 obtain ⟨n, i2, h2, e2, _, hn, hi2⟩ := spec_l1Below.is c hc i1 h1 (a.length : Int) hi1
 have hn' := hn (by omega)
 obtain ⟨M, rfl⟩ := Int.eq_ofNat_of_zero_le hn'.1
 have hr := rdB a M (by omega)
 have hm : a[M].size ≤ 20000 := ha.2 _ (List.getElem_mem _)
 obtain ⟨q, i3, h3, e3, hi3⟩ := spec_l1Once.is c hc i2 h2 4 hi2
 cases q with
 | true =>
  obtain ⟨t, i4, h4, e4, ht, hi4⟩ := spec_l1Spoil.ev c hc i3 h3 hi3 a[M] hm
  refine ⟨b, t, Ev.bind e0 (Ev.bind e1 ?_), hb.1, ht⟩
  simp only [if_neg h0, e2, Option.bind_some, if_pos hn'.1, if_pos hn'.2, e3, if_true, hr]
  exact Ev.bind e4 (Ev.now _)
 | false =>
  refine ⟨b, a[M], Ev.bind e0 (Ev.bind e1 (ev_val fun _ => ?_)), hb.1, by omega⟩
  simp only [if_neg h0, e2, Option.bind_some, if_pos hn'.1, if_pos hn'.2, e3, Bool.false_eq_true, if_false, hr]
theorem slices_Clone_string_string.val (xs : List ByteArray) (h : xs.length < 8796093022208) : slices_Clone_string_string.f xs = some xs := by
 simp only [slices_Clone_string_string.f, if_pos h]
theorem impl_within.val (a b c : Int) : impl_within.f a b c = some (decide (b ≤ a ∧ a ≤ c)) := by
 unfold impl_within.f
 by_cases h : b ≤ a <;> simp [h]
theorem internal_stringslite_Index.val (l : List UInt8) (c : UInt8) : internal_stringslite_Index.f (str l) ⟨#[c]⟩ = some (if fstB l c < l.length then (fstB l c : Int) else -1) := by
 simp only [internal_stringslite_Index.f, str_data_, indexByte_fst]
theorem internal_stringslite_Cut.val (l : List UInt8) (c : UInt8) (hn : l.length ≤ 1000000000) : internal_stringslite_Cut.f (str l) ⟨#[c]⟩ = some (if fstB l c < l.length then (str (l.take (fstB l c)), str (l.drop (fstB l c + 1)), true) else (str l, str [], false)) := by
 simp only [internal_stringslite_Cut.f, internal_stringslite_Index.val, Option.bind_some]
 by_cases h : fstB l c < l.length
 ·have e1 : wrap64 ((fstB l c : Int) + ((⟨#[c]⟩ : ByteArray).size : Int)) = (fstB l c : Int) + 1 := by
   rw [show (⟨#[c]⟩ : ByteArray).size = 1 from rfl]; exact w64 (by omega) (by omega)
  have e2 : ((fstB l c : Int) + 1).toNat = fstB l c + 1 := by omega
  simp only [if_pos h, if_pos (show (fstB l c : Int) ≥ 0 by omega), if_pos (show 0 ≤ (fstB l c : Int) by omega), str_size, if_pos (show (fstB l c : Int) ≤ (l.length : Int) by omega), e1, e2, if_pos (show 0 ≤ (fstB l c : Int) + 1 by omega), if_pos (show (fstB l c : Int) + 1 ≤ (l.length : Int) by omega), Int.toNat_natCast, str_extract, List.drop_zero, Nat.sub_zero]
  rw [List.take_of_length_le (l := l.drop (fstB l c + 1)) (by rw [List.length_drop]; omega)]
 ·simp only [if_neg h, if_neg (show ¬ ((-1 : Int) ≥ 0) by omega)]
  rfl
theorem strings_Cut.val (l : List UInt8) (c : UInt8) (hn : l.length ≤ 1000000000) : strings_Cut.f (str l) ⟨#[c]⟩ = some (if fstB l c < l.length then (str (l.take (fstB l c)), str (l.drop (fstB l c + 1)), true) else (str l, str [], false)) := by
 simp only [strings_Cut.f, internal_stringslite_Cut.val l c hn, Option.bind_some]
theorem bytesOf_tail (s : ByteArray) : bytesOf (s.extract 1 s.size) = (bytesOf s).tail := by
 rw [bytesOf, bytesOf, ← List.map_tail]
 congr 1
 rw [ByteArray.data_extract, Array.toList_extract, ByteArray.size, ← Array.length_toList]
 cases s.data.toList with
 | nil => rfl
 | cons a l => simp [List.extract]
theorem impl_ParseInt.l0ev (s t : ByteArray) (g : Int) (hg : g = 1 ∨ g = -1) (ht : t.size ≤ 9) (r : Int × Bool)
  (hbad : ¬ (∀ b ∈ bytesOf t, 48 ≤ b ∧ b ≤ 57) → r = (0, false))
  (hok : (∀ b ∈ bytesOf t, 48 ≤ b ∧ b ≤ 57) → (if str (Lib.itoa (g * valD (bytesOf t))) = s then (g * valD (bytesOf t), true) else (0, false)) = r) :
  ∀ d i : Nat, i + d = t.size → (∀ b ∈ (bytesOf t).take i, 48 ≤ b ∧ b ≤ 57) → Ev (fun k => impl_ParseInt.l0 k s t g (valD ((bytesOf t).take i)) (t.size : Int) (i : Int)) r := by
 intro d
 induction d with
 | zero =>
  intro i h hd
  obtain rfl : i = t.size := by omega
  have hall : (bytesOf t).take t.size = bytesOf t := List.take_of_length_le (by rw [bytesOf_length]; omega)
  rw [hall] at hd ⊢
  have hv := valD_bound (bytesOf t) (by rw [bytesOf_length]; omega)
  have e1 : wrap64 (g * valD (bytesOf t)) = g * valD (bytesOf t) := by rcases hg with rfl | rfl <;> exact w64 (by omega) (by omega)
  have hr := hok hd
  refine ev_shift ?_
  simp only [impl_ParseInt.l0, if_neg (show ¬ ((t.size : Int) < (t.size : Int)) by omega), e1, impl_FormatInt.val (g * valD (bytesOf t)) (by rcases hg with rfl | rfl <;> omega) (by rcases hg with rfl | rfl <;> omega), Option.bind_some]
  by_cases c : str (Lib.itoa (g * valD (bytesOf t))) = s
  ·rw [if_pos c] at hr
   subst hr
   exact ev_val fun k => by rw [c]; simp
  ·rw [if_neg c] at hr
   subst hr
   exact ev_val fun k => by rw [if_neg (fun h => c (toList_inj' h))]
 | succ d ih =>
  intro i h hd
  have e1 := w64 (show -9223372036854775808 ≤ (i : Int) + 1 by omega) (by omega)
  obtain ⟨tb, b0, b1⟩ := take_bt t i (by omega)
  have hv := valD_bound ((bytesOf t).take i) (by rw [List.length_take]; omega)
  have hm : bt t (i : Int) ∈ bytesOf t := List.mem_of_mem_take (i := i + 1) (by rw [tb]; simp)
  refine ev_shift ?_
  by_cases c1 : bt t (i : Int) < 48
  ·rw [hbad fun hh => by have := hh _ hm; omega]
   exact ev_val fun k => by simp only [impl_ParseInt.l0, if_pos (show (i : Int) < (t.size : Int) by omega), if_pos (show (0 : Int) ≤ (i : Int) by omega), if_pos c1]
  ·by_cases c2 : bt t (i : Int) > 57
   ·rw [hbad fun hh => by have := hh _ hm; omega]
    exact ev_val fun k => by simp only [impl_ParseInt.l0, if_pos (show (i : Int) < (t.size : Int) by omega), if_pos (show (0 : Int) ≤ (i : Int) by omega), if_neg c1, if_pos c2]
   ·have hi := ih (i + 1) (by omega) (by
     rw [tb]
     intro b hb
     rcases List.mem_append.1 hb with hb | hb
     ·exact hd b hb
     ·rw [List.mem_singleton.1 hb]; omega)
    rw [tb, valD_snoc, if_pos (by omega)] at hi
    have e3 : wrap64 ((wrap64 (10 * valD ((bytesOf t).take i))) + ((bt t (i : Int) - 48) % 256)) = valD ((bytesOf t).take i) * 10 + (bt t (i : Int) - 48) := by
     rw [w64 (show -9223372036854775808 ≤ 10 * valD ((bytesOf t).take i) by omega) (by omega), show (bt t (i : Int) - 48) % 256 = bt t (i : Int) - 48 by omega, w64 (by omega) (by omega)]
     omega
    simp only [impl_ParseInt.l0, if_pos (show (i : Int) < (t.size : Int) by omega), if_pos (show (0 : Int) ≤ (i : Int) by omega), if_neg c1, if_neg c2, e1, e3]
    simpa using hi
theorem impl_ParseInt.ev (s : ByteArray) : (implOk s ∧ Ev (fun k => impl_ParseInt.f k s) (numB (bytesOf s), true)) ∨ (¬ implOk s ∧ Ev (fun k => impl_ParseInt.f k s) (0, false)) := by
 have j1 : ∀ (t : ByteArray) (g : Int), (g = 1 ∨ g = -1) → bytesOf t = tailB (bytesOf s) → g * valD (bytesOf t) = numB (bytesOf s) →
   (implOk s ∧ Ev (fun k => impl_ParseInt.j1 k s t g) (numB (bytesOf s), true)) ∨ (¬ implOk s ∧ Ev (fun k => impl_ParseInt.j1 k s t g) (0, false)) := by
  intro t g hg ht hn
  have hl : t.size = (tailB (bytesOf s)).length := by rw [← ht, bytesOf_length]
  by_cases c : 1 ≤ (t.size : Int) ∧ (t.size : Int) ≤ 9
  ·have go : ∀ r, (¬ (∀ b ∈ bytesOf t, 48 ≤ b ∧ b ≤ 57) → r = (0, false)) → ((∀ b ∈ bytesOf t, 48 ≤ b ∧ b ≤ 57) → (if str (Lib.itoa (g * valD (bytesOf t))) = s then (g * valD (bytesOf t), true) else (0, false)) = r) → Ev (fun k => impl_ParseInt.j1 k s t g) r := by
    intro r h1 h2
    refine ev_shift ?_
    simp only [impl_ParseInt.j1, impl_within.val, Option.bind_some, decide_eq_true c, if_true]
    have := impl_ParseInt.l0ev s t g hg (by omega) r h1 h2 t.size 0 (by omega) (by simp)
    simpa [valD] using this
   by_cases hd : ∀ b ∈ bytesOf t, 48 ≤ b ∧ b ≤ 57
   ·by_cases hs : str (Lib.itoa (numB (bytesOf s))) = s
    ·exact .inl ⟨⟨by omega, by omega, by rw [← ht]; exact hd, hs⟩, go _ (fun h => absurd hd h) (fun _ => by rw [hn, if_pos hs])⟩
    ·exact .inr ⟨fun h => hs h.2.2.2, go _ (fun _ => rfl) (fun _ => by rw [hn, if_neg hs])⟩
   ·exact .inr ⟨fun h => hd (by rw [ht]; exact h.2.2.1), go _ (fun _ => rfl) (fun h => absurd h hd)⟩
  ·refine .inr ⟨fun h => c (by have := h.1; have := h.2.1; omega), ev_shift (ev_val fun k => ?_)⟩
   simp only [impl_ParseInt.j1, impl_within.val, Option.bind_some, decide_eq_false c, Bool.false_eq_true, if_false]
 have hn := negB_bt s
 cases hb : negB (bytesOf s) with
 | true =>
  rw [hb] at hn
  have c : (s.size : Int) > 0 := by
   by_cases c : (s.size : Int) > 0
   ·exact c
   ·rw [if_neg c] at hn; exact absurd hn (by decide)
  rw [if_pos c] at hn
  have hj := j1 (s.extract 1 s.size) (-1) (.inr rfl) (by rw [bytesOf_tail, tailB, if_pos hb]) (by
   rw [numB, if_pos hb, bytesOf_tail]
   have := (valD_tailB (bytesOf s)).1
   rw [tailB, if_pos hb] at this
   rw [this]; omega)
  have hup : ∀ r, Ev (fun k => impl_ParseInt.j1 k s (s.extract 1 s.size) (-1)) r → Ev (fun k => impl_ParseInt.f k s) r := fun r hr => by
   simp only [impl_ParseInt.f, if_pos c, if_pos (show (0 : Int) < (s.size : Int) by omega), ← hn]
   refine ev_shift ?_
   simp only [impl_ParseInt.j0, if_true, if_pos (show 1 ≤ (s.size : Int) by omega)]
   exact hr
  rcases hj with ⟨h1, h2⟩ | ⟨h1, h2⟩
  ·exact .inl ⟨h1, hup _ h2⟩
  ·exact .inr ⟨h1, hup _ h2⟩
 | false =>
  rw [hb] at hn
  have hj := j1 s 1 (.inl rfl) (by rw [tailB, hb]; rfl) (by rw [numB, hb, Int.one_mul]; rfl)
  have hup : ∀ r, Ev (fun k => impl_ParseInt.j1 k s s 1) r → Ev (fun k => impl_ParseInt.f k s) r := fun r hr => by
   by_cases c : (s.size : Int) > 0
   ·rw [if_pos c] at hn
    simp only [impl_ParseInt.f, if_pos c, if_pos (show (0 : Int) < (s.size : Int) by omega), ← hn]
    refine ev_shift ?_
    simp only [impl_ParseInt.j0, Bool.false_eq_true, if_false]
    exact hr
   ·simp only [impl_ParseInt.f, if_neg c]
    refine ev_shift ?_
    simp only [impl_ParseInt.j0, Bool.false_eq_true, if_false]
    exact hr
  rcases hj with ⟨h1, h2⟩ | ⟨h1, h2⟩
  ·exact .inl ⟨h1, hup _ h2⟩
  ·exact .inr ⟨h1, hup _ h2⟩
theorem impl_number.ev (s : ByteArray) : Ev (fun k => impl_number.f k s) (numV s) := by
 unfold numV
 rcases impl_ParseInt.ev s with ⟨h, e⟩ | ⟨h, e⟩
 ·rw [if_pos h]
  exact Ev.bind e (ev_val fun k => by simp)
 ·rw [if_neg h]
  exact Ev.bind e (ev_val fun k => by simp)
theorem impl_readChunk.ev (L : List UInt8) (hn : L.length ≤ 1048576) : Ev (fun k => impl_readChunk.f k (str L)) (rdC L) := by
 have hale := fstB_le L 47
 simp only [impl_readChunk.f, strings_Cut.val L 47 (by omega), Option.bind_some]
 by_cases hA : fstB L 47 < L.length
 ·simp only [if_pos hA]
  obtain ⟨R, hR⟩ : ∃ R, R = L.drop (fstB L 47 + 1) := ⟨_, rfl⟩
  have hRl : R.length = L.length - (fstB L 47 + 1) := by rw [hR, List.length_drop]
  have hble := fstB_le R 58
  simp only [← hR, strings_Cut.val R 58 (by omega), Option.bind_some]
  by_cases hB : fstB R 58 < R.length
  ·simp only [if_pos hB]
   obtain ⟨Q, hQ⟩ : ∃ Q, Q = R.drop (fstB R 58 + 1) := ⟨_, rfl⟩
   have hQl : Q.length = R.length - (fstB R 58 + 1) := by rw [hQ, List.length_drop]
   have hl : strings_LastIndexByte.f (str Q) 35 = some (Lib.lastIndexByte (str Q) 35) := by
    simp only [strings_LastIndexByte.f, str_size, if_pos (show Q.length < 4611686018427387904 by omega)]
   simp only [← hQ, hl, Option.bind_some]
   have her := last_range Q
   obtain ⟨e, he⟩ : ∃ e, e = Lib.lastIndexByte (str Q) 35 := ⟨_, rfl⟩
   rw [← he] at her
   simp only [← he]
   refine Ev.bind (impl_number.ev _) (Ev.bind (impl_number.ev _) ?_)
   by_cases hE : 0 ≤ e
   ·have hres : rdC L = finR (numV (str (L.take (fstB L 47)))) (numV (str (R.take (fstB R 58)))) (Q.take e.toNat) L := by
     unfold rdC
     simp only [← hR, ← hQ, ← he]
     rw [if_pos ⟨hA, hB, hE⟩]
    rw [hres]
    have n1 := numV_range (str (L.take (fstB L 47)))
    have n2 := numV_range (str (R.take (fstB R 58)))
    generalize numV (str (L.take (fstB L 47))) = i' at n1 ⊢
    generalize numV (str (R.take (fstB R 58))) = n' at n2 ⊢
    have hp : (Q.take e.toNat).length ≤ 140737488351232 := by rw [List.length_take]; omega
    have hcp := take_nil Q e hE her.2
    have x3 : (str Q).extract 0 e.toNat = str (Q.take e.toNat) := by rw [str_extract, List.drop_zero, Nat.sub_zero]
    obtain ⟨K3, g3⟩ := impl_chunkText.ev i' n' (by omega) (by omega) (by omega) (by omega) (Q.take e.toNat) hp
    refine ⟨K3, fun k hk => ?_⟩
    simp only [if_neg (show ¬ (e < 0) by omega), impl_within.val, Option.bind_some, w64 (show -9223372036854775808 ≤ n' - 1 by omega) (by omega), if_pos hE, str_size, if_pos (show e ≤ (Q.length : Int) by omega), x3, g3 k hk, str_toList]
    unfold finR
    by_cases c1 : 1 ≤ n' ∧ n' ≤ 40
    ·simp only [decide_eq_true c1, if_true]
     by_cases c2 : 0 ≤ i' ∧ i' ≤ n' - 1
     ·simp only [decide_eq_true c2, if_true]
      by_cases c4 : e = 0
      ·simp only [if_pos c4]
       by_cases c3 : n' > 1
       ·rw [if_pos c3, if_neg (fun h => h.2.1 ⟨c3, hcp.2 c4⟩)]
       ·rw [if_neg c3]
        by_cases c5 : chunkL i' n' (Q.take e.toNat) = L
        ·rw [if_pos c5, if_pos ⟨⟨c1, c2⟩, fun h => c3 h.1, c5⟩]
        ·rw [if_neg c5, if_neg (fun h => c5 h.2.2)]
      ·simp only [if_neg c4]
       by_cases c5 : chunkL i' n' (Q.take e.toNat) = L
       ·rw [if_pos c5, if_pos ⟨⟨c1, c2⟩, fun h => c4 (hcp.1 h.2), c5⟩]
       ·rw [if_neg c5, if_neg (fun h => c5 h.2.2)]
     ·simp only [decide_eq_false c2, Bool.false_eq_true, if_false]
      rw [if_neg (fun h => c2 h.1.2)]
    ·simp only [decide_eq_false c1, Bool.false_eq_true, if_false]
     rw [if_neg (fun h => c1 h.1.1)]
   ·have hres : rdC L = (0, 0, (⟨#[]⟩ : ByteArray), false) := by
     unfold rdC
     simp only [← hR, ← hQ, ← he]
     rw [if_neg (fun h => hE h.2.2)]
    rw [hres]
    exact ev_val fun k => by simp only [if_pos (show e < 0 by omega)]
  ·simp only [if_neg hB]
   have hres : rdC L = (0, 0, (⟨#[]⟩ : ByteArray), false) := by
    unfold rdC
    simp only [← hR]
    rw [if_neg (fun h => hB h.2.1)]
   rw [hres]
   have hl : strings_LastIndexByte.f (str []) 35 = some (-1) := rfl
   simp only [hl, Option.bind_some]
   refine Ev.bind (impl_number.ev _) (Ev.bind (impl_number.ev _) ?_)
   exact ev_val fun k => by simp only [if_pos (show (-1 : Int) < 0 by omega)]
 ·simp only [if_neg hA]
  have hres : rdC L = (0, 0, (⟨#[]⟩ : ByteArray), false) := by
   unfold rdC
   simp only
   rw [if_neg (fun h => hA h.1)]
  rw [hres]
  have hl : strings_LastIndexByte.f (str []) 35 = some (-1) := rfl
  have hc : strings_Cut.f (str []) (⟨#[58]⟩ : ByteArray) = some (str [], str [], false) := by rw [strings_Cut.val [] 58 (by simp)]; rfl
  simp only [hc, hl, Option.bind_some]
  refine Ev.bind (impl_number.ev _) (Ev.bind (impl_number.ev _) ?_)
  exact ev_val fun k => by simp only [if_pos (show (-1 : Int) < 0 by omega)]
theorem impl_ReceiveChunk.ev (xs : List ByteArray) (c : ByteArray) (hn : xs.length ≤ 1048576) (hs : c.size ≤ 1048576) : Ev (fun k => impl_ReceiveChunk.f k xs c) (rcvC xs c) := by
 have hr := impl_readChunk.ev c.data.toList (by rw [Array.length_toList]; exact hs)
 rw [str_str] at hr
 have hk := rdC_ok c.data.toList
 have hcl := slices_Clone_string_string.val xs (by omega)
 simp only [impl_ReceiveChunk.f, hcl, Option.bind_some]
 refine Ev.bind hr ?_
 unfold rcvC
 generalize rdC c.data.toList = q at hk
 obtain ⟨qi, qn, qp, qb⟩ := q
 simp only at hk ⊢
 cases qb with
 | false =>
  simp only [Bool.false_eq_true, if_false]
  exact ev_shift (ev_val fun k => by simp only [impl_ReceiveChunk.j0, Bool.false_eq_true, if_false, hcl, Option.bind_some])
 | true =>
  obtain ⟨h0, h1, h2, h3⟩ := hk rfl
  simp only [if_true]
  by_cases hz : xs.length = 0
  ·rw [if_pos hz]
   have hb : ((xs.length : Int) == 0) = true := by simp [hz]
   refine ev_shift (ev_val fun k => ?_)
   simp only [impl_ReceiveChunk.j0, hb, if_true, if_pos (show 0 ≤ qn by omega), if_pos (show qn.toNat ≤ 17592186044416 by omega), Option.bind_some, List.length_replicate, if_pos (show (qn.toNat : Int) = qn by omega), if_pos h0, if_pos (show qi < (qn.toNat : Int) by omega), rd_rep]
  ·rw [if_neg hz]
   have hb : ((xs.length : Int) == 0) = false := by simp; exact fun h => hz (by rw [h]; rfl)
   refine ev_shift (ev_val fun k => ?_)
   simp only [impl_ReceiveChunk.j0, hb, Bool.false_eq_true, if_false, if_true]
   by_cases hl : (xs.length : Int) = qn
   ·simp only [if_pos hl, if_pos h0, if_pos (show qi < (xs.length : Int) by omega)]
    by_cases he : (rdOf ByteArray.empty xs qi).toList = []
    ·rw [if_pos he, if_pos ⟨hl, he⟩]
    ·rw [if_neg he, if_neg (fun h => he h.2), hcl]
     rfl
   ·simp only [if_neg hl, hcl, Option.bind_some]
    rw [if_neg (fun h => hl h.1)]
theorem spec_DrawEncodeChunks.ev (c : List Int) (hc : c.length ≤ 1048576) : ∃ s a, Ev (fun k => spec_DrawEncodeChunks.f k c) (s, a) ∧ s.size ≤ 20000 ∧ a ≤ 9223372036854775807 := by
 obtain ⟨h, e0⟩ := spec_l1New.ev c hc
 obtain ⟨p, q, os, xs, i1, h1, e1, ho, hx, hi1⟩ := spec_l7Snap.ev c hc 0 h cur0
 obtain ⟨b, sv, qb⟩ := spec_IsValidMachine.ev os xs (by omega) (by omega)
 have hT := spec_SnapshotText.ev p q os xs (by omega) (by omega) b sv (fun h => qb.1 h)
 have hTl := snapL_len p q b os xs ho (by omega) (fun h => qb.1 h)
 obtain ⟨x, i2, h2, e2, hm, hi2⟩ := spec_l1PickInt.is c hc i1 h1 [1, 2, 3, 5, 9, 40, 9223372036854775807, 0, (-1)] (by simp) hi1
 refine ⟨str (snapL p q b os xs), x, Ev.bind e0 (Ev.bind e1 (Ev.bind hT (ev_val fun _ => ?_))), by rw [str_size]; omega, ?_⟩
 ·simp only [e2, Option.bind_some]
 ·simp only [List.mem_cons, List.not_mem_nil, or_false] at hm
  omega
theorem spec_DrawJoinChunks.ev (c : List Int) (hc : c.length ≤ 1048576) : ∃ l t, Ev (fun k => spec_DrawJoinChunks.f k c) (l, t) ∧ l.length ≤ 40 ∧ ∀ x ∈ l, x.size ≤ 20000 := by
 obtain ⟨h, e0⟩ := spec_l1New.ev c hc
 obtain ⟨a, b, i1, h1, e1, ha, hb, hi1⟩ := spec_l7Parts.ev c hc 0 h cur0
 obtain ⟨n, i2, h2, e2, _, _, hi2⟩ := spec_l1Below.is c hc i1 h1 4 hi1
 by_cases c0 : n = 0
 ·refine ⟨b, (a.length : Int), Ev.bind e0 (Ev.bind e1 (ev_val fun _ => ?_)), hb⟩
  simp only [e2, Option.bind_some, if_pos c0]
 by_cases c1 : n = 1
 ·refine ⟨a, wrap64 ((a.length : Int) + 1), Ev.bind e0 (Ev.bind e1 (ev_val fun _ => ?_)), ha⟩
  simp only [e2, Option.bind_some, if_neg c0, if_pos c1]
 ·refine ⟨a, (a.length : Int), Ev.bind e0 (Ev.bind e1 (ev_val fun _ => ?_)), ha⟩
  simp only [e2, Option.bind_some, if_neg c0, if_neg c1]
noncomputable def joinF : List ByteArray → Int → Int → List UInt8 → Option (List UInt8)
 | [], _, _, acc => some acc
 | x :: r, total, i, acc => if (rdC x.data.toList).2.2.2 = true ∧ (rdC x.data.toList).1 = i ∧ (rdC x.data.toList).2.1 = total then joinF r total (i + 1) (acc ++ (rdC x.data.toList).2.2.1.data.toList) else none
noncomputable def joinC (xs : List ByteArray) (total : Int) : ByteArray × Bool := if (xs.length : Int) = total ∧ ¬ total < 1 then (match joinF xs total 0 [] with
 | some l => (str l, true)
 | none => ((⟨#[]⟩ : ByteArray), false)) else ((⟨#[]⟩ : ByteArray), false)
theorem impl_JoinChunks.l0ev (xs : List ByteArray) (total : Int) (hn : xs.length ≤ 1048576) (hs : ∀ x ∈ xs, x.size ≤ 1048576) :
  ∀ d i : Nat, i + d = xs.length → ∀ acc : List UInt8, acc.length ≤ 1048576 * i → Ev (fun k => impl_JoinChunks.l0 k total (str acc) xs (xs.length : Int) (i : Int)) (match joinF (xs.drop i) total (i : Int) acc with
   | some l => (str l, true)
   | none => ((⟨#[]⟩ : ByteArray), false)) := by
 intro d
 induction d with
 | zero =>
  intro i h acc ha
  obtain rfl : i = xs.length := by omega
  refine ev_shift (ev_val fun k => ?_)
  simp only [impl_JoinChunks.l0, if_neg (show ¬ ((xs.length : Int) < (xs.length : Int)) by omega), List.drop_length, joinF]
 | succ d ih =>
  intro i h acc ha
  have hi : i < xs.length := by omega
  have e1 := w64 (show -9223372036854775808 ≤ (i : Int) + 1 by omega) (by omega)
  have hsx := hs xs[i] (by simp)
  have hr := impl_readChunk.ev xs[i].data.toList (by rw [Array.length_toList]; exact hsx)
  rw [str_str] at hr
  have hl := rdC_len xs[i].data.toList
  have hxl : xs[i].data.toList.length = xs[i].size := by rw [Array.length_toList]; rfl
  refine ev_shift ?_
  simp only [impl_JoinChunks.l0, if_pos (show (i : Int) < (xs.length : Int) by omega), if_pos (show (0 : Int) ≤ (i : Int) by omega), rdB xs i hi, e1]
  refine Ev.bind hr ?_
  rw [List.drop_eq_getElem_cons hi]
  simp only [joinF]
  generalize rdC xs[i].data.toList = q at hl
  obtain ⟨qi, qn, qp, qb⟩ := q
  simp only at hl ⊢
  cases qb with
  | false => simp only [Bool.false_eq_true, if_false, false_and]; exact Ev.now _
  | true =>
   simp only [if_true, true_and]
   by_cases h1 : qi = (i : Int)
   ·by_cases h2 : qn = total
    ·simp only [if_pos h1, if_pos h2, if_pos (And.intro h1 h2), str_size, if_pos (show acc.length + qp.size ≤ 9223372036854775807 by omega)]
     have h9 : qp.data.toList.length = qp.size := by rw [Array.length_toList]; rfl
     have := ih (i + 1) (by omega) (acc ++ qp.data.toList) (by rw [List.length_append, h9]; omega)
     rw [show str acc ++ qp = str (acc ++ qp.data.toList) by rw [← str_append, str_str]]
     exact this
    ·simp only [if_pos h1, if_neg h2, if_neg (fun h : qi = (i : Int) ∧ qn = total => h2 h.2)]
     exact Ev.now _
   ·simp only [if_neg h1, if_neg (fun h : qi = (i : Int) ∧ qn = total => h1 h.1)]
    exact Ev.now _
theorem impl_JoinChunks.ev (xs : List ByteArray) (total : Int) (hn : xs.length ≤ 1048576) (hs : ∀ x ∈ xs, x.size ≤ 1048576) : Ev (fun k => impl_JoinChunks.f k xs total) (joinC xs total) := by
 unfold joinC
 by_cases h1 : (xs.length : Int) = total
 ·by_cases h2 : total < 1
  ·rw [if_neg (fun h => h.2 h2)]
   simp only [impl_JoinChunks.f, if_pos h1, decide_eq_true h2]
   exact ev_shift (ev_val fun k => by simp only [impl_JoinChunks.j0, if_true])
  ·rw [if_pos ⟨h1, h2⟩]
   simp only [impl_JoinChunks.f, if_pos h1, decide_eq_false h2]
   refine ev_shift ?_
   simp only [impl_JoinChunks.j0, Bool.false_eq_true, if_false]
   have := impl_JoinChunks.l0ev xs total hn hs xs.length 0 (by omega) [] (by simp)
   rw [List.drop_zero] at this
   exact this
 ·rw [if_neg (fun h => h1 h.1)]
  simp only [impl_JoinChunks.f, if_neg h1]
  exact ev_shift (ev_val fun k => by simp only [impl_JoinChunks.j0, if_true])
theorem spec_JoinChunks.l0ev (xs : List ByteArray) (total : Int) (hn : xs.length ≤ 1048576) (hs : ∀ x ∈ xs, x.size ≤ 1048576) :
  ∀ d i : Nat, i + d = xs.length → ∀ acc : List UInt8, acc.length ≤ 1048576 * i → Ev (fun k => spec_JoinChunks.l0 k xs total (str acc) (i : Int)) (match joinF (xs.drop i) total (i : Int) acc with
   | some l => (if (xs.length : Int) = total ∧ ¬ total < 1 then (str l, true) else ((⟨#[]⟩ : ByteArray), false))
   | none => ((⟨#[]⟩ : ByteArray), false)) := by
 intro d
 induction d with
 | zero =>
  intro i h acc ha
  obtain rfl : i = xs.length := by omega
  refine ev_shift (ev_val fun k => ?_)
  simp only [spec_JoinChunks.l0, if_neg (show ¬ ((xs.length : Int) < (xs.length : Int)) by omega), List.drop_length, joinF]
  by_cases h1 : (xs.length : Int) = total
  ·by_cases h2 : total < 1
   ·rw [if_pos h1, if_pos h2, if_neg (fun h => h.2 h2)]
   ·rw [if_pos h1, if_neg h2, if_pos ⟨h1, h2⟩]
  ·rw [if_neg h1, if_neg (fun h => h1 h.1)]
 | succ d ih =>
  intro i h acc ha
  have hi : i < xs.length := by omega
  have e1 := w64 (show -9223372036854775808 ≤ (i : Int) + 1 by omega) (by omega)
  have hsx := hs xs[i] (by simp)
  have hr := spec_l7Read.ev xs[i].data.toList (by rw [Array.length_toList]; exact hsx)
  rw [str_str] at hr
  have hl := rdC_len xs[i].data.toList
  have hxl : xs[i].data.toList.length = xs[i].size := by rw [Array.length_toList]; rfl
  refine ev_shift ?_
  simp only [spec_JoinChunks.l0, if_pos (show (i : Int) < (xs.length : Int) by omega), if_pos (show (0 : Int) ≤ (i : Int) by omega), rdB xs i hi, e1]
  refine Ev.bind hr ?_
  rw [List.drop_eq_getElem_cons hi]
  simp only [joinF]
  generalize rdC xs[i].data.toList = q at hl
  obtain ⟨qi, qn, qp, qb⟩ := q
  simp only at hl ⊢
  cases qb with
  | false => simp only [Bool.false_eq_true, if_false, false_and]; exact Ev.now _
  | true =>
   simp only [if_true, true_and]
   by_cases h1 : qi = (i : Int)
   ·by_cases h2 : qn = total
    ·simp only [if_pos h1, if_pos h2, if_pos (And.intro h1 h2), str_size, if_pos (show acc.length + qp.size ≤ 9223372036854775807 by omega)]
     have h9 : qp.data.toList.length = qp.size := by rw [Array.length_toList]; rfl
     have := ih (i + 1) (by omega) (acc ++ qp.data.toList) (by rw [List.length_append, h9]; omega)
     rw [show str acc ++ qp = str (acc ++ qp.data.toList) by rw [← str_append, str_str]]
     exact this
    ·simp only [if_pos h1, if_neg h2, if_neg (fun h : qi = (i : Int) ∧ qn = total => h2 h.2)]
     exact Ev.now _
   ·simp only [if_neg h1, if_neg (fun h : qi = (i : Int) ∧ qn = total => h1 h.1)]
    exact Ev.now _
theorem spec_JoinChunks.ev (xs : List ByteArray) (total : Int) (hn : xs.length ≤ 1048576) (hs : ∀ x ∈ xs, x.size ≤ 1048576) : Ev (fun k => spec_JoinChunks.f k xs total) (joinC xs total) := by
 have := spec_JoinChunks.l0ev xs total hn hs xs.length 0 (by omega) [] (by simp)
 refine ev_eq this ?_
 rw [List.drop_zero]
 unfold joinC
 show (match joinF xs total 0 [] with | some l => _ | none => _) = _
 cases joinF xs total 0 [] with
 | some l => rfl
 | none => simp
theorem slices_Index_string_string.ev (xs : List ByteArray) (hn : xs.length ≤ 9223372036854775806) : Ev (fun k => slices_Index_string_string.f k xs (⟨#[]⟩ : ByteArray)) (firstE xs 0) := by
 have key : ∀ (d i : Nat), i + d = xs.length → Ev (fun k => slices_Index_string_string.l0 k xs (⟨#[]⟩ : ByteArray) (xs.length : Int) (i : Int)) (firstE (xs.drop i) (i : Int)) := by
  intro d
  induction d with
  | zero =>
   intro i h
   refine ev_shift ?_
   simp only [slices_Index_string_string.l0, if_neg (show ¬ ((i : Int) < (xs.length : Int)) by omega)]
   exact ev_some (by rw [List.drop_eq_nil_of_le (show xs.length ≤ i by omega)]; rfl)
  | succ d ih =>
   intro i h
   have hi : i < xs.length := by omega
   have := ih (i + 1) (by omega)
   refine ev_shift ?_
   simp only [slices_Index_string_string.l0, if_pos (show (i : Int) < (xs.length : Int) by omega), if_pos (show (0 : Int) ≤ (i : Int) by omega), rdB xs i hi, toList_inj, w64 (show -9223372036854775808 ≤ (i : Int) + 1 by omega) (by omega)]
   rw [List.drop_eq_getElem_cons hi, firstE]
   by_cases he : xs[i] = ⟨#[]⟩
   ·simp only [if_pos he, if_pos (show (⟨#[]⟩ : ByteArray) = xs[i] from he.symm)]
    exact Ev.now _
   ·simp only [if_neg he, if_neg (show ¬ ((⟨#[]⟩ : ByteArray) = xs[i]) from fun h => he h.symm)]
    simpa using this
 have := key xs.length 0 (by omega)
 simpa [slices_Index_string_string.f] using this
theorem impl_MissingChunk.ev (xs : List ByteArray) (t : Int) (hn : xs.length ≤ 9223372036854775806) : Ev (fun k => impl_MissingChunk.f k xs t) (missC xs t) := by
 have hi := slices_Index_string_string.ev xs hn
 unfold missC
 by_cases h : xs.length = 0
 ·by_cases ht : t > 0
  ·simp only [impl_MissingChunk.f, if_pos (show (xs.length : Int) = 0 by omega), if_pos ht, if_pos (show xs.length = 0 ∧ t > 0 from ⟨h, ht⟩)]
   exact Ev.now _
  ·simp only [impl_MissingChunk.f, if_pos (show (xs.length : Int) = 0 by omega), if_neg ht, if_neg (show ¬ (xs.length = 0 ∧ t > 0) from fun h' => ht h'.2)]
   exact Ev.bind hi (Ev.now _)
 ·simp only [impl_MissingChunk.f, if_neg (show ¬ ((xs.length : Int) = 0) by omega), if_neg (show ¬ (xs.length = 0 ∧ t > 0) from fun h' => h h'.1)]
  exact Ev.bind hi (Ev.now _)
theorem spec_MissingChunk.ev (xs : List ByteArray) (t : Int) (hn : xs.length ≤ 9223372036854775806) : Ev (fun k => spec_MissingChunk.f k xs t) (missC xs t) := by
 have hend : (if (xs.length : Int) = 0 then (if t > 0 then (some 0) else (some (-1))) else (some (-1)) : Option Int) = some (if xs.length = 0 ∧ t > 0 then 0 else -1) := by
  by_cases h : xs.length = 0
  ·rw [if_pos (by omega)]
   by_cases ht : t > 0
   ·rw [if_pos ht, if_pos ⟨h, ht⟩]
   ·rw [if_neg ht, if_neg (fun h' => ht h'.2)]
  ·rw [if_neg (by omega), if_neg (fun h' => h h'.1)]
 have key : ∀ (d i : Nat), i + d = xs.length → Ev (fun k => spec_MissingChunk.l0 k xs t (i : Int)) (if xs.length = 0 ∧ t > 0 then 0 else firstE (xs.drop i) (i : Int)) := by
  intro d
  induction d with
  | zero =>
   intro i h
   refine ev_shift ?_
   simp only [spec_MissingChunk.l0, if_neg (show ¬ ((i : Int) < (xs.length : Int)) by omega), hend]
   exact ev_some (by rw [List.drop_eq_nil_of_le (show xs.length ≤ i by omega)]; rfl)
  | succ d ih =>
   intro i h
   have hi : i < xs.length := by omega
   have := ih (i + 1) (by omega)
   rw [if_neg (fun h' => by omega)] at this ⊢
   refine ev_shift ?_
   simp only [spec_MissingChunk.l0, if_pos (show (i : Int) < (xs.length : Int) by omega), if_pos (show (0 : Int) ≤ (i : Int) by omega), rdB xs i hi, toList_nil, w64 (show -9223372036854775808 ≤ (i : Int) + 1 by omega) (by omega)]
   rw [List.drop_eq_getElem_cons hi, firstE]
   by_cases he : xs[i] = ⟨#[]⟩
   ·simp only [if_pos he]
    exact Ev.now _
   ·simp only [if_neg he]
    simpa using this
 have := key xs.length 0 (by omega)
 simpa [spec_MissingChunk.f, missC] using this
theorem FnChunks : FnChunksPure := by
 intro c _ _ _
 refine Ev.rounds (g := fun k => laws_FnChunks.f k c) ?_
 by_cases h1 : (c.length : Int) > 1048576
 ·simp only [laws_FnChunks.f, laws_big.f, Option.bind_some, decide_eq_true h1, if_true]; exact Ev.now _
 simp only [laws_FnChunks.f, laws_big.f, Option.bind_some, decide_eq_false h1, Bool.false_eq_true, if_false]
 have fin : ∀ (r : List ByteArray), r.length ≤ 40 → ∀ d i : Nat, i + d = r.length → Ev (fun k => laws_FnChunks.l1 k c r r (i : Int)) true := by
  intro r hr d
  induction d with
  | zero =>
   intro i hi
   obtain ⟨l, t, hd, hl, hs⟩ := spec_DrawJoinChunks.ev c (by omega)
   have hI := impl_JoinChunks.ev l t (by omega) (fun x hx => by have := hs x hx; omega)
   have hS := spec_JoinChunks.ev l t (by omega) (fun x hx => by have := hs x hx; omega)
   refine ev_shift ?_
   simp only [laws_FnChunks.l1, if_neg (show ¬ ((i : Int) < (r.length : Int)) by omega)]
   refine Ev.bind hd (Ev.bind hI (Ev.bind hS ?_))
   simp only [beq_self_eq_true, if_true]
   exact Ev.bind (impl_MissingChunk.ev l t (by omega)) (Ev.bind (spec_MissingChunk.ev l t (by omega)) (ev_val fun _ => by simp))
  | succ d ih =>
   intro i hi
   refine ev_shift ?_
   simp only [laws_FnChunks.l1, if_pos (show (i : Int) < (r.length : Int) by omega), if_pos (show (0 : Int) ≤ (i : Int) by omega), if_true, w64 (show -9223372036854775808 ≤ (i : Int) + 1 by omega) (by omega)]
   exact ih (i + 1) (by omega)
 have mid : Ev (fun k => laws_FnChunks.j2 k c) true := by
  obtain ⟨s, a, hd, hs, ha⟩ := spec_DrawEncodeChunks.ev c (by omega)
  obtain ⟨r, r1, r2, r3, _⟩ := encode_chunks s a (by omega) ha
  refine ev_shift ?_
  simp only [laws_FnChunks.j2]
  refine Ev.bind hd (Ev.bind r2 (Ev.bind r1 ?_))
  simp only [if_true]
  exact fin r r3 r.length 0 (by omega)
 obtain ⟨l, s, hd, hl, hs⟩ := spec_DrawReceiveChunk.ev c (by omega)
 have hI := impl_ReceiveChunk.ev l s (by omega) (by omega)
 have hS := spec_ReceiveChunk.ev l s (by omega) (by omega)
 have hz := rcvC_len l s (by omega)
 have hag := rcvC_again l s
 have hI2 := impl_ReceiveChunk.ev (rcvC l s).1 s hz (by omega)
 generalize rcvC l s = q at hI hS hz hag hI2
 obtain ⟨x, t⟩ := q
 simp only at hz hag hI2
 have loop : ∀ d i : Nat, i + d = x.length → Ev (fun k => laws_FnChunks.l0 k c s x t x (i : Int)) true := by
  intro d
  induction d with
  | zero =>
   intro i hi
   refine ev_shift ?_
   simp only [laws_FnChunks.l0, if_neg (show ¬ ((i : Int) < (x.length : Int)) by omega)]
   cases t with
   | false => simp only [Bool.false_eq_true, if_false]; exact mid
   | true =>
    have hf := hag rfl
    simp only [if_true]
    refine Ev.bind hI2 ?_
    simp only [hf, Bool.false_eq_true, if_false]
    exact mid
  | succ d ih =>
   intro i hi
   refine ev_shift ?_
   simp only [laws_FnChunks.l0, if_pos (show (i : Int) < (x.length : Int) by omega), if_pos (show (0 : Int) ≤ (i : Int) by omega), if_true, w64 (show -9223372036854775808 ≤ (i : Int) + 1 by omega) (by omega)]
   exact ih (i + 1) (by omega)
 refine Ev.bind hd (Ev.bind hI (Ev.bind hS ?_))
 simp only [bne_self_eq_false, Bool.false_eq_true, if_false]
 refine ev_shift ?_
 simp only [laws_FnChunks.j0, Bool.false_eq_true, if_false]
 exact loop x.length 0 (by omega)
end Go.Proofs.YtcikahnmiiichaaDoor.Pure
