/- For every code the law FnIntegerEncodings returns true; no conditions. -/
import Derived.Test.YtkkbcnghlnogpaaDoorQFnIntegerEncodings
import Derived.Test.YtkkbcnghlnogpaaDoorICom
set_option linter.unusedVariables false
set_option linter.unusedSimpArgs false
namespace Go.Proofs.YtkkbcnghlnogpaaDoor.Pure
open Go.RowKit Go.Proofs.YtkkbcnghlnogpaaDoor.I Go.Proofs.YtkkbcnghlnogpaaDoorW.PrintWords Go.Proofs.YtkkbcnghlnogpaaDoorW.PrintLast
open Go.Proofs.YtkkbcnghlnogpaaDoor.Opens
open Go.Proofs.YtkkbcnghlnogpaaDoor.Com
open Go.Proofs.YtkkbcnghlnogpaaDoor.Given

-- nothing to say of it

/-! The cursor of the draws: the code, an index, a mix. -/
theorem and255 (x : Int) : 0 ≤ Go.bits .and .i64 x 255 ∧ Go.bits .and .i64 x 255 ≤ 255 := by
  have h : (BitVec.ofInt IntKind.i64.bits x &&& BitVec.ofInt IntKind.i64.bits 255).toNat ≤ 255 := by
    rw [BitVec.toNat_and]
    refine Nat.le_trans Nat.and_le_right ?_
    decide
  simp only [Go.bits]
  rw [Go.IntKind.wrap_i64]
  omega
/-- Where the index may stand. -/
def CurI (i : Int) : Prop := 0 ≤ i ∧ i ≤ 1048576
theorem cur0 : CurI 0 := ⟨by omega, by omega⟩

theorem spec_l1New.ev (c : List Int) (hc : c.length ≤ 1048576) : ∃ h, Ev (fun k => spec_l1New.f k c) (c, 0, h) := by
  have key : ∀ d i : Nat, i + d = c.length → ∀ h, ∃ h', Ev (fun k => spec_l1New.l0 k c h (i : Int)) (c, 0, h') := by
    intro d
    induction d with
    | zero =>
      intro i hi h
      refine ⟨h, ev_shift (ev_val fun k => ?_)⟩
      simp only [spec_l1New.l0, if_neg (show ¬ ((i : Int) < (c.length : Int)) by omega)]
    | succ d ih =>
      intro i hi h
      by_cases h4 : (i : Int) < 4000
      · obtain ⟨h', hh⟩ := ih (i + 1) (by omega) (Go.bits .and .i64 (wrap64 ((wrap64 ((wrap64 (h * 131)) + (wrap64 (rd c (i : Int))))) + 7)) 1073741823)
        rw [show ((i + 1 : Nat) : Int) = (i : Int) + 1 by omega] at hh
        refine ⟨h', ev_shift (ev_to ⟨0, fun k _ => ?_⟩ hh)⟩
        simp only [spec_l1New.l0, if_pos (show (i : Int) < (c.length : Int) by omega), if_pos h4, if_pos (show (0 : Int) ≤ (i : Int) by omega), w64 (show -9223372036854775808 ≤ (i : Int) + 1 by omega) (by omega)]
      · refine ⟨h, ev_shift (ev_val fun k => ?_)⟩
        simp only [spec_l1New.l0, if_pos (show (i : Int) < (c.length : Int) by omega), if_neg h4]
  exact key c.length 0 (by omega) _

theorem spec_l1Byte.is (c : List Int) (hc : c.length ≤ 1048576) (i h : Int) (hi : CurI i) : ∃ x i' h', spec_l1Byte.f c i h = some (x, i', h') ∧ (0 ≤ x ∧ x ≤ 255) ∧ CurI i' := by
  obtain ⟨h0, h1⟩ := hi
  rw [spec_l1Byte.f]
  by_cases hl : i < (c.length : Int)
  · rw [if_pos hl, if_pos h0, w64 (show -9223372036854775808 ≤ i + 1 by omega) (by omega)]
    exact ⟨_, _, _, rfl, and255 _, by omega, by omega⟩
  · rw [if_neg hl]
    exact ⟨_, _, _, rfl, and255 _, h0, h1⟩

theorem spec_l1Below.is (c : List Int) (hc : c.length ≤ 1048576) (i h n : Int) (hi : CurI i) : ∃ x i' h', spec_l1Below.f c i h n = some (x, i', h') ∧ (n ≤ 0 → x = 0) ∧ (0 < n → 0 ≤ x ∧ x < n) ∧ CurI i' := by
  rw [spec_l1Below.f]
  by_cases h0 : n ≤ 0
  · rw [if_pos h0]
    exact ⟨_, _, _, rfl, fun _ => rfl, fun h => absurd h (by omega), hi⟩
  rw [if_neg h0]
  have hn : 0 < n := by omega
  have hz : ¬ (n = 0) := by omega
  have md : ∀ x : Int, 0 ≤ x → 0 ≤ Int.tmod x n ∧ Int.tmod x n < n := fun x hx => by
    rw [tmod_pos x n hx]; exact ⟨Int.emod_nonneg _ hz, Int.emod_lt_of_pos _ hn⟩
  by_cases h1 : n ≤ 256
  · rw [if_pos h1]
    obtain ⟨x, i', h', e, hx, hi'⟩ := spec_l1Byte.is c hc i h hi
    rw [e]
    simp only [Option.bind_some, if_neg hz]
    exact ⟨_, _, _, rfl, fun h => absurd h h0, fun _ => md x hx.1, hi'⟩
  · rw [if_neg h1]
    obtain ⟨x, i1, g1, e1, hx, hi1⟩ := spec_l1Byte.is c hc i h hi
    obtain ⟨y, i2, g2, e2, hy, hi2⟩ := spec_l1Byte.is c hc i1 g1 hi1
    obtain ⟨z, i3, g3, e3, hz3, hi3⟩ := spec_l1Byte.is c hc i2 g2 hi2
    obtain ⟨w, i4, g4, e4, hw, hi4⟩ := spec_l1Byte.is c hc i3 g3 hi3
    simp only [e1, e2, e3, e4, Option.bind_some, if_neg hz]
    refine ⟨_, _, _, rfl, fun h => absurd h h0, fun _ => md _ ?_, hi4⟩
    simp only [wrap64]
    omega

theorem spec_l1PickInt.is (c : List Int) (hc : c.length ≤ 1048576) (i h : Int) (l : List Int) (hl : 0 < l.length) (hi : CurI i) : ∃ x i' h', spec_l1PickInt.f c i h l = some (x, i', h') ∧ x ∈ l ∧ CurI i' := by
  obtain ⟨x, i', h', e, _, hx, hi'⟩ := spec_l1Below.is c hc i h (l.length : Int) hi
  obtain ⟨h0, h1⟩ := hx (by omega)
  rw [spec_l1PickInt.f, e]
  simp only [Option.bind_some, if_pos h0, if_pos h1]
  refine ⟨_, _, _, rfl, ?_, hi'⟩
  obtain ⟨j, rfl⟩ := Int.eq_ofNat_of_zero_le h0
  rw [rd_get l j (by omega)]
  exact List.getElem_mem _

theorem spec_l1Num.is (c : List Int) (hc : c.length ≤ 1048576) (i h : Int) (hi : CurI i) : ∃ x i' h', spec_l1Num.f c i h = some (x, i', h') ∧ (-9223372036854775808 ≤ x ∧ x ≤ 9223372036854775807) ∧ CurI i' := by
  obtain ⟨q, i1, h1, e1, _, _, hi1⟩ := spec_l1Below.is c hc i h 8 hi
  rw [spec_l1Num.f, e1]
  simp only [Option.bind_some]
  by_cases c0 : q = 0
  · obtain ⟨x, i2, h2, e2, hx, hi2⟩ := spec_l1PickInt.is c hc i1 h1 [(-1), 0, 127, 128, 255, 256, 16383, 16384, 65535, 65536, 562949953421311, 562949953421312, 999999999, 1000000000, (-999999999), 9223372036854775807, (-9223372036854775808)] (by simp) hi1
    simp only [if_pos c0, e2, Option.bind_some]
    refine ⟨_, _, _, rfl, ?_, hi2⟩
    simp only [List.mem_cons, List.not_mem_nil, or_false] at hx
    omega
  simp only [if_neg c0]
  by_cases c1 : q = 1
  · obtain ⟨x, i2, h2, e2, _, _, hi2⟩ := spec_l1Below.is c hc i1 h1 1000000000 hi1
    obtain ⟨y, i3, h3, e3, _, _, hi3⟩ := spec_l1Below.is c hc i2 h2 1000000000 hi2
    simp only [if_pos c1, e2, e3, Option.bind_some]
    exact ⟨_, _, _, rfl, by simp only [wrap64]; omega, hi3⟩
  simp only [if_neg c1]
  by_cases c2 : q = 2
  · obtain ⟨x, i2, h2, e2, _, _, hi2⟩ := spec_l1Below.is c hc i1 h1 100000 hi1
    simp only [if_pos c2, e2, Option.bind_some]
    exact ⟨_, _, _, rfl, by simp only [wrap64]; omega, hi2⟩
  · obtain ⟨x, i2, h2, e2, _, hx, hi2⟩ := spec_l1Below.is c hc i1 h1 70000 hi1
    have := hx (by omega)
    simp only [if_neg c2, e2, Option.bind_some]
    exact ⟨_, _, _, rfl, by omega, hi2⟩

theorem spec_DrawEncodeVarint.ev (c : List Int) (hc : c.length ≤ 1048576) : ∃ x, Ev (fun k => spec_DrawEncodeVarint.f k c) x ∧ (-9223372036854775808 ≤ x ∧ x ≤ 9223372036854775807) := by
  obtain ⟨h, e0⟩ := spec_l1New.ev c hc
  obtain ⟨x, i1, h1, e1, hx, hi1⟩ := spec_l1Num.is c hc 0 h cur0
  exact ⟨x, Ev.bind e0 (ev_val fun k => by simp only [e1, Option.bind_some]), hx⟩

theorem spec_l1Text.ev (c : List Int) (hc : c.length ≤ 1048576) (i h m : Int) (hm : 0 ≤ m ∧ m ≤ 1000) (hi : CurI i) : ∃ s i' h', Ev (fun k => spec_l1Text.f k c i h m) (s, i', h') ∧ s.size ≤ 1001 ∧ CurI i' := by
  obtain ⟨q, i1, h1, e1, _, _, hi1⟩ := spec_l1Below.is c hc i h 4 hi
  obtain ⟨n, i2, h2, e2, _, hn, hi2⟩ := spec_l1Below.is c hc i1 h1 (m + 1) hi1
  have hn' := hn (by omega)
  have key : ∀ (d : Nat) (acc : List Int), acc.length + d ≤ 1001 → ∀ i h : Int, CurI i → ∃ s i' h', Ev (fun k => spec_l1Text.l0 k acc q (d : Int) c i h) (s, i', h') ∧ s.size ≤ 1001 ∧ CurI i' := by
    intro d
    induction d with
    | zero =>
      intro acc ha i h hi
      refine ⟨strOfNums acc, i, h, ev_shift (ev_val fun k => ?_), by rw [strOfNums_size]; omega, hi⟩
      simp only [spec_l1Text.l0, if_neg (show ¬ ((0 : Nat) : Int) > 0 by omega)]
    | succ d ih =>
      intro acc ha i h hi
      obtain ⟨x, i3, h3, e3, _, hi3⟩ := spec_l1Byte.is c hc i h hi
      have e4 : wrap64 (((d + 1 : Nat) : Int) - 1) = (d : Int) := by rw [w64 (by omega) (by omega)]; omega
      have go : ∀ y : Int, ∃ s i' h', Ev (fun k => spec_l1Text.l0 k (acc ++ [y]) q (d : Int) c i3 h3) (s, i', h') ∧ s.size ≤ 1001 ∧ CurI i' := fun y => ih (acc ++ [y]) (by simp; omega) i3 h3 hi3
      by_cases c1 : q = 1
      · by_cases c2 : q = 2
        · omega
        · obtain ⟨s, i', h', es, hs⟩ := go ((Int.tmod x 2) % 256)
          refine ⟨s, i', h', ev_shift (ev_to ⟨0, fun k _ => ?_⟩ es), hs⟩
          simp only [spec_l1Text.l0, if_pos (show ((d + 1 : Nat) : Int) > 0 by omega), e3, Option.bind_some, if_pos c1, if_neg c2, if_pos (show acc.length < 140737488355328 by omega), e4]
      · by_cases c2 : q = 2
        · obtain ⟨s, i', h', es, hs⟩ := go ((wrap64 (97 + (Int.tmod x 4))) % 256)
          refine ⟨s, i', h', ev_shift (ev_to ⟨0, fun k _ => ?_⟩ es), hs⟩
          simp only [spec_l1Text.l0, if_pos (show ((d + 1 : Nat) : Int) > 0 by omega), e3, Option.bind_some, if_neg c1, if_pos c2, if_pos (show acc.length < 140737488355328 by omega), e4]
        · obtain ⟨s, i', h', es, hs⟩ := go (x % 256)
          refine ⟨s, i', h', ev_shift (ev_to ⟨0, fun k _ => ?_⟩ es), hs⟩
          simp only [spec_l1Text.l0, if_pos (show ((d + 1 : Nat) : Int) > 0 by omega), e3, Option.bind_some, if_neg c1, if_neg c2, if_pos (show acc.length < 140737488355328 by omega), e4]
  obtain ⟨N, rfl⟩ := Int.eq_ofNat_of_zero_le hn'.1
  obtain ⟨s, i', h', es, hs⟩ := key N [] (by simp; omega) i2 h2 hi2
  refine ⟨s, i', h', ?_, hs⟩
  simp only [spec_l1Text.f, e1, Option.bind_some, w64 (show -9223372036854775808 ≤ m + 1 by omega) (by omega), e2]
  exact es

theorem spec_DrawEncodeHex.ev (c : List Int) (hc : c.length ≤ 1048576) : ∃ s, Ev (fun k => spec_DrawEncodeHex.f k c) s ∧ s.size ≤ 1001 := by
  obtain ⟨h, e0⟩ := spec_l1New.ev c hc
  obtain ⟨s, i1, h1, e1, hs, hi1⟩ := spec_l1Text.ev c hc 0 h 40 (by omega) cur0
  exact ⟨s, Ev.bind e0 (Ev.bind e1 (Ev.now _)), hs⟩

theorem impl_within.val (a b c : Int) : impl_within.f a b c = some (decide (b ≤ a ∧ a ≤ c)) := by
  unfold impl_within.f
  by_cases h : b ≤ a <;> simp [h]

/-- A number of some bytes, the greatest first. -/
def fixVal (l : List Int) (n : Int) : Int := l.foldl (fun n b => n * 256 + b) n
def decFixed (l : List Int) (w : Int) : Int × Bool := if (1 ≤ w ∧ w ≤ 7) ∧ w ≤ (l.length : Int) then (fixVal (l.take w.toNat) 0, true) else (0, false)
/-- The bytes of a number, the greatest first. -/
def fixD : Nat → Int → List Int
  | 0, _ => []
  | d + 1, n => fixD d (n / 256) ++ [n % 256]
/-- What these bytes leave. -/
def hiPart : Nat → Int → Int
  | 0, n => n
  | d + 1, n => hiPart d (n / 256)
def encFixed (n w : Int) : List Int := if (1 ≤ w ∧ w ≤ 7) ∧ 0 ≤ n ∧ hiPart w.toNat n = 0 then fixD w.toNat n else []
theorem hiPart_nonneg (d : Nat) : ∀ n, 0 ≤ n → 0 ≤ hiPart d n := by
  induction d with
  | zero => intro n h; exact h
  | succ d ih => intro n h; exact ih _ (by omega)
theorem fixD_length (d : Nat) : ∀ n, (fixD d n).length = d := by
  induction d with
  | zero => intro n; rfl
  | succ d ih => intro n; simp [fixD, ih]
theorem fixD_range (d : Nat) : ∀ n, ∀ b ∈ fixD d n, 0 ≤ b ∧ b ≤ 255 := by
  induction d with
  | zero => intro n b hb; cases hb
  | succ d ih =>
    intro n b hb
    simp only [fixD, List.mem_append, List.mem_singleton] at hb
    rcases hb with hb | rfl
    · exact ih _ b hb
    · omega
theorem strOfNums_append (a b : List Int) : strOfNums (a ++ b) = strOfNums a ++ strOfNums b := by
  apply ByteArray.ext
  apply Array.ext'
  simp [strOfNums]
theorem strOfNums_nil : strOfNums [] = (⟨#[]⟩ : ByteArray) := rfl
theorem wraps_i64 (n : Int) (h₀ : 0 ≤ n) (h₁ : n < 2 ^ 63) : IntKind.i64.wrap n = n := by rw [IntKind.wrap_i64]; omega
theorem pow256_le (i : Nat) (h : i ≤ 6) : ((256 ^ i : Nat) : Int) ≤ 281474976710656 := by
  have : 256 ^ i ≤ 256 ^ 6 := Nat.pow_le_pow_right (by decide) h
  omega
/-- What a loop over the bytes of a number leaves. -/
def encRes (d : Nat) (n : Int) (out : ByteArray) : ByteArray := if hiPart d n = 0 then strOfNums (fixD d n) ++ out else ⟨#[]⟩
theorem encRes_zero (n : Int) (out : ByteArray) : encRes 0 n out = if n = 0 then out else ⟨#[]⟩ := by
  show (if n = 0 then strOfNums [] ++ out else ⟨#[]⟩) = _
  rw [strOfNums_nil]
  have : (⟨#[]⟩ : ByteArray) ++ out = out := by apply ByteArray.ext; simp
  rw [this]
theorem encRes_succ (d : Nat) (n : Int) (out : ByteArray) : encRes (d + 1) n out = encRes d (n / 256) (strOfNums [n % 256] ++ out) := by
  show (if hiPart d (n / 256) = 0 then strOfNums (fixD d (n / 256) ++ [n % 256]) ++ out else ⟨#[]⟩) = if hiPart d (n / 256) = 0 then strOfNums (fixD d (n / 256)) ++ (strOfNums [n % 256] ++ out) else ⟨#[]⟩
  rw [strOfNums_append, ByteArray.append_assoc]

/-- The bytes of a number, seven bits each, the least first. -/
def varD : Nat → Int → List Int
  | 0, n => [n]
  | d + 1, n => if n ≥ 128 then (128 + n % 128) :: varD d (n / 128) else [n]
def encVar (n : Int) : List Int := if 0 ≤ n ∧ n ≤ 562949953421311 then varD 6 n else []
theorem varD_range (d : Nat) : ∀ n, 0 ≤ n → n < ((128 ^ (d + 1) : Nat) : Int) → ∀ b ∈ varD d n, 0 ≤ b ∧ b ≤ 255 := by
  induction d with
  | zero => intro n h0 h1 b hb; simp [varD] at hb; subst hb; simp at h1; omega
  | succ d ih =>
    intro n h0 h1 b hb
    have hq : ((128 ^ (d + 1 + 1) : Nat) : Int) = ((128 ^ (d + 1) : Nat) : Int) * 128 := by rw [Nat.pow_succ]; simp
    rw [hq] at h1
    unfold varD at hb
    split at hb
    · simp only [List.mem_cons] at hb
      rcases hb with rfl | hb
      · omega
      · exact ih _ (by omega) (by omega) b hb
    · simp only [List.mem_singleton] at hb; subst hb; omega
theorem encVar_range (n : Int) : ∀ b ∈ encVar n, 0 ≤ b ∧ b ≤ 255 := by
  intro b hb
  unfold encVar at hb
  split at hb
  · rename_i h
    exact varD_range 6 n h.1 (by simp; omega) b hb
  · cases hb
theorem bits_or_comm (k : IntKind) (a b : Int) : Go.bits .or k a b = Go.bits .or k b a := by simp only [Go.bits, BitVec.or_comm]
theorem bits_and_i64_127 (n : Int) (h0 : 0 ≤ n) (h1 : n < 2 ^ 63) : Go.bits .and .i64 n 127 = n % 128 := bits_mask .i64 63 (by decide) wraps_i64 7 (by decide) n h0 h1
theorem bits_and_u8_127 (n : Int) (h0 : 0 ≤ n) (h1 : n < 256) : Go.bits .and .u8 n 127 = n % 128 := bits_mask .u8 8 (by decide) wraps_u8 7 (by decide) n h0 h1
theorem bits_or_u8_128 (n : Int) (h0 : 0 ≤ n) (h1 : n < 128) : Go.bits .or .u8 n 128 = 128 + n := by
  rw [bits_or_comm]
  exact bits_join .u8 8 (by decide) wraps_u8 7 128 n (by decide) (by decide) (by decide) h0 h1 (by omega)

theorem impl_EncodeVarint.loop : ∀ (d : Nat) (n : Int) (acc : List Int), 0 ≤ n → n < ((128 ^ (d + 1) : Nat) : Int) → n ≤ 9223372036854775807 → acc.length + d < 140737488355328 →
    Ev (fun k => impl_EncodeVarint.l0 k n acc) (strOfNums (acc ++ varD d n)) := by
  intro d
  induction d with
  | zero =>
    intro n acc h0 h1 h2 ha
    simp at h1
    refine ev_shift ?_
    simp only [impl_EncodeVarint.l0, if_neg (show ¬ (n > 127) by omega), if_pos (show acc.length < 140737488355328 by omega), varD, show n % 256 = n by omega]
    exact Ev.now _
  | succ d ih =>
    intro n acc h0 h1 h2 ha
    have hq : ((128 ^ (d + 1 + 1) : Nat) : Int) = ((128 ^ (d + 1) : Nat) : Int) * 128 := by rw [Nat.pow_succ]; simp
    rw [hq] at h1
    refine ev_shift ?_
    by_cases hn : n ≥ 128
    · have e2 : Go.bits .or .u8 ((Go.bits .and .i64 n 127) % 256) 128 = 128 + n % 128 := by
        rw [bits_and_i64_127 n h0 (by omega), show n % 128 % 256 = n % 128 by omega, bits_or_u8_128 _ (by omega) (by omega)]
      have := ih (n / 128) (acc ++ [128 + n % 128]) (by omega) (by omega) (by omega) (by simp; omega)
      simp only [impl_EncodeVarint.l0, if_pos (show n > 127 by omega), if_pos (show acc.length < 140737488355328 by omega), e2, varD, if_pos hn]
      simpa using this
    · simp only [impl_EncodeVarint.l0, if_neg (show ¬ (n > 127) by omega), if_pos (show acc.length < 140737488355328 by omega), varD, if_neg hn, show n % 256 = n by omega]
      exact Ev.now _
theorem impl_EncodeVarint.ev (n : Int) : Ev (fun k => impl_EncodeVarint.f k n) (strOfNums (encVar n)) := by
  simp only [impl_EncodeVarint.f, impl_within.val, Option.bind_some, encVar]
  by_cases h : 0 ≤ n ∧ n ≤ 562949953421311
  · simp only [decide_eq_true h, if_true, if_pos h]
    simpa using impl_EncodeVarint.loop 6 n [] h.1 (by simp; omega) (by omega) (by simp)
  · simp only [decide_eq_false h, Bool.false_eq_true, if_false, if_neg h]
    exact Ev.now _

/-- The value of some bytes, seven bits each, the least first. -/
def valL : List Int → Int
  | [] => 0
  | b :: l => b % 128 + 128 * valL l
/-- Are these the bytes of a number? -/
def canL : List Int → Prop
  | [] => False
  | [b] => b < 128
  | b :: c :: l => b ≥ 128 ∧ canL (c :: l) ∧ valL (c :: l) ≠ 0
/-- A byte ahead of a number. -/
def dvStep (b : Int) : Option (Int × Nat) → Option (Int × Nat)
  | none => none
  | some p => if p.1 = 0 then none else some (b % 128 + 128 * p.1, p.2 + 1)
/-- The number at the head of some bytes, and how many bytes it takes. -/
def dv : Nat → List Int → Option (Int × Nat)
  | 0, _ => none
  | _ + 1, [] => none
  | f + 1, b :: l => if b < 128 then some (b, 1) else dvStep b (dv f l)
theorem dv_cons (f : Nat) (b : Int) (l : List Int) : dv (f + 1) (b :: l) = if b < 128 then some (b, 1) else dvStep b (dv f l) := rfl
theorem valL_nonneg : ∀ l : List Int, 0 ≤ valL l
  | [] => by simp [valL]
  | b :: l => by have := valL_nonneg l; simp only [valL]; omega
theorem valL_lt : ∀ l : List Int, valL l < ((128 ^ l.length : Nat) : Int)
  | [] => by simp [valL]
  | b :: l => by
    have := valL_lt l
    have hq : ((128 ^ (l.length + 1) : Nat) : Int) = ((128 ^ l.length : Nat) : Int) * 128 := by rw [Nat.pow_succ]; simp
    simp only [valL, List.length_cons, hq]; omega
theorem varD_canL : ∀ (l : List Int) (f : Nat), (∀ b ∈ l, 0 ≤ b ∧ b ≤ 255) → l ≠ [] → l.length ≤ f + 1 → (varD f (valL l) = l ↔ canL l)
  | [], _, _, h, _ => absurd rfl h
  | [b], f, hr, _, _ => by
    have hb := hr b (by simp)
    have hv : valL [b] = b % 128 := by simp [valL]
    have : varD f (b % 128) = [b % 128] := by
      cases f with
      | zero => rfl
      | succ f => simp only [varD]; rw [if_neg (by omega)]
    rw [hv, this]
    simp only [canL, List.cons.injEq, and_true]
    omega
  | b :: c :: l, f, hr, _, hf => by
    have hb := hr b (by simp)
    obtain ⟨f, rfl⟩ : ∃ g, f = g + 1 := ⟨f - 1, by simp at hf; omega⟩
    have ih := varD_canL (c :: l) f (fun x hx => hr x (List.mem_cons_of_mem _ hx)) (by simp) (by simp at hf ⊢; omega)
    have hn := valL_nonneg (c :: l)
    have hv : valL (b :: c :: l) = b % 128 + 128 * valL (c :: l) := rfl
    rw [hv]
    simp only [canL]
    by_cases hz : valL (c :: l) = 0
    · rw [hz]
      simp only [varD]
      rw [if_neg (by omega)]
      simp
    · simp only [varD]
      rw [if_pos (by omega), show (b % 128 + 128 * valL (c :: l)) / 128 = valL (c :: l) by omega, show (b % 128 + 128 * valL (c :: l)) % 128 = b % 128 by omega]
      rw [List.cons.injEq, ih]
      constructor
      · intro h; exact ⟨by omega, h.2, hz⟩
      · intro h; exact ⟨by omega, h.2.1⟩
theorem dv_of_canL : ∀ (kk f : Nat) (l : List Int), (∀ b ∈ l, 0 ≤ b ∧ b ≤ 255) → 1 ≤ kk → kk ≤ f → kk ≤ l.length → canL (l.take kk) → dv f l = some (valL (l.take kk), kk)
  | 0, _, _, _, h, _, _, _ => by omega
  | _ + 1, 0, _, _, _, h, _, _ => by omega
  | _ + 1, _ + 1, [], _, _, _, h, _ => by simp at h
  | 1, f + 1, b :: l, hr, _, _, _, hc => by
    have hb := hr b (by simp)
    simp [canL] at hc
    simp only [dv, if_pos hc]
    simp [valL]; omega
  | kk + 2, f + 1, b :: l, hr, _, hf, hl, hc => by
    have hb := hr b (by simp)
    have ht : (b :: l).take (kk + 2) = b :: l.take (kk + 1) := rfl
    rw [ht] at hc ⊢
    obtain ⟨c, l', e⟩ : ∃ c l', l.take (kk + 1) = c :: l' := by
      cases l with
      | nil => simp at hl
      | cons c l => exact ⟨c, l.take kk, rfl⟩
    rw [e] at hc
    simp only [canL] at hc
    rw [← e] at hc
    have ih := dv_of_canL (kk + 1) f l (fun x hx => hr x (by simp [hx])) (by omega) (by omega) (by simp at hl; omega) hc.2.1
    rw [dv_cons, if_neg (by omega), ih]
    simp only [dvStep, if_neg hc.2.2, valL]
theorem canL_of_dv : ∀ (f : Nat) (l : List Int) (v : Int) (m : Nat), (∀ b ∈ l, 0 ≤ b ∧ b ≤ 255) → dv f l = some (v, m) → 1 ≤ m ∧ m ≤ f ∧ m ≤ l.length ∧ v = valL (l.take m) ∧ canL (l.take m)
  | 0, _, _, _, _, h => by simp [dv] at h
  | _ + 1, [], _, _, _, h => by simp [dv] at h
  | f + 1, b :: l, v, m, hr, h => by
    have hb := hr b (by simp)
    rw [dv_cons] at h
    by_cases hb1 : b < 128
    · rw [if_pos hb1] at h
      simp only [Option.some.injEq, Prod.mk.injEq] at h
      obtain ⟨rfl, rfl⟩ := h
      refine ⟨by omega, by omega, by simp, ?_, ?_⟩
      · simp [valL]; omega
      · simpa [canL] using hb1
    · rw [if_neg hb1] at h
      cases he : dv f l with
      | none => rw [he] at h; simp [dvStep] at h
      | some p =>
        obtain ⟨v', m'⟩ := p
        rw [he] at h
        simp only [dvStep] at h
        by_cases hv : v' = 0
        · rw [if_pos hv] at h; cases h
        · rw [if_neg hv] at h
          simp only [Option.some.injEq, Prod.mk.injEq] at h
          obtain ⟨rfl, rfl⟩ := h
          obtain ⟨h1, h2, h3, h4, h5⟩ := canL_of_dv f l v' m' (fun x hx => hr x (by simp [hx])) he
          obtain ⟨c, l', e⟩ : ∃ c l', l.take m' = c :: l' := by
            cases l with
            | nil => simp at h3; omega
            | cons c l =>
              obtain ⟨q, rfl⟩ : ∃ q, m' = q + 1 := ⟨m' - 1, by omega⟩
              exact ⟨c, l.take q, rfl⟩
          have ht : (b :: l).take (m' + 1) = b :: l.take m' := rfl
          refine ⟨by omega, by omega, by simp; omega, ?_, ?_⟩
          · rw [ht]; simp only [valL]; rw [← h4]
          · rw [ht, e]
            simp only [canL]
            rw [← e]
            exact ⟨by omega, h5, by rw [← h4]; exact hv⟩
/-- What a decoder answers. -/
def decOut : Option (Int × Nat) → Int × Int
  | none => (0, 0)
  | some p => (p.1, (p.2 : Int))
def decVar (l : List Int) : Int × Int := decOut (dv 7 l)

/-- What the loop answers from byte i on. -/
def decAt (i : Nat) (n : Int) : Option (Int × Nat) → Int × Int
  | none => (0, 0)
  | some p => if 0 < i ∧ p.1 = 0 then (0, 0) else (n + p.1 * ((128 ^ i : Nat) : Int), (i : Int) + (p.2 : Int))
theorem pow128 (i : Nat) : ((128 ^ (i + 1) : Nat) : Int) = ((128 ^ i : Nat) : Int) * 128 := by rw [Nat.pow_succ]; simp
theorem shl7 (b : Int) (i : Nat) (hi : i ≤ 6) (h0 : 0 ≤ b) (h1 : b < 128) : shl .i64 b (7 * (i : Int)) = b * ((128 ^ i : Nat) : Int) := by
  unfold shl
  have : i = 0 ∨ i = 1 ∨ i = 2 ∨ i = 3 ∨ i = 4 ∨ i = 5 ∨ i = 6 := by omega
  rcases this with rfl | rfl | rfl | rfl | rfl | rfl | rfl <;> simp [IntKind.bits] <;> (rw [wraps_i64] <;> omega)
theorem or_high (n b : Int) (i : Nat) (hi : i ≤ 6) (h0 : 0 ≤ n) (h1 : n < ((128 ^ i : Nat) : Int)) (hb0 : 0 ≤ b) (hb1 : b < 128) : Go.bits .or .i64 n (b * ((128 ^ i : Nat) : Int)) = n + b * ((128 ^ i : Nat) : Int) := by
  rw [bits_or_comm]
  have : i = 0 ∨ i = 1 ∨ i = 2 ∨ i = 3 ∨ i = 4 ∨ i = 5 ∨ i = 6 := by omega
  rcases this with rfl | rfl | rfl | rfl | rfl | rfl | rfl
  · simp at h1 ⊢
    obtain rfl : n = 0 := by omega
    have := bits_join .i64 63 (by decide) wraps_i64 0 b 0 hb0 (by omega) (by omega) (by omega) (by omega) (by omega)
    simpa using this
  · have := bits_join .i64 63 (by decide) wraps_i64 7 (b * 128) n (by omega) (by omega) (by omega) h0 (by simp at h1; omega) (by simp at h1; omega)
    simp at this ⊢; omega
  · have := bits_join .i64 63 (by decide) wraps_i64 14 (b * 16384) n (by omega) (by omega) (by omega) h0 (by simp at h1; omega) (by simp at h1; omega)
    simp at this ⊢; omega
  · have := bits_join .i64 63 (by decide) wraps_i64 21 (b * 2097152) n (by omega) (by omega) (by omega) h0 (by simp at h1; omega) (by simp at h1; omega)
    simp at this ⊢; omega
  · have := bits_join .i64 63 (by decide) wraps_i64 28 (b * 268435456) n (by omega) (by omega) (by omega) h0 (by simp at h1; omega) (by simp at h1; omega)
    simp at this ⊢; omega
  · have := bits_join .i64 63 (by decide) wraps_i64 35 (b * 34359738368) n (by omega) (by omega) (by omega) h0 (by simp at h1; omega) (by simp at h1; omega)
    simp at this ⊢; omega
  · have := bits_join .i64 63 (by decide) wraps_i64 42 (b * 4398046511104) n (by omega) (by omega) (by omega) h0 (by simp at h1; omega) (by simp at h1; omega)
    simp at this ⊢; omega
theorem or_step (s : ByteArray) (i : Nat) (n : Int) (hi : i ≤ 6) (h0 : 0 ≤ n) (h1 : n < ((128 ^ i : Nat) : Int)) :
    Go.bits .or .i64 n (shl .i64 (wrap64 (Go.bits .and .u8 (bt s (i : Int)) 127)) (7 * (i : Int))) = n + (bt s (i : Int) % 128) * ((128 ^ i : Nat) : Int) := by
  have hb := bt_range s (i : Int)
  have q0 : 0 ≤ bt s (i : Int) % 128 := by omega
  have q1 : bt s (i : Int) % 128 < 128 := by omega
  rw [bits_and_u8_127 _ hb.1 (by omega), w64 (x := bt s (i : Int) % 128) (by omega) (by omega), shl7 _ i hi q0 q1, or_high n _ i hi h0 h1 q0 q1]
theorem impl_DecodeVarint.loop (s : ByteArray) (m : Nat) (hm : m ≤ 7) (hs : m ≤ s.size) (hm' : m = 7 ∨ m = s.size) : ∀ (d i : Nat) (n : Int), i + d = m → 0 ≤ n → n < ((128 ^ i : Nat) : Int) →
    Ev (fun k => impl_DecodeVarint.l0 k s n (m : Int) (i : Int)) (decAt i n (dv (7 - i) ((bytesOf s).drop i))) := by
  intro d
  induction d with
  | zero =>
    intro i n h h0 h1
    refine ev_shift ?_
    simp only [impl_DecodeVarint.l0, if_neg (show ¬ ((i : Int) < (m : Int)) by omega)]
    refine ev_some ?_
    rcases hm' with rfl | rfl
    · rw [show 7 - i = 0 by omega]; rfl
    · rw [bytes_end s i (by omega)]
      cases 7 - i <;> rfl
  | succ d ih =>
    intro i n h h0 h1
    have hb := bt_range s (i : Int)
    have hp : ((128 ^ i : Nat) : Int) ≤ 4398046511104 := by
      have : 128 ^ i ≤ 128 ^ 6 := Nat.pow_le_pow_right (by decide) (by omega)
      omega
    have hpp : 0 < ((128 ^ i : Nat) : Int) := by have := Nat.pow_pos (n := i) (show 0 < 128 by decide); omega
    have hq := pow128 i
    have e3 := Aside0.mk (or_step s i n (by omega) h0 h1)
    have e1 := Aside0.mk (w64 (x := 7 * (i : Int)) (by omega) (by omega))
    have hm1 : (bt s (i : Int) % 128) * ((128 ^ i : Nat) : Int) ≤ 127 * ((128 ^ i : Nat) : Int) := Int.mul_le_mul_of_nonneg_right (by omega) (by omega)
    have hm0 : 0 ≤ (bt s (i : Int) % 128) * ((128 ^ i : Nat) : Int) := Int.mul_nonneg (by omega) (by omega)
    have e4 := Aside0.mk (show wrap64 ((i : Int) + 1) = ((i + 1 : Nat) : Int) by rw [w64 (by omega) (by omega)]; omega)
    have hdv : dv (7 - i) ((bytesOf s).drop i) = if bt s (i : Int) < 128 then some (bt s (i : Int), 1) else dvStep (bt s (i : Int)) (dv (7 - (i + 1)) ((bytesOf s).drop (i + 1))) := by
      rw [bytes_cons s i (by omega), show 7 - i = (7 - (i + 1)) + 1 by omega, dv_cons]
    rw [hdv]
    refine ev_shift ?_
    simp only [impl_DecodeVarint.l0, e3.out, e4.out, if_pos (show (i : Int) < (m : Int) by omega), if_pos (show (0 : Int) ≤ (i : Int) by omega), if_pos (show (i : Int) < (s.size : Int) by omega), e1.out, if_pos (show (0 : Int) ≤ 7 * (i : Int) by omega)]
    by_cases hlt : bt s (i : Int) < 128
    · rw [if_pos hlt]
      simp only [decAt]
      simp only [if_pos hlt, if_neg (show ¬ (n + bt s (i : Int) % 128 * ((128 ^ i : Nat) : Int) > 562949953421311) by omega)]
      by_cases hi : (i : Int) > 0
      · simp only [if_pos hi]
        by_cases hz : bt s (i : Int) = 0
        · rw [if_pos (show 0 < i ∧ bt s (i : Int) = 0 from ⟨by omega, hz⟩)]
          simp only [if_pos hz]
          exact Ev.now _
        · rw [if_neg (show ¬ (0 < i ∧ bt s (i : Int) = 0) from fun h => hz h.2)]
          simp only [if_neg hz]
          rw [show bt s (i : Int) % 128 = bt s (i : Int) by omega]
          exact Ev.now _
      · rw [if_neg (show ¬ (0 < i ∧ bt s (i : Int) = 0) from fun h => hi (by omega))]
        simp only [if_neg hi]
        rw [show bt s (i : Int) % 128 = bt s (i : Int) by omega]
        exact Ev.now _
    · rw [if_neg hlt]
      simp only [if_neg hlt]
      refine ev_eq (ih (i + 1) _ (by omega) (by omega) (by rw [hq]; omega)) ?_
      cases hd : dv (7 - (i + 1)) ((bytesOf s).drop (i + 1)) with
      | none => rfl
      | some p =>
        obtain ⟨v, q⟩ := p
        have hv0 : 0 ≤ v := by
          rw [(canL_of_dv _ _ v q (fun x hx => bytes_range s x (List.mem_of_mem_drop hx)) hd).2.2.2.1]
          exact valL_nonneg _
        simp only [dvStep]
        by_cases hv : v = 0
        · rw [if_pos hv]
          simp only [decAt]
          rw [if_pos (show 0 < i + 1 ∧ v = 0 from ⟨by omega, hv⟩)]
        · rw [if_neg hv]
          simp only [decAt]
          rw [if_neg (show ¬ (0 < i + 1 ∧ v = 0) from fun h => hv h.2), if_neg (show ¬ (0 < i ∧ bt s (i : Int) % 128 + 128 * v = 0) from fun h => by omega), hq]
          have e : 128 * v * ((128 ^ i : Nat) : Int) = v * (((128 ^ i : Nat) : Int) * 128) := by
            rw [Int.mul_comm 128 v, Int.mul_assoc, Int.mul_comm 128]
          refine Prod.ext ?_ ?_
          · simp only [Int.add_mul, e]; omega
          · simp only; omega
theorem impl_DecodeVarint.ev (s : ByteArray) (hn : s.size ≤ 9223372036854775806) : Ev (fun k => impl_DecodeVarint.f k s) (decVar (bytesOf s)) := by
  have hdec : decAt 0 0 (dv (7 - 0) ((bytesOf s).drop 0)) = decVar (bytesOf s) := by
    rw [decVar, List.drop_zero, Nat.sub_zero]
    cases dv 7 (bytesOf s) with
    | none => rfl
    | some p => simp [decAt, decOut]
  by_cases h : s.size < 7
  · have := impl_DecodeVarint.loop s s.size (by omega) (Nat.le_refl _) (.inr rfl) s.size 0 0 (by omega) (by omega) (by simp)
    rw [hdec] at this
    refine Ev.congr (fun k => ?_) this
    simp only [impl_DecodeVarint.f, mn, if_neg (show ¬ ((7 : Int) < (s.size : Int)) by omega)]
    rfl
  · have := impl_DecodeVarint.loop s 7 (by omega) (by omega) (.inl rfl) 7 0 0 (by omega) (by omega) (by simp)
    rw [hdec] at this
    refine Ev.congr (fun k => ?_) this
    have e : mn (s.size : Int) 7 = ((7 : Nat) : Int) := by unfold mn; split <;> omega
    first
      | (simp only [impl_DecodeVarint.f, e]; done)
      | (simp only [impl_DecodeVarint.f, e]; rfl)
      | (by_cases h7 : (7 : Int) < (s.size : Int)
         · simp only [impl_DecodeVarint.f, if_pos h7]; rfl
         · have h8 : (s.size : Int) = 7 := by omega
           simp only [impl_DecodeVarint.f, if_neg h7, h8]; rfl)

theorem spec_DrawEncodeFixed.ev (c : List Int) (hc : c.length ≤ 1048576) : ∃ x w, Ev (fun k => spec_DrawEncodeFixed.f k c) (x, w) ∧ (-9223372036854775808 ≤ x ∧ x ≤ 9223372036854775807) ∧ -1 ≤ w ∧ w ≤ 8 := by
  obtain ⟨h, e0⟩ := spec_l1New.ev c hc
  obtain ⟨x, i1, h1, e1, hx, hi1⟩ := spec_l1Num.is c hc 0 h cur0
  obtain ⟨w, i2, h2, e2, _, hw, hi2⟩ := spec_l1Below.is c hc i1 h1 10 hi1
  have := hw (by omega)
  refine ⟨x, w - 1, Ev.bind e0 (ev_val fun k => ?_), hx, by omega, by omega⟩
  simp only [e1, e2, Option.bind_some, w64 (show -9223372036854775808 ≤ w - 1 by omega) (by omega)]

theorem impl_EncodeFixed.loop (w : Nat) (hw : w ≤ 7) : ∀ (d : Nat) (n : Int) (b : List Int), d ≤ w → b.length = w → 0 ≤ n → n ≤ 9223372036854775807 →
    Ev (fun k => impl_EncodeFixed.l0 k n b ((d : Int) - 1)) (strOfNums (fixD d n ++ b.drop d)) := by
  intro d
  induction d with
  | zero =>
    intro n b h hb h0 h1
    refine ev_shift ?_
    simp only [impl_EncodeFixed.l0, if_neg (show ¬ (((0 : Nat) : Int) - 1 ≥ 0) by omega), fixD]
    exact ev_some (by simp)
  | succ d ih =>
    intro n b h hb h0 h1
    have := ih (n / 256) (b.set d (n % 256)) (by omega) (by simpa using hb) (by omega) (by omega)
    refine ev_shift ?_
    simp only [impl_EncodeFixed.l0, show ((d + 1 : Nat) : Int) - 1 = (d : Int) by omega, if_pos (show (d : Int) ≥ 0 by omega), if_pos (show 0 ≤ (d : Int) by omega), if_pos (show (d : Int) < (b.length : Int) by omega), Int.toNat_natCast, w64 (show -9223372036854775808 ≤ (d : Int) - 1 by omega) (by omega)]
    refine ev_eq this ?_
    have e : (b.set d (n % 256)).drop d = (n % 256) :: b.drop (d + 1) := by
      rw [List.drop_eq_getElem_cons (by simp; omega), List.getElem_set_self, List.drop_set_of_lt (by omega)]
    rw [e, fixD, List.append_assoc]; rfl
theorem hiPart_shift (n w : Int) (h1 : 1 ≤ w) (h7 : w ≤ 7) : shr .i64 n (8 * w) = hiPart w.toNat n := by
  unfold shr
  have : w = 1 ∨ w = 2 ∨ w = 3 ∨ w = 4 ∨ w = 5 ∨ w = 6 ∨ w = 7 := by omega
  rcases this with rfl | rfl | rfl | rfl | rfl | rfl | rfl <;> simp [hiPart, IntKind.bits] <;> omega
theorem impl_EncodeFixed.ev (n w : Int) (hn : n ≤ 9223372036854775807) : Ev (fun k => impl_EncodeFixed.f k n w) (strOfNums (encFixed n w)) := by
  simp only [impl_EncodeFixed.f, impl_within.val, Option.bind_some]
  by_cases hw : 1 ≤ w ∧ w ≤ 7
  · simp only [decide_eq_true hw, if_true]
    by_cases h0 : 0 ≤ n
    · simp only [if_neg (show ¬ (n < 0) by omega), w64 (show -9223372036854775808 ≤ 8 * w by omega) (by omega), if_pos (show 0 ≤ 8 * w by omega), hiPart_shift n w hw.1 hw.2]
      by_cases hh : hiPart w.toNat n = 0
      · have := impl_EncodeFixed.loop w.toNat (by omega) w.toNat n (List.replicate w.toNat 0) (by omega) (by simp) h0 hn
        rw [show ((w.toNat : Nat) : Int) = w by omega] at this
        refine ev_shift ?_
        simp only [impl_EncodeFixed.j0, hh, bne_self_eq_false, Bool.false_eq_true, if_false, if_pos (show 0 ≤ w by omega), if_pos (show w.toNat ≤ 281474976710656 by omega), w64 (show -9223372036854775808 ≤ w - 1 by omega) (by omega)]
        refine ev_eq this ?_
        rw [encFixed, if_pos ⟨hw, h0, hh⟩, List.drop_eq_nil_of_le (by simp), List.append_nil]
      · refine ev_shift ?_
        simp only [impl_EncodeFixed.j0, show (hiPart w.toNat n != 0) = true from by simpa using hh, if_true, encFixed, if_neg (show ¬ ((1 ≤ w ∧ w ≤ 7) ∧ 0 ≤ n ∧ hiPart w.toNat n = 0) from fun h => hh h.2.2)]
        exact Ev.now _
    · refine ev_shift ?_
      simp only [if_pos (show n < 0 by omega), impl_EncodeFixed.j0, if_true, encFixed, if_neg (show ¬ ((1 ≤ w ∧ w ≤ 7) ∧ 0 ≤ n ∧ hiPart w.toNat n = 0) from fun h => h0 h.2.1)]
      exact Ev.now _
  · refine ev_shift ?_
    simp only [decide_eq_false hw, Bool.false_eq_true, if_false, impl_EncodeFixed.j0, if_true, encFixed, if_neg (show ¬ ((1 ≤ w ∧ w ≤ 7) ∧ 0 ≤ n ∧ hiPart w.toNat n = 0) from fun h => hw h.1)]
    exact Ev.now _

theorem impl_DecodeFixed.loop (s : ByteArray) (w : Nat) (hw : w ≤ 7) (hs : w ≤ s.size) : ∀ (d i : Nat) (n : Int), i + d = w → 0 ≤ n → n < ((256 ^ i : Nat) : Int) →
    Ev (fun k => impl_DecodeFixed.l0 k s n (w : Int) (i : Int)) (fixVal (((bytesOf s).take w).drop i) n, true) := by
  intro d
  induction d with
  | zero =>
    intro i n h h0 h1
    refine ev_shift ?_
    simp only [impl_DecodeFixed.l0, if_neg (show ¬ ((i : Int) < (w : Int)) by omega)]
    exact ev_some (by rw [List.drop_eq_nil_of_le (by simp; omega)]; rfl)
  | succ d ih =>
    intro i n h h0 h1
    have hb := bt_range s (i : Int)
    have hp := pow256_le i (by omega)
    have hq : ((256 ^ (i + 1) : Nat) : Int) = ((256 ^ i : Nat) : Int) * 256 := by rw [Nat.pow_succ]; simp
    have := ih (i + 1) (n * 256 + bt s (i : Int)) (by omega) (by omega) (by rw [hq]; omega)
    refine ev_shift ?_
    simp only [impl_DecodeFixed.l0, if_pos (show (i : Int) < (w : Int) by omega), if_pos (show (0 : Int) ≤ (i : Int) by omega), if_pos (show (i : Int) < (s.size : Int) by omega), w64 (show -9223372036854775808 ≤ (i : Int) + 1 by omega) (by omega),
      w64 (show -9223372036854775808 ≤ n * 256 by omega) (by omega), w64 (show -9223372036854775808 ≤ bt s (i : Int) by omega) (by omega), show Go.bits .or .i64 (n * 256) (bt s (i : Int)) = n * 256 + bt s (i : Int) from bits_join .i64 63 (by decide) wraps_i64 8 (n * 256) (bt s (i : Int)) (by omega) (by omega) (by omega) (by omega) (by omega) (by omega)]
    have e : ((bytesOf s).take w).drop i = bt s (i : Int) :: ((bytesOf s).take w).drop (i + 1) := by
      have hl : i < ((bytesOf s).take w).length := by rw [List.length_take, bytesOf_length]; omega
      rw [drop_cons_rd _ i hl, rd_get _ i hl, List.getElem_take, ← rd_get (bytesOf s) i (by rw [bytesOf_length]; omega), rd_bytesOf]
    rw [e]
    simpa [fixVal] using this
theorem impl_DecodeFixed.ev (s : ByteArray) (w : Int) : Ev (fun k => impl_DecodeFixed.f k s w) (decFixed (bytesOf s) w) := by
  simp only [impl_DecodeFixed.f, impl_within.val, Option.bind_some]
  by_cases hw : 1 ≤ w ∧ w ≤ 7
  · simp only [decide_eq_true hw, if_true]
    by_cases hs : w ≤ (s.size : Int)
    · have := impl_DecodeFixed.loop s w.toNat (by omega) (by omega) w.toNat 0 0 (by omega) (by omega) (by simp)
      rw [show ((w.toNat : Nat) : Int) = w by omega] at this
      refine ev_shift ?_
      simp only [impl_DecodeFixed.j0, decide_eq_false (show ¬ ((s.size : Int) < w) by omega), Bool.false_eq_true, if_false, decFixed, bytesOf_length, if_pos (show (1 ≤ w ∧ w ≤ 7) ∧ w ≤ (s.size : Int) from ⟨hw, hs⟩)]
      simpa using this
    · refine ev_shift ?_
      simp only [impl_DecodeFixed.j0, decide_eq_true (show (s.size : Int) < w by omega), if_true, decFixed, bytesOf_length, if_neg (show ¬ ((1 ≤ w ∧ w ≤ 7) ∧ w ≤ (s.size : Int)) from fun h => hs h.2)]
      exact Ev.now _
  · refine ev_shift ?_
    simp only [decide_eq_false hw, Bool.false_eq_true, if_false, impl_DecodeFixed.j0, if_true, decFixed, if_neg (show ¬ ((1 ≤ w ∧ w ≤ 7) ∧ w ≤ ((bytesOf s).length : Int)) from fun h => hw h.1)]
    exact Ev.now _

theorem spec_l1In.val (a b c : Int) : spec_l1In.f a b c = some (decide (b ≤ a ∧ a ≤ c)) := by
  unfold spec_l1In.f
  by_cases h : b ≤ a <;> simp [h]

theorem spec_EncodeFixed.loop (w : Nat) (hw : w ≤ 7) : ∀ (d i : Nat) (n : Int) (out : ByteArray), i + d = w → 0 ≤ n → n ≤ 9223372036854775807 → out.size ≤ i →
    Ev (fun k => spec_EncodeFixed.l0 k n (w : Int) out (i : Int)) (encRes d n out) := by
  intro d
  induction d with
  | zero =>
    intro i n out h h0 h1 h2
    refine ev_shift ?_
    rw [encRes_zero]
    simp only [spec_EncodeFixed.l0, if_neg (show ¬ ((i : Int) < (w : Int)) by omega)]
    by_cases hn : n = 0
    · simp only [if_neg (show ¬ (n > 0) by omega)]
      rw [if_pos hn]
      exact Ev.now _
    · simp only [if_pos (show n > 0 by omega)]
      rw [if_neg hn]
      exact Ev.now _
  | succ d ih =>
    intro i n out h h0 h1 h2
    have := ih (i + 1) (n / 256) (strOfNums [n % 256] ++ out) (by omega) (by omega) (by omega) (by rw [ByteArray.size_append, strOfNums_size]; simp; omega)
    refine ev_shift ?_
    have e1 : Int.tmod n 256 % 256 = n % 256 := by rw [tmod_pos _ _ h0]; omega
    have e2 : wrap64 (Int.tdiv n 256) = n / 256 := by rw [tdiv_pos _ _ h0, w64 (by omega) (by omega)]
    simp only [spec_EncodeFixed.l0, if_pos (show (i : Int) < (w : Int) by omega), Option.bind_some, e1, e2, strOfNums_size, List.length_cons, List.length_nil, if_pos (show 0 + 1 + out.size ≤ 9223372036854775807 by omega), w64 (show -9223372036854775808 ≤ (i : Int) + 1 by omega) (by omega)]
    rw [encRes_succ]
    simpa using this
theorem spec_EncodeFixed.ev (n w : Int) (hn : n ≤ 9223372036854775807) : Ev (fun k => spec_EncodeFixed.f k n w) (strOfNums (encFixed n w)) := by
  simp only [spec_EncodeFixed.f, spec_l1In.val, Option.bind_some]
  by_cases hw : 1 ≤ w ∧ w ≤ 7
  · simp only [decide_eq_true hw, if_true]
    by_cases h0 : 0 ≤ n
    · have := spec_EncodeFixed.loop w.toNat (by omega) w.toNat 0 n ⟨#[]⟩ (by omega) h0 hn (by simp [ByteArray.size])
      rw [show ((w.toNat : Nat) : Int) = w by omega] at this
      refine ev_shift ?_
      simp only [spec_EncodeFixed.j0, decide_eq_false (show ¬ (n < 0) by omega), Bool.false_eq_true, if_false]
      refine ev_eq this ?_
      unfold encRes
      by_cases hh : hiPart w.toNat n = 0
      · rw [if_pos hh, encFixed, if_pos ⟨hw, h0, hh⟩]
        apply ByteArray.ext; simp
      · rw [if_neg hh, encFixed, if_neg (fun h => hh h.2.2)]; rfl
    · refine ev_shift ?_
      simp only [spec_EncodeFixed.j0, decide_eq_true (show n < 0 by omega), if_true, encFixed, if_neg (show ¬ ((1 ≤ w ∧ w ≤ 7) ∧ 0 ≤ n ∧ hiPart w.toNat n = 0) from fun h => h0 h.2.1)]
      exact Ev.now _
  · refine ev_shift ?_
    simp only [decide_eq_false hw, Bool.false_eq_true, if_false, spec_EncodeFixed.j0, if_true, encFixed, if_neg (show ¬ ((1 ≤ w ∧ w ≤ 7) ∧ 0 ≤ n ∧ hiPart w.toNat n = 0) from fun h => hw h.1)]
    exact Ev.now _

/-- The sixteen digits. -/
def hexTab : ByteArray := ⟨#[48, 49, 50, 51, 52, 53, 54, 55, 56, 57, 97, 98, 99, 100, 101, 102]⟩
/-- A byte's two digits. -/
def hexOf (b : Int) : List Int := [bt hexTab (b / 16), bt hexTab (b % 16)]
/-- The digits of all bytes. -/
def hexAll (l : List Int) : List Int := l.flatMap hexOf
theorem hexAll_length (l : List Int) : (hexAll l).length = 2 * l.length := by
  induction l with
  | nil => rfl
  | cons b l ih => simp only [hexAll, List.flatMap_cons, List.length_append, List.length_cons] at ih ⊢; rw [ih]; simp [hexOf]; omega

theorem impl_EncodeHex.ev (s : ByteArray) (hn : s.size ≤ 70368744177000) : Ev (fun k => impl_EncodeHex.f k s) (strOfNums (hexAll (bytesOf s))) := by
  have key : ∀ (d i : Nat) (acc : List Int), i + d = s.size → acc.length = 2 * i → Ev (fun k => impl_EncodeHex.l0 k s acc (s.size : Int) (i : Int)) (strOfNums (acc ++ hexAll ((bytesOf s).drop i))) := by
    intro d
    induction d with
    | zero =>
      intro i acc h ha
      refine ev_shift ?_
      simp only [impl_EncodeHex.l0, if_neg (show ¬ ((i : Int) < (s.size : Int)) by omega)]
      exact ev_some (by rw [bytes_end s i (by omega)]; simp [hexAll])
    | succ d ih =>
      intro i acc h ha
      have hb := bt_range s (i : Int)
      have := ih (i + 1) (acc ++ hexOf (bt s (i : Int))) (by omega) (by simp [hexOf]; omega)
      refine ev_shift ?_
      have e2 : Go.bits .and .u8 (bt s (i : Int)) 15 = bt s (i : Int) % 16 := u8_and15 (bt s (i : Int)) hb.1 (by omega)
      simp only [impl_EncodeHex.l0, if_pos (show (i : Int) < (s.size : Int) by omega), if_pos (show (0 : Int) ≤ (i : Int) by omega), w64 (show -9223372036854775808 ≤ (i : Int) + 1 by omega) (by omega),
        e2, if_pos (show 0 ≤ bt s (i : Int) / 16 by omega), if_pos (show bt s (i : Int) / 16 < 16 by omega), if_pos (show 0 ≤ bt s (i : Int) % 16 by omega), if_pos (show bt s (i : Int) % 16 < 16 by omega),
        Option.bind_some, List.length_cons, List.length_nil, if_pos (show acc.length + (0 + 1 + 1) < 140737488355328 by omega)]
      rw [bytes_cons s i (by omega)]
      simpa [hexAll, hexOf, hexTab] using this
  simpa [impl_EncodeHex.f] using key s.size 0 [] (by omega) rfl

/-- A digit's value, or -1. -/
def halfV (b : Int) : Int := if 48 ≤ b ∧ b ≤ 57 then b - 48 else if 97 ≤ b ∧ b ≤ 102 then b - 87 else -1
theorem halfV_range (b : Int) : -1 ≤ halfV b ∧ halfV b ≤ 15 := by unfold halfV; split; omega; split <;> omega
/-- The bytes that digits stand for. -/
def hexDec : List Int → Option (List Int)
  | [] => some []
  | [_] => none
  | a :: b :: r => if halfV a < 0 ∨ halfV b < 0 then none else (hexDec r).map fun l => (16 * halfV a + halfV b) :: l
def hexOut (acc : List Int) : Option (List Int) → ByteArray × Bool
  | none => (⟨#[]⟩, false)
  | some l => (strOfNums (acc ++ l), true)
theorem hexOut_step (acc : List Int) (v : Int) (o : Option (List Int)) : hexOut acc (o.map fun l => v :: l) = hexOut (acc ++ [v]) o := by
  cases o with
  | none => rfl
  | some l => simp [hexOut]
theorem hexTab_val (i : Nat) (h : i < 16) : bt hexTab (i : Int) = if i < 10 then 48 + (i : Int) else 87 + (i : Int) := by
  have : i = 0 ∨ i = 1 ∨ i = 2 ∨ i = 3 ∨ i = 4 ∨ i = 5 ∨ i = 6 ∨ i = 7 ∨ i = 8 ∨ i = 9 ∨ i = 10 ∨ i = 11 ∨ i = 12 ∨ i = 13 ∨ i = 14 ∨ i = 15 := by omega
  rcases this with rfl | rfl | rfl | rfl | rfl | rfl | rfl | rfl | rfl | rfl | rfl | rfl | rfl | rfl | rfl | rfl <;> rfl

theorem impl_half.ev (b : Int) (h0 : 0 ≤ b) (h1 : b ≤ 255) : Ev (fun k => impl_half.f k b) (halfV b) := by
  have hf : Ev (fun k => impl_half.j0 k b false) (if 97 ≤ b ∧ b ≤ 102 then b - 87 else -1) := by
    refine ev_shift ?_
    simp only [impl_half.j0, Bool.false_eq_true, if_false]
    by_cases h2 : b ≥ 97
    · by_cases h3 : b ≤ 102
      · simp only [if_pos h2, if_pos h3, if_pos (show 97 ≤ b ∧ b ≤ 102 from ⟨h2, h3⟩)]
        exact ev_some (by omega)
      · simp only [if_pos h2, if_neg h3, if_neg (show ¬ (97 ≤ b ∧ b ≤ 102) from fun h => h3 h.2)]
        exact Ev.now _
    · simp only [if_neg h2, if_neg (show ¬ (97 ≤ b ∧ b ≤ 102) from fun h => h2 h.1)]
      exact Ev.now _
  by_cases ha : b ≥ 48
  · by_cases hb : b ≤ 57
    · simp only [impl_half.f, if_pos ha, decide_eq_true hb, halfV, if_pos (show 48 ≤ b ∧ b ≤ 57 from ⟨ha, hb⟩)]
      refine ev_shift ?_
      simp only [impl_half.j0, if_true]
      exact ev_some (by omega)
    · simp only [impl_half.f, if_pos ha, decide_eq_false hb, halfV, if_neg (show ¬ (48 ≤ b ∧ b ≤ 57) from fun h => hb h.2)]
      exact hf
  · simp only [impl_half.f, if_neg ha, halfV, if_neg (show ¬ (48 ≤ b ∧ b ≤ 57) from fun h => ha h.1)]
    exact hf

theorem impl_DecodeHex.loop (s : ByteArray) (hn : s.size ≤ 70368744177000) : ∀ (d i : Nat) (acc : List Int), i + 2 * d = s.size → acc.length ≤ i →
    Ev (fun k => impl_DecodeHex.l0 k s acc (i : Int)) (hexOut acc (hexDec ((bytesOf s).drop i))) := by
  intro d
  induction d with
  | zero =>
    intro i acc h ha
    refine ev_shift ?_
    simp only [impl_DecodeHex.l0, if_neg (show ¬ ((i : Int) < (s.size : Int)) by omega)]
    exact ev_some (by rw [bytes_end s i (by omega)]; simp [hexDec, hexOut])
  | succ d ih =>
    intro i acc h ha
    have hb := bt_range s (i : Int)
    have hb' := bt_range s ((i : Int) + 1)
    have e2 : bt s ((i + 1 : Nat) : Int) = bt s ((i : Int) + 1) := by rw [show ((i + 1 : Nat) : Int) = (i : Int) + 1 by omega]
    have r1 := halfV_range (bt s (i : Int))
    have r2 := halfV_range (bt s ((i : Int) + 1))
    refine ev_shift ?_
    simp only [impl_DecodeHex.l0, if_pos (show (i : Int) < (s.size : Int) by omega), if_pos (show (0 : Int) ≤ (i : Int) by omega), w64 (show -9223372036854775808 ≤ (i : Int) + 1 by omega) (by omega), w64 (show -9223372036854775808 ≤ (i : Int) + 2 by omega) (by omega),
      if_pos (show (0 : Int) ≤ (i : Int) + 1 by omega), if_pos (show (i : Int) + 1 < (s.size : Int) by omega)]
    refine Ev.bind (impl_half.ev _ hb.1 hb.2) (Ev.bind (impl_half.ev _ hb'.1 hb'.2) ?_)
    rw [bytes_cons s i (by omega), bytes_cons s (i + 1) (by omega), e2, hexDec]
    by_cases h1 : halfV (bt s (i : Int)) < 0
    · simp only [if_pos h1, if_pos (show halfV (bt s (i : Int)) < 0 ∨ halfV (bt s ((i : Int) + 1)) < 0 from .inl h1), hexOut]
      exact Ev.now _
    · by_cases h2 : halfV (bt s ((i : Int) + 1)) < 0
      · simp only [if_neg h1, if_pos h2, if_pos (show halfV (bt s (i : Int)) < 0 ∨ halfV (bt s ((i : Int) + 1)) < 0 from .inr h2), hexOut]
        exact Ev.now _
      · simp only [if_neg h1, if_neg h2, if_neg (show ¬ (halfV (bt s (i : Int)) < 0 ∨ halfV (bt s ((i : Int) + 1)) < 0) from fun h => h.elim h1 h2), hexOut_step, if_pos (show acc.length < 140737488355328 by omega),
          w64 (show -9223372036854775808 ≤ 16 * halfV (bt s (i : Int)) by omega) (by omega), w64 (show -9223372036854775808 ≤ 16 * halfV (bt s (i : Int)) + halfV (bt s ((i : Int) + 1)) by omega) (by omega),
          show (16 * halfV (bt s (i : Int)) + halfV (bt s ((i : Int) + 1))) % 256 = 16 * halfV (bt s (i : Int)) + halfV (bt s ((i : Int) + 1)) by omega]
        have := ih (i + 2) (acc ++ [16 * halfV (bt s (i : Int)) + halfV (bt s ((i : Int) + 1))]) (by omega) (by simp; omega)
        simpa using this
/-- What both answer. -/
theorem impl_DecodeHex.ev (s : ByteArray) (hn : s.size ≤ 70368744177000) : Ev (fun k => impl_DecodeHex.f k s) (if s.size % 2 = 1 then (⟨#[]⟩, false) else hexOut [] (hexDec (bytesOf s))) := by
  by_cases h : s.size % 2 = 1
  · simp only [impl_DecodeHex.f, if_pos h, if_pos (show (s.size : Int) % 2 = 1 by omega)]
    exact Ev.now _
  · simp only [impl_DecodeHex.f, if_neg h, if_neg (show ¬ ((s.size : Int) % 2 = 1) by omega)]
    exact impl_DecodeHex.loop s hn (s.size / 2) 0 [] (by omega) (by simp)

/-- Bytes as a string. -/
def str (l : List UInt8) : ByteArray := ⟨l.toArray⟩
theorem str_append (a b : List UInt8) : str a ++ str b = str (a ++ b) := by
  apply ByteArray.ext
  simp [str]
theorem str_size (l : List UInt8) : (str l).size = l.length := by simp [str, ByteArray.size]
theorem str_inj {a b : List UInt8} (h : str a = str b) : a = b := by
  have := congrArg (fun s => s.data.toList) h
  simpa [str] using this
theorem str_toList (l : List UInt8) : (str l).toList = l := by rw [toList_data]; simp [str]
theorem toList_inj' {a b : ByteArray} (h : a.toList = b.toList) : a = b := bytesOf_inj (bytesOf_congr h)
/-- The digits of a number, none for 0. -/
def digs (m : Nat) : List UInt8 := if m = 0 then [] else Lib.decDigits m
theorem digs_step (m : Nat) (h : 0 < m) : digs m = digs (m / 10) ++ [UInt8.ofNat (48 + m % 10)] := by
  unfold digs
  rw [if_neg (by omega), Lib.decDigits]
  by_cases h9 : m < 10
  · rw [dif_pos h9, if_pos (by omega), Nat.mod_eq_of_lt h9]; rfl
  · rw [dif_neg h9, if_neg (by omega)]
theorem tmod10 (x : Int) : (0 ≤ x → Int.tmod x 10 = ((x.natAbs % 10 : Nat) : Int) ∧ Int.tdiv x 10 = ((x.natAbs / 10 : Nat) : Int)) ∧ (x < 0 → Int.tmod x 10 = -((x.natAbs % 10 : Nat) : Int) ∧ Int.tdiv x 10 = -((x.natAbs / 10 : Nat) : Int)) := by
  constructor
  · intro h
    obtain ⟨n, rfl⟩ := Int.eq_ofNat_of_zero_le h
    exact ⟨rfl, rfl⟩
  · intro h
    obtain ⟨n, rfl⟩ := Int.eq_negSucc_of_lt_zero h
    exact ⟨rfl, rfl⟩
theorem strOfNums_digit (d : Nat) (h : d < 10) : strOfNums ([(wrap64 (48 + (d : Int))) % 256] : List Int) = str [UInt8.ofNat (48 + d)] := by
  rw [w64 (by omega) (by omega)]
  apply ByteArray.ext
  apply Array.ext'
  rw [strOfNums_data]
  have e : ((48 + (d : Int)) % 256).toNat = 48 + d := by omega
  simp [str, e]
theorem itoa_zero : Lib.itoa 0 = [48] := by unfold Lib.itoa Lib.decDigits; simp
theorem itoa_digs (a : Int) (h : a ≠ 0) : Lib.itoa a = (if a < 0 then [45] else []) ++ digs a.natAbs := by
  have hn : ¬ a.natAbs = 0 := by omega
  unfold Lib.itoa digs
  by_cases c : a < 0
  · rw [if_pos c, if_pos c, if_neg hn]; rfl
  · rw [if_neg c, if_neg c, if_neg hn, show a.toNat = a.natAbs by omega]; rfl
theorem digs_len : ∀ n m : Nat, m < 10 ^ n → (digs m).length ≤ n := by
  intro n
  induction n with
  | zero => intro m h; obtain rfl : m = 0 := by simpa using h
            simp [digs]
  | succ n ih =>
    intro m h
    by_cases h0 : m = 0
    · subst h0; simp [digs]
    · rw [digs_step m (by omega), List.length_append]
      have := ih (m / 10) (by rw [Nat.pow_succ] at h; omega)
      simp only [List.length_cons, List.length_nil]
      omega
theorem itoa_len (a : Int) (h0 : -9223372036854775808 ≤ a) (h1 : a ≤ 9223372036854775807) : (Lib.itoa a).length ≤ 20 := by
  by_cases h : a = 0
  · subst h; rw [itoa_zero]; simp
  · rw [itoa_digs a h, List.length_append]
    have h2 := digs_len 19 a.natAbs (by omega)
    have h3 : (if a < 0 then ([45] : List UInt8) else []).length ≤ 1 := by split <;> simp
    omega
theorem str_lit (l : List UInt8) : (⟨l.toArray⟩ : ByteArray) = str l := rfl

theorem impl_FormatInt.val (a : Int) (h0 : -9223372036854775808 ≤ a) (h1 : a ≤ 9223372036854775807) : impl_FormatInt.f a = some (str (Lib.itoa a)) := by
  simp only [impl_FormatInt.f, strconv_Itoa.f, if_pos (show -9223372036854775808 ≤ a ∧ a ≤ 9223372036854775807 from ⟨h0, h1⟩), Option.bind_some]
  rfl

/-- The number that the digits of a list of bytes tell. -/
def valD (l : List Int) : Int := l.foldl (fun n b => if 48 ≤ b ∧ b ≤ 57 then n * 10 + (b - 48) else n) 0
/-- How many digits there are. -/
def cntD (l : List Int) : Int := l.foldl (fun n b => if 48 ≤ b ∧ b ≤ 57 then n + 1 else n) 0
theorem valD_snoc (l : List Int) (b : Int) : valD (l ++ [b]) = if 48 ≤ b ∧ b ≤ 57 then valD l * 10 + (b - 48) else valD l := by simp [valD, List.foldl_append]
theorem cntD_snoc (l : List Int) (b : Int) : cntD (l ++ [b]) = if 48 ≤ b ∧ b ≤ 57 then cntD l + 1 else cntD l := by simp [cntD, List.foldl_append]
theorem fold_bound : ∀ (l : List Int) (n : Int), 0 ≤ n → 0 ≤ l.foldl (fun n b => if 48 ≤ b ∧ b ≤ 57 then n * 10 + (b - 48) else n) n ∧ l.foldl (fun n b => if 48 ≤ b ∧ b ≤ 57 then n * 10 + (b - 48) else n) n < (n + 1) * 10 ^ l.length := by
  intro l
  induction l with
  | nil => intro n h; simp; omega
  | cons b l ih =>
    intro n h
    have hP : (0 : Int) ≤ 10 ^ l.length := Int.le_of_lt (Int.pow_pos (by decide))
    rw [List.foldl_cons, List.length_cons, Int.pow_succ]
    by_cases hb : 48 ≤ b ∧ b ≤ 57
    · rw [if_pos hb]
      obtain ⟨h1, h2⟩ := ih (n * 10 + (b - 48)) (by omega)
      refine ⟨h1, Int.lt_of_lt_of_le h2 ?_⟩
      have h3 : (n * 10 + (b - 48) + 1) * 10 ^ l.length ≤ ((n + 1) * 10) * 10 ^ l.length := Int.mul_le_mul_of_nonneg_right (by omega) hP
      calc (n * 10 + (b - 48) + 1) * 10 ^ l.length ≤ ((n + 1) * 10) * 10 ^ l.length := h3
        _ = (n + 1) * (10 ^ l.length * 10) := by rw [Int.mul_assoc, Int.mul_comm 10]
    · rw [if_neg hb]
      obtain ⟨h1, h2⟩ := ih n h
      refine ⟨h1, Int.lt_of_lt_of_le h2 ?_⟩
      have h3 : (n + 1) * 10 ^ l.length ≤ ((n + 1) * 10) * 10 ^ l.length := Int.mul_le_mul_of_nonneg_right (by omega) hP
      calc (n + 1) * 10 ^ l.length ≤ ((n + 1) * 10) * 10 ^ l.length := h3
        _ = (n + 1) * (10 ^ l.length * 10) := by rw [Int.mul_assoc, Int.mul_comm 10]
theorem pow10_le {n : Nat} (h : n ≤ 11) : (10 : Int) ^ n ≤ 100000000000 := by
  have : n = 0 ∨ n = 1 ∨ n = 2 ∨ n = 3 ∨ n = 4 ∨ n = 5 ∨ n = 6 ∨ n = 7 ∨ n = 8 ∨ n = 9 ∨ n = 10 ∨ n = 11 := by omega
  rcases this with h | h | h | h | h | h | h | h | h | h | h | h <;> subst h <;> decide
theorem valD_bound (l : List Int) (h : l.length ≤ 11) : 0 ≤ valD l ∧ valD l < 100000000000 := by
  obtain ⟨h1, h2⟩ := fold_bound l 0 (by omega)
  refine ⟨h1, Int.lt_of_lt_of_le h2 ?_⟩
  rw [Int.zero_add, Int.one_mul]
  exact pow10_le h
theorem cnt_bound : ∀ (l : List Int) (n : Int), n ≤ l.foldl (fun n b => if 48 ≤ b ∧ b ≤ 57 then n + 1 else n) n ∧ l.foldl (fun n b => if 48 ≤ b ∧ b ≤ 57 then n + 1 else n) n ≤ n + l.length := by
  intro l
  induction l with
  | nil => intro n; simp
  | cons b l ih =>
    intro n
    rw [List.foldl_cons, List.length_cons]
    by_cases hb : 48 ≤ b ∧ b ≤ 57
    · rw [if_pos hb]; have := ih (n + 1); omega
    · rw [if_neg hb]; have := ih n; omega
theorem cnt_all : ∀ (l : List Int) (n : Int), (∀ b ∈ l, 48 ≤ b ∧ b ≤ 57) → l.foldl (fun n b => if 48 ≤ b ∧ b ≤ 57 then n + 1 else n) n = n + l.length := by
  intro l
  induction l with
  | nil => intro n _; simp
  | cons b l ih =>
    intro n h
    rw [List.foldl_cons, List.length_cons, if_pos (h b (by simp)), ih (n + 1) (fun c hc => h c (by simp [hc]))]
    omega
theorem cntD_all {l : List Int} (h : ∀ b ∈ l, 48 ≤ b ∧ b ≤ 57) : cntD l = l.length := by rw [cntD, cnt_all l 0 h]; omega
theorem valD_minus (l : List Int) : valD (45 :: l) = valD l := by simp [valD]
theorem cntD_minus (l : List Int) : cntD (45 :: l) = cntD l := by simp [cntD]
/-- A list of bytes as numbers. -/
def nums (l : List UInt8) : List Int := l.map fun b => (b.toNat : Int)
theorem bytesOf_str (l : List UInt8) : bytesOf (str l) = nums l := by simp [bytesOf, str, nums]
theorem digit_num (d : Nat) (h : d < 10) : nums [UInt8.ofNat (48 + d)] = [48 + (d : Int)] := by
  simp only [nums, List.map_cons, List.map_nil]
  rw [UInt8.toNat_ofNat_of_lt' (by simp [UInt8.size]; omega)]
  simp
/-- The digits of a number: all of them digits, telling the number. -/
theorem digs_val (m : Nat) : valD (nums (digs m)) = (m : Int) ∧ (∀ b ∈ nums (digs m), 48 ≤ b ∧ b ≤ 57) := by
  induction m using Nat.strongRecOn with
  | ind m ih =>
    by_cases h0 : m = 0
    · subst h0; simp [digs, nums, valD]
    · obtain ⟨h1, h2⟩ := ih (m / 10) (by omega)
      have hd : m % 10 < 10 := by omega
      have e : nums (digs m) = nums (digs (m / 10)) ++ [48 + ((m % 10 : Nat) : Int)] := by
        rw [digs_step m (by omega), ← digit_num (m % 10) hd]; simp [nums]
      rw [e]
      constructor
      · rw [valD_snoc, if_pos (by omega), h1]; omega
      · intro b hb
        rcases List.mem_append.1 hb with hb | hb
        · exact h2 b hb
        · rw [List.mem_singleton.1 hb]; omega
theorem dec_val (m : Nat) : valD (nums (Lib.decDigits m)) = (m : Int) ∧ (∀ b ∈ nums (Lib.decDigits m), 48 ≤ b ∧ b ≤ 57) ∧ 1 ≤ (Lib.decDigits m).length := by
  by_cases h0 : m = 0
  · subst h0; unfold Lib.decDigits; simp [nums, valD]
  · have h := digs_val m
    have e : digs m = Lib.decDigits m := by rw [digs, if_neg h0]
    rw [e] at h
    refine ⟨h.1, h.2, ?_⟩
    rw [← e, digs_step m (by omega)]
    simp
theorem itoa_bytes (a : Int) : bytesOf (str (Lib.itoa a)) = (if a < 0 then [45] else []) ++ nums (Lib.decDigits a.natAbs) := by
  rw [bytesOf_str]
  unfold Lib.itoa
  by_cases c : a < 0
  · rw [if_pos c, if_pos c]; rfl
  · rw [if_neg c, if_neg c, show a.toNat = a.natAbs by omega]; rfl
/-- Is there a minus ahead? -/
def negB (l : List Int) : Bool := decide (l.head? = some 45)
/-- What ParseInt takes for the number and its digits. -/
def tailB (l : List Int) : List Int := if negB l = true then l.tail else l
def numB (l : List Int) : Int := if negB l = true then -valD l else valD l
theorem valD_tailB (l : List Int) : valD (tailB l) = valD l ∧ cntD (tailB l) = cntD l := by
  unfold tailB
  by_cases h : negB l = true
  · rw [if_pos h]
    cases l with
    | nil => simp [negB] at h
    | cons b l => obtain rfl : b = 45 := by simpa [negB] using h
                  exact ⟨(valD_minus l).symm, (cntD_minus l).symm⟩
  · rw [if_neg h]; exact ⟨rfl, rfl⟩
def specOk (s : ByteArray) : Prop := cntD (bytesOf s) ≤ 9 ∧ s.size ≤ 10 ∧ str (Lib.itoa (numB (bytesOf s))) = s
def implOk (s : ByteArray) : Prop := 1 ≤ (tailB (bytesOf s)).length ∧ (tailB (bytesOf s)).length ≤ 9 ∧ (∀ b ∈ tailB (bytesOf s), 48 ≤ b ∧ b ≤ 57) ∧ str (Lib.itoa (numB (bytesOf s))) = s
theorem tailB_length (l : List Int) : l.length ≤ (tailB l).length + 1 := by
  unfold tailB
  by_cases h : negB l = true
  · rw [if_pos h, List.length_tail]; omega
  · rw [if_neg h]; omega
theorem itoa_tail (a : Int) : tailB (bytesOf (str (Lib.itoa a))) = nums (Lib.decDigits a.natAbs) ∧ numB (bytesOf (str (Lib.itoa a))) = a := by
  obtain ⟨h1, h2, h3⟩ := dec_val a.natAbs
  rw [itoa_bytes]
  by_cases c : a < 0
  · rw [if_pos c]
    have hn : negB ([45] ++ nums (Lib.decDigits a.natAbs)) = true := by simp [negB]
    refine ⟨by rw [tailB, if_pos hn]; rfl, ?_⟩
    rw [numB, if_pos hn]
    show -valD (45 :: nums (Lib.decDigits a.natAbs)) = a
    rw [valD_minus, h1]; omega
  · rw [if_neg c, List.nil_append]
    have hn : ¬ negB (nums (Lib.decDigits a.natAbs)) = true := by
      cases hl : nums (Lib.decDigits a.natAbs) with
      | nil => simp [negB]
      | cons b l => have := h2 b (by rw [hl]; simp)
                    simp only [negB, List.head?_cons, Option.some.injEq, decide_eq_true_eq]
                    omega
    refine ⟨by rw [tailB, if_neg hn], ?_⟩
    rw [numB, if_neg hn, h1]; omega
theorem ok_iff (s : ByteArray) : specOk s ↔ implOk s := by
  constructor
  · rintro ⟨h1, h2, h3⟩
    have e := itoa_tail (numB (bytesOf s))
    obtain ⟨d1, d2, d3⟩ := dec_val (numB (bytesOf s)).natAbs
    rw [h3] at e
    have hl : (tailB (bytesOf s)).length = (Lib.decDigits (numB (bytesOf s)).natAbs).length := by rw [e.1]; simp [nums]
    have hd : ∀ b ∈ tailB (bytesOf s), 48 ≤ b ∧ b ≤ 57 := by rw [e.1]; exact d2
    refine ⟨by omega, ?_, hd, h3⟩
    have := cntD_all hd
    rw [(valD_tailB (bytesOf s)).2] at this
    omega
  · rintro ⟨h1, h2, h3, h4⟩
    have := cntD_all h3
    rw [(valD_tailB (bytesOf s)).2] at this
    refine ⟨by omega, ?_, h4⟩
    have := tailB_length (bytesOf s)
    rw [bytesOf_length] at this
    omega
theorem cntD_take (l : List Int) (n : Nat) : cntD (l.take n) ≤ cntD l := by
  have h : cntD l = (l.drop n).foldl (fun n b => if 48 ≤ b ∧ b ≤ 57 then n + 1 else n) (cntD (l.take n)) := by
    conv => lhs; rw [← List.take_append_drop n l]
    rw [cntD, List.foldl_append]; rfl
  rw [h]
  exact (cnt_bound _ _).1
theorem take_bt (s : ByteArray) (i : Nat) (h : i < s.size) : (bytesOf s).take (i + 1) = (bytesOf s).take i ++ [bt s (i : Int)] ∧ 0 ≤ bt s (i : Int) ∧ bt s (i : Int) ≤ 255 := by
  have h2 : i < (bytesOf s).length := by rw [bytesOf_length]; exact h
  have hb : bt s (i : Int) = (bytesOf s)[i] := by rw [← rd_bytesOf, rd_get _ i h2]
  rw [hb, List.take_succ_eq_append_getElem h2]
  exact ⟨rfl, bytes_range s _ (List.getElem_mem h2)⟩
theorem negB_bt (s : ByteArray) : negB (bytesOf s) = if (s.size : Int) > 0 then (bt s 0 == 45) else false := by
  by_cases h : (s.size : Int) > 0
  · have h2 : 0 < (bytesOf s).length := by rw [bytesOf_length]; omega
    have hb : bt s ((0 : Nat) : Int) = (bytesOf s)[0] := by rw [← rd_bytesOf, rd_get _ 0 h2]
    have hb' : bt s 0 = (bytesOf s)[0] := hb
    rw [if_pos h, hb', negB]
    rw [List.head?_eq_getElem?, List.getElem?_eq_getElem h2]
    simp only [Option.some.injEq]
    by_cases c : (bytesOf s)[0] = 45 <;> simp [c]
  · rw [if_neg h]
    have : (bytesOf s) = [] := List.eq_nil_of_length_eq_zero (by rw [bytesOf_length]; omega)
    rw [this]; rfl

theorem bytesOf_tail (s : ByteArray) : bytesOf (s.extract 1 s.size) = (bytesOf s).tail := by
  rw [bytesOf, bytesOf, ← List.map_tail]
  congr 1
  rw [ByteArray.data_extract, Array.toList_extract, ByteArray.size, ← Array.length_toList]
  cases s.data.toList with
  | nil => rfl
  | cons a l => simp [List.extract]
theorem impl_ParseInt.l0ev (s t : ByteArray) (g : Int) (hg : g = 1 ∨ g = -1) (ht : t.size ≤ 9) (r : Int × Bool)
    (hbad : ¬ (∀ b ∈ bytesOf t, 48 ≤ b ∧ b ≤ 57) → r = (0, false))
    (hok : (∀ b ∈ bytesOf t, 48 ≤ b ∧ b ≤ 57) → (if str (Lib.itoa (g * valD (bytesOf t))) = s then (g * valD (bytesOf t), true) else (0, false)) = r) :
    ∀ d i : Nat, i + d = t.size → (∀ b ∈ (bytesOf t).take i, 48 ≤ b ∧ b ≤ 57) → Ev (fun k => impl_ParseInt.l0 k s t g (valD ((bytesOf t).take i)) (t.size : Int) (i : Int)) r := by
  intro d
  induction d with
  | zero =>
    intro i h hd
    obtain rfl : i = t.size := by omega
    have hall : (bytesOf t).take t.size = bytesOf t := List.take_of_length_le (by rw [bytesOf_length]; omega)
    rw [hall] at hd ⊢
    have hv := valD_bound (bytesOf t) (by rw [bytesOf_length]; omega)
    have e1 : wrap64 (g * valD (bytesOf t)) = g * valD (bytesOf t) := by rcases hg with rfl | rfl <;> exact w64 (by omega) (by omega)
    have hr := hok hd
    refine ev_shift ?_
    simp only [impl_ParseInt.l0, if_neg (show ¬ ((t.size : Int) < (t.size : Int)) by omega), e1, impl_FormatInt.val (g * valD (bytesOf t)) (by rcases hg with rfl | rfl <;> omega) (by rcases hg with rfl | rfl <;> omega), Option.bind_some]
    by_cases c : str (Lib.itoa (g * valD (bytesOf t))) = s
    · rw [if_pos c] at hr
      subst hr
      exact ev_val fun k => by rw [c]; simp
    · rw [if_neg c] at hr
      subst hr
      exact ev_val fun k => by rw [if_neg (fun h => c (toList_inj' h))]
  | succ d ih =>
    intro i h hd
    have e1 := w64 (show -9223372036854775808 ≤ (i : Int) + 1 by omega) (by omega)
    obtain ⟨tb, b0, b1⟩ := take_bt t i (by omega)
    have hv := valD_bound ((bytesOf t).take i) (by rw [List.length_take]; omega)
    have hm : bt t (i : Int) ∈ bytesOf t := List.mem_of_mem_take (i := i + 1) (by rw [tb]; simp)
    refine ev_shift ?_
    by_cases c1 : bt t (i : Int) < 48
    · rw [hbad fun hh => by have := hh _ hm; omega]
      exact ev_val fun k => by simp only [impl_ParseInt.l0, if_pos (show (i : Int) < (t.size : Int) by omega), if_pos (show (0 : Int) ≤ (i : Int) by omega), if_pos c1]
    · by_cases c2 : bt t (i : Int) > 57
      · rw [hbad fun hh => by have := hh _ hm; omega]
        exact ev_val fun k => by simp only [impl_ParseInt.l0, if_pos (show (i : Int) < (t.size : Int) by omega), if_pos (show (0 : Int) ≤ (i : Int) by omega), if_neg c1, if_pos c2]
      · have hi := ih (i + 1) (by omega) (by
          rw [tb]
          intro b hb
          rcases List.mem_append.1 hb with hb | hb
          · exact hd b hb
          · rw [List.mem_singleton.1 hb]; omega)
        rw [tb, valD_snoc, if_pos (by omega)] at hi
        have e3 : wrap64 ((wrap64 (10 * valD ((bytesOf t).take i))) + ((bt t (i : Int) - 48) % 256)) = valD ((bytesOf t).take i) * 10 + (bt t (i : Int) - 48) := by
          rw [w64 (show -9223372036854775808 ≤ 10 * valD ((bytesOf t).take i) by omega) (by omega), show (bt t (i : Int) - 48) % 256 = bt t (i : Int) - 48 by omega, w64 (by omega) (by omega)]
          omega
        simp only [impl_ParseInt.l0, if_pos (show (i : Int) < (t.size : Int) by omega), if_pos (show (0 : Int) ≤ (i : Int) by omega), if_neg c1, if_neg c2, e1, e3]
        simpa using hi
theorem impl_ParseInt.ev (s : ByteArray) : (implOk s ∧ Ev (fun k => impl_ParseInt.f k s) (numB (bytesOf s), true)) ∨ (¬ implOk s ∧ Ev (fun k => impl_ParseInt.f k s) (0, false)) := by
  have j1 : ∀ (t : ByteArray) (g : Int), (g = 1 ∨ g = -1) → bytesOf t = tailB (bytesOf s) → g * valD (bytesOf t) = numB (bytesOf s) →
      (implOk s ∧ Ev (fun k => impl_ParseInt.j1 k s t g) (numB (bytesOf s), true)) ∨ (¬ implOk s ∧ Ev (fun k => impl_ParseInt.j1 k s t g) (0, false)) := by
    intro t g hg ht hn
    have hl : t.size = (tailB (bytesOf s)).length := by rw [← ht, bytesOf_length]
    by_cases c : 1 ≤ (t.size : Int) ∧ (t.size : Int) ≤ 9
    · have go : ∀ r, (¬ (∀ b ∈ bytesOf t, 48 ≤ b ∧ b ≤ 57) → r = (0, false)) → ((∀ b ∈ bytesOf t, 48 ≤ b ∧ b ≤ 57) → (if str (Lib.itoa (g * valD (bytesOf t))) = s then (g * valD (bytesOf t), true) else (0, false)) = r) → Ev (fun k => impl_ParseInt.j1 k s t g) r := by
        intro r h1 h2
        refine ev_shift ?_
        simp only [impl_ParseInt.j1, impl_within.val, Option.bind_some, decide_eq_true c, if_true]
        have := impl_ParseInt.l0ev s t g hg (by omega) r h1 h2 t.size 0 (by omega) (by simp)
        simpa [valD] using this
      by_cases hd : ∀ b ∈ bytesOf t, 48 ≤ b ∧ b ≤ 57
      · by_cases hs : str (Lib.itoa (numB (bytesOf s))) = s
        · exact .inl ⟨⟨by omega, by omega, by rw [← ht]; exact hd, hs⟩, go _ (fun h => absurd hd h) (fun _ => by rw [hn, if_pos hs])⟩
        · exact .inr ⟨fun h => hs h.2.2.2, go _ (fun _ => rfl) (fun _ => by rw [hn, if_neg hs])⟩
      · exact .inr ⟨fun h => hd (by rw [ht]; exact h.2.2.1), go _ (fun _ => rfl) (fun h => absurd h hd)⟩
    · refine .inr ⟨fun h => c (by have := h.1; have := h.2.1; omega), ev_shift (ev_val fun k => ?_)⟩
      simp only [impl_ParseInt.j1, impl_within.val, Option.bind_some, decide_eq_false c, Bool.false_eq_true, if_false]
  have hn := negB_bt s
  cases hb : negB (bytesOf s) with
  | true =>
    rw [hb] at hn
    have c : (s.size : Int) > 0 := by
      by_cases c : (s.size : Int) > 0
      · exact c
      · rw [if_neg c] at hn; exact absurd hn (by decide)
    rw [if_pos c] at hn
    have hj := j1 (s.extract 1 s.size) (-1) (.inr rfl) (by rw [bytesOf_tail, tailB, if_pos hb]) (by
      rw [numB, if_pos hb, bytesOf_tail]
      have := (valD_tailB (bytesOf s)).1
      rw [tailB, if_pos hb] at this
      rw [this]; omega)
    have hup : ∀ r, Ev (fun k => impl_ParseInt.j1 k s (s.extract 1 s.size) (-1)) r → Ev (fun k => impl_ParseInt.f k s) r := fun r hr => by
      simp only [impl_ParseInt.f, if_pos c, if_pos (show (0 : Int) < (s.size : Int) by omega), ← hn]
      refine ev_shift ?_
      simp only [impl_ParseInt.j0, if_true, if_pos (show 1 ≤ (s.size : Int) by omega)]
      exact hr
    rcases hj with ⟨h1, h2⟩ | ⟨h1, h2⟩
    · exact .inl ⟨h1, hup _ h2⟩
    · exact .inr ⟨h1, hup _ h2⟩
  | false =>
    rw [hb] at hn
    have hj := j1 s 1 (.inl rfl) (by rw [tailB, hb]; rfl) (by rw [numB, hb, Int.one_mul]; rfl)
    have hup : ∀ r, Ev (fun k => impl_ParseInt.j1 k s s 1) r → Ev (fun k => impl_ParseInt.f k s) r := fun r hr => by
      by_cases c : (s.size : Int) > 0
      · rw [if_pos c] at hn
        simp only [impl_ParseInt.f, if_pos c, if_pos (show (0 : Int) < (s.size : Int) by omega), ← hn]
        refine ev_shift ?_
        simp only [impl_ParseInt.j0, Bool.false_eq_true, if_false]
        exact hr
      · simp only [impl_ParseInt.f, if_neg c]
        refine ev_shift ?_
        simp only [impl_ParseInt.j0, Bool.false_eq_true, if_false]
        exact hr
    rcases hj with ⟨h1, h2⟩ | ⟨h1, h2⟩
    · exact .inl ⟨h1, hup _ h2⟩
    · exact .inr ⟨h1, hup _ h2⟩

theorem spec_FormatInt.l0ev (neg : Bool) : ∀ s : Int × List UInt8, (s.2.length + s.1.natAbs ≤ 9223372036854775808 ∧ (s.2.length = 0 ∨ s.2.length + s.1.natAbs ≤ 9223372036854775800)) →
    Ev (fun k => spec_FormatInt.l0 k s.1 (str s.2) neg) (str ((if neg then [45] else []) ++ digs s.1.natAbs ++ s.2)) := by
  refine loop_ev (fun k (s : Int × List UInt8) => spec_FormatInt.l0 k s.1 (str s.2) neg) _ (fun s => s.1.natAbs) (fun s => str ((if neg then [45] else []) ++ digs s.1.natAbs ++ s.2)) ?_
  rintro ⟨x, l⟩ ⟨h1, h2⟩
  simp only at h1 h2 ⊢
  by_cases hx : x = 0
  · subst hx
    refine .inl (ev_shift ?_)
    simp only [spec_FormatInt.l0, if_true, str_size]
    cases neg with
    | false => exact ev_val fun _ => by simp [digs]
    | true =>
      simp only [if_true, if_pos (show 1 + l.length ≤ 9223372036854775807 by omega)]
      exact ev_val fun _ => by rw [show (⟨#[45]⟩ : ByteArray) = str [45] from rfl, str_append]; simp [digs]
  · refine .inr ⟨(Int.tdiv x 10, UInt8.ofNat (48 + x.natAbs % 10) :: l), ?_, ?_, ?_, ?_⟩
    · have ht := tmod10 x
      simp only [List.length_cons]
      have : (Int.tdiv x 10).natAbs = x.natAbs / 10 := by rcases (show x < 0 ∨ 0 ≤ x by omega) with c | c; (have := (ht.2 c).2; omega); (have := (ht.1 c).2; omega)
      rw [this]
      omega
    · have ht := tmod10 x
      have : (Int.tdiv x 10).natAbs = x.natAbs / 10 := by rcases (show x < 0 ∨ 0 ≤ x by omega) with c | c; (have := (ht.2 c).2; omega); (have := (ht.1 c).2; omega)
      simp only [this]
      omega
    · have ht := tmod10 x
      have : (Int.tdiv x 10).natAbs = x.natAbs / 10 := by rcases (show x < 0 ∨ 0 ≤ x by omega) with c | c; (have := (ht.2 c).2; omega); (have := (ht.1 c).2; omega)
      simp only [this]
      rw [digs_step x.natAbs (by omega)]
      simp
    · intro r hr
      refine ev_shift ?_
      have ht := tmod10 x
      have e2 : wrap64 (Int.tdiv x 10) = Int.tdiv x 10 := w64 (by rcases (show x < 0 ∨ 0 ≤ x by omega) with c | c; (have := (ht.2 c).2; omega); (have := (ht.1 c).2; omega)) (by rcases (show x < 0 ∨ 0 ≤ x by omega) with c | c; (have := (ht.2 c).2; omega); (have := (ht.1 c).2; omega))
      have e3 : ∀ d : Nat, d < 10 → (strOfNums ([(wrap64 (48 + (d : Int))) % 256] : List Int)) ++ str l = str (UInt8.ofNat (48 + d) :: l) := fun d hd => by rw [strOfNums_digit d hd, str_append]; rfl
      have e4 : ∀ d : Nat, d < 10 → (strOfNums ([(wrap64 (48 + (d : Int))) % 256] : List Int)).size + (str l).size ≤ 9223372036854775807 := fun d hd => by rw [strOfNums_digit d hd, str_size, str_size]; simp only [List.length_cons, List.length_nil]; omega
      have hd : x.natAbs % 10 < 10 := by omega
      simp only [spec_FormatInt.l0, if_neg hx, e2]
      by_cases c : Int.tmod x 10 < 0
      · have hm : Int.tmod x 10 = -((x.natAbs % 10 : Nat) : Int) := by rcases (show x < 0 ∨ 0 ≤ x by omega) with c' | c'; exact (ht.2 c').1; (have := (ht.1 c').1; omega)
        have e1 : wrap64 (-(Int.tmod x 10)) = ((x.natAbs % 10 : Nat) : Int) := by rw [hm, w64 (by omega) (by omega)]; omega
        simp only [if_pos c, e1, Option.bind_some, if_pos (e4 _ hd), e3 _ hd]
        exact hr
      · have hm : Int.tmod x 10 = ((x.natAbs % 10 : Nat) : Int) := by rcases (show x < 0 ∨ 0 ≤ x by omega) with c' | c'; (have := (ht.2 c').1; omega); exact (ht.1 c').1
        rw [hm] at c
        simp only [hm, if_neg c, Option.bind_some, if_pos (e4 _ hd), e3 _ hd]
        exact hr
theorem spec_FormatInt.ev (a : Int) (h0 : -9223372036854775808 ≤ a) (h1 : a ≤ 9223372036854775807) : Ev (fun k => spec_FormatInt.f k a) (str (Lib.itoa a)) := by
  by_cases ha : a = 0
  · subst ha
    simp only [spec_FormatInt.f, if_true, itoa_zero]
    exact Ev.now _
  · simp only [spec_FormatInt.f, if_neg ha]
    have h := spec_FormatInt.l0ev (decide (a < 0)) (a, []) ⟨by simp only [List.length_nil]; omega, .inl rfl⟩
    refine ev_eq h ?_
    rw [itoa_digs a ha]
    simp only [List.append_nil, decide_eq_true_eq]

theorem varD_round : ∀ (d : Nat) (n : Int), 0 ≤ n → n < ((128 ^ (d + 1) : Nat) : Int) → valL (varD d n) = n ∧ canL (varD d n) ∧ 1 ≤ (varD d n).length ∧ (varD d n).length ≤ d + 1
  | 0, n, h0, h1 => by
    simp at h1
    simp only [varD, valL, canL, List.length_cons, List.length_nil]
    omega
  | d + 1, n, h0, h1 => by
    have e : ((128 ^ (d + 1 + 1) : Nat) : Int) = ((128 ^ (d + 1) : Nat) : Int) * 128 := by rw [Nat.pow_succ]; simp
    rw [e] at h1
    obtain ⟨i1, i2, i3, i4⟩ := varD_round d (n / 128) (by omega) (by omega)
    by_cases h : n ≥ 128
    · simp only [varD, if_pos h]
      cases hl : varD d (n / 128) with
      | nil => rw [hl] at i3; simp at i3
      | cons c l =>
        rw [hl] at i1 i2 i3 i4
        refine ⟨?_, ?_, ?_, ?_⟩
        · rw [valL, i1]; omega
        · exact ⟨by omega, i2, by rw [i1]; omega⟩
        · simp
        · simp only [List.length_cons] at i4 ⊢; omega
    · simp only [varD, if_neg h, valL, canL, List.length_cons, List.length_nil]
      omega
/-- An encoded number is decoded again, whatever follows. -/
theorem decVar_encVar (n : Int) (h : 0 ≤ n ∧ n ≤ 562949953421311) (t : List Int) (ht : ∀ b ∈ t, 0 ≤ b ∧ b ≤ 255) : decVar (encVar n ++ t) = (n, ((encVar n).length : Int)) ∧ 1 ≤ (encVar n).length := by
  have hr := encVar_range n
  have e : encVar n = varD 6 n := by rw [encVar, if_pos h]
  obtain ⟨i1, i2, i3, i4⟩ := varD_round 6 n h.1 (by simp; omega)
  rw [e] at hr ⊢
  have ek : (varD 6 n ++ t).take (varD 6 n).length = varD 6 n := by simp
  have := dv_of_canL (varD 6 n).length 7 (varD 6 n ++ t) (fun b hb => (List.mem_append.1 hb).elim (hr b) (ht b)) i3 i4 (by simp) (by rw [ek]; exact i2)
  rw [ek, i1] at this
  exact ⟨by rw [decVar, this]; rfl, i3⟩
theorem encVar_none (n : Int) (h : ¬ (0 ≤ n ∧ n ≤ 562949953421311)) : encVar n = [] := by rw [encVar, if_neg h]
theorem fixVal_fixD : ∀ (d : Nat) (n m : Int), 0 ≤ n → hiPart d n = 0 → fixVal (fixD d n) m = m * ((256 ^ d : Nat) : Int) + n
  | 0, n, m, h0, h1 => by
    have : n = 0 := h1
    simp [fixD, fixVal, this]
  | d + 1, n, m, h0, h1 => by
    have i := fixVal_fixD d (n / 256) m (by omega) h1
    have e : ((256 ^ (d + 1) : Nat) : Int) = ((256 ^ d : Nat) : Int) * 256 := by rw [Nat.pow_succ]; simp
    simp only [fixVal] at i
    simp only [fixD, fixVal, List.foldl_append, List.foldl_cons, List.foldl_nil]
    rw [i, e, ← Int.mul_assoc]
    omega
theorem decFixed_encFixed (n w : Int) (t : List Int) (h : encFixed n w ≠ []) : decFixed (encFixed n w ++ t) w = (n, true) ∧ ((encFixed n w).length : Int) = w := by
  unfold encFixed at h ⊢
  by_cases c : (1 ≤ w ∧ w ≤ 7) ∧ 0 ≤ n ∧ hiPart w.toNat n = 0
  · rw [if_pos c]
    have hl := fixD_length w.toNat n
    refine ⟨?_, by omega⟩
    rw [decFixed, if_pos ⟨c.1, by rw [List.length_append, hl]; omega⟩]
    have : (fixD w.toNat n ++ t).take w.toNat = fixD w.toNat n := by rw [List.take_append_of_le_length (by omega), List.take_of_length_le (by omega)]
    rw [this, fixVal_fixD _ _ _ c.2.1 c.2.2]
    simp
  · rw [if_neg c] at h; exact absurd rfl h
theorem encFixed_range (n w : Int) : ∀ b ∈ encFixed n w, 0 ≤ b ∧ b ≤ 255 := by
  intro b hb
  unfold encFixed at hb
  split at hb
  · exact fixD_range _ _ b hb
  · cases hb
theorem hexTab_half (i : Int) (h0 : 0 ≤ i) (h1 : i < 16) : halfV (bt hexTab i) = i := by
  obtain ⟨j, rfl⟩ := Int.eq_ofNat_of_zero_le h0
  rw [hexTab_val j (by omega)]
  unfold halfV
  by_cases h : j < 10
  · rw [if_pos h, if_pos (by omega)]; omega
  · rw [if_neg h, if_neg (by omega), if_pos (by omega)]; omega
theorem hexDec_hexAll : ∀ l : List Int, (∀ b ∈ l, 0 ≤ b ∧ b ≤ 255) → hexDec (hexAll l) = some l
  | [], _ => rfl
  | b :: r, h => by
    have hb := h b (by simp)
    show hexDec (bt hexTab (b / 16) :: bt hexTab (b % 16) :: hexAll r) = _
    have h1 := hexTab_half (b / 16) (by omega) (by omega)
    have h2 := hexTab_half (b % 16) (by omega) (by omega)
    rw [hexDec, h1, h2, if_neg (by omega), hexDec_hexAll r fun x hx => h x (List.mem_cons_of_mem _ hx)]
    simp only [Option.map_some]
    rw [show 16 * (b / 16) + b % 16 = b by omega]
theorem hexAll_range (l : List Int) : (∀ b ∈ l, 0 ≤ b ∧ b ≤ 255) → ∀ b ∈ hexAll l, 0 ≤ b ∧ b ≤ 255 := by
  intro _ b hb
  unfold hexAll at hb
  obtain ⟨x, _, hx⟩ := List.mem_flatMap.1 hb
  simp only [hexOf, List.mem_cons, List.not_mem_nil, or_false] at hx
  rcases hx with rfl | rfl
  · have := bt_range hexTab (x / 16); omega
  · have := bt_range hexTab (x % 16); omega
theorem itoa_implOk (a : Int) : implOk (str (Lib.itoa a)) ↔ (a > -1000000000 ∧ a < 1000000000) := by
  obtain ⟨e1, e2⟩ := itoa_tail a
  obtain ⟨v1, v2, v3⟩ := dec_val a.natAbs
  have hl : (nums (Lib.decDigits a.natAbs)).length = (Lib.decDigits a.natAbs).length := by simp [nums]
  unfold implOk
  rw [e1, e2, hl]
  constructor
  · rintro ⟨_, h, _⟩
    obtain ⟨_, f2⟩ := fold_bound (nums (Lib.decDigits a.natAbs)) 0 (by omega)
    have f3 : valD (nums (Lib.decDigits a.natAbs)) < (0 + 1) * 10 ^ (nums (Lib.decDigits a.natAbs)).length := f2
    rw [v1, hl] at f3
    have : (10 : Int) ^ (Lib.decDigits a.natAbs).length ≤ 10 ^ 9 := by
      have := Nat.pow_le_pow_right (show 0 < 10 by decide) h
      exact_mod_cast this
    omega
  · intro h
    refine ⟨v3, ?_, v2, rfl⟩
    by_cases h0 : a.natAbs = 0
    · rw [h0]; unfold Lib.decDigits; simp
    · have e : digs a.natAbs = Lib.decDigits a.natAbs := by rw [digs, if_neg h0]
      rw [← e]
      exact digs_len 9 _ (by simp; omega)

theorem FnIntegerEncodings : FnIntegerEncodingsPure := by
  intro c _ _ _
  refine Ev.rounds (g := fun k => laws_FnIntegerEncodings.f k c) ?_
  by_cases h1 : (c.length : Int) > 1048576
  · simp only [laws_FnIntegerEncodings.f, laws_big.f, Option.bind_some, decide_eq_true h1, if_true]; exact Ev.now _
  simp only [laws_FnIntegerEncodings.f, laws_big.f, Option.bind_some, decide_eq_false h1, Bool.false_eq_true, if_false]
  obtain ⟨n, dn, hn⟩ := spec_DrawEncodeVarint.ev c (by omega)
  obtain ⟨t, dt, ht⟩ := spec_DrawEncodeHex.ev c (by omega)
  obtain ⟨x, w, dx, hx, hw⟩ := spec_DrawEncodeFixed.ev c (by omega)
  have tr := bytes_range t
  have tl := bytesOf_length t
  have lst : ∀ l : List Int, ((strOfNums l).toList = ([] : List UInt8)) ↔ l = [] := fun l => by
    rw [toList_data, strOfNums_data, List.map_eq_nil_iff]
  -- the end
  have fin : Ev (fun k => laws_FnIntegerEncodings.j1 k t x false) true := by
    refine ev_shift ?_
    simp only [laws_FnIntegerEncodings.j1, Bool.false_eq_true, if_false]
    have eh := impl_EncodeHex.ev t (by omega)
    have hl := hexAll_length (bytesOf t)
    have hs : (strOfNums (hexAll (bytesOf t))).size = 2 * t.size := by rw [strOfNums_size, hl, tl]
    have dh := impl_DecodeHex.ev (strOfNums (hexAll (bytesOf t))) (by omega)
    rw [if_neg (by omega), bytesOf_strOfNums _ (hexAll_range _ tr), hexDec_hexAll _ tr] at dh
    simp only [hexOut, List.nil_append, strOfNums_bytesOf] at dh
    refine Ev.bind eh (Ev.bind dh ?_)
    simp only [impl_FormatInt.val x hx.1 hx.2, Option.bind_some]
    have fs := spec_FormatInt.ev x hx.1 hx.2
    have e2 : ((strOfNums (hexAll (bytesOf t))).size : Int) = wrap64 (2 * (t.size : Int)) := by rw [w64 (by omega) (by omega)]; omega
    rcases impl_ParseInt.ev (str (Lib.itoa x)) with ⟨ho, ep⟩ | ⟨ho, ep⟩
    · have hb := (itoa_implOk x).1 ho
      rw [(itoa_tail x).2] at ep
      refine Ev.bind ep ?_
      simp only [if_true, if_pos e2]
      refine Ev.bind fs ?_
      simp only [if_true, if_pos hb.1, decide_eq_true hb.2, beq_self_eq_true]
      exact Ev.now _
    · have hb : ¬ (x > -1000000000 ∧ x < 1000000000) := fun h => ho ((itoa_implOk x).2 h)
      refine Ev.bind ep ?_
      simp only [if_true, if_pos e2]
      refine Ev.bind fs ?_
      by_cases hx1 : x > -1000000000
      · have hx2 : ¬ x < 1000000000 := fun h => hb ⟨hx1, h⟩
        simp only [if_true, Bool.false_eq_true, if_false, if_pos hx1, decide_eq_false hx2, beq_self_eq_true]
        exact Ev.now _
      · simp only [if_true, Bool.false_eq_true, if_false, if_neg hx1, beq_self_eq_true]
        exact Ev.now _
  -- the fixed width
  have mid : Ev (fun k => laws_FnIntegerEncodings.j0 k c t false) true := by
    refine ev_shift ?_
    simp only [laws_FnIntegerEncodings.j0, Bool.false_eq_true, if_false]
    have ei := impl_EncodeFixed.ev x w hx.2
    have es := spec_EncodeFixed.ev x w hx.2
    have hr := encFixed_range x w
    have hlen : (encFixed x w).length ≤ 8 := by
      unfold encFixed
      split
      · rw [fixD_length]; omega
      · simp
    have hsz : (strOfNums (encFixed x w)).size = (encFixed x w).length := strOfNums_size _
    have eb : bytesOf (strOfNums (encFixed x w) ++ t) = encFixed x w ++ bytesOf t := by
      have e : strOfNums (encFixed x w) ++ t = strOfNums (encFixed x w ++ bytesOf t) := by rw [strOfNums_append, strOfNums_bytesOf]
      rw [e, bytesOf_strOfNums]
      exact fun b hb => (List.mem_append.1 hb).elim (hr b) (tr b)
    have ed := impl_DecodeFixed.ev (strOfNums (encFixed x w) ++ t) w
    rw [eb] at ed
    refine Ev.bind dx (Ev.bind ei ?_)
    simp only [if_pos (show (strOfNums (encFixed x w)).size + t.size ≤ 9223372036854775807 by omega)]
    refine Ev.bind ed ?_
    by_cases h0 : encFixed x w = []
    · simp only [if_pos ((lst _).2 h0)]
      refine Ev.bind es ?_
      simp only [bne_self_eq_false]
      exact fin
    · obtain ⟨d1, d2⟩ := decFixed_encFixed x w (bytesOf t) h0
      simp only [if_neg (fun h => h0 ((lst _).1 h)), d1, if_true, if_pos (show ((strOfNums (encFixed x w)).size : Int) = w by omega)]
      refine Ev.bind es ?_
      simp only [bne_self_eq_false]
      exact fin
  have ev := impl_EncodeVarint.ev n
  have hvl : (encVar n).length ≤ 7 := by
    by_cases hv : 0 ≤ n ∧ n ≤ 562949953421311
    · rw [encVar, if_pos hv]; exact (varD_round 6 n hv.1 (by simp; omega)).2.2.2
    · rw [encVar_none n hv]; simp
  have hsz : (strOfNums (encVar n)).size = (encVar n).length := strOfNums_size _
  have eb : bytesOf (strOfNums (encVar n) ++ t) = encVar n ++ bytesOf t := by
    have e : strOfNums (encVar n) ++ t = strOfNums (encVar n ++ bytesOf t) := by rw [strOfNums_append, strOfNums_bytesOf]
    rw [e, bytesOf_strOfNums]
    exact fun b hb => (List.mem_append.1 hb).elim (encVar_range n b) (tr b)
  have dv := impl_DecodeVarint.ev (strOfNums (encVar n) ++ t) (by rw [ByteArray.size_append]; omega)
  rw [eb] at dv
  refine Ev.bind dn (Ev.bind dt (Ev.bind ev ?_))
  simp only [if_pos (show (strOfNums (encVar n)).size + t.size ≤ 9223372036854775807 by omega)]
  refine Ev.bind dv ?_
  by_cases hv : 0 ≤ n ∧ n ≤ 562949953421311
  · obtain ⟨q1, q2⟩ := decVar_encVar n hv (bytesOf t) tr
    have hne : ¬ (strOfNums (encVar n)).toList = ([] : List UInt8) := fun h => by rw [(lst _).1 h] at q2; simp at q2
    simp only [if_pos (show n ≥ 0 from hv.1), if_neg hne, if_pos hv.2, q1, if_true, hsz, bne_self_eq_false]
    exact mid
  · have he : (strOfNums (encVar n)).toList = ([] : List UInt8) := (lst _).2 (encVar_none n hv)
    by_cases h0 : n ≥ 0
    · simp only [if_pos h0, if_pos he, if_neg (show ¬ n ≤ 562949953421311 from fun h => hv ⟨h0, h⟩)]
      exact mid
    · simp only [if_neg h0, if_pos he]
      exact mid

end Go.Proofs.YtkkbcnghlnogpaaDoor.Pure
