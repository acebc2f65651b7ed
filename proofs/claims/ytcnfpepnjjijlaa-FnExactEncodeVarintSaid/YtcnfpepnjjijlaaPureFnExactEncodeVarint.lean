/- For every number the law FnExactEncodeVarint returns true; no conditions. -/
import Derived.Test.YtcnfpepnjjijlaaPFnExactEncodeVarintx1
set_option linter.unusedVariables false
set_option linter.unusedSimpArgs false
namespace Go.Proofs.Ytcnfpepnjjijlaa.Pure
open Go.RowKit Go.Proofs.Ytcnfpepnjjijlaa.PFnExactEncodeVarint Go.Proofs.YtcnfpepnjjijlaaW.PrintWords Go.Proofs.YtcnfpepnjjijlaaW.PrintLast

/- Common lemmas: rounds (Ev), 64-bit numbers, lists of numbers, bytes. -/

theorem w64 {x : Int} (h0 : -9223372036854775808 ≤ x) (h1 : x ≤ 9223372036854775807) : wrap64 x = x := by unfold wrap64; omega
theorem ev_shift {α : Type} {g : Nat → Option α} {r : α} (h : Ev (fun k => g (k + 1)) r) : Ev g r := Ev.step (fun _ => rfl) h
theorem ev_val {α : Type} {g : Nat → Option α} {r : α} (h : ∀ k, g k = some r) : Ev g r := ⟨0, fun k _ => h k⟩
theorem ev_eq {α : Type} {g : Nat → Option α} {r r' : α} (h : Ev g r) (e : r = r') : Ev g r' := e ▸ h
theorem ev_to {α : Type} {g f : Nat → Option α} {r : α} (h : ∃ K, ∀ k, K ≤ k → g k = f k) (k : Ev f r) : Ev g r := by
  obtain ⟨K, h⟩ := h
  obtain ⟨K', k⟩ := k
  exact ⟨max K K', fun n hn => (h n (by omega)).trans (k n (by omega))⟩
theorem ev_some {α : Type} {r r' : α} (e : r = r') : Ev (fun _ => some r) r' := e ▸ Ev.now _
/-- A loop over an index that answers 'do all from here on'. -/
theorem all_loop (l : Nat → Int → Option Bool) (P : Nat → Prop) (n : Nat) (hstop : ∀ k, l (k + 1) (n : Int) = some true)
    (hstep : ∀ i : Nat, i < n → (P i ∧ ∃ K, ∀ k, K ≤ k → l (k + 1) (i : Int) = l k ((i : Int) + 1)) ∨ (¬ P i ∧ ∃ K, ∀ k, K ≤ k → l (k + 1) (i : Int) = some false)) :
    ∀ d i : Nat, i + d = n → ∃ b, Ev (fun k => l k (i : Int)) b ∧ (b = true ↔ ∀ j, i ≤ j → j < n → P j) := by
  intro d
  induction d with
  | zero =>
    intro i h
    obtain rfl : i = n := by omega
    exact ⟨true, ev_shift (ev_val hstop), by simp; intro j h1 h2; omega⟩
  | succ d ih =>
    intro i h
    rcases hstep i (by omega) with ⟨hp, hl⟩ | ⟨hp, hl⟩
    · obtain ⟨b, hb, hq⟩ := ih (i + 1) (by omega)
      refine ⟨b, ev_shift (ev_to hl ?_), ?_⟩
      · simpa using hb
      · rw [hq]
        constructor
        · intro h' j h1 h2
          rcases Nat.eq_or_lt_of_le h1 with rfl | h3
          · exact hp
          · exact h' j h3 h2
        · intro h' j h1 h2
          exact h' j (by omega) h2
    · refine ⟨false, ev_shift (ev_to hl (Ev.now _)), ?_⟩
      constructor
      · intro h'; cases h'
      · intro h'; exact absurd (h' i (Nat.le_refl _) (by omega)) hp
/-- A loop in general: a state, a measure, what it comes to. -/
theorem loop_val {σ ρ : Type} (l : Nat → σ → Option ρ) (Inv : σ → Prop) (m : σ → Nat) (F : σ → ρ)
    (h : ∀ s, Inv s → (∃ K, ∀ k, K ≤ k → l (k + 1) s = some (F s)) ∨ (∃ s', Inv s' ∧ m s' < m s ∧ F s' = F s ∧ ∃ K, ∀ k, K ≤ k → l (k + 1) s = l k s')) :
    ∀ s, Inv s → Ev (fun k => l k s) (F s) := by
  have key : ∀ n s, m s ≤ n → Inv s → Ev (fun k => l k s) (F s) := by
    intro n
    induction n with
    | zero =>
      intro s hm hi
      rcases h s hi with hl | ⟨s', _, hlt, _⟩
      · exact ev_shift (ev_to hl (Ev.now _))
      · omega
    | succ n ih =>
      intro s hm hi
      rcases h s hi with hl | ⟨s', hi', hlt, hF, hl⟩
      · exact ev_shift (ev_to hl (Ev.now _))
      · exact ev_shift (ev_to hl (ev_eq (ih s' (by omega) hi') hF))
  exact fun s hi => key (m s) s (Nat.le_refl _) hi
theorem rd_nat (xs : List Int) (i : Nat) : rd xs (i : Int) = xs.getD i 0 := by simp [rd]
theorem rd_get (xs : List Int) (i : Nat) (h : i < xs.length) : rd xs (i : Int) = xs[i] := by simp [rd, h]
theorem drop_cons_rd (xs : List Int) (i : Nat) (h : i < xs.length) : xs.drop i = rd xs (i : Int) :: xs.drop (i + 1) := by
  rw [rd_get xs i h]; exact List.drop_eq_getElem_cons h
theorem bytes_cons (s : ByteArray) (i : Nat) (h : i < s.size) : (bytesOf s).drop i = bt s (i : Int) :: (bytesOf s).drop (i + 1) := by
  rw [← rd_bytesOf]; exact drop_cons_rd _ _ (by rw [bytesOf_length]; exact h)
theorem bytes_end (s : ByteArray) (i : Nat) (h : s.size ≤ i) : (bytesOf s).drop i = [] := List.drop_eq_nil_of_le (by rw [bytesOf_length]; exact h)
theorem bytes_range (s : ByteArray) : ∀ b ∈ bytesOf s, 0 ≤ b ∧ b ≤ 255 := by
  intro b hb
  unfold bytesOf at hb
  obtain ⟨c, _, rfl⟩ := List.mem_map.1 hb
  have := c.toNat_lt
  omega
theorem strOfNums_bytesOf (s : ByteArray) : strOfNums (bytesOf s) = s := by
  apply ByteArray.ext
  apply Array.ext'
  rw [strOfNums_data, bytesOf, List.map_map]
  conv => rhs; rw [← List.map_id s.data.toList]
  apply List.map_congr_left
  intro c _
  simp
theorem bytesOf_strOfNums (l : List Int) (h : ∀ b ∈ l, 0 ≤ b ∧ b ≤ 255) : bytesOf (strOfNums l) = l := by
  rw [bytesOf, strOfNums_data, List.map_map]
  conv => rhs; rw [← List.map_id l]
  apply List.map_congr_left
  intro b hb
  have := h b hb
  simp only [Function.comp_apply, id]
  rw [UInt8.toNat_ofNat_of_lt' (by simp [UInt8.size]; omega)]
  omega
theorem tmod_pos (a : Int) (b : Int) (h : 0 ≤ a) : Int.tmod a b = a % b := Int.tmod_eq_emod_of_nonneg h
theorem tdiv_pos (a : Int) (b : Int) (h : 0 ≤ a) : Int.tdiv a b = a / b := Int.tdiv_eq_ediv_of_nonneg h
theorem toList_data (s : ByteArray) : s.toList = s.data.toList := ByteArray.toList_eq s
theorem wf_i64 {n : Int} (h : (Lit.int .i64 n).wf = true) : -9223372036854775808 ≤ n ∧ n ≤ 9223372036854775807 := by
  simp [Lit.wf, IntKind.min, IntKind.max, IntKind.signed, IntKind.bits] at h
  omega
theorem bytesOf_congr {a b : ByteArray} (h : a.toList = b.toList) : bytesOf a = bytesOf b := by
  rw [toList_data, toList_data] at h
  unfold bytesOf
  rw [h]
theorem bytesOf_inj {a b : ByteArray} (h : bytesOf a = bytesOf b) : a = b := by rw [← strOfNums_bytesOf a, h, strOfNums_bytesOf]

theorem spec_l1In.val (a b c : Int) : spec_l1In.f a b c = some (decide (b ≤ a ∧ a ≤ c)) := by
  unfold spec_l1In.f
  by_cases h : b ≤ a <;> simp [h]

/-- A number of some bytes, the greatest first. -/
def fixVal (l : List Int) (n : Int) : Int := l.foldl (fun n b => n * 256 + b) n
def decFixed (l : List Int) (w : Int) : Int × Bool := if (1 ≤ w ∧ w ≤ 7) ∧ w ≤ (l.length : Int) then (fixVal (l.take w.toNat) 0, true) else (0, false)
/-- The bytes of a number, the greatest first. -/
def fixD : Nat → Int → List Int
  | 0, _ => []
  | d + 1, n => fixD d (n / 256) ++ [n % 256]
/-- What these bytes leave. -/
def hiPart : Nat → Int → Int
  | 0, n => n
  | d + 1, n => hiPart d (n / 256)
def encFixed (n w : Int) : List Int := if (1 ≤ w ∧ w ≤ 7) ∧ 0 ≤ n ∧ hiPart w.toNat n = 0 then fixD w.toNat n else []
theorem hiPart_nonneg (d : Nat) : ∀ n, 0 ≤ n → 0 ≤ hiPart d n := by
  induction d with
  | zero => intro n h; exact h
  | succ d ih => intro n h; exact ih _ (by omega)
theorem fixD_length (d : Nat) : ∀ n, (fixD d n).length = d := by
  induction d with
  | zero => intro n; rfl
  | succ d ih => intro n; simp [fixD, ih]
theorem fixD_range (d : Nat) : ∀ n, ∀ b ∈ fixD d n, 0 ≤ b ∧ b ≤ 255 := by
  induction d with
  | zero => intro n b hb; cases hb
  | succ d ih =>
    intro n b hb
    simp only [fixD, List.mem_append, List.mem_singleton] at hb
    rcases hb with hb | rfl
    · exact ih _ b hb
    · omega
theorem strOfNums_append (a b : List Int) : strOfNums (a ++ b) = strOfNums a ++ strOfNums b := by
  apply ByteArray.ext
  apply Array.ext'
  simp [strOfNums]
theorem strOfNums_nil : strOfNums [] = (⟨#[]⟩ : ByteArray) := rfl
theorem wraps_i64 (n : Int) (h₀ : 0 ≤ n) (h₁ : n < 2 ^ 63) : IntKind.i64.wrap n = n := by rw [IntKind.wrap_i64]; omega
theorem pow256_le (i : Nat) (h : i ≤ 6) : ((256 ^ i : Nat) : Int) ≤ 281474976710656 := by
  have : 256 ^ i ≤ 256 ^ 6 := Nat.pow_le_pow_right (by decide) h
  omega
/-- What a loop over the bytes of a number leaves. -/
def encRes (d : Nat) (n : Int) (out : ByteArray) : ByteArray := if hiPart d n = 0 then strOfNums (fixD d n) ++ out else ⟨#[]⟩
theorem encRes_zero (n : Int) (out : ByteArray) : encRes 0 n out = if n = 0 then out else ⟨#[]⟩ := by
  show (if n = 0 then strOfNums [] ++ out else ⟨#[]⟩) = _
  rw [strOfNums_nil]
  have : (⟨#[]⟩ : ByteArray) ++ out = out := by apply ByteArray.ext; simp
  rw [this]
theorem encRes_succ (d : Nat) (n : Int) (out : ByteArray) : encRes (d + 1) n out = encRes d (n / 256) (strOfNums [n % 256] ++ out) := by
  show (if hiPart d (n / 256) = 0 then strOfNums (fixD d (n / 256) ++ [n % 256]) ++ out else ⟨#[]⟩) = if hiPart d (n / 256) = 0 then strOfNums (fixD d (n / 256)) ++ (strOfNums [n % 256] ++ out) else ⟨#[]⟩
  rw [strOfNums_append, ByteArray.append_assoc]

/-- The bytes of a number, seven bits each, the least first. -/
def varD : Nat → Int → List Int
  | 0, n => [n]
  | d + 1, n => if n ≥ 128 then (128 + n % 128) :: varD d (n / 128) else [n]
def encVar (n : Int) : List Int := if 0 ≤ n ∧ n ≤ 562949953421311 then varD 6 n else []
theorem varD_range (d : Nat) : ∀ n, 0 ≤ n → n < ((128 ^ (d + 1) : Nat) : Int) → ∀ b ∈ varD d n, 0 ≤ b ∧ b ≤ 255 := by
  induction d with
  | zero => intro n h0 h1 b hb; simp [varD] at hb; subst hb; simp at h1; omega
  | succ d ih =>
    intro n h0 h1 b hb
    have hq : ((128 ^ (d + 1 + 1) : Nat) : Int) = ((128 ^ (d + 1) : Nat) : Int) * 128 := by rw [Nat.pow_succ]; simp
    rw [hq] at h1
    unfold varD at hb
    split at hb
    · simp only [List.mem_cons] at hb
      rcases hb with rfl | hb
      · omega
      · exact ih _ (by omega) (by omega) b hb
    · simp only [List.mem_singleton] at hb; subst hb; omega
theorem encVar_range (n : Int) : ∀ b ∈ encVar n, 0 ≤ b ∧ b ≤ 255 := by
  intro b hb
  unfold encVar at hb
  split at hb
  · rename_i h
    exact varD_range 6 n h.1 (by simp; omega) b hb
  · cases hb
theorem bits_or_comm (k : IntKind) (a b : Int) : Go.bits .or k a b = Go.bits .or k b a := by simp only [Go.bits, BitVec.or_comm]
theorem bits_and_i64_127 (n : Int) (h0 : 0 ≤ n) (h1 : n < 2 ^ 63) : Go.bits .and .i64 n 127 = n % 128 := bits_mask .i64 63 (by decide) wraps_i64 7 (by decide) n h0 h1
theorem bits_and_u8_127 (n : Int) (h0 : 0 ≤ n) (h1 : n < 256) : Go.bits .and .u8 n 127 = n % 128 := bits_mask .u8 8 (by decide) wraps_u8 7 (by decide) n h0 h1
theorem bits_or_u8_128 (n : Int) (h0 : 0 ≤ n) (h1 : n < 128) : Go.bits .or .u8 n 128 = 128 + n := by
  rw [bits_or_comm]
  exact bits_join .u8 8 (by decide) wraps_u8 7 128 n (by decide) (by decide) (by decide) h0 h1 (by omega)

theorem spec_EncodeVarint.loop : ∀ (d : Nat) (n : Int) (acc : List Int), 0 ≤ n → n < ((128 ^ (d + 1) : Nat) : Int) → n ≤ 9223372036854775807 → acc.length + d < 140737488355328 →
    Ev (fun k => spec_EncodeVarint.l0 k n acc) (strOfNums (acc ++ varD d n)) := by
  intro d
  induction d with
  | zero =>
    intro n acc h0 h1 h2 ha
    simp at h1
    refine ev_shift ?_
    simp only [spec_EncodeVarint.l0, if_neg (show ¬ (n ≥ 128) by omega), if_pos (show acc.length < 140737488355328 by omega), varD, show n % 256 = n by omega]
    exact Ev.now _
  | succ d ih =>
    intro n acc h0 h1 h2 ha
    have hq : ((128 ^ (d + 1 + 1) : Nat) : Int) = ((128 ^ (d + 1) : Nat) : Int) * 128 := by rw [Nat.pow_succ]; simp
    rw [hq] at h1
    refine ev_shift ?_
    by_cases hn : n ≥ 128
    · have e1 : wrap64 (Int.tdiv n 128) = n / 128 := by rw [tdiv_pos _ _ h0, w64 (by omega) (by omega)]
      have e2 : wrap64 (128 + Int.tmod n 128) % 256 = 128 + n % 128 := by rw [tmod_pos _ _ h0, w64 (by omega) (by omega)]; omega
      have := ih (n / 128) (acc ++ [128 + n % 128]) (by omega) (by omega) (by omega) (by simp; omega)
      simp only [spec_EncodeVarint.l0, if_pos hn, if_pos (show acc.length < 140737488355328 by omega), e1, e2, varD]
      simpa using this
    · simp only [spec_EncodeVarint.l0, if_neg hn, if_pos (show acc.length < 140737488355328 by omega), varD, show n % 256 = n by omega]
      exact Ev.now _
theorem spec_EncodeVarint.ev (n : Int) : Ev (fun k => spec_EncodeVarint.f k n) (strOfNums (encVar n)) := by
  simp only [spec_EncodeVarint.f, spec_l1In.val, Option.bind_some, encVar]
  by_cases h : 0 ≤ n ∧ n ≤ 562949953421311
  · simp only [decide_eq_true h, if_true, if_pos h]
    simpa using spec_EncodeVarint.loop 6 n [] h.1 (by simp; omega) (by omega) (by simp)
  · simp only [decide_eq_false h, Bool.false_eq_true, if_false, if_neg h]
    exact Ev.now _

theorem impl_within.val (a b c : Int) : impl_within.f a b c = some (decide (b ≤ a ∧ a ≤ c)) := by
  unfold impl_within.f
  by_cases h : b ≤ a <;> simp [h]

theorem impl_EncodeVarint.loop : ∀ (d : Nat) (n : Int) (acc : List Int), 0 ≤ n → n < ((128 ^ (d + 1) : Nat) : Int) → n ≤ 9223372036854775807 → acc.length + d < 140737488355328 →
    Ev (fun k => impl_EncodeVarint.l0 k n acc) (strOfNums (acc ++ varD d n)) := by
  intro d
  induction d with
  | zero =>
    intro n acc h0 h1 h2 ha
    simp at h1
    refine ev_shift ?_
    simp only [impl_EncodeVarint.l0, if_neg (show ¬ (n > 127) by omega), if_pos (show acc.length < 140737488355328 by omega), varD, show n % 256 = n by omega]
    exact Ev.now _
  | succ d ih =>
    intro n acc h0 h1 h2 ha
    have hq : ((128 ^ (d + 1 + 1) : Nat) : Int) = ((128 ^ (d + 1) : Nat) : Int) * 128 := by rw [Nat.pow_succ]; simp
    rw [hq] at h1
    refine ev_shift ?_
    by_cases hn : n ≥ 128
    · have e2 : Go.bits .or .u8 ((Go.bits .and .i64 n 127) % 256) 128 = 128 + n % 128 := by
        rw [bits_and_i64_127 n h0 (by omega), show n % 128 % 256 = n % 128 by omega, bits_or_u8_128 _ (by omega) (by omega)]
      have := ih (n / 128) (acc ++ [128 + n % 128]) (by omega) (by omega) (by omega) (by simp; omega)
      simp only [impl_EncodeVarint.l0, if_pos (show n > 127 by omega), if_pos (show acc.length < 140737488355328 by omega), e2, varD, if_pos hn]
      simpa using this
    · simp only [impl_EncodeVarint.l0, if_neg (show ¬ (n > 127) by omega), if_pos (show acc.length < 140737488355328 by omega), varD, if_neg hn, show n % 256 = n by omega]
      exact Ev.now _
theorem impl_EncodeVarint.ev (n : Int) : Ev (fun k => impl_EncodeVarint.f k n) (strOfNums (encVar n)) := by
  simp only [impl_EncodeVarint.f, impl_within.val, Option.bind_some, encVar]
  by_cases h : 0 ≤ n ∧ n ≤ 562949953421311
  · simp only [decide_eq_true h, if_true, if_pos h]
    simpa using impl_EncodeVarint.loop 6 n [] h.1 (by simp; omega) (by omega) (by simp)
  · simp only [decide_eq_false h, Bool.false_eq_true, if_false, if_neg h]
    exact Ev.now _

theorem FnExactEncodeVarint : laws_FnExactEncodeVarint.Pure := by
  intro n hn
  refine Ev.rounds (g := fun k => laws_FnExactEncodeVarint.f k n) ?_
  simp only [laws_FnExactEncodeVarint.f]
  refine Ev.bind (spec_EncodeVarint.ev n) ?_
  refine Ev.bind (impl_EncodeVarint.ev n) ?_
  exact ev_val (fun _ => by simp)

end Go.Proofs.Ytcnfpepnjjijlaa.Pure
