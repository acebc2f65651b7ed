/- For every string the law FnExactDecodeVarint returns true; no conditions. -/
import Derived.Test.YtcnfpepnjjijlaaPFnExactDecodeVarintx1
set_option linter.unusedVariables false
set_option linter.unusedSimpArgs false
namespace Go.Proofs.Ytcnfpepnjjijlaa.Pure
open Go.RowKit Go.Proofs.Ytcnfpepnjjijlaa.PFnExactDecodeVarint Go.Proofs.YtcnfpepnjjijlaaW.PrintWords Go.Proofs.YtcnfpepnjjijlaaW.PrintLast

/- Common lemmas: rounds (Ev), 64-bit numbers, lists of numbers, bytes. -/

theorem w64 {x : Int} (h0 : -9223372036854775808 ≤ x) (h1 : x ≤ 9223372036854775807) : wrap64 x = x := by unfold wrap64; omega
theorem ev_shift {α : Type} {g : Nat → Option α} {r : α} (h : Ev (fun k => g (k + 1)) r) : Ev g r := Ev.step (fun _ => rfl) h
theorem ev_val {α : Type} {g : Nat → Option α} {r : α} (h : ∀ k, g k = some r) : Ev g r := ⟨0, fun k _ => h k⟩
theorem ev_eq {α : Type} {g : Nat → Option α} {r r' : α} (h : Ev g r) (e : r = r') : Ev g r' := e ▸ h
theorem ev_to {α : Type} {g f : Nat → Option α} {r : α} (h : ∃ K, ∀ k, K ≤ k → g k = f k) (k : Ev f r) : Ev g r := by
  obtain ⟨K, h⟩ := h
  obtain ⟨K', k⟩ := k
  exact ⟨max K K', fun n hn => (h n (by omega)).trans (k n (by omega))⟩
theorem ev_some {α : Type} {r r' : α} (e : r = r') : Ev (fun _ => some r) r' := e ▸ Ev.now _
/-- A loop over an index that answers 'do all from here on'. -/
theorem all_loop (l : Nat → Int → Option Bool) (P : Nat → Prop) (n : Nat) (hstop : ∀ k, l (k + 1) (n : Int) = some true)
    (hstep : ∀ i : Nat, i < n → (P i ∧ ∃ K, ∀ k, K ≤ k → l (k + 1) (i : Int) = l k ((i : Int) + 1)) ∨ (¬ P i ∧ ∃ K, ∀ k, K ≤ k → l (k + 1) (i : Int) = some false)) :
    ∀ d i : Nat, i + d = n → ∃ b, Ev (fun k => l k (i : Int)) b ∧ (b = true ↔ ∀ j, i ≤ j → j < n → P j) := by
  intro d
  induction d with
  | zero =>
    intro i h
    obtain rfl : i = n := by omega
    exact ⟨true, ev_shift (ev_val hstop), by simp; intro j h1 h2; omega⟩
  | succ d ih =>
    intro i h
    rcases hstep i (by omega) with ⟨hp, hl⟩ | ⟨hp, hl⟩
    · obtain ⟨b, hb, hq⟩ := ih (i + 1) (by omega)
      refine ⟨b, ev_shift (ev_to hl ?_), ?_⟩
      · simpa using hb
      · rw [hq]
        constructor
        · intro h' j h1 h2
          rcases Nat.eq_or_lt_of_le h1 with rfl | h3
          · exact hp
          · exact h' j h3 h2
        · intro h' j h1 h2
          exact h' j (by omega) h2
    · refine ⟨false, ev_shift (ev_to hl (Ev.now _)), ?_⟩
      constructor
      · intro h'; cases h'
      · intro h'; exact absurd (h' i (Nat.le_refl _) (by omega)) hp
/-- A loop in general: a state, a measure, what it comes to. -/
theorem loop_val {σ ρ : Type} (l : Nat → σ → Option ρ) (Inv : σ → Prop) (m : σ → Nat) (F : σ → ρ)
    (h : ∀ s, Inv s → (∃ K, ∀ k, K ≤ k → l (k + 1) s = some (F s)) ∨ (∃ s', Inv s' ∧ m s' < m s ∧ F s' = F s ∧ ∃ K, ∀ k, K ≤ k → l (k + 1) s = l k s')) :
    ∀ s, Inv s → Ev (fun k => l k s) (F s) := by
  have key : ∀ n s, m s ≤ n → Inv s → Ev (fun k => l k s) (F s) := by
    intro n
    induction n with
    | zero =>
      intro s hm hi
      rcases h s hi with hl | ⟨s', _, hlt, _⟩
      · exact ev_shift (ev_to hl (Ev.now _))
      · omega
    | succ n ih =>
      intro s hm hi
      rcases h s hi with hl | ⟨s', hi', hlt, hF, hl⟩
      · exact ev_shift (ev_to hl (Ev.now _))
      · exact ev_shift (ev_to hl (ev_eq (ih s' (by omega) hi') hF))
  exact fun s hi => key (m s) s (Nat.le_refl _) hi
theorem rd_nat (xs : List Int) (i : Nat) : rd xs (i : Int) = xs.getD i 0 := by simp [rd]
theorem rd_get (xs : List Int) (i : Nat) (h : i < xs.length) : rd xs (i : Int) = xs[i] := by simp [rd, h]
theorem drop_cons_rd (xs : List Int) (i : Nat) (h : i < xs.length) : xs.drop i = rd xs (i : Int) :: xs.drop (i + 1) := by
  rw [rd_get xs i h]; exact List.drop_eq_getElem_cons h
theorem bytes_cons (s : ByteArray) (i : Nat) (h : i < s.size) : (bytesOf s).drop i = bt s (i : Int) :: (bytesOf s).drop (i + 1) := by
  rw [← rd_bytesOf]; exact drop_cons_rd _ _ (by rw [bytesOf_length]; exact h)
theorem bytes_end (s : ByteArray) (i : Nat) (h : s.size ≤ i) : (bytesOf s).drop i = [] := List.drop_eq_nil_of_le (by rw [bytesOf_length]; exact h)
theorem bytes_range (s : ByteArray) : ∀ b ∈ bytesOf s, 0 ≤ b ∧ b ≤ 255 := by
  intro b hb
  unfold bytesOf at hb
  obtain ⟨c, _, rfl⟩ := List.mem_map.1 hb
  have := c.toNat_lt
  omega
theorem strOfNums_bytesOf (s : ByteArray) : strOfNums (bytesOf s) = s := by
  apply ByteArray.ext
  apply Array.ext'
  rw [strOfNums_data, bytesOf, List.map_map]
  conv => rhs; rw [← List.map_id s.data.toList]
  apply List.map_congr_left
  intro c _
  simp
theorem bytesOf_strOfNums (l : List Int) (h : ∀ b ∈ l, 0 ≤ b ∧ b ≤ 255) : bytesOf (strOfNums l) = l := by
  rw [bytesOf, strOfNums_data, List.map_map]
  conv => rhs; rw [← List.map_id l]
  apply List.map_congr_left
  intro b hb
  have := h b hb
  simp only [Function.comp_apply, id]
  rw [UInt8.toNat_ofNat_of_lt' (by simp [UInt8.size]; omega)]
  omega
theorem tmod_pos (a : Int) (b : Int) (h : 0 ≤ a) : Int.tmod a b = a % b := Int.tmod_eq_emod_of_nonneg h
theorem tdiv_pos (a : Int) (b : Int) (h : 0 ≤ a) : Int.tdiv a b = a / b := Int.tdiv_eq_ediv_of_nonneg h
theorem toList_data (s : ByteArray) : s.toList = s.data.toList := ByteArray.toList_eq s
theorem wf_i64 {n : Int} (h : (Lit.int .i64 n).wf = true) : -9223372036854775808 ≤ n ∧ n ≤ 9223372036854775807 := by
  simp [Lit.wf, IntKind.min, IntKind.max, IntKind.signed, IntKind.bits] at h
  omega
theorem bytesOf_congr {a b : ByteArray} (h : a.toList = b.toList) : bytesOf a = bytesOf b := by
  rw [toList_data, toList_data] at h
  unfold bytesOf
  rw [h]
theorem bytesOf_inj {a b : ByteArray} (h : bytesOf a = bytesOf b) : a = b := by rw [← strOfNums_bytesOf a, h, strOfNums_bytesOf]

theorem spec_l1In.val (a b c : Int) : spec_l1In.f a b c = some (decide (b ≤ a ∧ a ≤ c)) := by
  unfold spec_l1In.f
  by_cases h : b ≤ a <;> simp [h]

/-- A number of some bytes, the greatest first. -/
def fixVal (l : List Int) (n : Int) : Int := l.foldl (fun n b => n * 256 + b) n
def decFixed (l : List Int) (w : Int) : Int × Bool := if (1 ≤ w ∧ w ≤ 7) ∧ w ≤ (l.length : Int) then (fixVal (l.take w.toNat) 0, true) else (0, false)
/-- The bytes of a number, the greatest first. -/
def fixD : Nat → Int → List Int
  | 0, _ => []
  | d + 1, n => fixD d (n / 256) ++ [n % 256]
/-- What these bytes leave. -/
def hiPart : Nat → Int → Int
  | 0, n => n
  | d + 1, n => hiPart d (n / 256)
def encFixed (n w : Int) : List Int := if (1 ≤ w ∧ w ≤ 7) ∧ 0 ≤ n ∧ hiPart w.toNat n = 0 then fixD w.toNat n else []
theorem hiPart_nonneg (d : Nat) : ∀ n, 0 ≤ n → 0 ≤ hiPart d n := by
  induction d with
  | zero => intro n h; exact h
  | succ d ih => intro n h; exact ih _ (by omega)
theorem fixD_length (d : Nat) : ∀ n, (fixD d n).length = d := by
  induction d with
  | zero => intro n; rfl
  | succ d ih => intro n; simp [fixD, ih]
theorem fixD_range (d : Nat) : ∀ n, ∀ b ∈ fixD d n, 0 ≤ b ∧ b ≤ 255 := by
  induction d with
  | zero => intro n b hb; cases hb
  | succ d ih =>
    intro n b hb
    simp only [fixD, List.mem_append, List.mem_singleton] at hb
    rcases hb with hb | rfl
    · exact ih _ b hb
    · omega
theorem strOfNums_append (a b : List Int) : strOfNums (a ++ b) = strOfNums a ++ strOfNums b := by
  apply ByteArray.ext
  apply Array.ext'
  simp [strOfNums]
theorem strOfNums_nil : strOfNums [] = (⟨#[]⟩ : ByteArray) := rfl
theorem wraps_i64 (n : Int) (h₀ : 0 ≤ n) (h₁ : n < 2 ^ 63) : IntKind.i64.wrap n = n := by rw [IntKind.wrap_i64]; omega
theorem pow256_le (i : Nat) (h : i ≤ 6) : ((256 ^ i : Nat) : Int) ≤ 281474976710656 := by
  have : 256 ^ i ≤ 256 ^ 6 := Nat.pow_le_pow_right (by decide) h
  omega
/-- What a loop over the bytes of a number leaves. -/
def encRes (d : Nat) (n : Int) (out : ByteArray) : ByteArray := if hiPart d n = 0 then strOfNums (fixD d n) ++ out else ⟨#[]⟩
theorem encRes_zero (n : Int) (out : ByteArray) : encRes 0 n out = if n = 0 then out else ⟨#[]⟩ := by
  show (if n = 0 then strOfNums [] ++ out else ⟨#[]⟩) = _
  rw [strOfNums_nil]
  have : (⟨#[]⟩ : ByteArray) ++ out = out := by apply ByteArray.ext; simp
  rw [this]
theorem encRes_succ (d : Nat) (n : Int) (out : ByteArray) : encRes (d + 1) n out = encRes d (n / 256) (strOfNums [n % 256] ++ out) := by
  show (if hiPart d (n / 256) = 0 then strOfNums (fixD d (n / 256) ++ [n % 256]) ++ out else ⟨#[]⟩) = if hiPart d (n / 256) = 0 then strOfNums (fixD d (n / 256)) ++ (strOfNums [n % 256] ++ out) else ⟨#[]⟩
  rw [strOfNums_append, ByteArray.append_assoc]

/-- The bytes of a number, seven bits each, the least first. -/
def varD : Nat → Int → List Int
  | 0, n => [n]
  | d + 1, n => if n ≥ 128 then (128 + n % 128) :: varD d (n / 128) else [n]
def encVar (n : Int) : List Int := if 0 ≤ n ∧ n ≤ 562949953421311 then varD 6 n else []
theorem varD_range (d : Nat) : ∀ n, 0 ≤ n → n < ((128 ^ (d + 1) : Nat) : Int) → ∀ b ∈ varD d n, 0 ≤ b ∧ b ≤ 255 := by
  induction d with
  | zero => intro n h0 h1 b hb; simp [varD] at hb; subst hb; simp at h1; omega
  | succ d ih =>
    intro n h0 h1 b hb
    have hq : ((128 ^ (d + 1 + 1) : Nat) : Int) = ((128 ^ (d + 1) : Nat) : Int) * 128 := by rw [Nat.pow_succ]; simp
    rw [hq] at h1
    unfold varD at hb
    split at hb
    · simp only [List.mem_cons] at hb
      rcases hb with rfl | hb
      · omega
      · exact ih _ (by omega) (by omega) b hb
    · simp only [List.mem_singleton] at hb; subst hb; omega
theorem encVar_range (n : Int) : ∀ b ∈ encVar n, 0 ≤ b ∧ b ≤ 255 := by
  intro b hb
  unfold encVar at hb
  split at hb
  · rename_i h
    exact varD_range 6 n h.1 (by simp; omega) b hb
  · cases hb
theorem bits_or_comm (k : IntKind) (a b : Int) : Go.bits .or k a b = Go.bits .or k b a := by simp only [Go.bits, BitVec.or_comm]
theorem bits_and_i64_127 (n : Int) (h0 : 0 ≤ n) (h1 : n < 2 ^ 63) : Go.bits .and .i64 n 127 = n % 128 := bits_mask .i64 63 (by decide) wraps_i64 7 (by decide) n h0 h1
theorem bits_and_u8_127 (n : Int) (h0 : 0 ≤ n) (h1 : n < 256) : Go.bits .and .u8 n 127 = n % 128 := bits_mask .u8 8 (by decide) wraps_u8 7 (by decide) n h0 h1
theorem bits_or_u8_128 (n : Int) (h0 : 0 ≤ n) (h1 : n < 128) : Go.bits .or .u8 n 128 = 128 + n := by
  rw [bits_or_comm]
  exact bits_join .u8 8 (by decide) wraps_u8 7 128 n (by decide) (by decide) (by decide) h0 h1 (by omega)

theorem spec_EncodeVarint.loop : ∀ (d : Nat) (n : Int) (acc : List Int), 0 ≤ n → n < ((128 ^ (d + 1) : Nat) : Int) → n ≤ 9223372036854775807 → acc.length + d < 140737488355328 →
    Ev (fun k => spec_EncodeVarint.l0 k n acc) (strOfNums (acc ++ varD d n)) := by
  intro d
  induction d with
  | zero =>
    intro n acc h0 h1 h2 ha
    simp at h1
    refine ev_shift ?_
    simp only [spec_EncodeVarint.l0, if_neg (show ¬ (n ≥ 128) by omega), if_pos (show acc.length < 140737488355328 by omega), varD, show n % 256 = n by omega]
    exact Ev.now _
  | succ d ih =>
    intro n acc h0 h1 h2 ha
    have hq : ((128 ^ (d + 1 + 1) : Nat) : Int) = ((128 ^ (d + 1) : Nat) : Int) * 128 := by rw [Nat.pow_succ]; simp
    rw [hq] at h1
    refine ev_shift ?_
    by_cases hn : n ≥ 128
    · have e1 : wrap64 (Int.tdiv n 128) = n / 128 := by rw [tdiv_pos _ _ h0, w64 (by omega) (by omega)]
      have e2 : wrap64 (128 + Int.tmod n 128) % 256 = 128 + n % 128 := by rw [tmod_pos _ _ h0, w64 (by omega) (by omega)]; omega
      have := ih (n / 128) (acc ++ [128 + n % 128]) (by omega) (by omega) (by omega) (by simp; omega)
      simp only [spec_EncodeVarint.l0, if_pos hn, if_pos (show acc.length < 140737488355328 by omega), e1, e2, varD]
      simpa using this
    · simp only [spec_EncodeVarint.l0, if_neg hn, if_pos (show acc.length < 140737488355328 by omega), varD, show n % 256 = n by omega]
      exact Ev.now _
theorem spec_EncodeVarint.ev (n : Int) : Ev (fun k => spec_EncodeVarint.f k n) (strOfNums (encVar n)) := by
  simp only [spec_EncodeVarint.f, spec_l1In.val, Option.bind_some, encVar]
  by_cases h : 0 ≤ n ∧ n ≤ 562949953421311
  · simp only [decide_eq_true h, if_true, if_pos h]
    simpa using spec_EncodeVarint.loop 6 n [] h.1 (by simp; omega) (by omega) (by simp)
  · simp only [decide_eq_false h, Bool.false_eq_true, if_false, if_neg h]
    exact Ev.now _

/-- The value of some bytes, seven bits each, the least first. -/
def valL : List Int → Int
  | [] => 0
  | b :: l => b % 128 + 128 * valL l
/-- Are these the bytes of a number? -/
def canL : List Int → Prop
  | [] => False
  | [b] => b < 128
  | b :: c :: l => b ≥ 128 ∧ canL (c :: l) ∧ valL (c :: l) ≠ 0
/-- A byte ahead of a number. -/
def dvStep (b : Int) : Option (Int × Nat) → Option (Int × Nat)
  | none => none
  | some p => if p.1 = 0 then none else some (b % 128 + 128 * p.1, p.2 + 1)
/-- The number at the head of some bytes, and how many bytes it takes. -/
def dv : Nat → List Int → Option (Int × Nat)
  | 0, _ => none
  | _ + 1, [] => none
  | f + 1, b :: l => if b < 128 then some (b, 1) else dvStep b (dv f l)
theorem dv_cons (f : Nat) (b : Int) (l : List Int) : dv (f + 1) (b :: l) = if b < 128 then some (b, 1) else dvStep b (dv f l) := rfl
theorem valL_nonneg : ∀ l : List Int, 0 ≤ valL l
  | [] => by simp [valL]
  | b :: l => by have := valL_nonneg l; simp only [valL]; omega
theorem valL_lt : ∀ l : List Int, valL l < ((128 ^ l.length : Nat) : Int)
  | [] => by simp [valL]
  | b :: l => by
    have := valL_lt l
    have hq : ((128 ^ (l.length + 1) : Nat) : Int) = ((128 ^ l.length : Nat) : Int) * 128 := by rw [Nat.pow_succ]; simp
    simp only [valL, List.length_cons, hq]; omega
theorem varD_canL : ∀ (l : List Int) (f : Nat), (∀ b ∈ l, 0 ≤ b ∧ b ≤ 255) → l ≠ [] → l.length ≤ f + 1 → (varD f (valL l) = l ↔ canL l)
  | [], _, _, h, _ => absurd rfl h
  | [b], f, hr, _, _ => by
    have hb := hr b (by simp)
    have hv : valL [b] = b % 128 := by simp [valL]
    have : varD f (b % 128) = [b % 128] := by
      cases f with
      | zero => rfl
      | succ f => simp only [varD]; rw [if_neg (by omega)]
    rw [hv, this]
    simp only [canL, List.cons.injEq, and_true]
    omega
  | b :: c :: l, f, hr, _, hf => by
    have hb := hr b (by simp)
    obtain ⟨f, rfl⟩ : ∃ g, f = g + 1 := ⟨f - 1, by simp at hf; omega⟩
    have ih := varD_canL (c :: l) f (fun x hx => hr x (List.mem_cons_of_mem _ hx)) (by simp) (by simp at hf ⊢; omega)
    have hn := valL_nonneg (c :: l)
    have hv : valL (b :: c :: l) = b % 128 + 128 * valL (c :: l) := rfl
    rw [hv]
    simp only [canL]
    by_cases hz : valL (c :: l) = 0
    · rw [hz]
      simp only [varD]
      rw [if_neg (by omega)]
      simp
    · simp only [varD]
      rw [if_pos (by omega), show (b % 128 + 128 * valL (c :: l)) / 128 = valL (c :: l) by omega, show (b % 128 + 128 * valL (c :: l)) % 128 = b % 128 by omega]
      rw [List.cons.injEq, ih]
      constructor
      · intro h; exact ⟨by omega, h.2, hz⟩
      · intro h; exact ⟨by omega, h.2.1⟩
theorem dv_of_canL : ∀ (kk f : Nat) (l : List Int), (∀ b ∈ l, 0 ≤ b ∧ b ≤ 255) → 1 ≤ kk → kk ≤ f → kk ≤ l.length → canL (l.take kk) → dv f l = some (valL (l.take kk), kk)
  | 0, _, _, _, h, _, _, _ => by omega
  | _ + 1, 0, _, _, _, h, _, _ => by omega
  | _ + 1, _ + 1, [], _, _, _, h, _ => by simp at h
  | 1, f + 1, b :: l, hr, _, _, _, hc => by
    have hb := hr b (by simp)
    simp [canL] at hc
    simp only [dv, if_pos hc]
    simp [valL]; omega
  | kk + 2, f + 1, b :: l, hr, _, hf, hl, hc => by
    have hb := hr b (by simp)
    have ht : (b :: l).take (kk + 2) = b :: l.take (kk + 1) := rfl
    rw [ht] at hc ⊢
    obtain ⟨c, l', e⟩ : ∃ c l', l.take (kk + 1) = c :: l' := by
      cases l with
      | nil => simp at hl
      | cons c l => exact ⟨c, l.take kk, rfl⟩
    rw [e] at hc
    simp only [canL] at hc
    rw [← e] at hc
    have ih := dv_of_canL (kk + 1) f l (fun x hx => hr x (by simp [hx])) (by omega) (by omega) (by simp at hl; omega) hc.2.1
    rw [dv_cons, if_neg (by omega), ih]
    simp only [dvStep, if_neg hc.2.2, valL]
theorem canL_of_dv : ∀ (f : Nat) (l : List Int) (v : Int) (m : Nat), (∀ b ∈ l, 0 ≤ b ∧ b ≤ 255) → dv f l = some (v, m) → 1 ≤ m ∧ m ≤ f ∧ m ≤ l.length ∧ v = valL (l.take m) ∧ canL (l.take m)
  | 0, _, _, _, _, h => by simp [dv] at h
  | _ + 1, [], _, _, _, h => by simp [dv] at h
  | f + 1, b :: l, v, m, hr, h => by
    have hb := hr b (by simp)
    rw [dv_cons] at h
    by_cases hb1 : b < 128
    · rw [if_pos hb1] at h
      simp only [Option.some.injEq, Prod.mk.injEq] at h
      obtain ⟨rfl, rfl⟩ := h
      refine ⟨by omega, by omega, by simp, ?_, ?_⟩
      · simp [valL]; omega
      · simpa [canL] using hb1
    · rw [if_neg hb1] at h
      cases he : dv f l with
      | none => rw [he] at h; simp [dvStep] at h
      | some p =>
        obtain ⟨v', m'⟩ := p
        rw [he] at h
        simp only [dvStep] at h
        by_cases hv : v' = 0
        · rw [if_pos hv] at h; cases h
        · rw [if_neg hv] at h
          simp only [Option.some.injEq, Prod.mk.injEq] at h
          obtain ⟨rfl, rfl⟩ := h
          obtain ⟨h1, h2, h3, h4, h5⟩ := canL_of_dv f l v' m' (fun x hx => hr x (by simp [hx])) he
          obtain ⟨c, l', e⟩ : ∃ c l', l.take m' = c :: l' := by
            cases l with
            | nil => simp at h3; omega
            | cons c l =>
              obtain ⟨q, rfl⟩ : ∃ q, m' = q + 1 := ⟨m' - 1, by omega⟩
              exact ⟨c, l.take q, rfl⟩
          have ht : (b :: l).take (m' + 1) = b :: l.take m' := rfl
          refine ⟨by omega, by omega, by simp; omega, ?_, ?_⟩
          · rw [ht]; simp only [valL]; rw [← h4]
          · rw [ht, e]
            simp only [canL]
            rw [← e]
            exact ⟨by omega, h5, by rw [← h4]; exact hv⟩
/-- What a decoder answers. -/
def decOut : Option (Int × Nat) → Int × Int
  | none => (0, 0)
  | some p => (p.1, (p.2 : Int))
def decVar (l : List Int) : Int × Int := decOut (dv 7 l)

theorem spec_DecodeVarint.inner (s : ByteArray) (kk : Nat) (h1 : 1 ≤ kk) (h7 : kk ≤ 7) (hs : kk ≤ s.size) (R : Int × Int)
    (hyes : canL ((bytesOf s).take kk) → R = (valL ((bytesOf s).take kk), (kk : Int))) (hno : ¬ canL ((bytesOf s).take kk) → Ev (fun k => spec_DecodeVarint.l0 k s ((kk + 1 : Nat) : Int)) R) :
    ∀ (d : Nat), d ≤ kk → Ev (fun k => spec_DecodeVarint.l1 k s (kk : Int) (valL (((bytesOf s).take kk).drop d)) ((d : Int) - 1)) R := by
  have hlt : ∀ d, d ≤ kk → valL (((bytesOf s).take kk).drop d) < ((128 ^ (kk - d) : Nat) : Int) := by
    intro d hd
    have := valL_lt (((bytesOf s).take kk).drop d)
    rwa [List.length_drop, List.length_take, bytesOf_length, Nat.min_eq_left hs] at this
  have hbig : ∀ d, d ≤ kk → 1 ≤ d → valL (((bytesOf s).take kk).drop d) < 4398046511104 := by
    intro d hd h
    have := hlt d hd
    have h2 : 128 ^ (kk - d) ≤ 128 ^ 6 := Nat.pow_le_pow_right (by decide) (by omega)
    omega
  intro d
  induction d with
  | zero =>
    intro hd
    have hv0 := valL_nonneg (((bytesOf s).take kk).drop 0)
    have hv1 := hlt 0 hd
    have h2 : 128 ^ (kk - 0) ≤ 128 ^ 7 := Nat.pow_le_pow_right (by decide) (by omega)
    rw [List.drop_zero] at *
    have hrange : ∀ b ∈ (bytesOf s).take kk, 0 ≤ b ∧ b ≤ 255 := fun b hb => bytes_range s b (List.mem_of_mem_take hb)
    have hne : (bytesOf s).take kk ≠ [] := by
      intro h
      have := congrArg List.length h
      rw [List.length_take, bytesOf_length] at this
      simp only [List.length_nil] at this
      omega
    have hcan := varD_canL ((bytesOf s).take kk) 6 hrange hne (by rw [List.length_take]; omega)
    have henc : encVar (valL ((bytesOf s).take kk)) = varD 6 (valL ((bytesOf s).take kk)) := by rw [encVar, if_pos ⟨hv0, by omega⟩]
    have hbx : bytesOf (s.extract 0 kk) = (bytesOf s).take kk := by
      simp [bytesOf, ByteArray.data_extract, List.map_take]
    have htest : (strOfNums (encVar (valL ((bytesOf s).take kk)))).toList = (s.extract 0 ((kk : Int)).toNat).toList ↔ canL ((bytesOf s).take kk) := by
      rw [← hcan, ← henc, Int.toNat_natCast]
      constructor
      · intro h
        have h' : bytesOf (strOfNums (encVar (valL ((bytesOf s).take kk)))) = bytesOf (s.extract 0 kk) := bytesOf_congr h
        rw [bytesOf_strOfNums _ (encVar_range _), hbx] at h'
        exact h'
      · intro h
        rw [h, ← hbx, strOfNums_bytesOf]
    refine ev_shift ?_
    simp only [spec_DecodeVarint.l1, if_neg (show ¬ (((0 : Nat) : Int) - 1 ≥ 0) by omega)]
    refine Ev.bind (spec_EncodeVarint.ev (valL ((bytesOf s).take kk))) ?_
    simp only [if_pos (show (0 : Int) ≤ (kk : Int) by omega), if_pos (show (kk : Int) ≤ (s.size : Int) by omega)]
    by_cases hc : canL ((bytesOf s).take kk)
    · simp only [if_pos (htest.2 hc)]
      exact ev_some (hyes hc).symm
    · simp only [if_neg (fun h => hc (htest.1 h)), show wrap64 ((kk : Int) + 1) = ((kk + 1 : Nat) : Int) by rw [w64 (by omega) (by omega)]; omega]
      exact hno hc
  | succ d ih =>
    intro hd
    have hv0 := valL_nonneg (((bytesOf s).take kk).drop (d + 1))
    have hv1 := hbig (d + 1) hd (by omega)
    have hb := bt_range s (d : Int)
    have e : ((bytesOf s).take kk).drop d = bt s (d : Int) :: ((bytesOf s).take kk).drop (d + 1) := by
      have hl : d < ((bytesOf s).take kk).length := by rw [List.length_take, bytesOf_length]; omega
      rw [drop_cons_rd _ d hl, rd_get _ d hl, List.getElem_take, ← rd_get (bytesOf s) d (by rw [bytesOf_length]; omega), rd_bytesOf]
    have e2 : wrap64 ((wrap64 (valL (((bytesOf s).take kk).drop (d + 1)) * 128)) + (Int.tmod (wrap64 (bt s (d : Int))) 128)) = valL (((bytesOf s).take kk).drop d) := by
      rw [w64 (x := bt s (d : Int)) (by omega) (by omega), tmod_pos _ _ hb.1, w64 (x := valL (((bytesOf s).take kk).drop (d + 1)) * 128) (by omega) (by omega), w64 (by omega) (by omega), e]
      simp only [valL]; omega
    refine ev_shift ?_
    simp only [spec_DecodeVarint.l1, show ((d + 1 : Nat) : Int) - 1 = (d : Int) by omega, if_pos (show (d : Int) ≥ 0 by omega), if_pos (show (0 : Int) ≤ (d : Int) by omega), if_pos (show (d : Int) < (s.size : Int) by omega), e2, w64 (show -9223372036854775808 ≤ (d : Int) - 1 by omega) (by omega)]
    exact ih (by omega)
theorem spec_DecodeVarint.ev (s : ByteArray) (hn : s.size ≤ 9223372036854775806) : Ev (fun k => spec_DecodeVarint.f k s) (decVar (bytesOf s)) := by
  have hr : ∀ b ∈ bytesOf s, 0 ≤ b ∧ b ≤ 255 := bytes_range s
  have hl := bytesOf_length s
  have key : ∀ (d kk : Nat), kk + d = 8 → 1 ≤ kk → (∀ q, 1 ≤ q → q < kk → q ≤ s.size → ¬ canL ((bytesOf s).take q)) → Ev (fun k => spec_DecodeVarint.l0 k s (kk : Int)) (decVar (bytesOf s)) := by
    intro d
    induction d with
    | zero =>
      intro kk h h1 hall
      refine ev_shift ?_
      simp only [spec_DecodeVarint.l0, if_neg (show ¬ ((kk : Int) ≤ 7) by omega)]
      refine ev_shift ?_
      simp only [spec_DecodeVarint.j1, Bool.false_eq_true, if_false]
      refine ev_some ?_
      rw [decVar]
      cases hd : dv 7 (bytesOf s) with
      | none => rfl
      | some p =>
        obtain ⟨v, m⟩ := p
        obtain ⟨a1, a2, a3, _, a5⟩ := canL_of_dv 7 _ v m hr hd
        exact absurd a5 (hall m a1 (by omega) (by omega))
    | succ d ih =>
      intro kk h h1 hall
      by_cases hs : kk ≤ s.size
      · have hin := spec_DecodeVarint.inner s kk h1 (by omega) hs (decVar (bytesOf s))
          (fun hc => by rw [decVar, dv_of_canL kk 7 _ hr h1 (by omega) (by omega) hc]; rfl)
          (fun hc => ih (kk + 1) (by omega) (by omega) (fun q q1 q2 q3 => by
            rcases Nat.lt_or_ge q kk with h2 | h2
            · exact hall q q1 h2 q3
            · obtain rfl : q = kk := by omega
              exact hc)) kk (Nat.le_refl _)
        rw [List.drop_eq_nil_of_le (show ((bytesOf s).take kk).length ≤ kk by rw [List.length_take]; omega)] at hin
        refine ev_shift ?_
        simp only [spec_DecodeVarint.l0, if_pos (show (kk : Int) ≤ 7 by omega), decide_eq_true (show (kk : Int) ≤ (s.size : Int) by omega)]
        refine ev_shift ?_
        simp only [spec_DecodeVarint.j1, if_true, w64 (show -9223372036854775808 ≤ (kk : Int) - 1 by omega) (by omega)]
        exact hin
      · refine ev_shift ?_
        simp only [spec_DecodeVarint.l0, if_pos (show (kk : Int) ≤ 7 by omega), decide_eq_false (show ¬ ((kk : Int) ≤ (s.size : Int)) by omega)]
        refine ev_shift ?_
        simp only [spec_DecodeVarint.j1, Bool.false_eq_true, if_false]
        refine ev_some ?_
        rw [decVar]
        cases hd : dv 7 (bytesOf s) with
        | none => rfl
        | some p =>
          obtain ⟨v, m⟩ := p
          obtain ⟨a1, a2, a3, _, a5⟩ := canL_of_dv 7 _ v m hr hd
          exact absurd a5 (hall m a1 (by omega) (by omega))
  have := key 7 1 (by omega) (by omega) (fun q q1 q2 => by omega)
  exact this

/-- What the loop answers from byte i on. -/
def decAt (i : Nat) (n : Int) : Option (Int × Nat) → Int × Int
  | none => (0, 0)
  | some p => if 0 < i ∧ p.1 = 0 then (0, 0) else (n + p.1 * ((128 ^ i : Nat) : Int), (i : Int) + (p.2 : Int))
theorem pow128 (i : Nat) : ((128 ^ (i + 1) : Nat) : Int) = ((128 ^ i : Nat) : Int) * 128 := by rw [Nat.pow_succ]; simp
theorem shl7 (b : Int) (i : Nat) (hi : i ≤ 6) (h0 : 0 ≤ b) (h1 : b < 128) : shl .i64 b (7 * (i : Int)) = b * ((128 ^ i : Nat) : Int) := by
  unfold shl
  have : i = 0 ∨ i = 1 ∨ i = 2 ∨ i = 3 ∨ i = 4 ∨ i = 5 ∨ i = 6 := by omega
  rcases this with rfl | rfl | rfl | rfl | rfl | rfl | rfl <;> simp [IntKind.bits] <;> (rw [wraps_i64] <;> omega)
theorem or_high (n b : Int) (i : Nat) (hi : i ≤ 6) (h0 : 0 ≤ n) (h1 : n < ((128 ^ i : Nat) : Int)) (hb0 : 0 ≤ b) (hb1 : b < 128) : Go.bits .or .i64 n (b * ((128 ^ i : Nat) : Int)) = n + b * ((128 ^ i : Nat) : Int) := by
  rw [bits_or_comm]
  have : i = 0 ∨ i = 1 ∨ i = 2 ∨ i = 3 ∨ i = 4 ∨ i = 5 ∨ i = 6 := by omega
  rcases this with rfl | rfl | rfl | rfl | rfl | rfl | rfl
  · simp at h1 ⊢
    obtain rfl : n = 0 := by omega
    have := bits_join .i64 63 (by decide) wraps_i64 0 b 0 hb0 (by omega) (by omega) (by omega) (by omega) (by omega)
    simpa using this
  · have := bits_join .i64 63 (by decide) wraps_i64 7 (b * 128) n (by omega) (by omega) (by omega) h0 (by simp at h1; omega) (by simp at h1; omega)
    simp at this ⊢; omega
  · have := bits_join .i64 63 (by decide) wraps_i64 14 (b * 16384) n (by omega) (by omega) (by omega) h0 (by simp at h1; omega) (by simp at h1; omega)
    simp at this ⊢; omega
  · have := bits_join .i64 63 (by decide) wraps_i64 21 (b * 2097152) n (by omega) (by omega) (by omega) h0 (by simp at h1; omega) (by simp at h1; omega)
    simp at this ⊢; omega
  · have := bits_join .i64 63 (by decide) wraps_i64 28 (b * 268435456) n (by omega) (by omega) (by omega) h0 (by simp at h1; omega) (by simp at h1; omega)
    simp at this ⊢; omega
  · have := bits_join .i64 63 (by decide) wraps_i64 35 (b * 34359738368) n (by omega) (by omega) (by omega) h0 (by simp at h1; omega) (by simp at h1; omega)
    simp at this ⊢; omega
  · have := bits_join .i64 63 (by decide) wraps_i64 42 (b * 4398046511104) n (by omega) (by omega) (by omega) h0 (by simp at h1; omega) (by simp at h1; omega)
    simp at this ⊢; omega
theorem or_step (s : ByteArray) (i : Nat) (n : Int) (hi : i ≤ 6) (h0 : 0 ≤ n) (h1 : n < ((128 ^ i : Nat) : Int)) :
    Go.bits .or .i64 n (shl .i64 (wrap64 (Go.bits .and .u8 (bt s (i : Int)) 127)) (7 * (i : Int))) = n + (bt s (i : Int) % 128) * ((128 ^ i : Nat) : Int) := by
  have hb := bt_range s (i : Int)
  have q0 : 0 ≤ bt s (i : Int) % 128 := by omega
  have q1 : bt s (i : Int) % 128 < 128 := by omega
  rw [bits_and_u8_127 _ hb.1 (by omega), w64 (x := bt s (i : Int) % 128) (by omega) (by omega), shl7 _ i hi q0 q1, or_high n _ i hi h0 h1 q0 q1]
theorem impl_DecodeVarint.loop (s : ByteArray) (m : Nat) (hm : m ≤ 7) (hs : m ≤ s.size) (hm' : m = 7 ∨ m = s.size) : ∀ (d i : Nat) (n : Int), i + d = m → 0 ≤ n → n < ((128 ^ i : Nat) : Int) →
    Ev (fun k => impl_DecodeVarint.l0 k s n (m : Int) (i : Int)) (decAt i n (dv (7 - i) ((bytesOf s).drop i))) := by
  intro d
  induction d with
  | zero =>
    intro i n h h0 h1
    refine ev_shift ?_
    simp only [impl_DecodeVarint.l0, if_neg (show ¬ ((i : Int) < (m : Int)) by omega)]
    refine ev_some ?_
    rcases hm' with rfl | rfl
    · rw [show 7 - i = 0 by omega]; rfl
    · rw [bytes_end s i (by omega)]
      cases 7 - i <;> rfl
  | succ d ih =>
    intro i n h h0 h1
    have hb := bt_range s (i : Int)
    have hp : ((128 ^ i : Nat) : Int) ≤ 4398046511104 := by
      have : 128 ^ i ≤ 128 ^ 6 := Nat.pow_le_pow_right (by decide) (by omega)
      omega
    have hpp : 0 < ((128 ^ i : Nat) : Int) := by have := Nat.pow_pos (n := i) (show 0 < 128 by decide); omega
    have hq := pow128 i
    have e3 := Aside0.mk (or_step s i n (by omega) h0 h1)
    have e1 := Aside0.mk (w64 (x := 7 * (i : Int)) (by omega) (by omega))
    have hm1 : (bt s (i : Int) % 128) * ((128 ^ i : Nat) : Int) ≤ 127 * ((128 ^ i : Nat) : Int) := Int.mul_le_mul_of_nonneg_right (by omega) (by omega)
    have hm0 : 0 ≤ (bt s (i : Int) % 128) * ((128 ^ i : Nat) : Int) := Int.mul_nonneg (by omega) (by omega)
    have e4 := Aside0.mk (show wrap64 ((i : Int) + 1) = ((i + 1 : Nat) : Int) by rw [w64 (by omega) (by omega)]; omega)
    have hdv : dv (7 - i) ((bytesOf s).drop i) = if bt s (i : Int) < 128 then some (bt s (i : Int), 1) else dvStep (bt s (i : Int)) (dv (7 - (i + 1)) ((bytesOf s).drop (i + 1))) := by
      rw [bytes_cons s i (by omega), show 7 - i = (7 - (i + 1)) + 1 by omega, dv_cons]
    rw [hdv]
    refine ev_shift ?_
    simp only [impl_DecodeVarint.l0, e3.out, e4.out, if_pos (show (i : Int) < (m : Int) by omega), if_pos (show (0 : Int) ≤ (i : Int) by omega), if_pos (show (i : Int) < (s.size : Int) by omega), e1.out, if_pos (show (0 : Int) ≤ 7 * (i : Int) by omega)]
    by_cases hlt : bt s (i : Int) < 128
    · rw [if_pos hlt]
      simp only [decAt]
      simp only [if_pos hlt, if_neg (show ¬ (n + bt s (i : Int) % 128 * ((128 ^ i : Nat) : Int) > 562949953421311) by omega)]
      by_cases hi : (i : Int) > 0
      · simp only [if_pos hi]
        by_cases hz : bt s (i : Int) = 0
        · rw [if_pos (show 0 < i ∧ bt s (i : Int) = 0 from ⟨by omega, hz⟩)]
          simp only [if_pos hz]
          exact Ev.now _
        · rw [if_neg (show ¬ (0 < i ∧ bt s (i : Int) = 0) from fun h => hz h.2)]
          simp only [if_neg hz]
          rw [show bt s (i : Int) % 128 = bt s (i : Int) by omega]
          exact Ev.now _
      · rw [if_neg (show ¬ (0 < i ∧ bt s (i : Int) = 0) from fun h => hi (by omega))]
        simp only [if_neg hi]
        rw [show bt s (i : Int) % 128 = bt s (i : Int) by omega]
        exact Ev.now _
    · rw [if_neg hlt]
      simp only [if_neg hlt]
      refine ev_eq (ih (i + 1) _ (by omega) (by omega) (by rw [hq]; omega)) ?_
      cases hd : dv (7 - (i + 1)) ((bytesOf s).drop (i + 1)) with
      | none => rfl
      | some p =>
        obtain ⟨v, q⟩ := p
        have hv0 : 0 ≤ v := by
          rw [(canL_of_dv _ _ v q (fun x hx => bytes_range s x (List.mem_of_mem_drop hx)) hd).2.2.2.1]
          exact valL_nonneg _
        simp only [dvStep]
        by_cases hv : v = 0
        · rw [if_pos hv]
          simp only [decAt]
          rw [if_pos (show 0 < i + 1 ∧ v = 0 from ⟨by omega, hv⟩)]
        · rw [if_neg hv]
          simp only [decAt]
          rw [if_neg (show ¬ (0 < i + 1 ∧ v = 0) from fun h => hv h.2), if_neg (show ¬ (0 < i ∧ bt s (i : Int) % 128 + 128 * v = 0) from fun h => by omega), hq]
          have e : 128 * v * ((128 ^ i : Nat) : Int) = v * (((128 ^ i : Nat) : Int) * 128) := by
            rw [Int.mul_comm 128 v, Int.mul_assoc, Int.mul_comm 128]
          refine Prod.ext ?_ ?_
          · simp only [Int.add_mul, e]; omega
          · simp only; omega
theorem impl_DecodeVarint.ev (s : ByteArray) (hn : s.size ≤ 9223372036854775806) : Ev (fun k => impl_DecodeVarint.f k s) (decVar (bytesOf s)) := by
  have hdec : decAt 0 0 (dv (7 - 0) ((bytesOf s).drop 0)) = decVar (bytesOf s) := by
    rw [decVar, List.drop_zero, Nat.sub_zero]
    cases dv 7 (bytesOf s) with
    | none => rfl
    | some p => simp [decAt, decOut]
  by_cases h : s.size < 7
  · have := impl_DecodeVarint.loop s s.size (by omega) (Nat.le_refl _) (.inr rfl) s.size 0 0 (by omega) (by omega) (by simp)
    rw [hdec] at this
    refine Ev.congr (fun k => ?_) this
    simp only [impl_DecodeVarint.f, mn, if_neg (show ¬ ((7 : Int) < (s.size : Int)) by omega)]
    rfl
  · have := impl_DecodeVarint.loop s 7 (by omega) (by omega) (.inl rfl) 7 0 0 (by omega) (by omega) (by simp)
    rw [hdec] at this
    refine Ev.congr (fun k => ?_) this
    have e : mn (s.size : Int) 7 = ((7 : Nat) : Int) := by unfold mn; split <;> omega
    simp only [impl_DecodeVarint.f, e]
    rfl

theorem FnExactDecodeVarint : laws_FnExactDecodeVarint.Pure := by
  intro s hs
  refine Ev.rounds (g := fun k => laws_FnExactDecodeVarint.f k s) ?_
  by_cases hb : (s.size : Int) > 1048576
  · simp only [laws_FnExactDecodeVarint.f, if_pos hb]; exact Ev.now _
  · simp only [laws_FnExactDecodeVarint.f, if_neg hb]
    refine Ev.bind (spec_DecodeVarint.ev s (by omega)) ?_
    refine Ev.bind (impl_DecodeVarint.ev s (by omega)) ?_
    exact ev_val (fun _ => by simp)

end Go.Proofs.Ytcnfpepnjjijlaa.Pure
