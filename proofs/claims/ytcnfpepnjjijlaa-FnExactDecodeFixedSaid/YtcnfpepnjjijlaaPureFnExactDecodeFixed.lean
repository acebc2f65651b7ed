/- For every string and width the law FnExactDecodeFixed returns true; no conditions. -/
import Derived.Test.YtcnfpepnjjijlaaPFnExactDecodeFixedx1
set_option linter.unusedVariables false
set_option linter.unusedSimpArgs false
namespace Go.Proofs.Ytcnfpepnjjijlaa.Pure
open Go.RowKit Go.Proofs.Ytcnfpepnjjijlaa.PFnExactDecodeFixed Go.Proofs.YtcnfpepnjjijlaaW.PrintWords Go.Proofs.YtcnfpepnjjijlaaW.PrintLast

/- Common lemmas: rounds (Ev), 64-bit numbers, lists of numbers, bytes. -/

theorem w64 {x : Int} (h0 : -9223372036854775808 ≤ x) (h1 : x ≤ 9223372036854775807) : wrap64 x = x := by unfold wrap64; omega
theorem ev_shift {α : Type} {g : Nat → Option α} {r : α} (h : Ev (fun k => g (k + 1)) r) : Ev g r := Ev.step (fun _ => rfl) h
theorem ev_val {α : Type} {g : Nat → Option α} {r : α} (h : ∀ k, g k = some r) : Ev g r := ⟨0, fun k _ => h k⟩
theorem ev_eq {α : Type} {g : Nat → Option α} {r r' : α} (h : Ev g r) (e : r = r') : Ev g r' := e ▸ h
theorem ev_to {α : Type} {g f : Nat → Option α} {r : α} (h : ∃ K, ∀ k, K ≤ k → g k = f k) (k : Ev f r) : Ev g r := by
  obtain ⟨K, h⟩ := h
  obtain ⟨K', k⟩ := k
  exact ⟨max K K', fun n hn => (h n (by omega)).trans (k n (by omega))⟩
theorem ev_some {α : Type} {r r' : α} (e : r = r') : Ev (fun _ => some r) r' := e ▸ Ev.now _
/-- A loop over an index that answers 'do all from here on'. -/
theorem all_loop (l : Nat → Int → Option Bool) (P : Nat → Prop) (n : Nat) (hstop : ∀ k, l (k + 1) (n : Int) = some true)
    (hstep : ∀ i : Nat, i < n → (P i ∧ ∃ K, ∀ k, K ≤ k → l (k + 1) (i : Int) = l k ((i : Int) + 1)) ∨ (¬ P i ∧ ∃ K, ∀ k, K ≤ k → l (k + 1) (i : Int) = some false)) :
    ∀ d i : Nat, i + d = n → ∃ b, Ev (fun k => l k (i : Int)) b ∧ (b = true ↔ ∀ j, i ≤ j → j < n → P j) := by
  intro d
  induction d with
  | zero =>
    intro i h
    obtain rfl : i = n := by omega
    exact ⟨true, ev_shift (ev_val hstop), by simp; intro j h1 h2; omega⟩
  | succ d ih =>
    intro i h
    rcases hstep i (by omega) with ⟨hp, hl⟩ | ⟨hp, hl⟩
    · obtain ⟨b, hb, hq⟩ := ih (i + 1) (by omega)
      refine ⟨b, ev_shift (ev_to hl ?_), ?_⟩
      · simpa using hb
      · rw [hq]
        constructor
        · intro h' j h1 h2
          rcases Nat.eq_or_lt_of_le h1 with rfl | h3
          · exact hp
          · exact h' j h3 h2
        · intro h' j h1 h2
          exact h' j (by omega) h2
    · refine ⟨false, ev_shift (ev_to hl (Ev.now _)), ?_⟩
      constructor
      · intro h'; cases h'
      · intro h'; exact absurd (h' i (Nat.le_refl _) (by omega)) hp
/-- A loop in general: a state, a measure, what it comes to. -/
theorem loop_val {σ ρ : Type} (l : Nat → σ → Option ρ) (Inv : σ → Prop) (m : σ → Nat) (F : σ → ρ)
    (h : ∀ s, Inv s → (∃ K, ∀ k, K ≤ k → l (k + 1) s = some (F s)) ∨ (∃ s', Inv s' ∧ m s' < m s ∧ F s' = F s ∧ ∃ K, ∀ k, K ≤ k → l (k + 1) s = l k s')) :
    ∀ s, Inv s → Ev (fun k => l k s) (F s) := by
  have key : ∀ n s, m s ≤ n → Inv s → Ev (fun k => l k s) (F s) := by
    intro n
    induction n with
    | zero =>
      intro s hm hi
      rcases h s hi with hl | ⟨s', _, hlt, _⟩
      · exact ev_shift (ev_to hl (Ev.now _))
      · omega
    | succ n ih =>
      intro s hm hi
      rcases h s hi with hl | ⟨s', hi', hlt, hF, hl⟩
      · exact ev_shift (ev_to hl (Ev.now _))
      · exact ev_shift (ev_to hl (ev_eq (ih s' (by omega) hi') hF))
  exact fun s hi => key (m s) s (Nat.le_refl _) hi
theorem rd_nat (xs : List Int) (i : Nat) : rd xs (i : Int) = xs.getD i 0 := by simp [rd]
theorem rd_get (xs : List Int) (i : Nat) (h : i < xs.length) : rd xs (i : Int) = xs[i] := by simp [rd, h]
theorem drop_cons_rd (xs : List Int) (i : Nat) (h : i < xs.length) : xs.drop i = rd xs (i : Int) :: xs.drop (i + 1) := by
  rw [rd_get xs i h]; exact List.drop_eq_getElem_cons h
theorem bytes_cons (s : ByteArray) (i : Nat) (h : i < s.size) : (bytesOf s).drop i = bt s (i : Int) :: (bytesOf s).drop (i + 1) := by
  rw [← rd_bytesOf]; exact drop_cons_rd _ _ (by rw [bytesOf_length]; exact h)
theorem bytes_end (s : ByteArray) (i : Nat) (h : s.size ≤ i) : (bytesOf s).drop i = [] := List.drop_eq_nil_of_le (by rw [bytesOf_length]; exact h)
theorem bytes_range (s : ByteArray) : ∀ b ∈ bytesOf s, 0 ≤ b ∧ b ≤ 255 := by
  intro b hb
  unfold bytesOf at hb
  obtain ⟨c, _, rfl⟩ := List.mem_map.1 hb
  have := c.toNat_lt
  omega
theorem strOfNums_bytesOf (s : ByteArray) : strOfNums (bytesOf s) = s := by
  apply ByteArray.ext
  apply Array.ext'
  rw [strOfNums_data, bytesOf, List.map_map]
  conv => rhs; rw [← List.map_id s.data.toList]
  apply List.map_congr_left
  intro c _
  simp
theorem bytesOf_strOfNums (l : List Int) (h : ∀ b ∈ l, 0 ≤ b ∧ b ≤ 255) : bytesOf (strOfNums l) = l := by
  rw [bytesOf, strOfNums_data, List.map_map]
  conv => rhs; rw [← List.map_id l]
  apply List.map_congr_left
  intro b hb
  have := h b hb
  simp only [Function.comp_apply, id]
  rw [UInt8.toNat_ofNat_of_lt' (by simp [UInt8.size]; omega)]
  omega
theorem tmod_pos (a : Int) (b : Int) (h : 0 ≤ a) : Int.tmod a b = a % b := Int.tmod_eq_emod_of_nonneg h
theorem tdiv_pos (a : Int) (b : Int) (h : 0 ≤ a) : Int.tdiv a b = a / b := Int.tdiv_eq_ediv_of_nonneg h
theorem toList_data (s : ByteArray) : s.toList = s.data.toList := ByteArray.toList_eq s
theorem wf_i64 {n : Int} (h : (Lit.int .i64 n).wf = true) : -9223372036854775808 ≤ n ∧ n ≤ 9223372036854775807 := by
  simp [Lit.wf, IntKind.min, IntKind.max, IntKind.signed, IntKind.bits] at h
  omega
theorem bytesOf_congr {a b : ByteArray} (h : a.toList = b.toList) : bytesOf a = bytesOf b := by
  rw [toList_data, toList_data] at h
  unfold bytesOf
  rw [h]
theorem bytesOf_inj {a b : ByteArray} (h : bytesOf a = bytesOf b) : a = b := by rw [← strOfNums_bytesOf a, h, strOfNums_bytesOf]

theorem spec_l1In.val (a b c : Int) : spec_l1In.f a b c = some (decide (b ≤ a ∧ a ≤ c)) := by
  unfold spec_l1In.f
  by_cases h : b ≤ a <;> simp [h]

/-- A number of some bytes, the greatest first. -/
def fixVal (l : List Int) (n : Int) : Int := l.foldl (fun n b => n * 256 + b) n
def decFixed (l : List Int) (w : Int) : Int × Bool := if (1 ≤ w ∧ w ≤ 7) ∧ w ≤ (l.length : Int) then (fixVal (l.take w.toNat) 0, true) else (0, false)
/-- The bytes of a number, the greatest first. -/
def fixD : Nat → Int → List Int
  | 0, _ => []
  | d + 1, n => fixD d (n / 256) ++ [n % 256]
/-- What these bytes leave. -/
def hiPart : Nat → Int → Int
  | 0, n => n
  | d + 1, n => hiPart d (n / 256)
def encFixed (n w : Int) : List Int := if (1 ≤ w ∧ w ≤ 7) ∧ 0 ≤ n ∧ hiPart w.toNat n = 0 then fixD w.toNat n else []
theorem hiPart_nonneg (d : Nat) : ∀ n, 0 ≤ n → 0 ≤ hiPart d n := by
  induction d with
  | zero => intro n h; exact h
  | succ d ih => intro n h; exact ih _ (by omega)
theorem fixD_length (d : Nat) : ∀ n, (fixD d n).length = d := by
  induction d with
  | zero => intro n; rfl
  | succ d ih => intro n; simp [fixD, ih]
theorem fixD_range (d : Nat) : ∀ n, ∀ b ∈ fixD d n, 0 ≤ b ∧ b ≤ 255 := by
  induction d with
  | zero => intro n b hb; cases hb
  | succ d ih =>
    intro n b hb
    simp only [fixD, List.mem_append, List.mem_singleton] at hb
    rcases hb with hb | rfl
    · exact ih _ b hb
    · omega
theorem strOfNums_append (a b : List Int) : strOfNums (a ++ b) = strOfNums a ++ strOfNums b := by
  apply ByteArray.ext
  apply Array.ext'
  simp [strOfNums]
theorem strOfNums_nil : strOfNums [] = (⟨#[]⟩ : ByteArray) := rfl
theorem wraps_i64 (n : Int) (h₀ : 0 ≤ n) (h₁ : n < 2 ^ 63) : IntKind.i64.wrap n = n := by rw [IntKind.wrap_i64]; omega
theorem pow256_le (i : Nat) (h : i ≤ 6) : ((256 ^ i : Nat) : Int) ≤ 281474976710656 := by
  have : 256 ^ i ≤ 256 ^ 6 := Nat.pow_le_pow_right (by decide) h
  omega
/-- What a loop over the bytes of a number leaves. -/
def encRes (d : Nat) (n : Int) (out : ByteArray) : ByteArray := if hiPart d n = 0 then strOfNums (fixD d n) ++ out else ⟨#[]⟩
theorem encRes_zero (n : Int) (out : ByteArray) : encRes 0 n out = if n = 0 then out else ⟨#[]⟩ := by
  show (if n = 0 then strOfNums [] ++ out else ⟨#[]⟩) = _
  rw [strOfNums_nil]
  have : (⟨#[]⟩ : ByteArray) ++ out = out := by apply ByteArray.ext; simp
  rw [this]
theorem encRes_succ (d : Nat) (n : Int) (out : ByteArray) : encRes (d + 1) n out = encRes d (n / 256) (strOfNums [n % 256] ++ out) := by
  show (if hiPart d (n / 256) = 0 then strOfNums (fixD d (n / 256) ++ [n % 256]) ++ out else ⟨#[]⟩) = if hiPart d (n / 256) = 0 then strOfNums (fixD d (n / 256)) ++ (strOfNums [n % 256] ++ out) else ⟨#[]⟩
  rw [strOfNums_append, ByteArray.append_assoc]

theorem spec_DecodeFixed.loop (s : ByteArray) (w : Nat) (hw : w ≤ 7) (hs : w ≤ s.size) : ∀ (d i : Nat) (n : Int), i + d = w → 0 ≤ n → n < ((256 ^ i : Nat) : Int) →
    Ev (fun k => spec_DecodeFixed.l0 k s (w : Int) n (i : Int)) (fixVal (((bytesOf s).take w).drop i) n, true) := by
  intro d
  induction d with
  | zero =>
    intro i n h h0 h1
    refine ev_shift ?_
    simp only [spec_DecodeFixed.l0, if_neg (show ¬ ((i : Int) < (w : Int)) by omega)]
    exact ev_some (by rw [List.drop_eq_nil_of_le (by simp; omega)]; rfl)
  | succ d ih =>
    intro i n h h0 h1
    have hb := bt_range s (i : Int)
    have hp := pow256_le i (by omega)
    have hq : ((256 ^ (i + 1) : Nat) : Int) = ((256 ^ i : Nat) : Int) * 256 := by rw [Nat.pow_succ]; simp
    have := ih (i + 1) (n * 256 + bt s (i : Int)) (by omega) (by omega) (by rw [hq]; omega)
    refine ev_shift ?_
    simp only [spec_DecodeFixed.l0, if_pos (show (i : Int) < (w : Int) by omega), if_pos (show (0 : Int) ≤ (i : Int) by omega), if_pos (show (i : Int) < (s.size : Int) by omega), w64 (show -9223372036854775808 ≤ (i : Int) + 1 by omega) (by omega),
      w64 (show -9223372036854775808 ≤ n * 256 by omega) (by omega), w64 (show -9223372036854775808 ≤ bt s (i : Int) by omega) (by omega), w64 (show -9223372036854775808 ≤ n * 256 + bt s (i : Int) by omega) (by omega)]
    have e : ((bytesOf s).take w).drop i = bt s (i : Int) :: ((bytesOf s).take w).drop (i + 1) := by
      have hl : i < ((bytesOf s).take w).length := by rw [List.length_take, bytesOf_length]; omega
      rw [drop_cons_rd _ i hl, rd_get _ i hl, List.getElem_take, ← rd_get (bytesOf s) i (by rw [bytesOf_length]; omega), rd_bytesOf]
    rw [e]
    simpa [fixVal] using this
theorem spec_DecodeFixed.ev (s : ByteArray) (w : Int) : Ev (fun k => spec_DecodeFixed.f k s w) (decFixed (bytesOf s) w) := by
  simp only [spec_DecodeFixed.f, spec_l1In.val, Option.bind_some]
  by_cases hw : 1 ≤ w ∧ w ≤ 7
  · simp only [decide_eq_true hw, if_true]
    by_cases hs : w ≤ (s.size : Int)
    · have := spec_DecodeFixed.loop s w.toNat (by omega) (by omega) w.toNat 0 0 (by omega) (by omega) (by simp)
      rw [show ((w.toNat : Nat) : Int) = w by omega] at this
      refine ev_shift ?_
      simp only [spec_DecodeFixed.j0, decide_eq_false (show ¬ ((s.size : Int) < w) by omega), Bool.false_eq_true, if_false, decFixed, bytesOf_length, if_pos (show (1 ≤ w ∧ w ≤ 7) ∧ w ≤ (s.size : Int) from ⟨hw, hs⟩)]
      simpa using this
    · refine ev_shift ?_
      simp only [spec_DecodeFixed.j0, decide_eq_true (show (s.size : Int) < w by omega), if_true, decFixed, bytesOf_length, if_neg (show ¬ ((1 ≤ w ∧ w ≤ 7) ∧ w ≤ (s.size : Int)) from fun h => hs h.2)]
      exact Ev.now _
  · refine ev_shift ?_
    simp only [decide_eq_false hw, Bool.false_eq_true, if_false, spec_DecodeFixed.j0, if_true, decFixed, if_neg (show ¬ ((1 ≤ w ∧ w ≤ 7) ∧ w ≤ ((bytesOf s).length : Int)) from fun h => hw h.1)]
    exact Ev.now _

theorem impl_within.val (a b c : Int) : impl_within.f a b c = some (decide (b ≤ a ∧ a ≤ c)) := by
  unfold impl_within.f
  by_cases h : b ≤ a <;> simp [h]

theorem impl_DecodeFixed.loop (s : ByteArray) (w : Nat) (hw : w ≤ 7) (hs : w ≤ s.size) : ∀ (d i : Nat) (n : Int), i + d = w → 0 ≤ n → n < ((256 ^ i : Nat) : Int) →
    Ev (fun k => impl_DecodeFixed.l0 k s n (w : Int) (i : Int)) (fixVal (((bytesOf s).take w).drop i) n, true) := by
  intro d
  induction d with
  | zero =>
    intro i n h h0 h1
    refine ev_shift ?_
    simp only [impl_DecodeFixed.l0, if_neg (show ¬ ((i : Int) < (w : Int)) by omega)]
    exact ev_some (by rw [List.drop_eq_nil_of_le (by simp; omega)]; rfl)
  | succ d ih =>
    intro i n h h0 h1
    have hb := bt_range s (i : Int)
    have hp := pow256_le i (by omega)
    have hq : ((256 ^ (i + 1) : Nat) : Int) = ((256 ^ i : Nat) : Int) * 256 := by rw [Nat.pow_succ]; simp
    have := ih (i + 1) (n * 256 + bt s (i : Int)) (by omega) (by omega) (by rw [hq]; omega)
    refine ev_shift ?_
    simp only [impl_DecodeFixed.l0, if_pos (show (i : Int) < (w : Int) by omega), if_pos (show (0 : Int) ≤ (i : Int) by omega), if_pos (show (i : Int) < (s.size : Int) by omega), w64 (show -9223372036854775808 ≤ (i : Int) + 1 by omega) (by omega),
      w64 (show -9223372036854775808 ≤ n * 256 by omega) (by omega), w64 (show -9223372036854775808 ≤ bt s (i : Int) by omega) (by omega), show Go.bits .or .i64 (n * 256) (bt s (i : Int)) = n * 256 + bt s (i : Int) from bits_join .i64 63 (by decide) wraps_i64 8 (n * 256) (bt s (i : Int)) (by omega) (by omega) (by omega) (by omega) (by omega) (by omega)]
    have e : ((bytesOf s).take w).drop i = bt s (i : Int) :: ((bytesOf s).take w).drop (i + 1) := by
      have hl : i < ((bytesOf s).take w).length := by rw [List.length_take, bytesOf_length]; omega
      rw [drop_cons_rd _ i hl, rd_get _ i hl, List.getElem_take, ← rd_get (bytesOf s) i (by rw [bytesOf_length]; omega), rd_bytesOf]
    rw [e]
    simpa [fixVal] using this
theorem impl_DecodeFixed.ev (s : ByteArray) (w : Int) : Ev (fun k => impl_DecodeFixed.f k s w) (decFixed (bytesOf s) w) := by
  simp only [impl_DecodeFixed.f, impl_within.val, Option.bind_some]
  by_cases hw : 1 ≤ w ∧ w ≤ 7
  · simp only [decide_eq_true hw, if_true]
    by_cases hs : w ≤ (s.size : Int)
    · have := impl_DecodeFixed.loop s w.toNat (by omega) (by omega) w.toNat 0 0 (by omega) (by omega) (by simp)
      rw [show ((w.toNat : Nat) : Int) = w by omega] at this
      refine ev_shift ?_
      simp only [impl_DecodeFixed.j0, decide_eq_false (show ¬ ((s.size : Int) < w) by omega), Bool.false_eq_true, if_false, decFixed, bytesOf_length, if_pos (show (1 ≤ w ∧ w ≤ 7) ∧ w ≤ (s.size : Int) from ⟨hw, hs⟩)]
      simpa using this
    · refine ev_shift ?_
      simp only [impl_DecodeFixed.j0, decide_eq_true (show (s.size : Int) < w by omega), if_true, decFixed, bytesOf_length, if_neg (show ¬ ((1 ≤ w ∧ w ≤ 7) ∧ w ≤ (s.size : Int)) from fun h => hs h.2)]
      exact Ev.now _
  · refine ev_shift ?_
    simp only [decide_eq_false hw, Bool.false_eq_true, if_false, impl_DecodeFixed.j0, if_true, decFixed, if_neg (show ¬ ((1 ≤ w ∧ w ≤ 7) ∧ w ≤ ((bytesOf s).length : Int)) from fun h => hw h.1)]
    exact Ev.now _

theorem FnExactDecodeFixed : laws_FnExactDecodeFixed.Pure := by
  intro s w hs hw
  refine Ev.rounds (g := fun k => laws_FnExactDecodeFixed.f k s w) ?_
  by_cases hb : (s.size : Int) > 1048576
  · simp only [laws_FnExactDecodeFixed.f, if_pos hb]; exact Ev.now _
  · simp only [laws_FnExactDecodeFixed.f, if_neg hb]
    refine Ev.bind (spec_DecodeFixed.ev s w) ?_
    refine Ev.bind (impl_DecodeFixed.ev s w) ?_
    exact ev_val (fun _ => by simp)

end Go.Proofs.Ytcnfpepnjjijlaa.Pure
