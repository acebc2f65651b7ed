/- For every number and width the law FnExactEncodeFixed returns true; no conditions. -/
import Derived.Test.YtcnfpepnjjijlaaPFnExactEncodeFixedx1
set_option linter.unusedVariables false
set_option linter.unusedSimpArgs false
namespace Go.Proofs.Ytcnfpepnjjijlaa.Pure
open Go.RowKit Go.Proofs.Ytcnfpepnjjijlaa.PFnExactEncodeFixed Go.Proofs.YtcnfpepnjjijlaaW.PrintWords Go.Proofs.YtcnfpepnjjijlaaW.PrintLast

/- Common lemmas: rounds (Ev), 64-bit numbers, lists of numbers, bytes. -/

theorem w64 {x : Int} (h0 : -9223372036854775808 ≤ x) (h1 : x ≤ 9223372036854775807) : wrap64 x = x := by unfold wrap64; omega
theorem ev_shift {α : Type} {g : Nat → Option α} {r : α} (h : Ev (fun k => g (k + 1)) r) : Ev g r := Ev.step (fun _ => rfl) h
theorem ev_val {α : Type} {g : Nat → Option α} {r : α} (h : ∀ k, g k = some r) : Ev g r := ⟨0, fun k _ => h k⟩
theorem ev_eq {α : Type} {g : Nat → Option α} {r r' : α} (h : Ev g r) (e : r = r') : Ev g r' := e ▸ h
theorem ev_to {α : Type} {g f : Nat → Option α} {r : α} (h : ∃ K, ∀ k, K ≤ k → g k = f k) (k : Ev f r) : Ev g r := by
  obtain ⟨K, h⟩ := h
  obtain ⟨K', k⟩ := k
  exact ⟨max K K', fun n hn => (h n (by omega)).trans (k n (by omega))⟩
theorem ev_some {α : Type} {r r' : α} (e : r = r') : Ev (fun _ => some r) r' := e ▸ Ev.now _
/-- A loop over an index that answers 'do all from here on'. -/
theorem all_loop (l : Nat → Int → Option Bool) (P : Nat → Prop) (n : Nat) (hstop : ∀ k, l (k + 1) (n : Int) = some true)
    (hstep : ∀ i : Nat, i < n → (P i ∧ ∃ K, ∀ k, K ≤ k → l (k + 1) (i : Int) = l k ((i : Int) + 1)) ∨ (¬ P i ∧ ∃ K, ∀ k, K ≤ k → l (k + 1) (i : Int) = some false)) :
    ∀ d i : Nat, i + d = n → ∃ b, Ev (fun k => l k (i : Int)) b ∧ (b = true ↔ ∀ j, i ≤ j → j < n → P j) := by
  intro d
  induction d with
  | zero =>
    intro i h
    obtain rfl : i = n := by omega
    exact ⟨true, ev_shift (ev_val hstop), by simp; intro j h1 h2; omega⟩
  | succ d ih =>
    intro i h
    rcases hstep i (by omega) with ⟨hp, hl⟩ | ⟨hp, hl⟩
    · obtain ⟨b, hb, hq⟩ := ih (i + 1) (by omega)
      refine ⟨b, ev_shift (ev_to hl ?_), ?_⟩
      · simpa using hb
      · rw [hq]
        constructor
        · intro h' j h1 h2
          rcases Nat.eq_or_lt_of_le h1 with rfl | h3
          · exact hp
          · exact h' j h3 h2
        · intro h' j h1 h2
          exact h' j (by omega) h2
    · refine ⟨false, ev_shift (ev_to hl (Ev.now _)), ?_⟩
      constructor
      · intro h'; cases h'
      · intro h'; exact absurd (h' i (Nat.le_refl _) (by omega)) hp
/-- A loop in general: a state, a measure, what it comes to. -/
theorem loop_val {σ ρ : Type} (l : Nat → σ → Option ρ) (Inv : σ → Prop) (m : σ → Nat) (F : σ → ρ)
    (h : ∀ s, Inv s → (∃ K, ∀ k, K ≤ k → l (k + 1) s = some (F s)) ∨ (∃ s', Inv s' ∧ m s' < m s ∧ F s' = F s ∧ ∃ K, ∀ k, K ≤ k → l (k + 1) s = l k s')) :
    ∀ s, Inv s → Ev (fun k => l k s) (F s) := by
  have key : ∀ n s, m s ≤ n → Inv s → Ev (fun k => l k s) (F s) := by
    intro n
    induction n with
    | zero =>
      intro s hm hi
      rcases h s hi with hl | ⟨s', _, hlt, _⟩
      · exact ev_shift (ev_to hl (Ev.now _))
      · omega
    | succ n ih =>
      intro s hm hi
      rcases h s hi with hl | ⟨s', hi', hlt, hF, hl⟩
      · exact ev_shift (ev_to hl (Ev.now _))
      · exact ev_shift (ev_to hl (ev_eq (ih s' (by omega) hi') hF))
  exact fun s hi => key (m s) s (Nat.le_refl _) hi
theorem rd_nat (xs : List Int) (i : Nat) : rd xs (i : Int) = xs.getD i 0 := by simp [rd]
theorem rd_get (xs : List Int) (i : Nat) (h : i < xs.length) : rd xs (i : Int) = xs[i] := by simp [rd, h]
theorem drop_cons_rd (xs : List Int) (i : Nat) (h : i < xs.length) : xs.drop i = rd xs (i : Int) :: xs.drop (i + 1) := by
  rw [rd_get xs i h]; exact List.drop_eq_getElem_cons h
theorem bytes_cons (s : ByteArray) (i : Nat) (h : i < s.size) : (bytesOf s).drop i = bt s (i : Int) :: (bytesOf s).drop (i + 1) := by
  rw [← rd_bytesOf]; exact drop_cons_rd _ _ (by rw [bytesOf_length]; exact h)
theorem bytes_end (s : ByteArray) (i : Nat) (h : s.size ≤ i) : (bytesOf s).drop i = [] := List.drop_eq_nil_of_le (by rw [bytesOf_length]; exact h)
theorem bytes_range (s : ByteArray) : ∀ b ∈ bytesOf s, 0 ≤ b ∧ b ≤ 255 := by
  intro b hb
  unfold bytesOf at hb
  obtain ⟨c, _, rfl⟩ := List.mem_map.1 hb
  have := c.toNat_lt
  omega
theorem strOfNums_bytesOf (s : ByteArray) : strOfNums (bytesOf s) = s := by
  apply ByteArray.ext
  apply Array.ext'
  rw [strOfNums_data, bytesOf, List.map_map]
  conv => rhs; rw [← List.map_id s.data.toList]
  apply List.map_congr_left
  intro c _
  simp
theorem bytesOf_strOfNums (l : List Int) (h : ∀ b ∈ l, 0 ≤ b ∧ b ≤ 255) : bytesOf (strOfNums l) = l := by
  rw [bytesOf, strOfNums_data, List.map_map]
  conv => rhs; rw [← List.map_id l]
  apply List.map_congr_left
  intro b hb
  have := h b hb
  simp only [Function.comp_apply, id]
  rw [UInt8.toNat_ofNat_of_lt' (by simp [UInt8.size]; omega)]
  omega
theorem tmod_pos (a : Int) (b : Int) (h : 0 ≤ a) : Int.tmod a b = a % b := Int.tmod_eq_emod_of_nonneg h
theorem tdiv_pos (a : Int) (b : Int) (h : 0 ≤ a) : Int.tdiv a b = a / b := Int.tdiv_eq_ediv_of_nonneg h
theorem toList_data (s : ByteArray) : s.toList = s.data.toList := ByteArray.toList_eq s
theorem wf_i64 {n : Int} (h : (Lit.int .i64 n).wf = true) : -9223372036854775808 ≤ n ∧ n ≤ 9223372036854775807 := by
  simp [Lit.wf, IntKind.min, IntKind.max, IntKind.signed, IntKind.bits] at h
  omega
theorem bytesOf_congr {a b : ByteArray} (h : a.toList = b.toList) : bytesOf a = bytesOf b := by
  rw [toList_data, toList_data] at h
  unfold bytesOf
  rw [h]
theorem bytesOf_inj {a b : ByteArray} (h : bytesOf a = bytesOf b) : a = b := by rw [← strOfNums_bytesOf a, h, strOfNums_bytesOf]

theorem spec_l1In.val (a b c : Int) : spec_l1In.f a b c = some (decide (b ≤ a ∧ a ≤ c)) := by
  unfold spec_l1In.f
  by_cases h : b ≤ a <;> simp [h]

/-- A number of some bytes, the greatest first. -/
def fixVal (l : List Int) (n : Int) : Int := l.foldl (fun n b => n * 256 + b) n
def decFixed (l : List Int) (w : Int) : Int × Bool := if (1 ≤ w ∧ w ≤ 7) ∧ w ≤ (l.length : Int) then (fixVal (l.take w.toNat) 0, true) else (0, false)
/-- The bytes of a number, the greatest first. -/
def fixD : Nat → Int → List Int
  | 0, _ => []
  | d + 1, n => fixD d (n / 256) ++ [n % 256]
/-- What these bytes leave. -/
def hiPart : Nat → Int → Int
  | 0, n => n
  | d + 1, n => hiPart d (n / 256)
def encFixed (n w : Int) : List Int := if (1 ≤ w ∧ w ≤ 7) ∧ 0 ≤ n ∧ hiPart w.toNat n = 0 then fixD w.toNat n else []
theorem hiPart_nonneg (d : Nat) : ∀ n, 0 ≤ n → 0 ≤ hiPart d n := by
  induction d with
  | zero => intro n h; exact h
  | succ d ih => intro n h; exact ih _ (by omega)
theorem fixD_length (d : Nat) : ∀ n, (fixD d n).length = d := by
  induction d with
  | zero => intro n; rfl
  | succ d ih => intro n; simp [fixD, ih]
theorem fixD_range (d : Nat) : ∀ n, ∀ b ∈ fixD d n, 0 ≤ b ∧ b ≤ 255 := by
  induction d with
  | zero => intro n b hb; cases hb
  | succ d ih =>
    intro n b hb
    simp only [fixD, List.mem_append, List.mem_singleton] at hb
    rcases hb with hb | rfl
    · exact ih _ b hb
    · omega
theorem strOfNums_append (a b : List Int) : strOfNums (a ++ b) = strOfNums a ++ strOfNums b := by
  apply ByteArray.ext
  apply Array.ext'
  simp [strOfNums]
theorem strOfNums_nil : strOfNums [] = (⟨#[]⟩ : ByteArray) := rfl
theorem wraps_i64 (n : Int) (h₀ : 0 ≤ n) (h₁ : n < 2 ^ 63) : IntKind.i64.wrap n = n := by rw [IntKind.wrap_i64]; omega
theorem pow256_le (i : Nat) (h : i ≤ 6) : ((256 ^ i : Nat) : Int) ≤ 281474976710656 := by
  have : 256 ^ i ≤ 256 ^ 6 := Nat.pow_le_pow_right (by decide) h
  omega
/-- What a loop over the bytes of a number leaves. -/
def encRes (d : Nat) (n : Int) (out : ByteArray) : ByteArray := if hiPart d n = 0 then strOfNums (fixD d n) ++ out else ⟨#[]⟩
theorem encRes_zero (n : Int) (out : ByteArray) : encRes 0 n out = if n = 0 then out else ⟨#[]⟩ := by
  show (if n = 0 then strOfNums [] ++ out else ⟨#[]⟩) = _
  rw [strOfNums_nil]
  have : (⟨#[]⟩ : ByteArray) ++ out = out := by apply ByteArray.ext; simp
  rw [this]
theorem encRes_succ (d : Nat) (n : Int) (out : ByteArray) : encRes (d + 1) n out = encRes d (n / 256) (strOfNums [n % 256] ++ out) := by
  show (if hiPart d (n / 256) = 0 then strOfNums (fixD d (n / 256) ++ [n % 256]) ++ out else ⟨#[]⟩) = if hiPart d (n / 256) = 0 then strOfNums (fixD d (n / 256)) ++ (strOfNums [n % 256] ++ out) else ⟨#[]⟩
  rw [strOfNums_append, ByteArray.append_assoc]

theorem spec_EncodeFixed.loop (w : Nat) (hw : w ≤ 7) : ∀ (d i : Nat) (n : Int) (out : ByteArray), i + d = w → 0 ≤ n → n ≤ 9223372036854775807 → out.size ≤ i →
    Ev (fun k => spec_EncodeFixed.l0 k n (w : Int) out (i : Int)) (encRes d n out) := by
  intro d
  induction d with
  | zero =>
    intro i n out h h0 h1 h2
    refine ev_shift ?_
    rw [encRes_zero]
    simp only [spec_EncodeFixed.l0, if_neg (show ¬ ((i : Int) < (w : Int)) by omega)]
    by_cases hn : n = 0
    · simp only [if_neg (show ¬ (n > 0) by omega)]
      rw [if_pos hn]
      exact Ev.now _
    · simp only [if_pos (show n > 0 by omega)]
      rw [if_neg hn]
      exact Ev.now _
  | succ d ih =>
    intro i n out h h0 h1 h2
    have := ih (i + 1) (n / 256) (strOfNums [n % 256] ++ out) (by omega) (by omega) (by omega) (by rw [ByteArray.size_append, strOfNums_size]; simp; omega)
    refine ev_shift ?_
    have e1 : Int.tmod n 256 % 256 = n % 256 := by rw [tmod_pos _ _ h0]; omega
    have e2 : wrap64 (Int.tdiv n 256) = n / 256 := by rw [tdiv_pos _ _ h0, w64 (by omega) (by omega)]
    simp only [spec_EncodeFixed.l0, if_pos (show (i : Int) < (w : Int) by omega), Option.bind_some, e1, e2, strOfNums_size, List.length_cons, List.length_nil, if_pos (show 0 + 1 + out.size ≤ 9223372036854775807 by omega), w64 (show -9223372036854775808 ≤ (i : Int) + 1 by omega) (by omega)]
    rw [encRes_succ]
    simpa using this
theorem spec_EncodeFixed.ev (n w : Int) (hn : n ≤ 9223372036854775807) : Ev (fun k => spec_EncodeFixed.f k n w) (strOfNums (encFixed n w)) := by
  simp only [spec_EncodeFixed.f, spec_l1In.val, Option.bind_some]
  by_cases hw : 1 ≤ w ∧ w ≤ 7
  · simp only [decide_eq_true hw, if_true]
    by_cases h0 : 0 ≤ n
    · have := spec_EncodeFixed.loop w.toNat (by omega) w.toNat 0 n ⟨#[]⟩ (by omega) h0 hn (by simp [ByteArray.size])
      rw [show ((w.toNat : Nat) : Int) = w by omega] at this
      refine ev_shift ?_
      simp only [spec_EncodeFixed.j0, decide_eq_false (show ¬ (n < 0) by omega), Bool.false_eq_true, if_false]
      refine ev_eq this ?_
      unfold encRes
      by_cases hh : hiPart w.toNat n = 0
      · rw [if_pos hh, encFixed, if_pos ⟨hw, h0, hh⟩]
        apply ByteArray.ext; simp
      · rw [if_neg hh, encFixed, if_neg (fun h => hh h.2.2)]; rfl
    · refine ev_shift ?_
      simp only [spec_EncodeFixed.j0, decide_eq_true (show n < 0 by omega), if_true, encFixed, if_neg (show ¬ ((1 ≤ w ∧ w ≤ 7) ∧ 0 ≤ n ∧ hiPart w.toNat n = 0) from fun h => h0 h.2.1)]
      exact Ev.now _
  · refine ev_shift ?_
    simp only [decide_eq_false hw, Bool.false_eq_true, if_false, spec_EncodeFixed.j0, if_true, encFixed, if_neg (show ¬ ((1 ≤ w ∧ w ≤ 7) ∧ 0 ≤ n ∧ hiPart w.toNat n = 0) from fun h => hw h.1)]
    exact Ev.now _

theorem impl_within.val (a b c : Int) : impl_within.f a b c = some (decide (b ≤ a ∧ a ≤ c)) := by
  unfold impl_within.f
  by_cases h : b ≤ a <;> simp [h]

theorem impl_EncodeFixed.loop (w : Nat) (hw : w ≤ 7) : ∀ (d : Nat) (n : Int) (b : List Int), d ≤ w → b.length = w → 0 ≤ n → n ≤ 9223372036854775807 →
    Ev (fun k => impl_EncodeFixed.l0 k n b ((d : Int) - 1)) (strOfNums (fixD d n ++ b.drop d)) := by
  intro d
  induction d with
  | zero =>
    intro n b h hb h0 h1
    refine ev_shift ?_
    simp only [impl_EncodeFixed.l0, if_neg (show ¬ (((0 : Nat) : Int) - 1 ≥ 0) by omega), fixD]
    exact ev_some (by simp)
  | succ d ih =>
    intro n b h hb h0 h1
    have := ih (n / 256) (b.set d (n % 256)) (by omega) (by simpa using hb) (by omega) (by omega)
    refine ev_shift ?_
    simp only [impl_EncodeFixed.l0, show ((d + 1 : Nat) : Int) - 1 = (d : Int) by omega, if_pos (show (d : Int) ≥ 0 by omega), if_pos (show 0 ≤ (d : Int) by omega), if_pos (show (d : Int) < (b.length : Int) by omega), Int.toNat_natCast, w64 (show -9223372036854775808 ≤ (d : Int) - 1 by omega) (by omega)]
    refine ev_eq this ?_
    have e : (b.set d (n % 256)).drop d = (n % 256) :: b.drop (d + 1) := by
      rw [List.drop_eq_getElem_cons (by simp; omega), List.getElem_set_self, List.drop_set_of_lt (by omega)]
    rw [e, fixD, List.append_assoc]; rfl
theorem hiPart_shift (n w : Int) (h1 : 1 ≤ w) (h7 : w ≤ 7) : shr .i64 n (8 * w) = hiPart w.toNat n := by
  unfold shr
  have : w = 1 ∨ w = 2 ∨ w = 3 ∨ w = 4 ∨ w = 5 ∨ w = 6 ∨ w = 7 := by omega
  rcases this with rfl | rfl | rfl | rfl | rfl | rfl | rfl <;> simp [hiPart, IntKind.bits] <;> omega
theorem impl_EncodeFixed.ev (n w : Int) (hn : n ≤ 9223372036854775807) : Ev (fun k => impl_EncodeFixed.f k n w) (strOfNums (encFixed n w)) := by
  simp only [impl_EncodeFixed.f, impl_within.val, Option.bind_some]
  by_cases hw : 1 ≤ w ∧ w ≤ 7
  · simp only [decide_eq_true hw, if_true]
    by_cases h0 : 0 ≤ n
    · simp only [if_neg (show ¬ (n < 0) by omega), w64 (show -9223372036854775808 ≤ 8 * w by omega) (by omega), if_pos (show 0 ≤ 8 * w by omega), hiPart_shift n w hw.1 hw.2]
      by_cases hh : hiPart w.toNat n = 0
      · have := impl_EncodeFixed.loop w.toNat (by omega) w.toNat n (List.replicate w.toNat 0) (by omega) (by simp) h0 hn
        rw [show ((w.toNat : Nat) : Int) = w by omega] at this
        refine ev_shift ?_
        simp only [impl_EncodeFixed.j0, hh, bne_self_eq_false, Bool.false_eq_true, if_false, if_pos (show 0 ≤ w by omega), if_pos (show w.toNat ≤ 281474976710656 by omega), w64 (show -9223372036854775808 ≤ w - 1 by omega) (by omega)]
        refine ev_eq this ?_
        rw [encFixed, if_pos ⟨hw, h0, hh⟩, List.drop_eq_nil_of_le (by simp), List.append_nil]
      · refine ev_shift ?_
        simp only [impl_EncodeFixed.j0, show (hiPart w.toNat n != 0) = true from by simpa using hh, if_true, encFixed, if_neg (show ¬ ((1 ≤ w ∧ w ≤ 7) ∧ 0 ≤ n ∧ hiPart w.toNat n = 0) from fun h => hh h.2.2)]
        exact Ev.now _
    · refine ev_shift ?_
      simp only [if_pos (show n < 0 by omega), impl_EncodeFixed.j0, if_true, encFixed, if_neg (show ¬ ((1 ≤ w ∧ w ≤ 7) ∧ 0 ≤ n ∧ hiPart w.toNat n = 0) from fun h => h0 h.2.1)]
      exact Ev.now _
  · refine ev_shift ?_
    simp only [decide_eq_false hw, Bool.false_eq_true, if_false, impl_EncodeFixed.j0, if_true, encFixed, if_neg (show ¬ ((1 ≤ w ∧ w ≤ 7) ∧ 0 ≤ n ∧ hiPart w.toNat n = 0) from fun h => hw h.1)]
    exact Ev.now _

theorem FnExactEncodeFixed : laws_FnExactEncodeFixed.Pure := by
  intro n w hn hw
  have h1 : n ≤ 9223372036854775807 := (wf_i64 hn).2
  refine Ev.rounds (g := fun k => laws_FnExactEncodeFixed.f k n w) ?_
  simp only [laws_FnExactEncodeFixed.f]
  refine Ev.bind (spec_EncodeFixed.ev n w h1) ?_
  refine Ev.bind (impl_EncodeFixed.ev n w h1) ?_
  exact ev_val (fun _ => by simp)

end Go.Proofs.Ytcnfpepnjjijlaa.Pure
