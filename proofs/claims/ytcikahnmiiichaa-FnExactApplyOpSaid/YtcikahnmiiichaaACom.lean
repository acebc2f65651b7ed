/- Common lemmas on rounds, numbers, lists and bytes; no conditions. -/
import Derived.Test.YtcikahnmiiichaaAWordsMore
import Derived.Laws.BitsLemmas
import Derived.Laws.Strings
set_option linter.unusedVariables false
set_option linter.unusedSimpArgs false
namespace Go.Proofs.Ytcikahnmiiichaa.Com
open Go.RowKit Go.Proofs.YtcikahnmiiichaaW.PrintWords Go.Proofs.YtcikahnmiiichaaW.PrintLast

/- Common lemmas: rounds (Ev), 64-bit numbers, lists of numbers, bytes. -/

theorem w64 {x : Int} (h0 : -9223372036854775808 ≤ x) (h1 : x ≤ 9223372036854775807) : wrap64 x = x := by unfold wrap64; omega
theorem ev_shift {α : Type} {g : Nat → Option α} {r : α} (h : Ev (fun k => g (k + 1)) r) : Ev g r := Ev.step (fun _ => rfl) h
theorem ev_val {α : Type} {g : Nat → Option α} {r : α} (h : ∀ k, g k = some r) : Ev g r := ⟨0, fun k _ => h k⟩
theorem ev_eq {α : Type} {g : Nat → Option α} {r r' : α} (h : Ev g r) (e : r = r') : Ev g r' := e ▸ h
theorem ev_to {α : Type} {g f : Nat → Option α} {r : α} (h : ∃ K, ∀ k, K ≤ k → g k = f k) (k : Ev f r) : Ev g r := by
  obtain ⟨K, h⟩ := h
  obtain ⟨K', k⟩ := k
  exact ⟨max K K', fun n hn => (h n (by omega)).trans (k n (by omega))⟩
theorem ev_some {α : Type} {r r' : α} (e : r = r') : Ev (fun _ => some r) r' := e ▸ Ev.now _
/-- A loop over an index that answers 'do all from here on'. -/
theorem all_loop (l : Nat → Int → Option Bool) (P : Nat → Prop) (n : Nat) (hstop : ∀ k, l (k + 1) (n : Int) = some true)
    (hstep : ∀ i : Nat, i < n → (P i ∧ ∃ K, ∀ k, K ≤ k → l (k + 1) (i : Int) = l k ((i : Int) + 1)) ∨ (¬ P i ∧ ∃ K, ∀ k, K ≤ k → l (k + 1) (i : Int) = some false)) :
    ∀ d i : Nat, i + d = n → ∃ b, Ev (fun k => l k (i : Int)) b ∧ (b = true ↔ ∀ j, i ≤ j → j < n → P j) := by
  intro d
  induction d with
  | zero =>
    intro i h
    obtain rfl : i = n := by omega
    exact ⟨true, ev_shift (ev_val hstop), by simp; intro j h1 h2; omega⟩
  | succ d ih =>
    intro i h
    rcases hstep i (by omega) with ⟨hp, hl⟩ | ⟨hp, hl⟩
    · obtain ⟨b, hb, hq⟩ := ih (i + 1) (by omega)
      refine ⟨b, ev_shift (ev_to hl ?_), ?_⟩
      · simpa using hb
      · rw [hq]
        constructor
        · intro h' j h1 h2
          rcases Nat.eq_or_lt_of_le h1 with rfl | h3
          · exact hp
          · exact h' j h3 h2
        · intro h' j h1 h2
          exact h' j (by omega) h2
    · refine ⟨false, ev_shift (ev_to hl (Ev.now _)), ?_⟩
      constructor
      · intro h'; cases h'
      · intro h'; exact absurd (h' i (Nat.le_refl _) (by omega)) hp
/-- A loop in general: a state, a measure, what it comes to. -/
theorem loop_val {σ ρ : Type} (l : Nat → σ → Option ρ) (Inv : σ → Prop) (m : σ → Nat) (F : σ → ρ)
    (h : ∀ s, Inv s → (∃ K, ∀ k, K ≤ k → l (k + 1) s = some (F s)) ∨ (∃ s', Inv s' ∧ m s' < m s ∧ F s' = F s ∧ ∃ K, ∀ k, K ≤ k → l (k + 1) s = l k s')) :
    ∀ s, Inv s → Ev (fun k => l k s) (F s) := by
  have key : ∀ n s, m s ≤ n → Inv s → Ev (fun k => l k s) (F s) := by
    intro n
    induction n with
    | zero =>
      intro s hm hi
      rcases h s hi with hl | ⟨s', _, hlt, _⟩
      · exact ev_shift (ev_to hl (Ev.now _))
      · omega
    | succ n ih =>
      intro s hm hi
      rcases h s hi with hl | ⟨s', hi', hlt, hF, hl⟩
      · exact ev_shift (ev_to hl (Ev.now _))
      · exact ev_shift (ev_to hl (ev_eq (ih s' (by omega) hi') hF))
  exact fun s hi => key (m s) s (Nat.le_refl _) hi
theorem rd_nat (xs : List Int) (i : Nat) : rd xs (i : Int) = xs.getD i 0 := by simp [rd]
theorem rd_get (xs : List Int) (i : Nat) (h : i < xs.length) : rd xs (i : Int) = xs[i] := by simp [rd, h]
theorem drop_cons_rd (xs : List Int) (i : Nat) (h : i < xs.length) : xs.drop i = rd xs (i : Int) :: xs.drop (i + 1) := by
  rw [rd_get xs i h]; exact List.drop_eq_getElem_cons h
theorem bytes_cons (s : ByteArray) (i : Nat) (h : i < s.size) : (bytesOf s).drop i = bt s (i : Int) :: (bytesOf s).drop (i + 1) := by
  rw [← rd_bytesOf]; exact drop_cons_rd _ _ (by rw [bytesOf_length]; exact h)
theorem bytes_end (s : ByteArray) (i : Nat) (h : s.size ≤ i) : (bytesOf s).drop i = [] := List.drop_eq_nil_of_le (by rw [bytesOf_length]; exact h)
theorem bytes_range (s : ByteArray) : ∀ b ∈ bytesOf s, 0 ≤ b ∧ b ≤ 255 := by
  intro b hb
  unfold bytesOf at hb
  obtain ⟨c, _, rfl⟩ := List.mem_map.1 hb
  have := c.toNat_lt
  omega
theorem strOfNums_bytesOf (s : ByteArray) : strOfNums (bytesOf s) = s := by
  apply ByteArray.ext
  apply Array.ext'
  rw [strOfNums_data, bytesOf, List.map_map]
  conv => rhs; rw [← List.map_id s.data.toList]
  apply List.map_congr_left
  intro c _
  simp
theorem bytesOf_strOfNums (l : List Int) (h : ∀ b ∈ l, 0 ≤ b ∧ b ≤ 255) : bytesOf (strOfNums l) = l := by
  rw [bytesOf, strOfNums_data, List.map_map]
  conv => rhs; rw [← List.map_id l]
  apply List.map_congr_left
  intro b hb
  have := h b hb
  simp only [Function.comp_apply, id]
  rw [UInt8.toNat_ofNat_of_lt' (by simp [UInt8.size]; omega)]
  omega
theorem tmod_pos (a : Int) (b : Int) (h : 0 ≤ a) : Int.tmod a b = a % b := Int.tmod_eq_emod_of_nonneg h
theorem tdiv_pos (a : Int) (b : Int) (h : 0 ≤ a) : Int.tdiv a b = a / b := Int.tdiv_eq_ediv_of_nonneg h
theorem toList_data (s : ByteArray) : s.toList = s.data.toList := ByteArray.toList_eq s
theorem wf_i64 {n : Int} (h : (Lit.int .i64 n).wf = true) : -9223372036854775808 ≤ n ∧ n ≤ 9223372036854775807 := by
  simp [Lit.wf, IntKind.min, IntKind.max, IntKind.signed, IntKind.bits] at h
  omega
theorem bytesOf_congr {a b : ByteArray} (h : a.toList = b.toList) : bytesOf a = bytesOf b := by
  rw [toList_data, toList_data] at h
  unfold bytesOf
  rw [h]
theorem bytesOf_inj {a b : ByteArray} (h : bytesOf a = bytesOf b) : a = b := by rw [← strOfNums_bytesOf a, h, strOfNums_bytesOf]
/-- The same with an answer at the end. -/
theorem all_loop_end (l : Nat → Int → Option Bool) (P : Nat → Prop) (n : Nat) (e : Bool) (hstop : ∀ k, l (k + 1) (n : Int) = some e)
    (hstep : ∀ i : Nat, i < n → (P i ∧ ∃ K, ∀ k, K ≤ k → l (k + 1) (i : Int) = l k ((i : Int) + 1)) ∨ (¬ P i ∧ ∃ K, ∀ k, K ≤ k → l (k + 1) (i : Int) = some false)) :
    ∃ b, Ev (fun k => l k 0) b ∧ (b = true ↔ (∀ j, j < n → P j) ∧ e = true) := by
  have key : ∀ d i : Nat, i + d = n → ∃ b, Ev (fun k => l k (i : Int)) b ∧ (b = true ↔ (∀ j, i ≤ j → j < n → P j) ∧ e = true) := by
    intro d
    induction d with
    | zero =>
      intro i h
      obtain rfl : i = n := by omega
      exact ⟨e, ev_shift (ev_val hstop), by constructor; exact fun h => ⟨fun j h1 h2 => by omega, h⟩; exact fun h => h.2⟩
    | succ d ih =>
      intro i h
      rcases hstep i (by omega) with ⟨hp, hl⟩ | ⟨hp, hl⟩
      · obtain ⟨b, hb, hq⟩ := ih (i + 1) (by omega)
        refine ⟨b, ev_shift (ev_to hl (by simpa using hb)), ?_⟩
        rw [hq]
        constructor
        · rintro ⟨h', he⟩
          refine ⟨fun j h1 h2 => ?_, he⟩
          rcases Nat.eq_or_lt_of_le h1 with rfl | h3
          · exact hp
          · exact h' j h3 h2
        · rintro ⟨h', he⟩
          exact ⟨fun j h1 h2 => h' j (by omega) h2, he⟩
      · refine ⟨false, ev_shift (ev_to hl (Ev.now _)), ?_⟩
        constructor
        · intro h'; cases h'
        · intro h'; exact absurd (h'.1 i (Nat.le_refl _) (by omega)) hp
  obtain ⟨b, hb, hq⟩ := key n 0 (by omega)
  exact ⟨b, hb, hq.trans ⟨fun h => ⟨fun j hj => h.1 j (by omega) hj, h.2⟩, fun h => ⟨fun j _ hj => h.1 j hj, h.2⟩⟩⟩
/-- A loop that fills a list with the images of another. -/
theorem map_loop {α β : Type} (l : Nat → List β → Int → Option (List β)) (g : α → β) (xs : List α)
    (hstop : ∀ k ys, ys.length = xs.length → l (k + 1) ys (xs.length : Int) = some ys)
    (hstep : ∀ (i : Nat) (h : i < xs.length) (ys : List β) (k : Nat), ys.length = xs.length → l (k + 1) ys (i : Int) = l k (ys.set i (g xs[i])) ((i : Int) + 1))
    (ys0 : List β) (h0 : ys0.length = xs.length) : Ev (fun k => l k ys0 0) (xs.map g) := by
  have key : ∀ (d i : Nat) (ys : List β), i + d = xs.length → ys.length = xs.length → ys.take i = (xs.map g).take i → Ev (fun k => l k ys (i : Int)) (xs.map g) := by
    intro d
    induction d with
    | zero =>
      intro i ys h1 h2 h3
      obtain rfl : i = xs.length := by omega
      refine ev_shift ?_
      simp only [hstop _ ys h2]
      refine ev_some ?_
      rwa [List.take_of_length_le (by omega), List.take_of_length_le (by simp)] at h3
    | succ d ih =>
      intro i ys h1 h2 h3
      have hi : i < xs.length := by omega
      have := ih (i + 1) (ys.set i (g xs[i])) (by omega) (by simpa using h2) (by
        rw [List.take_succ_eq_append_getElem (by simp; omega), List.take_succ_eq_append_getElem (show i < (xs.map g).length by simp; omega), List.take_set_of_le (Nat.le_refl _), h3]
        simp)
      refine ev_shift ?_
      simp only [hstep i hi ys _ h2]
      simpa using this
  exact key xs.length 0 ys0 (by omega) h0 (by simp)
/-- A loop that asks whether two lists of one length are equal. -/
theorem eq_loop {α : Type} (l : Nat → Int → Option Bool) (xs ys : List α) (hl : xs.length = ys.length) (hstop : ∀ k, l (k + 1) (xs.length : Int) = some true)
    (hstep : ∀ (i : Nat) (h1 : i < xs.length) (h2 : i < ys.length), (xs[i] = ys[i] ∧ ∃ K, ∀ k, K ≤ k → l (k + 1) (i : Int) = l k ((i : Int) + 1)) ∨ (xs[i] ≠ ys[i] ∧ ∃ K, ∀ k, K ≤ k → l (k + 1) (i : Int) = some false)) :
    ∃ b, Ev (fun k => l k 0) b ∧ (b = true ↔ xs = ys) := by
  obtain ⟨b, hb, hq⟩ := all_loop l (fun i => xs[i]? = ys[i]?) xs.length hstop (fun i hi => by
    rcases hstep i hi (by omega) with ⟨h, h'⟩ | ⟨h, h'⟩
    · exact .inl ⟨by rw [List.getElem?_eq_getElem hi, List.getElem?_eq_getElem (by omega), h], h'⟩
    · exact .inr ⟨by rw [List.getElem?_eq_getElem hi, List.getElem?_eq_getElem (show i < ys.length by omega)]; exact fun e => h (Option.some.inj e), h'⟩) xs.length 0 (by omega)
  refine ⟨b, hb, hq.trans ⟨fun h => ?_, fun h j _ _ => by rw [h]⟩⟩
  refine List.ext_getElem? (fun i => ?_)
  by_cases hi : i < xs.length
  · exact h i (by omega) hi
  · rw [List.getElem?_eq_none (by omega), List.getElem?_eq_none (by omega)]
/-- A loop that marks a list. -/
theorem mark_loop {α : Type} (l : Nat → List α → Int → Int → Option (Int × List α)) (c : Int) (v : Int → α) (hc : 0 ≤ c ∧ c ≤ 100)
    (hstop : ∀ k xs a, l (k + 1) xs a (xs.length : Int) = some (a, xs))
    (hstep : ∀ (xs : List α) (a : Int) (i k : Nat), i < xs.length → (i : Int) ≤ 1152921504606846976 → 0 ≤ a → a ≤ 1152921504606846976 → l (k + 1) xs a (i : Int) = l k (xs.set i (v a)) (a + c) ((i : Int) + 1))
    (xs : List α) (a : Int) (hn : xs.length ≤ 1048576000) (ha : 0 ≤ a) (ha' : a ≤ 1048576000000) :
    Ev (fun k => l k xs a 0) (a + c * xs.length, (List.range xs.length).map fun (i : Nat) => v (a + c * (i : Int))) := by
  have key : ∀ (d i : Nat) (ys : List α), i + d = xs.length → ys.length = xs.length → ys.take i = (List.range i).map (fun (j : Nat) => v (a + c * (j : Int))) →
      Ev (fun k => l k ys (a + c * (i : Int)) (i : Int)) (a + c * xs.length, (List.range xs.length).map fun (i : Nat) => v (a + c * (i : Int))) := by
    intro d
    induction d with
    | zero =>
      intro i ys h1 h2 h3
      obtain rfl : i = xs.length := by omega
      refine ev_shift ?_
      have h4 : ys = (List.range xs.length).map fun (j : Nat) => v (a + c * (j : Int)) := by rw [← h3, List.take_of_length_le (by omega)]
      have hs := fun k => hstop k ys (a + c * (xs.length : Int))
      rw [h2] at hs
      simp only [hs]
      exact ev_some (by rw [← h4])
    | succ d ih =>
      intro i ys h1 h2 h3
      have hm0 : 0 ≤ c * (i : Int) := Int.mul_nonneg hc.1 (by omega)
      have hm1 : c * (i : Int) ≤ 100 * 1048576000 := by
        have := Int.mul_le_mul hc.2 (show (i : Int) ≤ 1048576000 by omega) (by omega) (by omega)
        exact this
      have := ih (i + 1) (ys.set i (v (a + c * (i : Int)))) (by omega) (by simpa using h2) (by
        rw [List.take_succ_eq_append_getElem (by simp; omega), List.take_set_of_le (Nat.le_refl _), h3, List.range_succ, List.map_append]
        simp)
      refine ev_shift ?_
      simp only [hstep ys (a + c * (i : Int)) i _ (by omega) (by omega) (by omega) (by omega)]
      have e : a + c * (i : Int) + c = a + c * ((i + 1 : Nat) : Int) := by
        rw [show ((i + 1 : Nat) : Int) = (i : Int) + 1 by omega, Int.mul_add, Int.mul_one]; omega
      rw [e]
      simpa using this
  have := key xs.length 0 xs (by omega) rfl (by simp)
  simpa using this
/-- A loop that looks whether the marks still stand. -/
theorem held_loop {α : Type} (l : Nat → Int → Int → Option Int) (c : Int) (v : Int → α) (hc : 0 ≤ c ∧ c ≤ 100) (xs : List α)
    (hstop : ∀ k a, l (k + 1) a (xs.length : Int) = some a)
    (hstep : ∀ (a : Int) (i k : Nat) (h : i < xs.length), (i : Int) ≤ 1152921504606846976 → 0 ≤ a → a ≤ 1152921504606846976 → xs[i] = v a → l (k + 1) a (i : Int) = l k (a + c) ((i : Int) + 1))
    (a : Int) (hn : xs.length ≤ 1048576000) (ha : 0 ≤ a) (ha' : a ≤ 1048576000000) (hx : xs = (List.range xs.length).map fun (i : Nat) => v (a + c * (i : Int))) :
    Ev (fun k => l k a 0) (a + c * xs.length) := by
  have key : ∀ (d i : Nat), i + d = xs.length → Ev (fun k => l k (a + c * (i : Int)) (i : Int)) (a + c * xs.length) := by
    intro d
    induction d with
    | zero =>
      intro i h1
      obtain rfl : i = xs.length := by omega
      refine ev_shift ?_
      simp only [hstop]
      exact Ev.now _
    | succ d ih =>
      intro i h1
      have hm0 : 0 ≤ c * (i : Int) := Int.mul_nonneg hc.1 (by omega)
      have hm1 : c * (i : Int) ≤ 100 * 1048576000 := Int.mul_le_mul hc.2 (show (i : Int) ≤ 1048576000 by omega) (by omega) (by omega)
      have he : xs[i]'(by omega) = v (a + c * (i : Int)) := by
        have h3 : xs[i]? = some (v (a + c * (i : Int))) := by
          rw [hx, List.getElem?_map, List.getElem?_range (by omega)]
          rfl
        exact (List.getElem?_eq_some_iff.1 h3).2
      have := ih (i + 1) (by omega)
      refine ev_shift ?_
      simp only [hstep (a + c * (i : Int)) i _ (by omega) (by omega) (by omega) (by omega) he]
      have e : a + c * (i : Int) + c = a + c * ((i + 1 : Nat) : Int) := by
        rw [show ((i + 1 : Nat) : Int) = (i : Int) + 1 by omega, Int.mul_add, Int.mul_one]; omega
      rw [e]
      simpa using this
  have := key xs.length 0 (by omega)
  simpa using this
theorem all_ev (l : Nat → Int → Option Bool) (P : Nat → Prop) (n : Nat) (e : Bool) (hstop : Ev (fun k => l k (n : Int)) e)
    (hstep : ∀ i : Nat, i < n → (P i ∧ ∀ b, Ev (fun k => l k ((i : Int) + 1)) b → Ev (fun k => l k (i : Int)) b) ∨ (¬ P i ∧ Ev (fun k => l k (i : Int)) false)) :
    ∃ b, Ev (fun k => l k 0) b ∧ (b = true ↔ (∀ j, j < n → P j) ∧ e = true) := by
  have key : ∀ d i : Nat, i + d = n → ∃ b, Ev (fun k => l k (i : Int)) b ∧ (b = true ↔ (∀ j, i ≤ j → j < n → P j) ∧ e = true) := by
    intro d
    induction d with
    | zero =>
      intro i h
      obtain rfl : i = n := by omega
      exact ⟨e, hstop, by constructor; exact fun h => ⟨fun j h1 h2 => by omega, h⟩; exact fun h => h.2⟩
    | succ d ih =>
      intro i h
      rcases hstep i (by omega) with ⟨hp, hl⟩ | ⟨hp, hl⟩
      · obtain ⟨b, hb, hq⟩ := ih (i + 1) (by omega)
        refine ⟨b, hl b (by simpa using hb), ?_⟩
        rw [hq]
        constructor
        · rintro ⟨h', he⟩
          refine ⟨fun j h1 h2 => ?_, he⟩
          rcases Nat.eq_or_lt_of_le h1 with rfl | h3
          · exact hp
          · exact h' j h3 h2
        · rintro ⟨h', he⟩
          exact ⟨fun j h1 h2 => h' j (by omega) h2, he⟩
      · refine ⟨false, hl, ?_⟩
        simp only [Bool.false_eq_true, false_iff]
        exact fun h' => hp (h'.1 i (Nat.le_refl _) (by omega))
  obtain ⟨b, hb, hq⟩ := key n 0 (by omega)
  refine ⟨b, by simpa using hb, hq.trans ⟨fun h => ⟨fun j h' => h.1 j (by omega) h', h.2⟩, fun h => ⟨fun j _ h' => h.1 j h', h.2⟩⟩⟩
theorem loop_ev {σ ρ : Type} (l : Nat → σ → Option ρ) (Inv : σ → Prop) (m : σ → Nat) (F : σ → ρ)
    (h : ∀ s, Inv s → Ev (fun k => l k s) (F s) ∨ (∃ s', Inv s' ∧ m s' < m s ∧ F s' = F s ∧ ∀ r, Ev (fun k => l k s') r → Ev (fun k => l k s) r)) :
    ∀ s, Inv s → Ev (fun k => l k s) (F s) := by
  have key : ∀ n s, m s ≤ n → Inv s → Ev (fun k => l k s) (F s) := by
    intro n
    induction n with
    | zero =>
      intro s hm hi
      rcases h s hi with hl | ⟨s', _, hlt, _⟩
      · exact hl
      · omega
    | succ n ih =>
      intro s hm hi
      rcases h s hi with hl | ⟨s', hi', hlt, hF, hl⟩
      · exact hl
      · exact hl _ (ev_eq (ih s' (by omega) hi') hF)
  exact fun s hi => key (m s) s (Nat.le_refl _) hi

end Go.Proofs.Ytcikahnmiiichaa.Com
