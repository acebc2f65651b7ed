/- Common lemmas on rounds, numbers, lists and bytes; no conditions. -/
import Derived.Test.YtcikahnmiiichaaDoorPWordsMore
import Derived.Laws.BitsLemmas
import Derived.Laws.Strings
set_option linter.unusedVariables false
set_option linter.unusedSimpArgs false
namespace Go.Proofs.YtcikahnmiiichaaDoor.Com
open Go.RowKit Go.Proofs.YtcikahnmiiichaaDoorW.PrintWords Go.Proofs.YtcikahnmiiichaaDoorW.PrintLast

/- Common lemmas: rounds (Ev), 64-bit numbers, lists of numbers, bytes. -/

theorem w64 {x : Int} (h0 : -9223372036854775808 ≤ x) (h1 : x ≤ 9223372036854775807) : wrap64 x = x := by unfold wrap64; omega
theorem ev_shift {α : Type} {g : Nat → Option α} {r : α} (h : Ev (fun k => g (k + 1)) r) : Ev g r := Ev.step (fun _ => rfl) h
theorem ev_val {α : Type} {g : Nat → Option α} {r : α} (h : ∀ k, g k = some r) : Ev g r := ⟨0, fun k _ => h k⟩
theorem ev_eq {α : Type} {g : Nat → Option α} {r r' : α} (h : Ev g r) (e : r = r') : Ev g r' := e ▸ h
theorem ev_to {α : Type} {g f : Nat → Option α} {r : α} (h : ∃ K, ∀ k, K ≤ k → g k = f k) (k : Ev f r) : Ev g r := by
  obtain ⟨K, h⟩ := h
  obtain ⟨K', k⟩ := k
  exact ⟨max K K', fun n hn => (h n (by omega)).trans (k n (by omega))⟩
theorem ev_some {α : Type} {r r' : α} (e : r = r') : Ev (fun _ => some r) r' := e ▸ Ev.now _
/-- A loop over an index that answers 'do all from here on'. -/
theorem all_loop (l : Nat → Int → Option Bool) (P : Nat → Prop) (n : Nat) (hstop : ∀ k, l (k + 1) (n : Int) = some true)
    (hstep : ∀ i : Nat, i < n → (P i ∧ ∃ K, ∀ k, K ≤ k → l (k + 1) (i : Int) = l k ((i : Int) + 1)) ∨ (¬ P i ∧ ∃ K, ∀ k, K ≤ k → l (k + 1) (i : Int) = some false)) :
    ∀ d i : Nat, i + d = n → ∃ b, Ev (fun k => l k (i : Int)) b ∧ (b = true ↔ ∀ j, i ≤ j → j < n → P j) := by
  intro d
  induction d with
  | zero =>
    intro i h
    obtain rfl : i = n := by omega
    exact ⟨true, ev_shift (ev_val hstop), by simp; intro j h1 h2; omega⟩
  | succ d ih =>
    intro i h
    rcases hstep i (by omega) with ⟨hp, hl⟩ | ⟨hp, hl⟩
    · obtain ⟨b, hb, hq⟩ := ih (i + 1) (by omega)
      refine ⟨b, ev_shift (ev_to hl ?_), ?_⟩
      · simpa using hb
      · rw [hq]
        constructor
        · intro h' j h1 h2
          rcases Nat.eq_or_lt_of_le h1 with rfl | h3
          · exact hp
          · exact h' j h3 h2
        · intro h' j h1 h2
          exact h' j (by omega) h2
    · refine ⟨false, ev_shift (ev_to hl (Ev.now _)), ?_⟩
      constructor
      · intro h'; cases h'
      · intro h'; exact absurd (h' i (Nat.le_refl _) (by omega)) hp
theorem rd_get (xs : List Int) (i : Nat) (h : i < xs.length) : rd xs (i : Int) = xs[i] := by simp [rd, h]
theorem drop_cons_rd (xs : List Int) (i : Nat) (h : i < xs.length) : xs.drop i = rd xs (i : Int) :: xs.drop (i + 1) := by
  rw [rd_get xs i h]; exact List.drop_eq_getElem_cons h
theorem bytes_range (s : ByteArray) : ∀ b ∈ bytesOf s, 0 ≤ b ∧ b ≤ 255 := by
  intro b hb
  unfold bytesOf at hb
  obtain ⟨c, _, rfl⟩ := List.mem_map.1 hb
  have := c.toNat_lt
  omega
theorem strOfNums_bytesOf (s : ByteArray) : strOfNums (bytesOf s) = s := by
  apply ByteArray.ext
  apply Array.ext'
  rw [strOfNums_data, bytesOf, List.map_map]
  conv => rhs; rw [← List.map_id s.data.toList]
  apply List.map_congr_left
  intro c _
  simp
theorem toList_data (s : ByteArray) : s.toList = s.data.toList := ByteArray.toList_eq s
theorem bytesOf_congr {a b : ByteArray} (h : a.toList = b.toList) : bytesOf a = bytesOf b := by
  rw [toList_data, toList_data] at h
  unfold bytesOf
  rw [h]
theorem bytesOf_inj {a b : ByteArray} (h : bytesOf a = bytesOf b) : a = b := by rw [← strOfNums_bytesOf a, h, strOfNums_bytesOf]
/-- A loop that asks whether two lists of one length are equal. -/
theorem eq_loop {α : Type} (l : Nat → Int → Option Bool) (xs ys : List α) (hl : xs.length = ys.length) (hstop : ∀ k, l (k + 1) (xs.length : Int) = some true)
    (hstep : ∀ (i : Nat) (h1 : i < xs.length) (h2 : i < ys.length), (xs[i] = ys[i] ∧ ∃ K, ∀ k, K ≤ k → l (k + 1) (i : Int) = l k ((i : Int) + 1)) ∨ (xs[i] ≠ ys[i] ∧ ∃ K, ∀ k, K ≤ k → l (k + 1) (i : Int) = some false)) :
    ∃ b, Ev (fun k => l k 0) b ∧ (b = true ↔ xs = ys) := by
  obtain ⟨b, hb, hq⟩ := all_loop l (fun i => xs[i]? = ys[i]?) xs.length hstop (fun i hi => by
    rcases hstep i hi (by omega) with ⟨h, h'⟩ | ⟨h, h'⟩
    · exact .inl ⟨by rw [List.getElem?_eq_getElem hi, List.getElem?_eq_getElem (by omega), h], h'⟩
    · exact .inr ⟨by rw [List.getElem?_eq_getElem hi, List.getElem?_eq_getElem (show i < ys.length by omega)]; exact fun e => h (Option.some.inj e), h'⟩) xs.length 0 (by omega)
  refine ⟨b, hb, hq.trans ⟨fun h => ?_, fun h j _ _ => by rw [h]⟩⟩
  refine List.ext_getElem? (fun i => ?_)
  by_cases hi : i < xs.length
  · exact h i (by omega) hi
  · rw [List.getElem?_eq_none (by omega), List.getElem?_eq_none (by omega)]
/-- A loop that marks a list. -/
theorem mark_loop {α : Type} (l : Nat → List α → Int → Int → Option (Int × List α)) (c : Int) (v : Int → α) (hc : 0 ≤ c ∧ c ≤ 100)
    (hstop : ∀ k xs a, l (k + 1) xs a (xs.length : Int) = some (a, xs))
    (hstep : ∀ (xs : List α) (a : Int) (i k : Nat), i < xs.length → (i : Int) ≤ 1152921504606846976 → 0 ≤ a → a ≤ 1152921504606846976 → l (k + 1) xs a (i : Int) = l k (xs.set i (v a)) (a + c) ((i : Int) + 1))
    (xs : List α) (a : Int) (hn : xs.length ≤ 1048576000) (ha : 0 ≤ a) (ha' : a ≤ 1048576000000) :
    Ev (fun k => l k xs a 0) (a + c * xs.length, (List.range xs.length).map fun (i : Nat) => v (a + c * (i : Int))) := by
  have key : ∀ (d i : Nat) (ys : List α), i + d = xs.length → ys.length = xs.length → ys.take i = (List.range i).map (fun (j : Nat) => v (a + c * (j : Int))) →
      Ev (fun k => l k ys (a + c * (i : Int)) (i : Int)) (a + c * xs.length, (List.range xs.length).map fun (i : Nat) => v (a + c * (i : Int))) := by
    intro d
    induction d with
    | zero =>
      intro i ys h1 h2 h3
      obtain rfl : i = xs.length := by omega
      refine ev_shift ?_
      have h4 : ys = (List.range xs.length).map fun (j : Nat) => v (a + c * (j : Int)) := by rw [← h3, List.take_of_length_le (by omega)]
      have hs := fun k => hstop k ys (a + c * (xs.length : Int))
      rw [h2] at hs
      simp only [hs]
      exact ev_some (by rw [← h4])
    | succ d ih =>
      intro i ys h1 h2 h3
      have hm0 : 0 ≤ c * (i : Int) := Int.mul_nonneg hc.1 (by omega)
      have hm1 : c * (i : Int) ≤ 100 * 1048576000 := by
        have := Int.mul_le_mul hc.2 (show (i : Int) ≤ 1048576000 by omega) (by omega) (by omega)
        exact this
      have := ih (i + 1) (ys.set i (v (a + c * (i : Int)))) (by omega) (by simpa using h2) (by
        rw [List.take_succ_eq_append_getElem (by simp; omega), List.take_set_of_le (Nat.le_refl _), h3, List.range_succ, List.map_append]
        simp)
      refine ev_shift ?_
      simp only [hstep ys (a + c * (i : Int)) i _ (by omega) (by omega) (by omega) (by omega)]
      have e : a + c * (i : Int) + c = a + c * ((i + 1 : Nat) : Int) := by
        rw [show ((i + 1 : Nat) : Int) = (i : Int) + 1 by omega, Int.mul_add, Int.mul_one]; omega
      rw [e]
      simpa using this
  have := key xs.length 0 xs (by omega) rfl (by simp)
  simpa using this
/-- A loop that looks whether the marks still stand. -/
theorem held_loop {α : Type} (l : Nat → Int → Int → Option Int) (c : Int) (v : Int → α) (hc : 0 ≤ c ∧ c ≤ 100) (xs : List α)
    (hstop : ∀ k a, l (k + 1) a (xs.length : Int) = some a)
    (hstep : ∀ (a : Int) (i k : Nat) (h : i < xs.length), (i : Int) ≤ 1152921504606846976 → 0 ≤ a → a ≤ 1152921504606846976 → xs[i] = v a → l (k + 1) a (i : Int) = l k (a + c) ((i : Int) + 1))
    (a : Int) (hn : xs.length ≤ 1048576000) (ha : 0 ≤ a) (ha' : a ≤ 1048576000000) (hx : xs = (List.range xs.length).map fun (i : Nat) => v (a + c * (i : Int))) :
    Ev (fun k => l k a 0) (a + c * xs.length) := by
  have key : ∀ (d i : Nat), i + d = xs.length → Ev (fun k => l k (a + c * (i : Int)) (i : Int)) (a + c * xs.length) := by
    intro d
    induction d with
    | zero =>
      intro i h1
      obtain rfl : i = xs.length := by omega
      refine ev_shift ?_
      simp only [hstop]
      exact Ev.now _
    | succ d ih =>
      intro i h1
      have hm0 : 0 ≤ c * (i : Int) := Int.mul_nonneg hc.1 (by omega)
      have hm1 : c * (i : Int) ≤ 100 * 1048576000 := Int.mul_le_mul hc.2 (show (i : Int) ≤ 1048576000 by omega) (by omega) (by omega)
      have he : xs[i]'(by omega) = v (a + c * (i : Int)) := by
        have h3 : xs[i]? = some (v (a + c * (i : Int))) := by
          rw [hx, List.getElem?_map, List.getElem?_range (by omega)]
          rfl
        exact (List.getElem?_eq_some_iff.1 h3).2
      have := ih (i + 1) (by omega)
      refine ev_shift ?_
      simp only [hstep (a + c * (i : Int)) i _ (by omega) (by omega) (by omega) (by omega) he]
      have e : a + c * (i : Int) + c = a + c * ((i + 1 : Nat) : Int) := by
        rw [show ((i + 1 : Nat) : Int) = (i : Int) + 1 by omega, Int.mul_add, Int.mul_one]; omega
      rw [e]
      simpa using this
  have := key xs.length 0 (by omega)
  simpa using this
theorem loop_ev {σ ρ : Type} (l : Nat → σ → Option ρ) (Inv : σ → Prop) (m : σ → Nat) (F : σ → ρ)
    (h : ∀ s, Inv s → Ev (fun k => l k s) (F s) ∨ (∃ s', Inv s' ∧ m s' < m s ∧ F s' = F s ∧ ∀ r, Ev (fun k => l k s') r → Ev (fun k => l k s) r)) :
    ∀ s, Inv s → Ev (fun k => l k s) (F s) := by
  have key : ∀ n s, m s ≤ n → Inv s → Ev (fun k => l k s) (F s) := by
    intro n
    induction n with
    | zero =>
      intro s hm hi
      rcases h s hi with hl | ⟨s', _, hlt, _⟩
      · exact hl
      · omega
    | succ n ih =>
      intro s hm hi
      rcases h s hi with hl | ⟨s', hi', hlt, hF, hl⟩
      · exact hl
      · exact hl _ (ev_eq (ih s' (by omega) hi') hF)
  exact fun s hi => key (m s) s (Nat.le_refl _) hi

end Go.Proofs.YtcikahnmiiichaaDoor.Com
