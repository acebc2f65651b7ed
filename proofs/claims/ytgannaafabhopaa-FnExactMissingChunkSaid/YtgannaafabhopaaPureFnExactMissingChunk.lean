/- For every list of strings and number the law FnExactMissingChunk returns true; no conditions. -/
import Derived.Test.YtgannaafabhopaaQFnExactMissingChunk
import Derived.Test.YtgannaafabhopaaCom
set_option linter.unusedVariables false
set_option linter.unusedSimpArgs false
namespace Go.Proofs.Ytgannaafabhopaa.Pure
open Go.RowKit Go.Proofs.Ytgannaafabhopaa.A Go.Proofs.YtgannaafabhopaaW.PrintWords Go.Proofs.YtgannaafabhopaaW.PrintLast
open Go.Proofs.Ytgannaafabhopaa.Opens
open Go.Proofs.Ytgannaafabhopaa.Com

theorem rdB (xs : List ByteArray) (i : Nat) (h : i < xs.length) : rdOf ByteArray.empty xs (i : Int) = xs[i] := by simp [rdOf, h]
theorem toList_inj (a b : ByteArray) : a.toList = b.toList ↔ a = b := ⟨fun h => bytesOf_inj (bytesOf_congr h), fun h => by rw [h]⟩
/-- The bytes of all strings. -/
def sumSizes (xs : List ByteArray) : Nat := (xs.map ByteArray.size).sum

theorem laws_szStringS.ev (xs : List ByteArray) (a : Int) (hn : xs.length ≤ maxLen) (hw : ∀ s ∈ xs, s.size ≤ maxLen) (h0 : 0 ≤ a) (h1 : a ≤ 1048576) :
    ∃ r, Ev (fun k => laws_szStringS.f k xs a) r ∧ (¬ r < 0 → (xs.length : Int) + (sumSizes xs : Int) + r = a) := by
  unfold maxLen at hn
  have key : ∀ (d i : Nat) (b : Int), i + d = xs.length → 0 ≤ b → b ≤ 1048576 → ∃ r, Ev (fun k => laws_szStringS.l0 k xs b (i : Int)) r ∧ (¬ r < 0 → (sumSizes (xs.drop i) : Int) + r = b) := by
    intro d
    induction d with
    | zero =>
      intro i b h hb0 hb1
      refine ⟨b, ev_shift ?_, fun _ => by rw [List.drop_eq_nil_of_le (by omega)]; simp [sumSizes]⟩
      simp only [laws_szStringS.l0, if_neg (show ¬ ((i : Int) < (xs.length : Int)) by omega)]
      exact Ev.now _
    | succ d ih =>
      intro i b h hb0 hb1
      have hi : i < xs.length := by omega
      have hs := hw xs[i] (List.getElem_mem hi)
      unfold maxLen at hs
      have ew := w64 (show -9223372036854775808 ≤ b - (xs[i].size : Int) by omega) (by omega)
      have hsum : sumSizes (xs.drop i) = xs[i].size + sumSizes (xs.drop (i + 1)) := by rw [List.drop_eq_getElem_cons hi]; simp only [sumSizes, List.map_cons, List.sum_cons]
      by_cases hneg : b - (xs[i].size : Int) < 0
      · refine ⟨-1, ev_shift ?_, fun h' => by omega⟩
        simp only [laws_szStringS.l0, if_pos (show (i : Int) < (xs.length : Int) by omega), if_pos (show (0 : Int) ≤ (i : Int) by omega), rdB xs i hi, ew, if_pos hneg]
        exact Ev.now _
      · obtain ⟨r, hr, hq⟩ := ih (i + 1) (b - (xs[i].size : Int)) (by omega) (by omega) (by omega)
        refine ⟨r, ev_shift ?_, fun h' => by have := hq h'; omega⟩
        simp only [laws_szStringS.l0, if_pos (show (i : Int) < (xs.length : Int) by omega), if_pos (show (0 : Int) ≤ (i : Int) by omega), rdB xs i hi, ew, if_neg hneg, w64 (show -9223372036854775808 ≤ (i : Int) + 1 by omega) (by omega)]
        simpa using hr
  have ew := w64 (show -9223372036854775808 ≤ a - (xs.length : Int) by omega) (by omega)
  by_cases hneg : a - (xs.length : Int) < 0
  · exact ⟨-1, ev_val (fun k => by simp only [laws_szStringS.f, ew, if_pos hneg]), fun h' => by omega⟩
  · obtain ⟨r, hr, hq⟩ := key xs.length 0 (a - (xs.length : Int)) (by omega) (by omega) (by omega)
    refine ⟨r, Ev.congr (fun k => ?_) hr, fun h' => by have := hq h'; rw [List.drop_zero] at this; omega⟩
    simp only [laws_szStringS.f, ew, if_neg hneg]
    rfl

/-- The first empty string's place, or -1. -/
def firstE : List ByteArray → Int → Int
  | [], _ => -1
  | s :: l, i => if s = ⟨#[]⟩ then i else firstE l (i + 1)
/-- The first chunk that is missing. -/
def missC (xs : List ByteArray) (total : Int) : Int := if xs.length = 0 ∧ total > 0 then 0 else firstE xs 0
theorem empty_toList : (⟨#[]⟩ : ByteArray).toList = [] := by rw [toList_data]
theorem toList_nil (s : ByteArray) : s.toList = [] ↔ s = ⟨#[]⟩ := ⟨fun h => (toList_inj s ⟨#[]⟩).1 (h.trans empty_toList.symm), fun h => by rw [h, empty_toList]⟩

theorem spec_MissingChunk.ev (xs : List ByteArray) (t : Int) (hn : xs.length ≤ 9223372036854775806) : Ev (fun k => spec_MissingChunk.f k xs t) (missC xs t) := by
  have hend : (if (xs.length : Int) = 0 then (if t > 0 then (some 0) else (some (-1))) else (some (-1)) : Option Int) = some (if xs.length = 0 ∧ t > 0 then 0 else -1) := by
    by_cases h : xs.length = 0
    · rw [if_pos (by omega)]
      by_cases ht : t > 0
      · rw [if_pos ht, if_pos ⟨h, ht⟩]
      · rw [if_neg ht, if_neg (fun h' => ht h'.2)]
    · rw [if_neg (by omega), if_neg (fun h' => h h'.1)]
  have key : ∀ (d i : Nat), i + d = xs.length → Ev (fun k => spec_MissingChunk.l0 k xs t (i : Int)) (if xs.length = 0 ∧ t > 0 then 0 else firstE (xs.drop i) (i : Int)) := by
    intro d
    induction d with
    | zero =>
      intro i h
      refine ev_shift ?_
      simp only [spec_MissingChunk.l0, if_neg (show ¬ ((i : Int) < (xs.length : Int)) by omega), hend]
      exact ev_some (by rw [List.drop_eq_nil_of_le (show xs.length ≤ i by omega)]; rfl)
    | succ d ih =>
      intro i h
      have hi : i < xs.length := by omega
      have := ih (i + 1) (by omega)
      rw [if_neg (fun h' => by omega)] at this ⊢
      refine ev_shift ?_
      simp only [spec_MissingChunk.l0, if_pos (show (i : Int) < (xs.length : Int) by omega), if_pos (show (0 : Int) ≤ (i : Int) by omega), rdB xs i hi, toList_nil, w64 (show -9223372036854775808 ≤ (i : Int) + 1 by omega) (by omega)]
      rw [List.drop_eq_getElem_cons hi, firstE]
      by_cases he : xs[i] = ⟨#[]⟩
      · simp only [if_pos he]
        exact Ev.now _
      · simp only [if_neg he]
        simpa using this
  have := key xs.length 0 (by omega)
  simpa [spec_MissingChunk.f, missC] using this

theorem laws_toStringS.ev (xs : List ByteArray) (hn : xs.length ≤ 17592186044416) : Ev (fun k => laws_toStringS.f k xs) xs := by
  have := map_loop (fun k ys i => laws_toStringS.l0 k xs ys i) (fun s => s) xs
    (fun k ys _ => by simp only [laws_toStringS.l0, if_neg (show ¬ ((xs.length : Int) < (xs.length : Int)) by omega)])
    (fun i h ys k hy => by
      simp only [laws_toStringS.l0, if_pos (show (i : Int) < (xs.length : Int) by omega), if_pos (show (0 : Int) ≤ (i : Int) by omega), if_pos (show (i : Int) < (ys.length : Int) by omega),
        rdB xs i h, Int.toNat_natCast, w64 (show -9223372036854775808 ≤ (i : Int) + 1 by omega) (by omega)])
    (List.replicate xs.length (⟨#[]⟩ : ByteArray)) (by simp)
  rw [List.map_id'] at this
  refine Ev.congr (fun k => ?_) this
  simp only [laws_toStringS.f, if_pos (show (0 : Int) ≤ (xs.length : Int) by omega), Int.toNat_natCast, if_pos hn]

theorem slices_Index_string_string.ev (xs : List ByteArray) (hn : xs.length ≤ 9223372036854775806) : Ev (fun k => slices_Index_string_string.f k xs (⟨#[]⟩ : ByteArray)) (firstE xs 0) := by
  have key : ∀ (d i : Nat), i + d = xs.length → Ev (fun k => slices_Index_string_string.l0 k xs (⟨#[]⟩ : ByteArray) (xs.length : Int) (i : Int)) (firstE (xs.drop i) (i : Int)) := by
    intro d
    induction d with
    | zero =>
      intro i h
      refine ev_shift ?_
      simp only [slices_Index_string_string.l0, if_neg (show ¬ ((i : Int) < (xs.length : Int)) by omega)]
      exact ev_some (by rw [List.drop_eq_nil_of_le (show xs.length ≤ i by omega)]; rfl)
    | succ d ih =>
      intro i h
      have hi : i < xs.length := by omega
      have := ih (i + 1) (by omega)
      refine ev_shift ?_
      simp only [slices_Index_string_string.l0, if_pos (show (i : Int) < (xs.length : Int) by omega), if_pos (show (0 : Int) ≤ (i : Int) by omega), rdB xs i hi, toList_inj, w64 (show -9223372036854775808 ≤ (i : Int) + 1 by omega) (by omega)]
      rw [List.drop_eq_getElem_cons hi, firstE]
      by_cases he : xs[i] = ⟨#[]⟩
      · simp only [if_pos he, if_pos (show (⟨#[]⟩ : ByteArray) = xs[i] from he.symm)]
        exact Ev.now _
      · simp only [if_neg he, if_neg (show ¬ ((⟨#[]⟩ : ByteArray) = xs[i]) from fun h => he h.symm)]
        simpa using this
  have := key xs.length 0 (by omega)
  simpa [slices_Index_string_string.f] using this

theorem impl_MissingChunk.ev (xs : List ByteArray) (t : Int) (hn : xs.length ≤ 9223372036854775806) : Ev (fun k => impl_MissingChunk.f k xs t) (missC xs t) := by
  have hi := slices_Index_string_string.ev xs hn
  unfold missC
  by_cases h : xs.length = 0
  · by_cases ht : t > 0
    · simp only [impl_MissingChunk.f, if_pos (show (xs.length : Int) = 0 by omega), if_pos ht, if_pos (show xs.length = 0 ∧ t > 0 from ⟨h, ht⟩)]
      exact Ev.now _
    · simp only [impl_MissingChunk.f, if_pos (show (xs.length : Int) = 0 by omega), if_neg ht, if_neg (show ¬ (xs.length = 0 ∧ t > 0) from fun h' => ht h'.2)]
      exact Ev.bind hi (Ev.now _)
  · simp only [impl_MissingChunk.f, if_neg (show ¬ ((xs.length : Int) = 0) by omega), if_neg (show ¬ (xs.length = 0 ∧ t > 0) from fun h' => h h'.1)]
    exact Ev.bind hi (Ev.now _)

theorem laws_eqStringS.ev (xs ys : List ByteArray) (hn : xs.length ≤ 9223372036854775806) : ∃ b, Ev (fun k => laws_eqStringS.f k xs ys) b ∧ (b = true ↔ xs = ys) := by
  by_cases hl : xs.length = ys.length
  · obtain ⟨b, hb, hq⟩ := eq_loop (fun k i => laws_eqStringS.l0 k xs ys i) xs ys hl
      (fun k => by simp only [laws_eqStringS.l0, if_neg (show ¬ ((xs.length : Int) < (xs.length : Int)) by omega)])
      (fun i h1 h2 => by
        by_cases h : xs[i] = ys[i]
        · exact .inl ⟨h, 0, fun k _ => by simp only [laws_eqStringS.l0, if_pos (show (i : Int) < (xs.length : Int) by omega), if_pos (show (0 : Int) ≤ (i : Int) by omega), if_pos (show (i : Int) < (ys.length : Int) by omega), rdB xs i h1, rdB ys i h2, toList_inj, if_pos h, w64 (show -9223372036854775808 ≤ (i : Int) + 1 by omega) (by omega)]⟩
        · exact .inr ⟨h, 0, fun k _ => by simp only [laws_eqStringS.l0, if_pos (show (i : Int) < (xs.length : Int) by omega), if_pos (show (0 : Int) ≤ (i : Int) by omega), if_pos (show (i : Int) < (ys.length : Int) by omega), rdB xs i h1, rdB ys i h2, toList_inj, if_neg h]⟩)
    refine ⟨b, ?_, hq⟩
    refine Ev.congr (fun k => ?_) hb
    simp only [laws_eqStringS.f, if_pos (show (xs.length : Int) = (ys.length : Int) by omega)]
  · refine ⟨false, ev_val (fun k => ?_), ?_⟩
    · simp only [laws_eqStringS.f, if_neg (show ¬ ((xs.length : Int) = (ys.length : Int)) by omega)]
    · constructor
      · intro h; cases h
      · intro h; subst h; exact absurd rfl hl
theorem laws_eqStringS.same (xs : List ByteArray) (hn : xs.length ≤ 9223372036854775806) : Ev (fun k => laws_eqStringS.f k xs xs) true := by
  obtain ⟨b, hb, hq⟩ := laws_eqStringS.ev xs xs hn
  exact ev_eq hb (hq.2 rfl)

theorem FnExactMissingChunk : FnExactMissingChunkPure := by
  intro l t h ht
  refine Ev.rounds (g := fun k => laws_FnExactMissingChunk.f k l t) ?_
  obtain ⟨r, hr, hq⟩ := laws_szStringS.ev l 1048576 h.1 h.2 (by omega) (by omega)
  simp only [laws_FnExactMissingChunk.f]
  refine Ev.bind hr ?_
  by_cases hneg : r < 0
  · simp only [if_pos hneg]; exact Ev.now _
  · have hl := hq hneg
    simp only [if_neg hneg]
    have hT := laws_toStringS.ev l (by omega)
    refine Ev.bind hT (Ev.bind (spec_MissingChunk.ev l t (by omega)) (Ev.bind hT (Ev.bind (impl_MissingChunk.ev l t (by omega)) ?_)))
    simp only [if_true]
    refine Ev.bind hT (Ev.bind (laws_eqStringS.same l (by omega)) ?_)
    exact ev_val (fun _ => by simp)

end Go.Proofs.Ytgannaafabhopaa.Pure
