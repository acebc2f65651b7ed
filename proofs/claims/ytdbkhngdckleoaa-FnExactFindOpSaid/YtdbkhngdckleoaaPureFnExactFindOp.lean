/- For every log, client and number the law FnExactFindOp returns true; no conditions. -/
import Derived.Test.YtdbkhngdckleoaaQFnExactFindOp
import Derived.Test.YtdbkhngdckleoaaDCom
set_option linter.unusedVariables false
set_option linter.unusedSimpArgs false
namespace Go.Proofs.Ytdbkhngdckleoaa.Pure
open Go.RowKit Go.Proofs.Ytdbkhngdckleoaa.D Go.Proofs.YtdbkhngdckleoaaW.PrintWords Go.Proofs.YtdbkhngdckleoaaW.PrintLast
open Go.Proofs.Ytdbkhngdckleoaa.Opens
open Go.Proofs.Ytdbkhngdckleoaa.Com

theorem laws_szEntryS.val (xs : List S32) (a : Int) (hn : xs.length ≤ maxLen) (h0 : 0 ≤ a) (h1 : a ≤ 1048576) :
    ∃ r, laws_szEntryS.f xs a = some r ∧ (¬ r < 0 → r = a - xs.length ∧ (xs.length : Int) ≤ a) := by
  unfold maxLen at hn
  unfold laws_szEntryS.f
  rw [w64 (show -9223372036854775808 ≤ a - (xs.length : Int) by omega) (by omega)]
  by_cases h : a - (xs.length : Int) < 0
  · exact ⟨-1, by rw [if_pos h], fun h' => by omega⟩
  · exact ⟨_, by rw [if_neg h], fun h' => ⟨rfl, by omega⟩⟩

theorem rdE (xs : List S37) (i : Nat) (h : i < xs.length) : rd_T37 xs (i : Int) = xs[i] := by simp [rd_T37, h]
theorem rdLE (xs : List S32) (i : Nat) (h : i < xs.length) : rd_T32 xs (i : Int) = xs[i] := by simp [rd_T32, h]
/-- An entry of the laws, as one of the program. -/
def toE (x : S32) : S37 := ⟨x.f0, ⟨x.f1.f0, x.f1.f1, x.f1.f2, x.f1.f3, x.f1.f4, x.f1.f5⟩⟩
theorem ent_eq (x y : S37) : x = y ↔ x.f0 = y.f0 ∧ x.f1.f0 = y.f1.f0 ∧ x.f1.f1 = y.f1.f1 ∧ x.f1.f2 = y.f1.f2 ∧ x.f1.f3 = y.f1.f3 ∧ x.f1.f4 = y.f1.f4 ∧ x.f1.f5 = y.f1.f5 := by
  constructor
  · intro h; subst h; simp
  · rintro ⟨h0, h1, h2, h3, h4, h5, h6⟩
    obtain ⟨a, ⟨b, c, d, e, f, g⟩⟩ := x
    obtain ⟨a', ⟨b', c', d', e', f', g'⟩⟩ := y
    simp_all

theorem spec_FindOp.ev (xs : List S37) (c s : Int) (hn : xs.length ≤ 9223372036854775806) : Ev (fun k => spec_FindOp.f k xs c s) (idx_ (isOp_ c s) xs) := by
  have key : ∀ d i : Nat, i + d = xs.length → (∀ j (hj : j < xs.length), j < i → isOp_ c s xs[j] = false) → Ev (fun k => spec_FindOp.l0 k xs c s (i : Int)) (idx_ (isOp_ c s) xs) := by
    intro d
    induction d with
    | zero =>
      intro i h hb
      refine ev_shift (ev_val fun k => ?_)
      simp only [spec_FindOp.l0, if_neg (show ¬ ((i : Int) < (xs.length : Int)) by omega)]
      rw [idx_miss _ xs (fun j hj => hb j hj (by omega))]
    | succ d ih =>
      intro i h hb
      have hi : i < xs.length := by omega
      have e1 := w64 (show -9223372036854775808 ≤ (i : Int) + 1 by omega) (by omega)
      by_cases hp : isOp_ c s xs[i] = true
      · refine ev_shift (ev_val fun k => ?_)
        have hp' := hp
        simp only [isOp_, decide_eq_true_eq] at hp'
        rw [idx_hit _ xs i hi hp (fun j hj => hb j (by omega) hj)]
        simp only [spec_FindOp.l0, if_pos (show (i : Int) < (xs.length : Int) by omega), if_pos (show (0 : Int) ≤ (i : Int) by omega), rdE xs i hi, if_pos hp'.1, if_pos hp'.2]
      · have := ih (i + 1) (by omega) (fun j hj hji => by
          rcases Nat.lt_or_ge j i with h' | h'
          · exact hb j hj h'
          · obtain rfl : j = i := by omega
            exact Bool.eq_false_iff.2 hp)
        refine ev_shift (Ev.congr (fun k => ?_) this)
        simp only [isOp_, decide_eq_true_eq] at hp
        by_cases hc : xs[i].f1.f0 = c
        · simp only [spec_FindOp.l0, if_pos (show (i : Int) < (xs.length : Int) by omega), if_pos (show (0 : Int) ≤ (i : Int) by omega), rdE xs i hi, if_pos hc, if_neg (show ¬ xs[i].f1.f1 = s from fun h' => hp ⟨hc, h'⟩), e1]
          rfl
        · simp only [spec_FindOp.l0, if_pos (show (i : Int) < (xs.length : Int) by omega), if_pos (show (0 : Int) ≤ (i : Int) by omega), rdE xs i hi, if_neg hc, e1]
          rfl
  have := key xs.length 0 (by omega) (fun j _ hj => absurd hj (Nat.not_lt_zero _))
  simpa [spec_FindOp.f] using this

theorem laws_toOp.val (a b c d e f : Int) : laws_toOp.f a b c d e f = some (a, b, c, d, e, f) := rfl

theorem laws_toEntry.val (x a b c d e f : Int) : laws_toEntry.f x a b c d e f = some (x, a, b, c, d, e, f) := rfl

theorem laws_toEntryS.ev (xs : List S32) (hn : xs.length ≤ 5026338869833) : Ev (fun k => laws_toEntryS.f k xs) (xs.map toE) := by
  have := map_loop (fun k ys i => laws_toEntryS.l0 k xs ys i) toE xs
    (fun k ys _ => by simp only [laws_toEntryS.l0, if_neg (show ¬ ((xs.length : Int) < (xs.length : Int)) by omega)])
    (fun i h ys k hy => by
      simp only [laws_toEntryS.l0, if_pos (show (i : Int) < (xs.length : Int) by omega), if_pos (show (0 : Int) ≤ (i : Int) by omega), if_pos (show (i : Int) < (ys.length : Int) by omega),
        laws_toEntry.val, Option.bind_some, rdLE xs i h, Int.toNat_natCast, w64 (show -9223372036854775808 ≤ (i : Int) + 1 by omega) (by omega), toE])
    (List.replicate xs.length z37) (by simp)
  refine Ev.congr (fun k => ?_) this
  simp only [laws_toEntryS.f, if_pos (show (0 : Int) ≤ (xs.length : Int) by omega), Int.toNat_natCast, if_pos hn]



theorem laws_eqOp.val (a b c d e f a' b' c' d' e' f' : Int) : laws_eqOp.f a b c d e f a' b' c' d' e' f' = some (decide (a = a' ∧ b = b' ∧ c = c' ∧ d = d' ∧ e = e' ∧ f = f')) := by
  unfold laws_eqOp.f
  by_cases h1 : a = a' <;> by_cases h2 : b = b' <;> by_cases h3 : c = c' <;> by_cases h4 : d = d' <;> by_cases h5 : e = e' <;> by_cases h6 : f = f' <;> simp [h1, h2, h3, h4, h5, h6]

theorem laws_eqEntry.val (x y : S37) : ∃ b, laws_eqEntry.f x.f0 x.f1.f0 x.f1.f1 x.f1.f2 x.f1.f3 x.f1.f4 x.f1.f5 y.f0 y.f1.f0 y.f1.f1 y.f1.f2 y.f1.f3 y.f1.f4 y.f1.f5 = some b ∧ (b = true ↔ x = y) := by
  unfold laws_eqEntry.f
  rw [ent_eq]
  by_cases h : x.f0 = y.f0
  · rw [if_pos h, laws_eqOp.val]
    simp only [Option.bind_some]
    by_cases h2 : x.f1.f0 = y.f1.f0 ∧ x.f1.f1 = y.f1.f1 ∧ x.f1.f2 = y.f1.f2 ∧ x.f1.f3 = y.f1.f3 ∧ x.f1.f4 = y.f1.f4 ∧ x.f1.f5 = y.f1.f5
    · exact ⟨true, by rw [if_pos (decide_eq_true h2)], by simp only [true_iff]; exact ⟨h, h2⟩⟩
    · exact ⟨false, by rw [if_neg (by simpa using h2)], by simp only [Bool.false_eq_true, false_iff]; exact fun h' => h2 h'.2⟩
  · exact ⟨false, by rw [if_neg h], by simp only [Bool.false_eq_true, false_iff]; exact fun h' => h h'.1⟩

theorem laws_eqEntryS.ev (xs ys : List S37) (hn : xs.length ≤ 9223372036854775806) : ∃ b, Ev (fun k => laws_eqEntryS.f k xs ys) b ∧ (b = true ↔ xs = ys) := by
  by_cases hl : xs.length = ys.length
  · obtain ⟨b, hb, hq⟩ := eq_loop (fun k i => laws_eqEntryS.l0 k xs ys i) xs ys hl
      (fun k => by simp only [laws_eqEntryS.l0, if_neg (show ¬ ((xs.length : Int) < (xs.length : Int)) by omega)])
      (fun i h1 h2 => by
        obtain ⟨b, hb, hq⟩ := laws_eqEntry.val xs[i] ys[i]
        cases b with
        | true => exact .inl ⟨hq.1 rfl, 0, fun k _ => by simp only [laws_eqEntryS.l0, if_pos (show (i : Int) < (xs.length : Int) by omega), if_pos (show (0 : Int) ≤ (i : Int) by omega), if_pos (show (i : Int) < (ys.length : Int) by omega), rdE xs i h1, rdE ys i h2, hb, Option.bind_some, if_true, w64 (show -9223372036854775808 ≤ (i : Int) + 1 by omega) (by omega)]⟩
        | false => exact .inr ⟨fun h => by simpa using hq.2 h, 0, fun k _ => by simp only [laws_eqEntryS.l0, if_pos (show (i : Int) < (xs.length : Int) by omega), if_pos (show (0 : Int) ≤ (i : Int) by omega), if_pos (show (i : Int) < (ys.length : Int) by omega), rdE xs i h1, rdE ys i h2, hb, Option.bind_some, Bool.false_eq_true, if_false]⟩)
    refine ⟨b, ?_, hq⟩
    refine Ev.congr (fun k => ?_) hb
    simp only [laws_eqEntryS.f, if_pos (show (xs.length : Int) = (ys.length : Int) by omega)]
  · refine ⟨false, ev_val (fun k => ?_), ?_⟩
    · simp only [laws_eqEntryS.f, if_neg (show ¬ ((xs.length : Int) = (ys.length : Int)) by omega)]
    · constructor
      · intro h; cases h
      · intro h; subst h; exact absurd rfl hl
theorem laws_eqEntryS.same (xs : List S37) (hn : xs.length ≤ 9223372036854775806) : Ev (fun k => laws_eqEntryS.f k xs xs) true := by
  obtain ⟨b, hb, hq⟩ := laws_eqEntryS.ev xs xs hn
  exact ev_eq hb (hq.2 rfl)

theorem FnExactFindOp : FnExactFindOpPure := by
  intro l c s h1 h2 h3
  refine Ev.rounds (g := fun k => laws_FnExactFindOp.f k l c s) ?_
  obtain ⟨r, hr, hq⟩ := laws_szEntryS.val l 1048576 h1.1 (by omega) (by omega)
  simp only [laws_FnExactFindOp.f, hr, Option.bind_some]
  by_cases hneg : r < 0
  · simp only [if_pos hneg]; exact Ev.now _
  · obtain ⟨e1, e2⟩ := hq hneg
    simp only [if_neg hneg]
    have hT := laws_toEntryS.ev l (by omega)
    have hl : (l.map toE).length ≤ 1048576 := by simp; omega
    refine Ev.bind hT (Ev.bind (spec_FindOp.ev (l.map toE) c s (by omega)) (Ev.bind hT ?_))
    simp only [impl_FindOp.f, Option.bind_some, if_true]
    refine Ev.bind hT (Ev.bind (laws_eqEntryS.same _ (by omega)) ?_)
    exact ev_val (fun _ => by simp)

end Go.Proofs.Ytdbkhngdckleoaa.Pure
