/- For every code the law FnServers returns true; no conditions. -/
import Derived.Test.YtkkbcnghlnogpaaDoorQFnServers
import Derived.Test.YtkkbcnghlnogpaaDoorSCom
set_option linter.unusedVariables false
set_option linter.unusedSimpArgs false
namespace Go.Proofs.YtkkbcnghlnogpaaDoor.Pure
open Go.RowKit Go.Proofs.YtkkbcnghlnogpaaDoor.S Go.Proofs.YtkkbcnghlnogpaaDoorW.PrintWords Go.Proofs.YtkkbcnghlnogpaaDoorW.PrintLast
open Go.Proofs.YtkkbcnghlnogpaaDoor.Opens
open Go.Proofs.YtkkbcnghlnogpaaDoor.Com
open Go.Proofs.YtkkbcnghlnogpaaDoor.Given

-- nothing to say of it

/-! The cursor of the draws: the code, an index, a mix. -/
theorem and255 (x : Int) : 0 ≤ Go.bits .and .i64 x 255 ∧ Go.bits .and .i64 x 255 ≤ 255 := by
  have h : (BitVec.ofInt IntKind.i64.bits x &&& BitVec.ofInt IntKind.i64.bits 255).toNat ≤ 255 := by
    rw [BitVec.toNat_and]
    refine Nat.le_trans Nat.and_le_right ?_
    decide
  simp only [Go.bits]
  rw [Go.IntKind.wrap_i64]
  omega
/-- Where the index may stand. -/
def CurI (i : Int) : Prop := 0 ≤ i ∧ i ≤ 1048576
theorem cur0 : CurI 0 := ⟨by omega, by omega⟩

theorem spec_l1New.ev (c : List Int) (hc : c.length ≤ 1048576) : ∃ h, Ev (fun k => spec_l1New.f k c) (c, 0, h) := by
  have key : ∀ d i : Nat, i + d = c.length → ∀ h, ∃ h', Ev (fun k => spec_l1New.l0 k c h (i : Int)) (c, 0, h') := by
    intro d
    induction d with
    | zero =>
      intro i hi h
      refine ⟨h, ev_shift (ev_val fun k => ?_)⟩
      simp only [spec_l1New.l0, if_neg (show ¬ ((i : Int) < (c.length : Int)) by omega)]
    | succ d ih =>
      intro i hi h
      by_cases h4 : (i : Int) < 4000
      · obtain ⟨h', hh⟩ := ih (i + 1) (by omega) (Go.bits .and .i64 (wrap64 ((wrap64 ((wrap64 (h * 131)) + (wrap64 (rd c (i : Int))))) + 7)) 1073741823)
        rw [show ((i + 1 : Nat) : Int) = (i : Int) + 1 by omega] at hh
        refine ⟨h', ev_shift (ev_to ⟨0, fun k _ => ?_⟩ hh)⟩
        simp only [spec_l1New.l0, if_pos (show (i : Int) < (c.length : Int) by omega), if_pos h4, if_pos (show (0 : Int) ≤ (i : Int) by omega), w64 (show -9223372036854775808 ≤ (i : Int) + 1 by omega) (by omega)]
      · refine ⟨h, ev_shift (ev_val fun k => ?_)⟩
        simp only [spec_l1New.l0, if_pos (show (i : Int) < (c.length : Int) by omega), if_neg h4]
  exact key c.length 0 (by omega) _

theorem spec_l1Byte.is (c : List Int) (hc : c.length ≤ 1048576) (i h : Int) (hi : CurI i) : ∃ x i' h', spec_l1Byte.f c i h = some (x, i', h') ∧ (0 ≤ x ∧ x ≤ 255) ∧ CurI i' := by
  obtain ⟨h0, h1⟩ := hi
  rw [spec_l1Byte.f]
  by_cases hl : i < (c.length : Int)
  · rw [if_pos hl, if_pos h0, w64 (show -9223372036854775808 ≤ i + 1 by omega) (by omega)]
    exact ⟨_, _, _, rfl, and255 _, by omega, by omega⟩
  · rw [if_neg hl]
    exact ⟨_, _, _, rfl, and255 _, h0, h1⟩

theorem spec_l1Below.is (c : List Int) (hc : c.length ≤ 1048576) (i h n : Int) (hi : CurI i) : ∃ x i' h', spec_l1Below.f c i h n = some (x, i', h') ∧ (n ≤ 0 → x = 0) ∧ (0 < n → 0 ≤ x ∧ x < n) ∧ CurI i' := by
  rw [spec_l1Below.f]
  by_cases h0 : n ≤ 0
  · rw [if_pos h0]
    exact ⟨_, _, _, rfl, fun _ => rfl, fun h => absurd h (by omega), hi⟩
  rw [if_neg h0]
  have hn : 0 < n := by omega
  have hz : ¬ (n = 0) := by omega
  have md : ∀ x : Int, 0 ≤ x → 0 ≤ Int.tmod x n ∧ Int.tmod x n < n := fun x hx => by
    rw [tmod_pos x n hx]; exact ⟨Int.emod_nonneg _ hz, Int.emod_lt_of_pos _ hn⟩
  by_cases h1 : n ≤ 256
  · rw [if_pos h1]
    obtain ⟨x, i', h', e, hx, hi'⟩ := spec_l1Byte.is c hc i h hi
    rw [e]
    simp only [Option.bind_some, if_neg hz]
    exact ⟨_, _, _, rfl, fun h => absurd h h0, fun _ => md x hx.1, hi'⟩
  · rw [if_neg h1]
    obtain ⟨x, i1, g1, e1, hx, hi1⟩ := spec_l1Byte.is c hc i h hi
    obtain ⟨y, i2, g2, e2, hy, hi2⟩ := spec_l1Byte.is c hc i1 g1 hi1
    obtain ⟨z, i3, g3, e3, hz3, hi3⟩ := spec_l1Byte.is c hc i2 g2 hi2
    obtain ⟨w, i4, g4, e4, hw, hi4⟩ := spec_l1Byte.is c hc i3 g3 hi3
    simp only [e1, e2, e3, e4, Option.bind_some, if_neg hz]
    refine ⟨_, _, _, rfl, fun h => absurd h h0, fun _ => md _ ?_, hi4⟩
    simp only [wrap64]
    omega

theorem spec_l1Once.is (c : List Int) (hc : c.length ≤ 1048576) (i h n : Int) (hi : CurI i) : ∃ b i' h', spec_l1Once.f c i h n = some (b, i', h') ∧ CurI i' := by
  obtain ⟨x, i', h', e, _, _, hi'⟩ := spec_l1Below.is c hc i h n hi
  rw [spec_l1Once.f, e]
  exact ⟨_, _, _, rfl, hi'⟩

theorem spec_l1PickInt.is (c : List Int) (hc : c.length ≤ 1048576) (i h : Int) (l : List Int) (hl : 0 < l.length) (hi : CurI i) : ∃ x i' h', spec_l1PickInt.f c i h l = some (x, i', h') ∧ x ∈ l ∧ CurI i' := by
  obtain ⟨x, i', h', e, _, hx, hi'⟩ := spec_l1Below.is c hc i h (l.length : Int) hi
  obtain ⟨h0, h1⟩ := hx (by omega)
  rw [spec_l1PickInt.f, e]
  simp only [Option.bind_some, if_pos h0, if_pos h1]
  refine ⟨_, _, _, rfl, ?_, hi'⟩
  obtain ⟨j, rfl⟩ := Int.eq_ofNat_of_zero_le h0
  rw [rd_get l j (by omega)]
  exact List.getElem_mem _

theorem spec_l2Some.ev (c : List Int) (hc : c.length ≤ 1048576) (i h : Int) (hi : CurI i) : ∃ l i' h', Ev (fun k => spec_l2Some.f k c i h) (l, i', h') ∧ (l.length ≤ 5 ∧ ∀ x ∈ l, -1 ≤ x ∧ x ≤ 5) ∧ CurI i' := by
  have key : ∀ d n : Nat, n + d = 5 → ∀ (acc : List Int), acc.length ≤ n → (∀ x ∈ acc, -1 ≤ x ∧ x ≤ 5) → ∀ i h : Int, CurI i → ∃ l i' h', Ev (fun k => spec_l2Some.l0 k acc (n : Int) c i h) (l, i', h') ∧ (l.length ≤ 5 ∧ ∀ x ∈ l, -1 ≤ x ∧ x ≤ 5) ∧ CurI i' := by
    intro d
    induction d with
    | zero =>
      intro n hn acc ha hm i h hi
      refine ⟨acc, i, h, ev_shift (ev_val fun k => ?_), ⟨by omega, hm⟩, hi⟩
      simp only [spec_l2Some.l0, if_neg (show ¬ ((n : Int) < 5) by omega)]
    | succ d ih =>
      intro n hn acc ha hm i h hi
      obtain ⟨b, i1, h1, e, hi1⟩ := spec_l1Once.is c hc i h 2 hi
      cases b with
      | true =>
        obtain ⟨l, i', h', hl, hp, hi'⟩ := ih (n + 1) (by omega) (acc ++ [(n : Int)]) (by simp; omega) (by intro x hx; rcases List.mem_append.1 hx with hx | hx; exact hm x hx; simp at hx; omega) i1 h1 hi1
        rw [show ((n + 1 : Nat) : Int) = (n : Int) + 1 by omega] at hl
        refine ⟨l, i', h', ev_shift (ev_to ⟨0, fun k _ => ?_⟩ hl), hp, hi'⟩
        simp only [spec_l2Some.l0, if_pos (show (n : Int) < 5 by omega), e, Option.bind_some, if_true, if_pos (show acc.length < 17592186044416 by omega), w64 (show -9223372036854775808 ≤ (n : Int) + 1 by omega) (by omega)]
      | false =>
        obtain ⟨l, i', h', hl, hp, hi'⟩ := ih (n + 1) (by omega) acc (by omega) hm i1 h1 hi1
        rw [show ((n + 1 : Nat) : Int) = (n : Int) + 1 by omega] at hl
        refine ⟨l, i', h', ev_shift (ev_to ⟨0, fun k _ => ?_⟩ hl), hp, hi'⟩
        simp only [spec_l2Some.l0, if_pos (show (n : Int) < 5 by omega), e, Option.bind_some, Bool.false_eq_true, if_false, w64 (show -9223372036854775808 ≤ (n : Int) + 1 by omega) (by omega)]
  exact key 5 0 (by omega) [] (by simp) (by simp) i h hi

theorem spec_l2Any.ev (c : List Int) (hc : c.length ≤ 1048576) (i h : Int) (hi : CurI i) : ∃ l i' h', Ev (fun k => spec_l2Any.f k c i h) (l, i', h') ∧ (l.length ≤ 6 ∧ ∀ x ∈ l, -1 ≤ x ∧ x ≤ 5) ∧ CurI i' := by
  obtain ⟨l, i1, h1, hl, ⟨hn, hm⟩, hi1⟩ := spec_l2Some.ev c hc i h hi
  obtain ⟨b, i2, h2, e2, hi2⟩ := spec_l1Once.is c hc i1 h1 8 hi1
  cases b with
  | false =>
    refine ⟨l, i2, h2, Ev.bind hl (ev_val fun k => ?_), ⟨by omega, hm⟩, hi2⟩
    simp only [e2, Option.bind_some, Bool.false_eq_true, if_false]
  | true =>
    obtain ⟨x, i3, h3, e3, hx, hi3⟩ := spec_l1PickInt.is c hc i2 h2 [(-1), 0, 4, 5] (by simp) hi2
    refine ⟨l ++ [x], i3, h3, Ev.bind hl (ev_val fun k => ?_), ⟨by simp; omega, ?_⟩, hi3⟩
    · simp only [e2, Option.bind_some, if_true, e3, if_pos (show l.length < 17592186044416 by omega)]
    · intro y hy
      rcases List.mem_append.1 hy with hy | hy
      · exact hm y hy
      · simp at hy hx; omega

theorem spec_l2Two.ev (c : List Int) (hc : c.length ≤ 1048576) : ∃ a b, Ev (fun k => spec_l2Two.f k c) (a, b) ∧ (a.length ≤ 6 ∧ ∀ x ∈ a, -1 ≤ x ∧ x ≤ 5) ∧ (b.length ≤ 6 ∧ ∀ x ∈ b, -1 ≤ x ∧ x ≤ 5) := by
  obtain ⟨h, e0⟩ := spec_l1New.ev c hc
  obtain ⟨a, i1, h1, e1, pa, hi1⟩ := spec_l2Any.ev c hc 0 h cur0
  obtain ⟨b, i2, h2, e2, hi2⟩ := spec_l1Once.is c hc i1 h1 5 hi1
  cases b with
  | true =>
    refine ⟨a, a, Ev.bind e0 (Ev.bind e1 (ev_val fun k => ?_)), pa, pa⟩
    simp only [e2, Option.bind_some, if_true, List.length_nil, List.nil_append]
    rw [if_pos (by omega)]
  | false =>
    obtain ⟨b, i3, h3, e3, pb, hi3⟩ := spec_l2Any.ev c hc i2 h2 hi2
    refine ⟨a, b, Ev.bind e0 (Ev.bind e1 ?_), pa, pb⟩
    simp only [e2, Option.bind_some, Bool.false_eq_true, if_false]
    exact Ev.bind e3 (Ev.now _)

theorem spec_DrawUniteServers.ev (c : List Int) (hc : c.length ≤ 1048576) : ∃ a b, Ev (fun k => spec_DrawUniteServers.f k c) (a, b) ∧ (a.length ≤ 6 ∧ ∀ x ∈ a, -1 ≤ x ∧ x ≤ 5) ∧ (b.length ≤ 6 ∧ ∀ x ∈ b, -1 ≤ x ∧ x ≤ 5) := by
  obtain ⟨a, b, e, pa, pb⟩ := spec_l2Two.ev c hc
  exact ⟨a, b, Ev.bind e (Ev.now _), pa, pb⟩

/-- A number is put into an ascending list, if it is not there. -/
def put : List Int → Int → List Int
  | [], a => [a]
  | x :: r, a => if x < a then x :: put r a else if x = a then x :: r else a :: x :: r
theorem put_len : ∀ (l : List Int) (a : Int), (put l a).length ≤ l.length + 1
  | [], a => by simp [put]
  | x :: r, a => by
    have := put_len r a
    unfold put
    split
    · simp only [List.length_cons]; omega
    · split <;> simp
theorem mem_put : ∀ (l : List Int) (a x : Int), x ∈ put l a ↔ x = a ∨ x ∈ l
  | [], a, x => by simp [put]
  | y :: r, a, x => by
    unfold put
    split
    · rw [List.mem_cons, mem_put r a x, List.mem_cons]
      constructor
      · rintro (h | h | h)
        · exact .inr (.inl h)
        · exact .inl h
        · exact .inr (.inr h)
      · rintro (h | h | h)
        · exact .inr (.inl h)
        · exact .inl h
        · exact .inr (.inr h)
    · split
      · next h => subst h; simp
      · simp
theorem put_asc : ∀ (l : List Int) (a : Int), l.Pairwise (· < ·) → (put l a).Pairwise (· < ·)
  | [], a, _ => by simp [put]
  | y :: r, a, h => by
    rw [List.pairwise_cons] at h
    unfold put
    split
    · next h1 =>
      rw [List.pairwise_cons]
      refine ⟨fun z hz => ?_, put_asc r a h.2⟩
      rcases (mem_put r a z).1 hz with rfl | hz
      · exact h1
      · exact h.1 z hz
    · split
      · rw [List.pairwise_cons]; exact h
      · next h1 h2 =>
        rw [List.pairwise_cons, List.pairwise_cons]
        refine ⟨fun z hz => ?_, h⟩
        rcases List.mem_cons.1 hz with rfl | hz
        · omega
        · have := h.1 z hz; omega
def puts (l : List Int) (acc : List Int) : List Int := l.foldl put acc
theorem puts_len : ∀ (l acc : List Int), (puts l acc).length ≤ acc.length + l.length
  | [], acc => by simp [puts]
  | x :: r, acc => by
    have h1 := puts_len r (put acc x)
    have h2 := put_len acc x
    show (puts r (put acc x)).length ≤ _
    simp only [List.length_cons]
    omega
theorem puts_asc : ∀ (l acc : List Int), acc.Pairwise (· < ·) → (puts l acc).Pairwise (· < ·)
  | [], acc, h => h
  | x :: r, acc, h => puts_asc r (put acc x) (put_asc acc x h)
theorem mem_puts : ∀ (l acc : List Int) (x : Int), x ∈ puts l acc ↔ x ∈ acc ∨ x ∈ l
  | [], acc, x => by simp [puts]
  | y :: r, acc, x => by
    show x ∈ puts r (put acc y) ↔ _
    rw [mem_puts r (put acc y) x, mem_put, List.mem_cons]
    constructor
    · rintro ((h | h) | h)
      · exact .inr (.inl h)
      · exact .inl h
      · exact .inr (.inr h)
    · rintro (h | h | h)
      · exact .inl (.inr h)
      · exact .inl (.inl h)
      · exact .inr h
theorem asc_unique : ∀ l m : List Int, l.Pairwise (· < ·) → m.Pairwise (· < ·) → (∀ x, x ∈ l ↔ x ∈ m) → l = m
  | [], [], _, _, _ => rfl
  | [], b :: m, _, _, h => by have := (h b).2 (by simp); simp at this
  | a :: l, [], _, _, h => by have := (h a).1 (by simp); simp at this
  | a :: l, b :: m, hl, hm, h => by
    rw [List.pairwise_cons] at hl hm
    have hab : a = b := by
      rcases List.mem_cons.1 ((h a).1 (by simp)) with e | e
      · exact e
      · rcases List.mem_cons.1 ((h b).2 (by simp)) with e2 | e2
        · exact e2.symm
        · have h1 := hl.1 b e2
          have h2 := hm.1 a e
          omega
    subst hab
    rw [asc_unique l m hl.2 hm.2 (fun x => ?_)]
    constructor
    · intro hx
      have h1 := hl.1 x hx
      rcases List.mem_cons.1 ((h x).1 (by simp [hx])) with e | e
      · omega
      · exact e
    · intro hx
      have h1 := hm.1 x hx
      rcases List.mem_cons.1 ((h x).2 (by simp [hx])) with e | e
      · omega
      · exact e

theorem cut_asc (d : Array Int) : ∀ m : Nat, m ≤ d.size → (∀ i j : Nat, i ≤ j → j < d.size → d[i]! ≤ d[j]!) →
    (Lib.compactUpTo d m).Pairwise (· < ·) ∧ (∀ x, x ∈ Lib.compactUpTo d m ↔ ∃ j, j < m ∧ d[j]! = x) := by
  intro m
  induction m with
  | zero => intro _ _; refine ⟨by simp [Lib.compactUpTo], fun x => by simp [Lib.compactUpTo]⟩
  | succ m ih =>
    intro hm hs
    obtain ⟨h1, h2⟩ := ih (by omega) hs
    rw [Lib.compactUpTo_succ]
    by_cases hk : m = 0 ∨ d[m]! ≠ d[m - 1]!
    · have hk' : Lib.keeps d m = true := by simp [Lib.keeps, hk]
      rw [if_pos hk']
      constructor
      · rw [List.pairwise_append]
        refine ⟨h1, by simp, fun a ha b hb => ?_⟩
        obtain ⟨j, hj, rfl⟩ := (h2 a).1 ha
        obtain rfl := List.mem_singleton.1 hb
        have e1 := hs j (m - 1) (by omega) (by omega)
        have e2 := hs (m - 1) m (by omega) (by omega)
        have e3 : d[m]! ≠ d[m - 1]! := by rcases hk with h | h; exact absurd hj (by omega); exact h
        omega
      · intro x
        rw [List.mem_append, h2 x, List.mem_singleton]
        constructor
        · rintro (⟨j, hj, e⟩ | e)
          · exact ⟨j, by omega, e⟩
          · exact ⟨m, by omega, e.symm⟩
        · rintro ⟨j, hj, e⟩
          rcases Nat.lt_or_ge j m with h | h
          · exact .inl ⟨j, h, e⟩
          · obtain rfl : j = m := by omega
            exact .inr e.symm
    · have hk' : Lib.keeps d m = false := by simp only [Lib.keeps, hk]; rfl
      rw [if_neg (by rw [hk']; decide), List.append_nil]
      refine ⟨h1, fun x => ?_⟩
      rw [h2 x]
      constructor
      · rintro ⟨j, hj, e⟩; exact ⟨j, by omega, e⟩
      · rintro ⟨j, hj, e⟩
        rcases Nat.lt_or_ge j m with h | h
        · exact ⟨j, h, e⟩
        · obtain rfl : j = m := by omega
          refine ⟨j - 1, by omega, ?_⟩
          rw [← e]
          by_cases e3 : d[j]! = d[j - 1]!
          · exact e3.symm
          · exact absurd (.inr e3) hk
theorem asc_spec (xs : List Int) : (asc xs).Pairwise (· < ·) ∧ ∀ x, x ∈ asc xs ↔ x ∈ xs := by
  have hs : (xs.mergeSort fun x y => decide (x ≤ y)).Pairwise (fun a b => decide (a ≤ b) = true) := List.pairwise_mergeSort (fun a b c h1 h2 => by simp at *; omega) (fun a b => by simp; omega) xs
  have hm : ∀ x, x ∈ (xs.mergeSort fun x y => decide (x ≤ y)) ↔ x ∈ xs := fun x => List.mem_mergeSort
  unfold asc
  generalize (xs.mergeSort fun x y => decide (x ≤ y)) = zs at hs hm
  have hg : ∀ i j : Nat, i ≤ j → j < zs.toArray.size → zs.toArray[i]! ≤ zs.toArray[j]! := by
    intro i j hij hj
    have hj' : j < zs.length := by simpa using hj
    rcases Nat.eq_or_lt_of_le hij with rfl | h
    · exact Int.le_refl _
    · have := List.pairwise_iff_getElem.1 hs i j (by omega) hj' h
      rw [getElem!_pos zs.toArray i (by simp; omega), getElem!_pos zs.toArray j hj]
      simpa using this
  obtain ⟨h1, h2⟩ := cut_asc zs.toArray zs.length (by simp) hg
  refine ⟨h1, fun x => ?_⟩
  show x ∈ Lib.compactUpTo zs.toArray zs.length ↔ _
  rw [h2 x, ← hm x]
  constructor
  · rintro ⟨j, hj, rfl⟩
    rw [getElem!_pos zs.toArray j (by simpa using hj)]
    simp
  · intro hx
    obtain ⟨j, hj, e⟩ := List.getElem_of_mem hx
    exact ⟨j, hj, by rw [getElem!_pos zs.toArray j (by simpa using hj)]; simpa using e⟩
theorem asc_len (xs : List Int) : (asc xs).length ≤ xs.length := by
  have := Lib.compact_length_le (xs.mergeSort fun x y => decide (x ≤ y))
  rw [List.length_mergeSort] at this
  exact this
theorem asc_is (xs ys : List Int) (h : ys.Pairwise (· < ·)) (hm : ∀ x, x ∈ ys ↔ x ∈ xs) : asc xs = ys :=
  asc_unique _ _ (asc_spec xs).1 h (fun x => by rw [(asc_spec xs).2 x, hm x])

theorem impl_UniteServers.val (a b : List Int) (ha : a.length ≤ 100000000) (hb : b.length ≤ 100000000) : impl_UniteServers.f a b = some (puts b (puts a [])) := by
  rw [impl_UniteServers.f, if_pos (by omega), asc_is (a ++ b) (puts b (puts a []))]
  · exact puts_asc _ _ (puts_asc _ _ List.Pairwise.nil)
  · intro x
    rw [mem_puts, mem_puts, List.mem_append]
    simp

theorem impl_WithoutServers.val (a b : List Int) (ha : a.length ≤ 100000000) (hb : b.length ≤ 100000000) : impl_WithoutServers.f a b = some ((asc a).filter fun x => !decide (x ∈ b)) := by
  rw [impl_WithoutServers.f, if_pos ⟨by omega, by omega⟩]
theorem asc_filter (a : List Int) (p : Int → Bool) : (asc a).filter p = puts (a.filter p) [] := by
  refine asc_unique _ _ ((asc_spec a).1.filter p) (puts_asc _ _ List.Pairwise.nil) (fun x => ?_)
  rw [List.mem_filter, (asc_spec a).2 x, mem_puts, List.mem_filter]
  simp
theorem impl_WithoutServers.is (a b : List Int) (ha : a.length ≤ 100000000) (hb : b.length ≤ 100000000) : impl_WithoutServers.f a b = some (puts (a.filter fun x => !decide (x ∈ b)) []) := by
  rw [impl_WithoutServers.val a b ha hb, asc_filter]

theorem impl_CommonServers.is (a b : List Int) (ha : a.length ≤ 100000000) (hb : b.length ≤ 100000000) : impl_CommonServers.f a b = some (puts (a.filter fun x => decide (x ∈ b)) []) := by
  have hl : ((asc a).filter fun x => !decide (x ∈ b)).length ≤ 100000000 := Nat.le_trans (List.length_filter_le _ _) (Nat.le_trans (asc_len a) ha)
  simp only [impl_CommonServers.f, impl_WithoutServers.val a b ha hb, Option.bind_some, impl_WithoutServers.val a _ ha hl]
  rw [← asc_filter]
  congr 1
  refine List.filter_congr (fun x hx => ?_)
  have : x ∈ ((asc a).filter fun x => !decide (x ∈ b)) ↔ ¬ x ∈ b := by rw [List.mem_filter]; simp [hx]
  simp only [this]
  by_cases h : x ∈ b <;> simp [h]

theorem laws_sameInts.same (xs : List Int) (hn : xs.length ≤ 1000000000) : Ev (fun k => laws_sameInts.f k xs xs) true := by
  have key : ∀ d i : Nat, i + d = xs.length → Ev (fun k => laws_sameInts.l0 k xs xs (i : Int)) true := by
    intro d
    induction d with
    | zero =>
      intro i hi
      refine ev_shift (ev_val fun k => ?_)
      simp only [laws_sameInts.l0, if_neg (show ¬ ((i : Int) < (xs.length : Int)) by omega)]
    | succ d ih =>
      intro i hi
      have hh := ih (i + 1) (by omega)
      rw [show ((i + 1 : Nat) : Int) = (i : Int) + 1 by omega] at hh
      refine ev_shift (ev_to ⟨0, fun k _ => ?_⟩ hh)
      simp only [laws_sameInts.l0, if_pos (show (i : Int) < (xs.length : Int) by omega), if_pos (show (0 : Int) ≤ (i : Int) by omega), if_true, w64 (show -9223372036854775808 ≤ (i : Int) + 1 by omega) (by omega)]
  simp only [laws_sameInts.f, if_true]
  exact key xs.length 0 (by omega)

theorem spec_l2Put.ev (l : List Int) (a : Int) (hn : l.length ≤ 1000000000) : Ev (fun k => spec_l2Put.f k l a) (put l a) := by
  have key : ∀ d i : Nat, i + d = l.length → Ev (fun k => spec_l2Put.l0 k l a (i : Int)) (l.take i ++ put (l.drop i) a) := by
    intro d
    induction d with
    | zero =>
      intro i h
      obtain rfl : i = l.length := by omega
      refine ev_shift (ev_val fun k => ?_)
      simp only [spec_l2Put.l0, if_neg (show ¬ ((l.length : Int) < (l.length : Int)) by omega), Option.bind_some, if_pos (show (0 : Int) ≤ (l.length : Int) by omega), if_pos (show (l.length : Int) ≤ (l.length : Int) by omega), Int.toNat_natCast, List.nil_append, List.length_nil, List.take_length, List.drop_length, List.length_append, List.length_singleton, Nat.zero_add, Nat.add_zero,
        if_pos (show l.length < 17592186044416 by omega), if_pos (show l.length + 1 < 17592186044416 by omega), List.append_nil, put]
    | succ d ih =>
      intro i h
      have hi : i < l.length := by omega
      have e1 := w64 (show -9223372036854775808 ≤ (i : Int) + 1 by omega) (by omega)
      have hd : l.drop i = l[i] :: l.drop (i + 1) := List.drop_eq_getElem_cons hi
      have ht : (l.take i).length = i := by rw [List.length_take]; omega
      have hdl : (l.drop i).length = l.length - i := List.length_drop
      refine ev_shift ?_
      simp only [spec_l2Put.l0, if_pos (show (i : Int) < (l.length : Int) by omega), if_pos (show (0 : Int) ≤ (i : Int) by omega), rd_get l i hi, e1]
      by_cases h1 : l[i] < a
      · simp only [if_pos h1]
        have := ih (i + 1) (by omega)
        refine ev_eq (by simpa using this) ?_
        rw [hd]
        simp only [put, if_pos h1]
        rw [List.take_succ_eq_append_getElem hi, List.append_assoc, List.singleton_append]
      · simp only [if_neg h1]
        by_cases h2 : l[i] = a
        · simp only [if_pos h2, Option.bind_some, List.length_nil, List.nil_append, Nat.zero_add, if_pos (show l.length < 17592186044416 by omega)]
          refine ev_some ?_
          rw [hd]
          simp only [put, if_neg h1, if_pos h2]
          rw [← hd, List.take_append_drop]
        · simp only [if_neg h2, Option.bind_some, List.length_nil, List.nil_append, Int.toNat_natCast, if_pos (show (i : Int) ≤ (l.length : Int) by omega), ht, hdl, List.length_append, List.length_singleton, Nat.zero_add,
            if_pos (show i < 17592186044416 by omega), if_pos (show i + 1 < 17592186044416 by omega), if_pos (show i + 1 + (l.length - i) < 17592186044416 by omega)]
          refine ev_some ?_
          rw [hd]
          simp only [put, if_neg h1, if_neg h2]
          rw [← hd, hd]
          simp
  have := key l.length 0 (by omega)
  simpa [spec_l2Put.f] using this

theorem spec_UniteServers.ev (a b : List Int) (ha : a.length ≤ 100000000) (hb : b.length ≤ 100000000) : Ev (fun k => spec_UniteServers.f k a b) (puts b (puts a [])) := by
  have keyb : ∀ d i : Nat, i + d = b.length → ∀ acc : List Int, acc.length + d ≤ 500000000 → Ev (fun k => spec_UniteServers.l1 k b acc (i : Int)) (puts (b.drop i) acc) := by
    intro d
    induction d with
    | zero =>
      intro i h acc _
      obtain rfl : i = b.length := by omega
      refine ev_shift (ev_val fun k => ?_)
      simp only [spec_UniteServers.l1, if_neg (show ¬ ((b.length : Int) < (b.length : Int)) by omega), List.drop_length]
      rfl
    | succ d ih =>
      intro i h acc hacc
      have hi : i < b.length := by omega
      refine ev_shift ?_
      simp only [spec_UniteServers.l1, if_pos (show (i : Int) < (b.length : Int) by omega), if_pos (show (0 : Int) ≤ (i : Int) by omega), rd_get b i hi, w64 (show -9223372036854775808 ≤ (i : Int) + 1 by omega) (by omega)]
      refine Ev.bind (spec_l2Put.ev acc b[i] (by omega)) ?_
      have := ih (i + 1) (by omega) (put acc b[i]) (by have := put_len acc b[i]; omega)
      refine ev_eq (by simpa using this) ?_
      rw [List.drop_eq_getElem_cons hi]
      rfl
  have keya : ∀ d i : Nat, i + d = a.length → ∀ acc : List Int, acc.length + d ≤ 200000000 → Ev (fun k => spec_UniteServers.l0 k a b acc (i : Int)) (puts b (puts (a.drop i) acc)) := by
    intro d
    induction d with
    | zero =>
      intro i h acc hacc
      obtain rfl : i = a.length := by omega
      refine ev_shift ?_
      simp only [spec_UniteServers.l0, if_neg (show ¬ ((a.length : Int) < (a.length : Int)) by omega), List.drop_length]
      have := keyb b.length 0 (by omega) acc (by omega)
      exact ev_eq (r := puts b acc) (by simpa using this) rfl
    | succ d ih =>
      intro i h acc hacc
      have hi : i < a.length := by omega
      refine ev_shift ?_
      simp only [spec_UniteServers.l0, if_pos (show (i : Int) < (a.length : Int) by omega), if_pos (show (0 : Int) ≤ (i : Int) by omega), rd_get a i hi, w64 (show -9223372036854775808 ≤ (i : Int) + 1 by omega) (by omega)]
      refine Ev.bind (spec_l2Put.ev acc a[i] (by omega)) ?_
      have := ih (i + 1) (by omega) (put acc a[i]) (by have := put_len acc a[i]; omega)
      refine ev_eq (by simpa using this) ?_
      rw [List.drop_eq_getElem_cons hi]
      rfl
  have := keya a.length 0 (by omega) [] (by simp; omega)
  simpa [spec_UniteServers.f] using this

theorem spec_HasServer.ev (xs : List Int) (a : Int) (hn : xs.length ≤ 9223372036854775806) : Ev (fun k => spec_HasServer.f k xs a) (xs.contains a) := by
  have key : ∀ d i : Nat, i + d = xs.length → Ev (fun k => spec_HasServer.l0 k xs a (i : Int)) ((xs.drop i).contains a) := by
    intro d
    induction d with
    | zero =>
      intro i h
      refine ev_shift ?_
      simp only [spec_HasServer.l0, if_neg (show ¬ ((i : Int) < (xs.length : Int)) by omega)]
      refine ev_some ?_
      rw [List.drop_eq_nil_of_le (by omega)]; rfl
    | succ d ih =>
      intro i h
      have hi := ih (i + 1) (by omega)
      refine ev_shift ?_
      simp only [spec_HasServer.l0, if_pos (show (i : Int) < (xs.length : Int) by omega), if_pos (show (0 : Int) ≤ (i : Int) by omega), w64 (show -9223372036854775808 ≤ (i : Int) + 1 by omega) (by omega)]
      rw [drop_cons_rd xs i (by omega)]
      by_cases he : rd xs (i : Int) = a
      · simp only [if_pos he]
        exact ev_some (by simp [he])
      · simp only [if_neg he]
        have e : (rd xs (i : Int) :: xs.drop (i + 1)).contains a = (xs.drop (i + 1)).contains a := by
          have : (a == rd xs (i : Int)) = false := by simpa using fun h => he h.symm
          rw [List.contains_cons, this, Bool.false_or]
        rw [e]
        simpa using hi
  have := key xs.length 0 (by omega)
  simpa [spec_HasServer.f] using this

theorem spec_CommonServers.ev (a b : List Int) (ha : a.length ≤ 100000000) (hb : b.length ≤ 100000000) : Ev (fun k => spec_CommonServers.f k a b) (puts (a.filter fun x => decide (x ∈ b)) []) := by
  have keya : ∀ d i : Nat, i + d = a.length → ∀ acc : List Int, acc.length + d ≤ 200000000 → Ev (fun k => spec_CommonServers.l0 k a b acc (i : Int)) (puts ((a.drop i).filter fun x => decide (x ∈ b)) acc) := by
    intro d
    induction d with
    | zero =>
      intro i h acc hacc
      obtain rfl : i = a.length := by omega
      refine ev_shift (ev_val fun k => ?_)
      simp only [spec_CommonServers.l0, if_neg (show ¬ ((a.length : Int) < (a.length : Int)) by omega), List.drop_length]
      rfl
    | succ d ih =>
      intro i h acc hacc
      have hi : i < a.length := by omega
      refine ev_shift ?_
      simp only [spec_CommonServers.l0, if_pos (show (i : Int) < (a.length : Int) by omega), if_pos (show (0 : Int) ≤ (i : Int) by omega), rd_get a i hi, w64 (show -9223372036854775808 ≤ (i : Int) + 1 by omega) (by omega)]
      refine Ev.bind (spec_HasServer.ev b a[i] (by omega)) ?_
      rw [List.drop_eq_getElem_cons hi]
      by_cases hm : a[i] ∈ b
      · have hc : b.contains a[i] = true := by simpa using hm
        simp only [hc, if_true]
        refine Ev.bind (spec_l2Put.ev acc a[i] (by omega)) ?_
        have := ih (i + 1) (by omega) (put acc a[i]) (by have := put_len acc a[i]; omega)
        refine ev_eq (by simpa using this) ?_
        rw [List.filter_cons_of_pos (by simp [hm])]
        rfl
      · have hc : b.contains a[i] = false := by simpa using hm
        simp only [hc, Bool.false_eq_true, if_false]
        have := ih (i + 1) (by omega) acc (by omega)
        refine ev_eq (by simpa using this) ?_
        rw [List.filter_cons_of_neg (by simp [hm])]
  have := keya a.length 0 (by omega) [] (by simp; omega)
  simpa [spec_CommonServers.f] using this

theorem spec_WithoutServers.ev (a b : List Int) (ha : a.length ≤ 100000000) (hb : b.length ≤ 100000000) : Ev (fun k => spec_WithoutServers.f k a b) (puts (a.filter fun x => !decide (x ∈ b)) []) := by
  have keya : ∀ d i : Nat, i + d = a.length → ∀ acc : List Int, acc.length + d ≤ 200000000 → Ev (fun k => spec_WithoutServers.l0 k a b acc (i : Int)) (puts ((a.drop i).filter fun x => !decide (x ∈ b)) acc) := by
    intro d
    induction d with
    | zero =>
      intro i h acc hacc
      obtain rfl : i = a.length := by omega
      refine ev_shift (ev_val fun k => ?_)
      simp only [spec_WithoutServers.l0, if_neg (show ¬ ((a.length : Int) < (a.length : Int)) by omega), List.drop_length]
      rfl
    | succ d ih =>
      intro i h acc hacc
      have hi : i < a.length := by omega
      refine ev_shift ?_
      simp only [spec_WithoutServers.l0, if_pos (show (i : Int) < (a.length : Int) by omega), if_pos (show (0 : Int) ≤ (i : Int) by omega), rd_get a i hi, w64 (show -9223372036854775808 ≤ (i : Int) + 1 by omega) (by omega)]
      refine Ev.bind (spec_HasServer.ev b a[i] (by omega)) ?_
      rw [List.drop_eq_getElem_cons hi]
      by_cases hm : a[i] ∈ b
      · have hc : b.contains a[i] = true := by simpa using hm
        simp only [hc, if_true]
        have := ih (i + 1) (by omega) acc (by omega)
        refine ev_eq (by simpa using this) ?_
        rw [List.filter_cons_of_neg (by simp [hm])]
      · have hc : b.contains a[i] = false := by simpa using hm
        simp only [hc, Bool.false_eq_true, if_false]
        refine Ev.bind (spec_l2Put.ev acc a[i] (by omega)) ?_
        have := ih (i + 1) (by omega) (put acc a[i]) (by have := put_len acc a[i]; omega)
        refine ev_eq (by simpa using this) ?_
        rw [List.filter_cons_of_pos (by simp [hm])]
        rfl
  have := keya a.length 0 (by omega) [] (by simp; omega)
  simpa [spec_WithoutServers.f] using this

theorem impl_within.val (a b c : Int) : impl_within.f a b c = some (decide (b ≤ a ∧ a ≤ c)) := by
  unfold impl_within.f
  by_cases h : b ≤ a <;> simp [h]

theorem impl_AreServers.ev (xs : List Int) (hn : xs.length ≤ 9223372036854775806) :
    ∃ b, Ev (fun k => impl_AreServers.f k xs) b ∧ (b = true ↔ ∀ j : Nat, j < xs.length → (0 ≤ rd xs (j : Int) ∧ rd xs (j : Int) ≤ 4) ∧ (0 < j → rd xs ((j : Int) - 1) < rd xs (j : Int))) := by
  obtain ⟨b, hb, hq⟩ := all_loop (fun k i => impl_AreServers.l0 k xs xs (xs.length : Int) i) (fun j => (0 ≤ rd xs (j : Int) ∧ rd xs (j : Int) ≤ 4) ∧ (0 < j → rd xs ((j : Int) - 1) < rd xs (j : Int))) xs.length
    (fun k => by simp only [impl_AreServers.l0, if_neg (show ¬ ((xs.length : Int) < (xs.length : Int)) by omega)])
    (fun i hi => by
      have e1 := w64 (show -9223372036854775808 ≤ (i : Int) + 1 by omega) (by omega)
      have e2 := w64 (show -9223372036854775808 ≤ (i : Int) - 1 by omega) (by omega)
      by_cases h : 0 ≤ rd xs (i : Int) ∧ rd xs (i : Int) ≤ 4
      · by_cases h0 : 0 < i
        · by_cases h2 : rd xs ((i : Int) - 1) < rd xs (i : Int)
          · exact .inl ⟨⟨h, fun _ => h2⟩, 0, fun k _ => by simp only [impl_AreServers.l0, if_pos (show (i : Int) < (xs.length : Int) by omega), if_pos (show (0 : Int) ≤ (i : Int) by omega), impl_within.val, Option.bind_some, decide_eq_true h, if_true, e1, e2, if_pos (show (i : Int) > 0 by omega), if_pos (show (0 : Int) ≤ (i : Int) - 1 by omega), if_pos (show (i : Int) - 1 < (xs.length : Int) by omega), if_neg (show ¬ (rd xs (i : Int) ≤ rd xs ((i : Int) - 1)) by omega)]⟩
          · exact .inr ⟨fun hh => h2 (hh.2 h0), 0, fun k _ => by simp only [impl_AreServers.l0, if_pos (show (i : Int) < (xs.length : Int) by omega), if_pos (show (0 : Int) ≤ (i : Int) by omega), impl_within.val, Option.bind_some, decide_eq_true h, if_true, e1, e2, if_pos (show (i : Int) > 0 by omega), if_pos (show (0 : Int) ≤ (i : Int) - 1 by omega), if_pos (show (i : Int) - 1 < (xs.length : Int) by omega), if_pos (show rd xs (i : Int) ≤ rd xs ((i : Int) - 1) by omega)]⟩
        · exact .inl ⟨⟨h, fun h1 => absurd h1 h0⟩, 0, fun k _ => by simp only [impl_AreServers.l0, if_pos (show (i : Int) < (xs.length : Int) by omega), if_pos (show (0 : Int) ≤ (i : Int) by omega), impl_within.val, Option.bind_some, decide_eq_true h, if_true, e1, e2, if_neg (show ¬ ((i : Int) > 0) by omega)]⟩
      · exact .inr ⟨fun hh => h hh.1, 0, fun k _ => by simp only [impl_AreServers.l0, if_pos (show (i : Int) < (xs.length : Int) by omega), if_pos (show (0 : Int) ≤ (i : Int) by omega), impl_within.val, Option.bind_some, decide_eq_false h, if_neg (show ¬ (false = true) by decide)]⟩)
    xs.length 0 (by omega)
  exact ⟨b, hb, hq.trans ⟨fun h j hj => h j (by omega) hj, fun h j _ hj => h j hj⟩⟩

theorem spec_l1In.val (a b c : Int) : spec_l1In.f a b c = some (decide (b ≤ a ∧ a ≤ c)) := by
  unfold spec_l1In.f
  by_cases h : b ≤ a <;> simp [h]

theorem spec_AreServers.ev (xs : List Int) (hn : xs.length ≤ 9223372036854775806) :
    ∃ b, Ev (fun k => spec_AreServers.f k xs) b ∧ (b = true ↔ ∀ j : Nat, j < xs.length → (0 ≤ rd xs (j : Int) ∧ rd xs (j : Int) ≤ 4) ∧ (0 < j → rd xs ((j : Int) - 1) < rd xs (j : Int))) := by
  obtain ⟨b, hb, hq⟩ := all_loop (fun k i => spec_AreServers.l0 k xs i) (fun j => (0 ≤ rd xs (j : Int) ∧ rd xs (j : Int) ≤ 4) ∧ (0 < j → rd xs ((j : Int) - 1) < rd xs (j : Int))) xs.length
    (fun k => by simp only [spec_AreServers.l0, if_neg (show ¬ ((xs.length : Int) < (xs.length : Int)) by omega)])
    (fun i hi => by
      have e1 := w64 (show -9223372036854775808 ≤ (i : Int) + 1 by omega) (by omega)
      have e2 := w64 (show -9223372036854775808 ≤ (i : Int) - 1 by omega) (by omega)
      by_cases h : 0 ≤ rd xs (i : Int) ∧ rd xs (i : Int) ≤ 4
      · by_cases h0 : 0 < i
        · by_cases h2 : rd xs ((i : Int) - 1) < rd xs (i : Int)
          · exact .inl ⟨⟨h, fun _ => h2⟩, 0, fun k _ => by simp only [spec_AreServers.l0, if_pos (show (i : Int) < (xs.length : Int) by omega), if_pos (show (0 : Int) ≤ (i : Int) by omega), spec_l1In.val, Option.bind_some, decide_eq_true h, if_true, e1, e2, if_pos (show (i : Int) > 0 by omega), if_pos (show (0 : Int) ≤ (i : Int) - 1 by omega), if_pos (show (i : Int) - 1 < (xs.length : Int) by omega), if_neg (show ¬ (rd xs ((i : Int) - 1) ≥ rd xs (i : Int)) by omega)]⟩
          · exact .inr ⟨fun hh => h2 (hh.2 h0), 0, fun k _ => by simp only [spec_AreServers.l0, if_pos (show (i : Int) < (xs.length : Int) by omega), if_pos (show (0 : Int) ≤ (i : Int) by omega), spec_l1In.val, Option.bind_some, decide_eq_true h, if_true, e1, e2, if_pos (show (i : Int) > 0 by omega), if_pos (show (0 : Int) ≤ (i : Int) - 1 by omega), if_pos (show (i : Int) - 1 < (xs.length : Int) by omega), if_pos (show rd xs ((i : Int) - 1) ≥ rd xs (i : Int) by omega)]⟩
        · exact .inl ⟨⟨h, fun h1 => absurd h1 h0⟩, 0, fun k _ => by simp only [spec_AreServers.l0, if_pos (show (i : Int) < (xs.length : Int) by omega), if_pos (show (0 : Int) ≤ (i : Int) by omega), spec_l1In.val, Option.bind_some, decide_eq_true h, if_true, e1, e2, if_neg (show ¬ ((i : Int) > 0) by omega)]⟩
      · exact .inr ⟨fun hh => h hh.1, 0, fun k _ => by simp only [spec_AreServers.l0, if_pos (show (i : Int) < (xs.length : Int) by omega), if_pos (show (0 : Int) ≤ (i : Int) by omega), spec_l1In.val, Option.bind_some, decide_eq_false h, if_neg (show ¬ (false = true) by decide)]⟩)
    xs.length 0 (by omega)
  exact ⟨b, hb, hq.trans ⟨fun h j hj => h j (by omega) hj, fun h j _ hj => h j hj⟩⟩

theorem slices_Equal_int_int.ev (xs ys : List Int) (hn : xs.length ≤ 9223372036854775806) : ∃ b, Ev (fun k => slices_Equal_int_int.f k xs ys) b ∧ (b = true ↔ xs = ys) := by
  by_cases hl : xs.length = ys.length
  · obtain ⟨b, hb, hq⟩ := eq_loop (fun k i => slices_Equal_int_int.l0 k xs ys (xs.length : Int) i) xs ys hl
      (fun k => by simp only [slices_Equal_int_int.l0, if_neg (show ¬ ((xs.length : Int) < (xs.length : Int)) by omega)])
      (fun i h1 h2 => by
        by_cases h : xs[i] = ys[i]
        · exact .inl ⟨h, 0, fun k _ => by simp only [slices_Equal_int_int.l0, if_pos (show (i : Int) < (xs.length : Int) by omega), if_pos (show (0 : Int) ≤ (i : Int) by omega), if_pos (show (i : Int) < (ys.length : Int) by omega), rd_get xs i h1, rd_get ys i h2, if_pos h, w64 (show -9223372036854775808 ≤ (i : Int) + 1 by omega) (by omega)]⟩
        · exact .inr ⟨h, 0, fun k _ => by simp only [slices_Equal_int_int.l0, if_pos (show (i : Int) < (xs.length : Int) by omega), if_pos (show (0 : Int) ≤ (i : Int) by omega), if_pos (show (i : Int) < (ys.length : Int) by omega), rd_get xs i h1, rd_get ys i h2, if_neg h]⟩)
    refine ⟨b, ?_, hq⟩
    refine Ev.congr (fun k => ?_) hb
    simp only [slices_Equal_int_int.f, if_pos (show (xs.length : Int) = (ys.length : Int) by omega)]
  · refine ⟨false, ev_val (fun k => ?_), ?_⟩
    · simp only [slices_Equal_int_int.f, if_neg (show ¬ ((xs.length : Int) = (ys.length : Int)) by omega)]
    · constructor
      · intro h; cases h
      · intro h; subst h; exact absurd rfl hl

theorem impl_EqualServers.ev (xs ys : List Int) (hn : xs.length ≤ 9223372036854775806) : ∃ b, Ev (fun k => impl_EqualServers.f k xs ys) b ∧ (b = true ↔ xs = ys) := by
  obtain ⟨b, hb, hq⟩ := slices_Equal_int_int.ev xs ys hn
  exact ⟨b, Ev.bind hb (Ev.now _), hq⟩

theorem spec_EqualServers.ev (xs ys : List Int) (hn : xs.length ≤ 9223372036854775806) : ∃ b, Ev (fun k => spec_EqualServers.f k xs ys) b ∧ (b = true ↔ xs = ys) := by
  by_cases hl : xs.length = ys.length
  · obtain ⟨b, hb, hq⟩ := eq_loop (fun k i => spec_EqualServers.l0 k xs ys i) xs ys hl
      (fun k => by simp only [spec_EqualServers.l0, if_neg (show ¬ ((xs.length : Int) < (xs.length : Int)) by omega)])
      (fun i h1 h2 => by
        by_cases h : xs[i] = ys[i]
        · exact .inl ⟨h, 0, fun k _ => by simp only [spec_EqualServers.l0, if_pos (show (i : Int) < (xs.length : Int) by omega), if_pos (show (0 : Int) ≤ (i : Int) by omega), if_pos (show (i : Int) < (ys.length : Int) by omega), rd_get xs i h1, rd_get ys i h2, if_pos h, w64 (show -9223372036854775808 ≤ (i : Int) + 1 by omega) (by omega)]⟩
        · exact .inr ⟨h, 0, fun k _ => by simp only [spec_EqualServers.l0, if_pos (show (i : Int) < (xs.length : Int) by omega), if_pos (show (0 : Int) ≤ (i : Int) by omega), if_pos (show (i : Int) < (ys.length : Int) by omega), rd_get xs i h1, rd_get ys i h2, if_neg h]⟩)
    refine ⟨b, ?_, hq⟩
    refine Ev.congr (fun k => ?_) hb
    simp only [spec_EqualServers.f, if_pos (show (xs.length : Int) = (ys.length : Int) by omega)]
  · refine ⟨false, ev_val (fun k => ?_), ?_⟩
    · simp only [spec_EqualServers.f, if_neg (show ¬ ((xs.length : Int) = (ys.length : Int)) by omega)]
    · constructor
      · intro h; cases h
      · intro h; subst h; exact absurd rfl hl

/-- Bytes as a string. -/
def str (l : List UInt8) : ByteArray := ⟨l.toArray⟩
theorem str_append (a b : List UInt8) : str a ++ str b = str (a ++ b) := by
  apply ByteArray.ext
  simp [str]
theorem str_size (l : List UInt8) : (str l).size = l.length := by simp [str, ByteArray.size]
theorem str_inj {a b : List UInt8} (h : str a = str b) : a = b := by
  have := congrArg (fun s => s.data.toList) h
  simpa [str] using this
theorem str_toList (l : List UInt8) : (str l).toList = l := by rw [toList_data]; simp [str]
theorem toList_inj' {a b : ByteArray} (h : a.toList = b.toList) : a = b := bytesOf_inj (bytesOf_congr h)
/-- The digits of a number, none for 0. -/
def digs (m : Nat) : List UInt8 := if m = 0 then [] else Lib.decDigits m
theorem digs_step (m : Nat) (h : 0 < m) : digs m = digs (m / 10) ++ [UInt8.ofNat (48 + m % 10)] := by
  unfold digs
  rw [if_neg (by omega), Lib.decDigits]
  by_cases h9 : m < 10
  · rw [dif_pos h9, if_pos (by omega), Nat.mod_eq_of_lt h9]; rfl
  · rw [dif_neg h9, if_neg (by omega)]
theorem tmod10 (x : Int) : (0 ≤ x → Int.tmod x 10 = ((x.natAbs % 10 : Nat) : Int) ∧ Int.tdiv x 10 = ((x.natAbs / 10 : Nat) : Int)) ∧ (x < 0 → Int.tmod x 10 = -((x.natAbs % 10 : Nat) : Int) ∧ Int.tdiv x 10 = -((x.natAbs / 10 : Nat) : Int)) := by
  constructor
  · intro h
    obtain ⟨n, rfl⟩ := Int.eq_ofNat_of_zero_le h
    exact ⟨rfl, rfl⟩
  · intro h
    obtain ⟨n, rfl⟩ := Int.eq_negSucc_of_lt_zero h
    exact ⟨rfl, rfl⟩
theorem strOfNums_digit (d : Nat) (h : d < 10) : strOfNums ([(wrap64 (48 + (d : Int))) % 256] : List Int) = str [UInt8.ofNat (48 + d)] := by
  rw [w64 (by omega) (by omega)]
  apply ByteArray.ext
  apply Array.ext'
  rw [strOfNums_data]
  have e : ((48 + (d : Int)) % 256).toNat = 48 + d := by omega
  simp [str, e]
theorem itoa_zero : Lib.itoa 0 = [48] := by unfold Lib.itoa Lib.decDigits; simp
theorem itoa_digs (a : Int) (h : a ≠ 0) : Lib.itoa a = (if a < 0 then [45] else []) ++ digs a.natAbs := by
  have hn : ¬ a.natAbs = 0 := by omega
  unfold Lib.itoa digs
  by_cases c : a < 0
  · rw [if_pos c, if_pos c, if_neg hn]; rfl
  · rw [if_neg c, if_neg c, if_neg hn, show a.toNat = a.natAbs by omega]; rfl
theorem digs_len : ∀ n m : Nat, m < 10 ^ n → (digs m).length ≤ n := by
  intro n
  induction n with
  | zero => intro m h; obtain rfl : m = 0 := by simpa using h
            simp [digs]
  | succ n ih =>
    intro m h
    by_cases h0 : m = 0
    · subst h0; simp [digs]
    · rw [digs_step m (by omega), List.length_append]
      have := ih (m / 10) (by rw [Nat.pow_succ] at h; omega)
      simp only [List.length_cons, List.length_nil]
      omega
theorem itoa_len (a : Int) (h0 : -9223372036854775808 ≤ a) (h1 : a ≤ 9223372036854775807) : (Lib.itoa a).length ≤ 20 := by
  by_cases h : a = 0
  · subst h; rw [itoa_zero]; simp
  · rw [itoa_digs a h, List.length_append]
    have h2 := digs_len 19 a.natAbs (by omega)
    have h3 : (if a < 0 then ([45] : List UInt8) else []).length ≤ 1 := by split <;> simp
    omega
theorem str_lit (l : List UInt8) : (⟨l.toArray⟩ : ByteArray) = str l := rfl

theorem impl_FormatInt.val (a : Int) (h0 : -9223372036854775808 ≤ a) (h1 : a ≤ 9223372036854775807) : impl_FormatInt.f a = some (str (Lib.itoa a)) := by
  simp only [impl_FormatInt.f, strconv_Itoa.f, if_pos (show -9223372036854775808 ≤ a ∧ a ≤ 9223372036854775807 from ⟨h0, h1⟩), Option.bind_some]
  rfl

/-- The texts of numbers, one behind the other. -/
def catI (xs : List Int) : List UInt8 := xs.flatMap Lib.itoa
theorem catI_drop (xs : List Int) (i : Nat) (h : i < xs.length) : catI (xs.drop i) = Lib.itoa (rd xs (i : Int)) ++ catI (xs.drop (i + 1)) := by
  rw [drop_cons_rd xs i h]; rfl
def servL (b : Bool) (xs : List Int) : List UInt8 := if b = true then (if xs.length = 0 then [110, 111, 110, 101] else catI xs) else []

theorem impl_FormatServers.l0ev (xs : List Int) (hn : xs.length ≤ 1048576) (hr : ∀ j : Nat, j < xs.length → -9223372036854775808 ≤ rd xs (j : Int) ∧ rd xs (j : Int) ≤ 9223372036854775807) :
    ∀ s : Nat × List UInt8, (s.1 ≤ xs.length ∧ s.2.length ≤ 20 * s.1) → Ev (fun k => impl_FormatServers.l0 k (str s.2) xs (xs.length : Int) (s.1 : Int)) (str (s.2 ++ catI (xs.drop s.1))) := by
  refine loop_ev (fun k (s : Nat × List UInt8) => impl_FormatServers.l0 k (str s.2) xs (xs.length : Int) (s.1 : Int)) _ (fun s => xs.length - s.1) (fun s => str (s.2 ++ catI (xs.drop s.1))) ?_
  rintro ⟨i, acc⟩ ⟨h1, h2⟩
  simp only at h1 h2 ⊢
  by_cases hi : i < xs.length
  · obtain ⟨r0, r1⟩ := hr i hi
    have hl := itoa_len _ r0 r1
    have e1 := w64 (show -9223372036854775808 ≤ (i : Int) + 1 by omega) (by omega)
    refine .inr ⟨(i + 1, acc ++ Lib.itoa (rd xs (i : Int))), ⟨by simp only; omega, by simp only [List.length_append]; omega⟩, by simp only; omega, ?_, ?_⟩
    · simp only [catI_drop xs i hi, List.append_assoc]
    · intro r hr'
      refine ev_shift ?_
      simp only [impl_FormatServers.l0, if_pos (show (i : Int) < (xs.length : Int) by omega), if_pos (show (0 : Int) ≤ (i : Int) by omega), impl_FormatInt.val _ r0 r1, Option.bind_some, str_size, str_append, if_pos (show acc.length + (Lib.itoa (rd xs (i : Int))).length ≤ 9223372036854775807 by omega), e1]
      exact hr'
  · refine .inl (ev_shift (ev_val fun k => ?_))
    simp only [impl_FormatServers.l0, if_neg (show ¬ ((i : Int) < (xs.length : Int)) by omega), List.drop_eq_nil_of_le (show xs.length ≤ i by omega), catI, List.flatMap_nil, List.append_nil]
theorem impl_FormatServers.ev (xs : List Int) (hn : xs.length ≤ 1048576) (hr : ∀ j : Nat, j < xs.length → -9223372036854775808 ≤ rd xs (j : Int) ∧ rd xs (j : Int) ≤ 9223372036854775807) (b : Bool) (hb : Ev (fun k => impl_AreServers.f k xs) b) :
    Ev (fun k => impl_FormatServers.f k xs) (str (servL b xs)) := by
  refine Ev.bind hb ?_
  cases b with
  | false => exact ev_val fun _ => rfl
  | true =>
    simp only [if_true, servL]
    by_cases h : xs.length = 0
    · simp only [if_pos h, if_pos (show (xs.length : Int) = 0 by omega)]; exact Ev.now _
    · simp only [if_neg h, if_neg (show ¬ ((xs.length : Int) = 0) by omega)]
      exact impl_FormatServers.l0ev xs hn hr (0, []) ⟨by simp, by simp⟩

/-- A string's bytes as digits. -/
def digD (s : ByteArray) : List Int := (bytesOf s).map fun b => b - 48
theorem digD_length (s : ByteArray) : (digD s).length = s.size := by rw [digD, List.length_map, bytesOf_length]
theorem digD_range (s : ByteArray) (j : Nat) (h : j < (digD s).length) : -48 ≤ (digD s)[j] ∧ (digD s)[j] ≤ 207 := by
  have h' : j < (bytesOf s).length := by simpa [digD] using h
  have := bytes_range s _ (List.getElem_mem h')
  simp only [digD, List.getElem_map]
  omega
theorem digD_snoc (s : ByteArray) (i : Nat) (h : i < s.size) : (digD s).take (i + 1) = (digD s).take i ++ [wrap64 ((wrap64 (bt s (i : Int))) - 48)] := by
  have h1 : i < (digD s).length := by rw [digD_length]; exact h
  have h2 : i < (bytesOf s).length := by rw [bytesOf_length]; exact h
  have hb : bt s (i : Int) = (bytesOf s)[i] := by rw [← rd_bytesOf, rd_get _ i h2]
  have hr := bytes_range s _ (List.getElem_mem h2)
  rw [hb, w64 (show -9223372036854775808 ≤ (bytesOf s)[i] by omega) (by omega), w64 (by omega) (by omega), List.take_succ_eq_append_getElem h1]
  simp [digD]
theorem digD_wf (s : ByteArray) (n : Nat) : ∀ j : Nat, j < ((digD s).take n).length → -9223372036854775808 ≤ rd ((digD s).take n) (j : Int) ∧ rd ((digD s).take n) (j : Int) ≤ 9223372036854775807 := by
  intro j hj
  rw [rd_get _ j hj, List.getElem_take]
  have := digD_range s j (by rw [List.length_take] at hj; omega)
  omega
/-- Numbers that ascend within 0..4: five at most. -/
theorem five_at_most (xs : List Int) (h : ∀ j : Nat, j < xs.length → (0 ≤ rd xs (j : Int) ∧ rd xs (j : Int) ≤ 4) ∧ (0 < j → rd xs ((j : Int) - 1) < rd xs (j : Int))) : xs.length ≤ 5 := by
  have key : ∀ j : Nat, j < xs.length → (j : Int) ≤ rd xs (j : Int) := by
    intro j
    induction j with
    | zero => intro hj; exact (h 0 hj).1.1
    | succ j ih =>
      intro hj
      have h1 := ih (by omega)
      have h2 := (h (j + 1) hj).2 (by omega)
      rw [show (((j + 1 : Nat) : Int) - 1) = (j : Int) by omega] at h2
      omega
  rcases Nat.lt_or_ge 5 xs.length with h5 | h5
  · have h1 := key 5 h5
    have h2 := (h 5 h5).1.2
    omega
  · exact h5
theorem impl_ParseServers.l0ev (s : ByteArray) (hn : s.size ≤ 1048576) (r : List Int × Bool)
    (hr : Ev (fun k => if s.toList = ([] : List UInt8) then (some (([] : List Int), false)) else ((impl_FormatServers.f k (digD s)).bind fun t142 => (if t142.toList = s.toList then (some (digD s, true)) else (some (([] : List Int), false))))) r) :
    ∀ d i : Nat, i + d = s.size → Ev (fun k => impl_ParseServers.l0 k s ((digD s).take i) (s.size : Int) (i : Int)) r := by
  intro d
  induction d with
  | zero =>
    intro i h
    refine ev_shift ?_
    simp only [impl_ParseServers.l0, if_neg (show ¬ ((i : Int) < (s.size : Int)) by omega), List.take_of_length_le (show (digD s).length ≤ i by rw [digD_length]; omega)]
    exact hr
  | succ d ih =>
    intro i h
    have e1 := w64 (show -9223372036854775808 ≤ (i : Int) + 1 by omega) (by omega)
    have := ih (i + 1) (by omega)
    rw [digD_snoc s i (by omega)] at this
    refine ev_shift ?_
    simp only [impl_ParseServers.l0, if_pos (show (i : Int) < (s.size : Int) by omega), if_pos (show (0 : Int) ≤ (i : Int) by omega), if_pos (show ((digD s).take i).length < 17592186044416 by rw [List.length_take]; omega), e1]
    simpa using this

theorem spec_FormatInt.l0ev (neg : Bool) : ∀ s : Int × List UInt8, (s.2.length + s.1.natAbs ≤ 9223372036854775808 ∧ (s.2.length = 0 ∨ s.2.length + s.1.natAbs ≤ 9223372036854775800)) →
    Ev (fun k => spec_FormatInt.l0 k s.1 (str s.2) neg) (str ((if neg then [45] else []) ++ digs s.1.natAbs ++ s.2)) := by
  refine loop_ev (fun k (s : Int × List UInt8) => spec_FormatInt.l0 k s.1 (str s.2) neg) _ (fun s => s.1.natAbs) (fun s => str ((if neg then [45] else []) ++ digs s.1.natAbs ++ s.2)) ?_
  rintro ⟨x, l⟩ ⟨h1, h2⟩
  simp only at h1 h2 ⊢
  by_cases hx : x = 0
  · subst hx
    refine .inl (ev_shift ?_)
    simp only [spec_FormatInt.l0, if_true, str_size]
    cases neg with
    | false => exact ev_val fun _ => by simp [digs]
    | true =>
      simp only [if_true, if_pos (show 1 + l.length ≤ 9223372036854775807 by omega)]
      exact ev_val fun _ => by rw [show (⟨#[45]⟩ : ByteArray) = str [45] from rfl, str_append]; simp [digs]
  · refine .inr ⟨(Int.tdiv x 10, UInt8.ofNat (48 + x.natAbs % 10) :: l), ?_, ?_, ?_, ?_⟩
    · have ht := tmod10 x
      simp only [List.length_cons]
      have : (Int.tdiv x 10).natAbs = x.natAbs / 10 := by rcases (show x < 0 ∨ 0 ≤ x by omega) with c | c; (have := (ht.2 c).2; omega); (have := (ht.1 c).2; omega)
      rw [this]
      omega
    · have ht := tmod10 x
      have : (Int.tdiv x 10).natAbs = x.natAbs / 10 := by rcases (show x < 0 ∨ 0 ≤ x by omega) with c | c; (have := (ht.2 c).2; omega); (have := (ht.1 c).2; omega)
      simp only [this]
      omega
    · have ht := tmod10 x
      have : (Int.tdiv x 10).natAbs = x.natAbs / 10 := by rcases (show x < 0 ∨ 0 ≤ x by omega) with c | c; (have := (ht.2 c).2; omega); (have := (ht.1 c).2; omega)
      simp only [this]
      rw [digs_step x.natAbs (by omega)]
      simp
    · intro r hr
      refine ev_shift ?_
      have ht := tmod10 x
      have e2 : wrap64 (Int.tdiv x 10) = Int.tdiv x 10 := w64 (by rcases (show x < 0 ∨ 0 ≤ x by omega) with c | c; (have := (ht.2 c).2; omega); (have := (ht.1 c).2; omega)) (by rcases (show x < 0 ∨ 0 ≤ x by omega) with c | c; (have := (ht.2 c).2; omega); (have := (ht.1 c).2; omega))
      have e3 : ∀ d : Nat, d < 10 → (strOfNums ([(wrap64 (48 + (d : Int))) % 256] : List Int)) ++ str l = str (UInt8.ofNat (48 + d) :: l) := fun d hd => by rw [strOfNums_digit d hd, str_append]; rfl
      have e4 : ∀ d : Nat, d < 10 → (strOfNums ([(wrap64 (48 + (d : Int))) % 256] : List Int)).size + (str l).size ≤ 9223372036854775807 := fun d hd => by rw [strOfNums_digit d hd, str_size, str_size]; simp only [List.length_cons, List.length_nil]; omega
      have hd : x.natAbs % 10 < 10 := by omega
      simp only [spec_FormatInt.l0, if_neg hx, e2]
      by_cases c : Int.tmod x 10 < 0
      · have hm : Int.tmod x 10 = -((x.natAbs % 10 : Nat) : Int) := by rcases (show x < 0 ∨ 0 ≤ x by omega) with c' | c'; exact (ht.2 c').1; (have := (ht.1 c').1; omega)
        have e1 : wrap64 (-(Int.tmod x 10)) = ((x.natAbs % 10 : Nat) : Int) := by rw [hm, w64 (by omega) (by omega)]; omega
        simp only [if_pos c, e1, Option.bind_some, if_pos (e4 _ hd), e3 _ hd]
        exact hr
      · have hm : Int.tmod x 10 = ((x.natAbs % 10 : Nat) : Int) := by rcases (show x < 0 ∨ 0 ≤ x by omega) with c' | c'; (have := (ht.2 c').1; omega); exact (ht.1 c').1
        rw [hm] at c
        simp only [hm, if_neg c, Option.bind_some, if_pos (e4 _ hd), e3 _ hd]
        exact hr
theorem spec_FormatInt.ev (a : Int) (h0 : -9223372036854775808 ≤ a) (h1 : a ≤ 9223372036854775807) : Ev (fun k => spec_FormatInt.f k a) (str (Lib.itoa a)) := by
  by_cases ha : a = 0
  · subst ha
    simp only [spec_FormatInt.f, if_true, itoa_zero]
    exact Ev.now _
  · simp only [spec_FormatInt.f, if_neg ha]
    have h := spec_FormatInt.l0ev (decide (a < 0)) (a, []) ⟨by simp only [List.length_nil]; omega, .inl rfl⟩
    refine ev_eq h ?_
    rw [itoa_digs a ha]
    simp only [List.append_nil, decide_eq_true_eq]

theorem spec_FormatServers.l0ev (xs : List Int) (hn : xs.length ≤ 1048576) (hr : ∀ j : Nat, j < xs.length → -9223372036854775808 ≤ rd xs (j : Int) ∧ rd xs (j : Int) ≤ 9223372036854775807) :
    ∀ s : Nat × List UInt8, (s.1 ≤ xs.length ∧ s.2.length ≤ 20 * s.1) → Ev (fun k => spec_FormatServers.l0 k xs (str s.2) (s.1 : Int)) (str (s.2 ++ catI (xs.drop s.1))) := by
  refine loop_ev (fun k (s : Nat × List UInt8) => spec_FormatServers.l0 k xs (str s.2) (s.1 : Int)) _ (fun s => xs.length - s.1) (fun s => str (s.2 ++ catI (xs.drop s.1))) ?_
  rintro ⟨i, acc⟩ ⟨h1, h2⟩
  simp only at h1 h2 ⊢
  by_cases hi : i < xs.length
  · obtain ⟨r0, r1⟩ := hr i hi
    have hl := itoa_len _ r0 r1
    have e1 := w64 (show -9223372036854775808 ≤ (i : Int) + 1 by omega) (by omega)
    refine .inr ⟨(i + 1, acc ++ Lib.itoa (rd xs (i : Int))), ⟨by simp only; omega, by simp only [List.length_append]; omega⟩, by simp only; omega, ?_, ?_⟩
    · simp only [catI_drop xs i hi, List.append_assoc]
    · intro r hr'
      refine ev_shift ?_
      simp only [spec_FormatServers.l0, if_pos (show (i : Int) < (xs.length : Int) by omega), if_pos (show (0 : Int) ≤ (i : Int) by omega)]
      refine Ev.bind (spec_FormatInt.ev _ r0 r1) ?_
      simp only [str_size, str_append, if_pos (show acc.length + (Lib.itoa (rd xs (i : Int))).length ≤ 9223372036854775807 by omega), e1]
      exact hr'
  · refine .inl (ev_shift (ev_val fun k => ?_))
    simp only [spec_FormatServers.l0, if_neg (show ¬ ((i : Int) < (xs.length : Int)) by omega), List.drop_eq_nil_of_le (show xs.length ≤ i by omega), catI, List.flatMap_nil, List.append_nil]
/-- A list of servers' text. -/
theorem spec_FormatServers.ev (xs : List Int) (hn : xs.length ≤ 1048576) (hr : ∀ j : Nat, j < xs.length → -9223372036854775808 ≤ rd xs (j : Int) ∧ rd xs (j : Int) ≤ 9223372036854775807) (b : Bool) (hb : Ev (fun k => spec_AreServers.f k xs) b) :
    Ev (fun k => spec_FormatServers.f k xs) (str (servL b xs)) := by
  refine Ev.bind hb ?_
  cases b with
  | false => exact ev_val fun _ => rfl
  | true =>
    simp only [if_true, servL]
    by_cases h : xs.length = 0
    · simp only [if_pos h, if_pos (show (xs.length : Int) = 0 by omega)]; exact Ev.now _
    · simp only [if_neg h, if_neg (show ¬ ((xs.length : Int) = 0) by omega)]
      exact spec_FormatServers.l0ev xs hn hr (0, []) ⟨by simp, by simp⟩

/-- A set of servers: all within 0 and 4, ascending. -/
def SerOk (xs : List Int) : Prop := ∀ j : Nat, j < xs.length → (0 ≤ rd xs (j : Int) ∧ rd xs (j : Int) ≤ 4) ∧ (0 < j → rd xs ((j : Int) - 1) < rd xs (j : Int))
theorem serOk_iff (xs : List Int) : SerOk xs ↔ (∀ x ∈ xs, 0 ≤ x ∧ x ≤ 4) ∧ xs.Pairwise (· < ·) := by
  constructor
  · intro h
    have key : ∀ d i : Nat, i + d + 1 < xs.length → rd xs (i : Int) < rd xs ((i + d + 1 : Nat) : Int) := by
      intro d
      induction d with
      | zero =>
        intro i hi
        have := (h (i + 1) hi).2 (by omega)
        rw [show (((i + 1 : Nat) : Int) - 1) = (i : Int) by omega] at this
        exact this
      | succ d ih =>
        intro i hi
        have h1 := ih i (by omega)
        have h2 := (h (i + d + 1 + 1) (by omega)).2 (by omega)
        rw [show (((i + d + 1 + 1 : Nat) : Int) - 1) = ((i + d + 1 : Nat) : Int) by omega] at h2
        have e : i + (d + 1) + 1 = i + d + 1 + 1 := by omega
        rw [e]
        omega
    refine ⟨fun x hx => ?_, ?_⟩
    · obtain ⟨j, hj, rfl⟩ := List.mem_iff_getElem.1 hx
      rw [← rd_get xs j hj]; exact (h j hj).1
    · rw [List.pairwise_iff_getElem]
      intro i j hi hj hij
      rw [← rd_get xs i hi, ← rd_get xs j hj]
      have := key (j - i - 1) i (by omega)
      rw [show i + (j - i - 1) + 1 = j by omega] at this
      exact this
  · rintro ⟨h1, h2⟩ j hj
    refine ⟨?_, fun h0 => ?_⟩
    · rw [rd_get xs j hj]; exact h1 _ (List.getElem_mem _)
    · rw [show ((j : Int) - 1) = ((j - 1 : Nat) : Int) by omega, rd_get xs j hj, rd_get xs (j - 1) (by omega)]
      exact List.pairwise_iff_getElem.1 h2 _ _ _ _ (by omega)
theorem put_new : ∀ (l : List Int) (a : Int), a ∉ l → (put l a).length = l.length + 1
  | [], a, _ => by simp [put]
  | x :: r, a, h => by
    rw [List.mem_cons, not_or] at h
    unfold put
    split
    · simp [put_new r a h.2]
    · rw [if_neg (fun e => h.1 e.symm)]; simp
theorem puts_new : ∀ (z acc : List Int), z.Pairwise (· < ·) → (∀ x ∈ z, x ∉ acc) → (puts z acc).length = acc.length + z.length
  | [], acc, _, _ => by simp [puts]
  | x :: r, acc, h, hn => by
    rw [List.pairwise_cons] at h
    show (puts r (put acc x)).length = _
    rw [puts_new r (put acc x) h.2 ?_, put_new acc x (hn x (by simp)), List.length_cons]
    · omega
    · intro y hy hm
      rcases (mem_put acc x y).1 hm with rfl | hm
      · have := h.1 y hy; omega
      · exact hn y (List.mem_cons_of_mem _ hy) hm
theorem puts_self (l : List Int) (h : l.Pairwise (· < ·)) : puts l [] = l :=
  asc_unique _ _ (puts_asc _ _ List.Pairwise.nil) h fun x => by rw [mem_puts]; simp
theorem union_len (a b : List Int) (ha : a.Pairwise (· < ·)) (hb : b.Pairwise (· < ·)) :
    (puts b (puts a [])).length = (puts (a.filter fun x => !decide (x ∈ b)) []).length + b.length := by
  have hf := ha.filter (fun x => !decide (x ∈ b))
  rw [puts_self _ hf]
  rw [asc_unique (puts b (puts a [])) (puts (a.filter fun x => !decide (x ∈ b)) b) (puts_asc _ _ (puts_asc _ _ List.Pairwise.nil)) (puts_asc _ _ hb) ?_]
  · rw [puts_new _ _ hf ?_]
    · omega
    · intro x hx
      simpa using (List.mem_filter.1 hx).2
  · intro x
    simp only [mem_puts, List.mem_filter, Bool.not_eq_true', decide_eq_false_iff_not, List.not_mem_nil, false_or]
    by_cases hx : x ∈ b <;> simp [hx]
theorem parts_len (a b : List Int) (ha : a.Pairwise (· < ·)) :
    (puts (a.filter fun x => decide (x ∈ b)) []).length + (puts (a.filter fun x => !decide (x ∈ b)) []).length = a.length := by
  rw [puts_self _ (ha.filter _), puts_self _ (ha.filter _)]
  clear ha
  induction a with
  | nil => rfl
  | cons x r ih =>
    by_cases hx : x ∈ b
    · simp only [List.filter_cons, hx, decide_true, if_true, Bool.not_true, Bool.false_eq_true, if_false, List.length_cons]; omega
    · simp only [List.filter_cons, hx, decide_false, Bool.false_eq_true, if_false, Bool.not_false, if_true, List.length_cons]; omega
theorem itoa_small (x : Int) (h : 0 ≤ x ∧ x ≤ 4) : Lib.itoa x = [UInt8.ofNat (48 + x.toNat)] := by
  rcases (show x = 0 ∨ x = 1 ∨ x = 2 ∨ x = 3 ∨ x = 4 by omega) with rfl | rfl | rfl | rfl | rfl
  · rw [itoa_zero]; rfl
  all_goals
    rw [itoa_digs _ (by decide), if_neg (by decide), digs_step _ (by decide)]
    rfl
theorem digD_catI (xs : List Int) (h : ∀ x ∈ xs, 0 ≤ x ∧ x ≤ 4) : digD (str (catI xs)) = xs := by
  have hb : ∀ l : List UInt8, bytesOf (str l) = l.map fun c => ((c.toNat : Nat) : Int) := fun l => by simp [bytesOf, str]
  rw [digD, hb]
  induction xs with
  | nil => rfl
  | cons x r ih =>
    have hx := h x (by simp)
    show List.map _ (List.map _ (Lib.itoa x ++ catI r)) = _
    rw [List.map_append, List.map_append, ih fun y hy => h y (List.mem_cons_of_mem _ hy), itoa_small x hx]
    rcases (show x = 0 ∨ x = 1 ∨ x = 2 ∨ x = 3 ∨ x = 4 by omega) with rfl | rfl | rfl | rfl | rfl <;> rfl
theorem catI_len5 (xs : List Int) (h : ∀ x ∈ xs, 0 ≤ x ∧ x ≤ 4) : (catI xs).length = xs.length := by
  have := congrArg List.length (digD_catI xs h)
  rw [digD_length, str_size] at this
  exact this
/-- What was formatted is parsed again. -/
theorem impl_ParseServers.round (xs : List Int) (hn : xs.length ≤ 1000) (hr : ∀ j : Nat, j < xs.length → -9223372036854775808 ≤ rd xs (j : Int) ∧ rd xs (j : Int) ≤ 9223372036854775807) (b : Bool) (hb : Ev (fun k => impl_AreServers.f k xs) b) (hq : b = true ↔ SerOk xs) :
    ∃ r : List Int × Bool, Ev (fun k => impl_ParseServers.f k (str (servL b xs))) r ∧ r.2 = b ∧ (b = true → r.1 = xs) := by
  cases b with
  | false =>
    have h0 : ¬ ((str (servL false xs)).toList = ([110, 111, 110, 101] : List UInt8)) := by rw [str_toList]; simp [servL]
    refine ⟨([], false), ?_, rfl, fun h => absurd h (by decide)⟩
    simp only [impl_ParseServers.f, Option.bind_some, if_neg h0]
    have h2 : Ev (fun k => if (str (servL false xs)).toList = ([] : List UInt8) then (some (([] : List Int), false)) else ((impl_FormatServers.f k (digD (str (servL false xs)))).bind fun t142 => (if t142.toList = (str (servL false xs)).toList then (some (digD (str (servL false xs)), true)) else (some (([] : List Int), false))))) (([] : List Int), false) :=
      ev_val fun k => by rw [if_pos (by rw [str_toList]; rfl)]
    simpa using impl_ParseServers.l0ev _ (by rw [str_size]; simp [servL]) _ h2 (str (servL false xs)).size 0 (by omega)
  | true =>
    have hok := (serOk_iff xs).1 (hq.1 rfl)
    cases hx : xs with
    | nil =>
      subst hx
      refine ⟨([], true), ?_, rfl, fun _ => rfl⟩
      have h0 : (str (servL true ([] : List Int))).toList = ([110, 111, 110, 101] : List UInt8) := by rw [str_toList]; rfl
      exact ev_val fun k => by simp only [impl_ParseServers.f, Option.bind_some, if_pos h0]
    | cons y t =>
      rw [← hx]
      have e : servL true xs = catI xs := by rw [servL, if_pos rfl, if_neg (by rw [hx]; simp)]
      have hl := catI_len5 xs hok.1
      have hd := digD_catI xs hok.1
      have hh : ∀ l, catI xs = l → (bytesOf (str l)).map (fun b => b - 48) = xs := fun l h => by rw [← h]; exact hd
      have h0 : ¬ ((str (servL true xs)).toList = ([110, 111, 110, 101] : List UInt8)) := by
        rw [str_toList, e]
        intro h
        have h1 := hh _ h
        have h2 := (hok.1 62 (by rw [← h1]; simp [bytesOf, str]))
        omega
      have h1 : ¬ ((str (servL true xs)).toList = ([] : List UInt8)) := by
        rw [str_toList, e]
        intro h
        rw [h, hx] at hl
        simp at hl
      refine ⟨(xs, true), ?_, rfl, fun _ => rfl⟩
      simp only [impl_ParseServers.f, Option.bind_some, if_neg h0]
      have fi := impl_FormatServers.ev xs (by omega) hr true hb
      have h2 : Ev (fun k => if (str (servL true xs)).toList = ([] : List UInt8) then (some (([] : List Int), false)) else ((impl_FormatServers.f k (digD (str (servL true xs)))).bind fun t142 => (if t142.toList = (str (servL true xs)).toList then (some (digD (str (servL true xs)), true)) else (some (([] : List Int), false))))) (xs, true) := by
        simp only [if_neg h1]
        rw [e, hd, ← e]
        exact Ev.bind fi (ev_val fun _ => by simp only [if_true])
      simpa using impl_ParseServers.l0ev _ (by rw [str_size, e, hl]; omega) _ h2 (str (servL true xs)).size 0 (by omega)

theorem FnServers : FnServersPure := by
  intro c _ _ _
  refine Ev.rounds (g := fun k => laws_FnServers.f k c) ?_
  by_cases h1 : (c.length : Int) > 1048576
  · simp only [laws_FnServers.f, laws_big.f, Option.bind_some, decide_eq_true h1, if_true]; exact Ev.now _
  simp only [laws_FnServers.f, laws_big.f, Option.bind_some, decide_eq_false h1, Bool.false_eq_true, if_false]
  obtain ⟨a, b, hd, ⟨la, ma⟩, lb, mb⟩ := spec_DrawUniteServers.ev c (by omega)
  have ra : ∀ j : Nat, j < a.length → -9223372036854775808 ≤ rd a (j : Int) ∧ rd a (j : Int) ≤ 9223372036854775807 := fun j hj => by
    rw [rd_get a j hj]; have := ma _ (List.getElem_mem hj); omega
  have hU := impl_UniteServers.val a b (by omega) (by omega)
  have hC := impl_CommonServers.is a b (by omega) (by omega)
  have hW := impl_WithoutServers.is a b (by omega) (by omega)
  have sU := spec_UniteServers.ev a b (by omega) (by omega)
  have sC := spec_CommonServers.ev a b (by omega) (by omega)
  have sW := spec_WithoutServers.ev a b (by omega) (by omega)
  have nU : (puts b (puts a [])).length ≤ 12 := by have h1 := puts_len b (puts a []); have h2 := puts_len a []; simp only [List.length_nil] at h2; omega
  have nC : (puts (a.filter fun x => decide (x ∈ b)) []).length ≤ 6 := by have h1 := puts_len (a.filter fun x => decide (x ∈ b)) []; have h2 := List.length_filter_le (fun x => decide (x ∈ b)) a; simp only [List.length_nil] at h1; omega
  have nW : (puts (a.filter fun x => !decide (x ∈ b)) []).length ≤ 6 := by have h1 := puts_len (a.filter fun x => !decide (x ∈ b)) []; have h2 := List.length_filter_le (fun x => !decide (x ∈ b)) a; simp only [List.length_nil] at h1; omega
  have kU := union_len a b
  have kP := parts_len a b
  have mU : ∀ x, x ∈ puts b (puts a []) ↔ x ∈ a ∨ x ∈ b := fun x => by rw [mem_puts, mem_puts]; simp
  have pU := puts_asc b _ (puts_asc a _ List.Pairwise.nil)
  generalize puts b (puts a []) = x at *
  generalize puts (a.filter fun x => decide (x ∈ b)) [] = y at *
  generalize puts (a.filter fun x => !decide (x ∈ b)) [] = z at *
  obtain ⟨ba, iA, qa⟩ := impl_AreServers.ev a (by omega)
  obtain ⟨ba', sA, qa'⟩ := spec_AreServers.ev a (by omega)
  obtain rfl : ba' = ba := by rw [Bool.eq_iff_iff, qa, qa']
  obtain ⟨bb, sB, qb⟩ := spec_AreServers.ev b (by omega)
  obtain ⟨be, iE, qe⟩ := impl_EqualServers.ev a b (by omega)
  obtain ⟨be', sE, qe'⟩ := spec_EqualServers.ev a b (by omega)
  obtain rfl : be' = be := by rw [Bool.eq_iff_iff, qe, qe']
  have fI := impl_FormatServers.ev a (by omega) ra ba' iA
  have fS := spec_FormatServers.ev a (by omega) ra ba' sA
  obtain ⟨⟨p, read⟩, pr, rfl, hp⟩ := impl_ParseServers.round a (by omega) ra ba' iA qa
  refine Ev.bind hd ?_
  simp only [hU, hC, hW, Option.bind_some]
  refine Ev.bind sU (Ev.bind (laws_sameInts.same x (by omega)) ?_)
  simp only [if_true]
  refine Ev.bind sC (Ev.bind (laws_sameInts.same y (by omega)) ?_)
  simp only [if_true]
  refine Ev.bind sW (Ev.bind (laws_sameInts.same z (by omega)) ?_)
  simp only [if_true]
  refine Ev.bind iA (Ev.bind sA ?_)
  simp only [bne_self_eq_false, Bool.false_eq_true, if_false]
  refine Ev.bind iE (Ev.bind sE ?_)
  simp only [bne_self_eq_false]
  refine ev_shift ?_
  simp only [laws_FnServers.j0, Bool.false_eq_true, if_false]
  refine Ev.bind fI (Ev.bind pr (Ev.bind fS ?_))
  simp only [if_true]
  refine Ev.bind sA ?_
  simp only [bne_self_eq_false, Bool.false_eq_true, if_false]
  have fin : Ev (fun k => laws_FnServers.j1 k a b x y z false) true := by
    refine ev_shift ?_
    simp only [laws_FnServers.j1, Bool.false_eq_true, if_false]
    refine Ev.bind sA ?_
    cases hba : read with
    | false => simp only [Bool.false_eq_true, if_false]; exact Ev.now _
    | true =>
      simp only [if_true]
      refine Ev.bind sB ?_
      cases hbb : bb with
      | false => simp only [Bool.false_eq_true, if_false]; exact Ev.now _
      | true =>
        obtain ⟨oa, pa⟩ := (serOk_iff a).1 (qa.1 hba)
        obtain ⟨ob, pb⟩ := (serOk_iff b).1 (qb.1 hbb)
        have k1 := kU pa pb
        have k2 := kP pa
        obtain ⟨bx, iX, qx⟩ := impl_AreServers.ev x (by omega)
        have hbx : bx = true := qx.2 ((serOk_iff x).2 ⟨fun v hv => ((mU v).1 hv).elim (oa v) (ob v), pU⟩)
        subst hbx
        simp only [if_true]
        simp only [w64 (show -9223372036854775808 ≤ (z.length : Int) + (b.length : Int) by omega) (by omega), w64 (show -9223372036854775808 ≤ (y.length : Int) + (z.length : Int) by omega) (by omega), if_pos (show (x.length : Int) = (z.length : Int) + (b.length : Int) by omega), if_pos (show (y.length : Int) + (z.length : Int) = (a.length : Int) by omega)]
        exact Ev.bind iX (Ev.now _)
  cases hr : read with
  | false => simp only [Bool.false_eq_true, if_false]; exact fin
  | true =>
    simp only [if_true]
    have hpe : p = a := hp hr
    rw [hpe]
    refine Ev.bind (laws_sameInts.same a (by omega)) ?_
    simp only [Bool.not_true]
    exact fin

end Go.Proofs.YtkkbcnghlnogpaaDoor.Pure
