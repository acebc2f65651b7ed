/- For every two lists the law FnExactWithoutServers returns true; no conditions. -/
import Derived.Test.YtdbkhngdckleoaaQFnExactWithoutServers
import Derived.Test.YtdbkhngdckleoaaCCom
set_option linter.unusedVariables false
set_option linter.unusedSimpArgs false
namespace Go.Proofs.Ytdbkhngdckleoaa.Pure
open Go.RowKit Go.Proofs.Ytdbkhngdckleoaa.C Go.Proofs.YtdbkhngdckleoaaW.PrintWords Go.Proofs.YtdbkhngdckleoaaW.PrintLast
open Go.Proofs.Ytdbkhngdckleoaa.Opens
open Go.Proofs.Ytdbkhngdckleoaa.Com

theorem laws_toIntS.ev (xs : List Int) (hn : xs.length ≤ 35184372088832) : Ev (fun k => laws_toIntS.f k xs) xs := by
  have key : ∀ (d i : Nat) (ys : List Int), i + d = xs.length → ys.length = xs.length → ys.take i = xs.take i → Ev (fun k => laws_toIntS.l0 k xs ys (i : Int)) xs := by
    intro d
    induction d with
    | zero =>
      intro i ys h1 h2 h3
      refine ev_shift ?_
      simp only [laws_toIntS.l0, if_neg (show ¬ ((i : Int) < (xs.length : Int)) by omega)]
      refine ev_some ?_
      rw [List.take_of_length_le (by omega), List.take_of_length_le (by omega)] at h3
      exact h3
    | succ d ih =>
      intro i ys h1 h2 h3
      refine ev_shift ?_
      simp only [laws_toIntS.l0, if_pos (show (i : Int) < (xs.length : Int) by omega), if_pos (show (0 : Int) ≤ (i : Int) by omega), if_pos (show (i : Int) < (ys.length : Int) by omega),
        w64 (show -9223372036854775808 ≤ (i : Int) + 1 by omega) (by omega), Int.toNat_natCast, rd_get xs i (by omega)]
      have := ih (i + 1) (ys.set i xs[i]) (by omega) (by simpa using h2) (by
        rw [List.take_succ_eq_append_getElem (by simp; omega), List.take_succ_eq_append_getElem (show i < xs.length by omega), List.take_set_of_le (Nat.le_refl _), h3]
        simp)
      simpa using this
  have h0 := key xs.length 0 (List.replicate xs.length 0) (by omega) (by simp) (by simp)
  refine Ev.congr (fun k => ?_) h0
  simp only [laws_toIntS.f, if_pos (show (0 : Int) ≤ (xs.length : Int) by omega), Int.toNat_natCast, if_pos hn]
  rfl

theorem laws_eqIntS.ev (xs ys : List Int) (hn : xs.length ≤ 9223372036854775806) : ∃ b, Ev (fun k => laws_eqIntS.f k xs ys) b ∧ (b = true ↔ xs = ys) := by
  by_cases hl : xs.length = ys.length
  · obtain ⟨b, hb, hq⟩ := all_loop (fun k i => laws_eqIntS.l0 k xs ys i) (fun i => rd xs (i : Int) = rd ys (i : Int)) xs.length
      (fun k => by simp only [laws_eqIntS.l0, if_neg (show ¬ ((xs.length : Int) < (xs.length : Int)) by omega)])
      (fun i hi => by
        by_cases h : rd xs (i : Int) = rd ys (i : Int)
        · exact .inl ⟨h, 0, fun k _ => by simp only [laws_eqIntS.l0, if_pos (show (i : Int) < (xs.length : Int) by omega), if_pos (show (0 : Int) ≤ (i : Int) by omega), if_pos (show (i : Int) < (ys.length : Int) by omega), if_pos h, w64 (show -9223372036854775808 ≤ (i : Int) + 1 by omega) (by omega)]⟩
        · exact .inr ⟨h, 0, fun k _ => by simp only [laws_eqIntS.l0, if_pos (show (i : Int) < (xs.length : Int) by omega), if_pos (show (0 : Int) ≤ (i : Int) by omega), if_pos (show (i : Int) < (ys.length : Int) by omega), if_neg h]⟩)
      xs.length 0 (by omega)
    refine ⟨b, ?_, hq.trans ?_⟩
    · refine Ev.congr (fun k => ?_) hb
      simp only [laws_eqIntS.f, if_pos (show (xs.length : Int) = (ys.length : Int) by omega)]
      rfl
    · constructor
      · intro h
        refine List.ext_getElem hl (fun i h1 h2 => ?_)
        have := h i (by omega) h1
        rwa [rd_get xs i h1, rd_get ys i h2] at this
      · intro h; subst h; intro j _ _; rfl
  · refine ⟨false, ev_val (fun k => ?_), ?_⟩
    · simp only [laws_eqIntS.f, if_neg (show ¬ ((xs.length : Int) = (ys.length : Int)) by omega)]
    · constructor
      · intro h; cases h
      · intro h; subst h; exact absurd rfl hl
theorem laws_eqIntS.same (xs : List Int) (hn : xs.length ≤ 9223372036854775806) : Ev (fun k => laws_eqIntS.f k xs xs) true := by
  obtain ⟨b, hb, hq⟩ := laws_eqIntS.ev xs xs hn
  exact ev_eq hb (hq.2 rfl)

/-- The marks of a list of numbers. -/
def marksI (n : Nat) (a : Int) : List Int := (List.range n).map fun (i : Nat) => a + 1 * (i : Int)
theorem marksI_length (n : Nat) (a : Int) : (marksI n a).length = n := by simp [marksI]
theorem laws_markIntS.ev (xs : List Int) (a : Int) (hn : xs.length ≤ 1048576000) (h0 : 0 ≤ a) (h1 : a ≤ 1048576000000) : Ev (fun k => laws_markIntS.f k xs a) (a + 1 * xs.length, marksI xs.length a) := by
  have := mark_loop (fun k ys a i => laws_markIntS.l0 k ys a i) 1 (fun a => a) ⟨by omega, by omega⟩
    (fun k xs a => by simp only [laws_markIntS.l0, if_neg (show ¬ ((xs.length : Int) < (xs.length : Int)) by omega)])
    (fun xs a i k hi hi2 ha ha' => by
      simp only [laws_markIntS.l0, if_pos (show (i : Int) < (xs.length : Int) by omega), if_pos (show (0 : Int) ≤ (i : Int) by omega), Int.toNat_natCast, w64 (show -9223372036854775808 ≤ (i : Int) + 1 by omega) (by omega), w64 (show -9223372036854775808 ≤ a + 1 by omega) (by omega)])
    xs a hn h0 h1
  exact this

theorem laws_heldIntS.ev (n : Nat) (a : Int) (hn : n ≤ 1048576000) (h0 : 0 ≤ a) (h1 : a ≤ 1048576000000) : Ev (fun k => laws_heldIntS.f k (marksI n a) a) (a + 1 * n) := by
  have := held_loop (fun k a' i => laws_heldIntS.l0 k (marksI n a) a' i) 1 (fun a => a) ⟨by omega, by omega⟩ (marksI n a)
    (fun k a' => by simp only [laws_heldIntS.l0, if_neg (show ¬ (((marksI n a).length : Int) < ((marksI n a).length : Int)) by omega)])
    (fun a' i k hi hi2 ha ha' hx => by
      simp only [laws_heldIntS.l0, if_pos (show (i : Int) < ((marksI n a).length : Int) by omega), if_pos (show (0 : Int) ≤ (i : Int) by omega), rd_get (marksI n a) i hi, if_pos hx, w64 (show -9223372036854775808 ≤ (i : Int) + 1 by omega) (by omega), w64 (show -9223372036854775808 ≤ a' + 1 by omega) (by omega)])
    a (by rw [marksI_length]; exact hn) h0 h1 (by rw [marksI_length]; rfl)
  rw [marksI_length] at this
  exact this

/-- A number is put into an ascending list, if it is not there. -/
def put : List Int → Int → List Int
  | [], a => [a]
  | x :: r, a => if x < a then x :: put r a else if x = a then x :: r else a :: x :: r
theorem put_len : ∀ (l : List Int) (a : Int), (put l a).length ≤ l.length + 1
  | [], a => by simp [put]
  | x :: r, a => by
    have := put_len r a
    unfold put
    split
    · simp only [List.length_cons]; omega
    · split <;> simp
theorem mem_put : ∀ (l : List Int) (a x : Int), x ∈ put l a ↔ x = a ∨ x ∈ l
  | [], a, x => by simp [put]
  | y :: r, a, x => by
    unfold put
    split
    · rw [List.mem_cons, mem_put r a x, List.mem_cons]
      constructor
      · rintro (h | h | h)
        · exact .inr (.inl h)
        · exact .inl h
        · exact .inr (.inr h)
      · rintro (h | h | h)
        · exact .inr (.inl h)
        · exact .inl h
        · exact .inr (.inr h)
    · split
      · next h => subst h; simp
      · simp
theorem put_asc : ∀ (l : List Int) (a : Int), l.Pairwise (· < ·) → (put l a).Pairwise (· < ·)
  | [], a, _ => by simp [put]
  | y :: r, a, h => by
    rw [List.pairwise_cons] at h
    unfold put
    split
    · next h1 =>
      rw [List.pairwise_cons]
      refine ⟨fun z hz => ?_, put_asc r a h.2⟩
      rcases (mem_put r a z).1 hz with rfl | hz
      · exact h1
      · exact h.1 z hz
    · split
      · rw [List.pairwise_cons]; exact h
      · next h1 h2 =>
        rw [List.pairwise_cons, List.pairwise_cons]
        refine ⟨fun z hz => ?_, h⟩
        rcases List.mem_cons.1 hz with rfl | hz
        · omega
        · have := h.1 z hz; omega
def puts (l : List Int) (acc : List Int) : List Int := l.foldl put acc
theorem puts_len : ∀ (l acc : List Int), (puts l acc).length ≤ acc.length + l.length
  | [], acc => by simp [puts]
  | x :: r, acc => by
    have h1 := puts_len r (put acc x)
    have h2 := put_len acc x
    show (puts r (put acc x)).length ≤ _
    simp only [List.length_cons]
    omega
theorem puts_asc : ∀ (l acc : List Int), acc.Pairwise (· < ·) → (puts l acc).Pairwise (· < ·)
  | [], acc, h => h
  | x :: r, acc, h => puts_asc r (put acc x) (put_asc acc x h)
theorem mem_puts : ∀ (l acc : List Int) (x : Int), x ∈ puts l acc ↔ x ∈ acc ∨ x ∈ l
  | [], acc, x => by simp [puts]
  | y :: r, acc, x => by
    show x ∈ puts r (put acc y) ↔ _
    rw [mem_puts r (put acc y) x, mem_put, List.mem_cons]
    constructor
    · rintro ((h | h) | h)
      · exact .inr (.inl h)
      · exact .inl h
      · exact .inr (.inr h)
    · rintro (h | h | h)
      · exact .inl (.inr h)
      · exact .inl (.inl h)
      · exact .inr h
theorem asc_unique : ∀ l m : List Int, l.Pairwise (· < ·) → m.Pairwise (· < ·) → (∀ x, x ∈ l ↔ x ∈ m) → l = m
  | [], [], _, _, _ => rfl
  | [], b :: m, _, _, h => by have := (h b).2 (by simp); simp at this
  | a :: l, [], _, _, h => by have := (h a).1 (by simp); simp at this
  | a :: l, b :: m, hl, hm, h => by
    rw [List.pairwise_cons] at hl hm
    have hab : a = b := by
      rcases List.mem_cons.1 ((h a).1 (by simp)) with e | e
      · exact e
      · rcases List.mem_cons.1 ((h b).2 (by simp)) with e2 | e2
        · exact e2.symm
        · have h1 := hl.1 b e2
          have h2 := hm.1 a e
          omega
    subst hab
    rw [asc_unique l m hl.2 hm.2 (fun x => ?_)]
    constructor
    · intro hx
      have h1 := hl.1 x hx
      rcases List.mem_cons.1 ((h x).1 (by simp [hx])) with e | e
      · omega
      · exact e
    · intro hx
      have h1 := hm.1 x hx
      rcases List.mem_cons.1 ((h x).2 (by simp [hx])) with e | e
      · omega
      · exact e

theorem spec_l2Put.ev (l : List Int) (a : Int) (hn : l.length ≤ 1000000000) : Ev (fun k => spec_l2Put.f k l a) (put l a) := by
  have key : ∀ d i : Nat, i + d = l.length → Ev (fun k => spec_l2Put.l0 k l a (i : Int)) (l.take i ++ put (l.drop i) a) := by
    intro d
    induction d with
    | zero =>
      intro i h
      obtain rfl : i = l.length := by omega
      refine ev_shift (ev_val fun k => ?_)
      simp only [spec_l2Put.l0, if_neg (show ¬ ((l.length : Int) < (l.length : Int)) by omega), Option.bind_some, if_pos (show (0 : Int) ≤ (l.length : Int) by omega), if_pos (show (l.length : Int) ≤ (l.length : Int) by omega), Int.toNat_natCast, List.nil_append, List.length_nil, List.take_length, List.drop_length, List.length_append, List.length_singleton, Nat.zero_add, Nat.add_zero,
        if_pos (show l.length < 17592186044416 by omega), if_pos (show l.length + 1 < 17592186044416 by omega), List.append_nil, put]
    | succ d ih =>
      intro i h
      have hi : i < l.length := by omega
      have e1 := w64 (show -9223372036854775808 ≤ (i : Int) + 1 by omega) (by omega)
      have hd : l.drop i = l[i] :: l.drop (i + 1) := List.drop_eq_getElem_cons hi
      have ht : (l.take i).length = i := by rw [List.length_take]; omega
      have hdl : (l.drop i).length = l.length - i := List.length_drop
      refine ev_shift ?_
      simp only [spec_l2Put.l0, if_pos (show (i : Int) < (l.length : Int) by omega), if_pos (show (0 : Int) ≤ (i : Int) by omega), rd_get l i hi, e1]
      by_cases h1 : l[i] < a
      · simp only [if_pos h1]
        have := ih (i + 1) (by omega)
        refine ev_eq (by simpa using this) ?_
        rw [hd]
        simp only [put, if_pos h1]
        rw [List.take_succ_eq_append_getElem hi, List.append_assoc, List.singleton_append]
      · simp only [if_neg h1]
        by_cases h2 : l[i] = a
        · simp only [if_pos h2, Option.bind_some, List.length_nil, List.nil_append, Nat.zero_add, if_pos (show l.length < 17592186044416 by omega)]
          refine ev_some ?_
          rw [hd]
          simp only [put, if_neg h1, if_pos h2]
          rw [← hd, List.take_append_drop]
        · simp only [if_neg h2, Option.bind_some, List.length_nil, List.nil_append, Int.toNat_natCast, if_pos (show (i : Int) ≤ (l.length : Int) by omega), ht, hdl, List.length_append, List.length_singleton, Nat.zero_add,
            if_pos (show i < 17592186044416 by omega), if_pos (show i + 1 < 17592186044416 by omega), if_pos (show i + 1 + (l.length - i) < 17592186044416 by omega)]
          refine ev_some ?_
          rw [hd]
          simp only [put, if_neg h1, if_neg h2]
          rw [← hd, hd]
          simp
  have := key l.length 0 (by omega)
  simpa [spec_l2Put.f] using this

theorem spec_HasServer.ev (xs : List Int) (a : Int) (hn : xs.length ≤ 9223372036854775806) : Ev (fun k => spec_HasServer.f k xs a) (xs.contains a) := by
  have key : ∀ d i : Nat, i + d = xs.length → Ev (fun k => spec_HasServer.l0 k xs a (i : Int)) ((xs.drop i).contains a) := by
    intro d
    induction d with
    | zero =>
      intro i h
      refine ev_shift ?_
      simp only [spec_HasServer.l0, if_neg (show ¬ ((i : Int) < (xs.length : Int)) by omega)]
      refine ev_some ?_
      rw [List.drop_eq_nil_of_le (by omega)]; rfl
    | succ d ih =>
      intro i h
      have hi := ih (i + 1) (by omega)
      refine ev_shift ?_
      simp only [spec_HasServer.l0, if_pos (show (i : Int) < (xs.length : Int) by omega), if_pos (show (0 : Int) ≤ (i : Int) by omega), w64 (show -9223372036854775808 ≤ (i : Int) + 1 by omega) (by omega)]
      rw [drop_cons_rd xs i (by omega)]
      by_cases he : rd xs (i : Int) = a
      · simp only [if_pos he]
        exact ev_some (by simp [he])
      · simp only [if_neg he]
        have e : (rd xs (i : Int) :: xs.drop (i + 1)).contains a = (xs.drop (i + 1)).contains a := by
          have : (a == rd xs (i : Int)) = false := by simpa using fun h => he h.symm
          rw [List.contains_cons, this, Bool.false_or]
        rw [e]
        simpa using hi
  have := key xs.length 0 (by omega)
  simpa [spec_HasServer.f] using this

theorem spec_WithoutServers.ev (a b : List Int) (ha : a.length ≤ 100000000) (hb : b.length ≤ 100000000) : Ev (fun k => spec_WithoutServers.f k a b) (puts (a.filter fun x => !decide (x ∈ b)) []) := by
  have keya : ∀ d i : Nat, i + d = a.length → ∀ acc : List Int, acc.length + d ≤ 200000000 → Ev (fun k => spec_WithoutServers.l0 k a b acc (i : Int)) (puts ((a.drop i).filter fun x => !decide (x ∈ b)) acc) := by
    intro d
    induction d with
    | zero =>
      intro i h acc hacc
      obtain rfl : i = a.length := by omega
      refine ev_shift (ev_val fun k => ?_)
      simp only [spec_WithoutServers.l0, if_neg (show ¬ ((a.length : Int) < (a.length : Int)) by omega), List.drop_length]
      rfl
    | succ d ih =>
      intro i h acc hacc
      have hi : i < a.length := by omega
      refine ev_shift ?_
      simp only [spec_WithoutServers.l0, if_pos (show (i : Int) < (a.length : Int) by omega), if_pos (show (0 : Int) ≤ (i : Int) by omega), rd_get a i hi, w64 (show -9223372036854775808 ≤ (i : Int) + 1 by omega) (by omega)]
      refine Ev.bind (spec_HasServer.ev b a[i] (by omega)) ?_
      rw [List.drop_eq_getElem_cons hi]
      by_cases hm : a[i] ∈ b
      · have hc : b.contains a[i] = true := by simpa using hm
        simp only [hc, if_true]
        have := ih (i + 1) (by omega) acc (by omega)
        refine ev_eq (by simpa using this) ?_
        rw [List.filter_cons_of_neg (by simp [hm])]
      · have hc : b.contains a[i] = false := by simpa using hm
        simp only [hc, Bool.false_eq_true, if_false]
        refine Ev.bind (spec_l2Put.ev acc a[i] (by omega)) ?_
        have := ih (i + 1) (by omega) (put acc a[i]) (by have := put_len acc a[i]; omega)
        refine ev_eq (by simpa using this) ?_
        rw [List.filter_cons_of_pos (by simp [hm])]
        rfl
  have := keya a.length 0 (by omega) [] (by simp; omega)
  simpa [spec_WithoutServers.f] using this

theorem cut_asc (d : Array Int) : ∀ m : Nat, m ≤ d.size → (∀ i j : Nat, i ≤ j → j < d.size → d[i]! ≤ d[j]!) →
    (Lib.compactUpTo d m).Pairwise (· < ·) ∧ (∀ x, x ∈ Lib.compactUpTo d m ↔ ∃ j, j < m ∧ d[j]! = x) := by
  intro m
  induction m with
  | zero => intro _ _; refine ⟨by simp [Lib.compactUpTo], fun x => by simp [Lib.compactUpTo]⟩
  | succ m ih =>
    intro hm hs
    obtain ⟨h1, h2⟩ := ih (by omega) hs
    rw [Lib.compactUpTo_succ]
    by_cases hk : m = 0 ∨ d[m]! ≠ d[m - 1]!
    · have hk' : Lib.keeps d m = true := by simp [Lib.keeps, hk]
      rw [if_pos hk']
      constructor
      · rw [List.pairwise_append]
        refine ⟨h1, by simp, fun a ha b hb => ?_⟩
        obtain ⟨j, hj, rfl⟩ := (h2 a).1 ha
        obtain rfl := List.mem_singleton.1 hb
        have e1 := hs j (m - 1) (by omega) (by omega)
        have e2 := hs (m - 1) m (by omega) (by omega)
        have e3 : d[m]! ≠ d[m - 1]! := by rcases hk with h | h; exact absurd hj (by omega); exact h
        omega
      · intro x
        rw [List.mem_append, h2 x, List.mem_singleton]
        constructor
        · rintro (⟨j, hj, e⟩ | e)
          · exact ⟨j, by omega, e⟩
          · exact ⟨m, by omega, e.symm⟩
        · rintro ⟨j, hj, e⟩
          rcases Nat.lt_or_ge j m with h | h
          · exact .inl ⟨j, h, e⟩
          · obtain rfl : j = m := by omega
            exact .inr e.symm
    · have hk' : Lib.keeps d m = false := by simp only [Lib.keeps, hk]; rfl
      rw [if_neg (by rw [hk']; decide), List.append_nil]
      refine ⟨h1, fun x => ?_⟩
      rw [h2 x]
      constructor
      · rintro ⟨j, hj, e⟩; exact ⟨j, by omega, e⟩
      · rintro ⟨j, hj, e⟩
        rcases Nat.lt_or_ge j m with h | h
        · exact ⟨j, h, e⟩
        · obtain rfl : j = m := by omega
          refine ⟨j - 1, by omega, ?_⟩
          rw [← e]
          by_cases e3 : d[j]! = d[j - 1]!
          · exact e3.symm
          · exact absurd (.inr e3) hk
theorem asc_spec (xs : List Int) : (asc xs).Pairwise (· < ·) ∧ ∀ x, x ∈ asc xs ↔ x ∈ xs := by
  have hs : (xs.mergeSort fun x y => decide (x ≤ y)).Pairwise (fun a b => decide (a ≤ b) = true) := List.pairwise_mergeSort (fun a b c h1 h2 => by simp at *; omega) (fun a b => by simp; omega) xs
  have hm : ∀ x, x ∈ (xs.mergeSort fun x y => decide (x ≤ y)) ↔ x ∈ xs := fun x => List.mem_mergeSort
  unfold asc
  generalize (xs.mergeSort fun x y => decide (x ≤ y)) = zs at hs hm
  have hg : ∀ i j : Nat, i ≤ j → j < zs.toArray.size → zs.toArray[i]! ≤ zs.toArray[j]! := by
    intro i j hij hj
    have hj' : j < zs.length := by simpa using hj
    rcases Nat.eq_or_lt_of_le hij with rfl | h
    · exact Int.le_refl _
    · have := List.pairwise_iff_getElem.1 hs i j (by omega) hj' h
      rw [getElem!_pos zs.toArray i (by simp; omega), getElem!_pos zs.toArray j hj]
      simpa using this
  obtain ⟨h1, h2⟩ := cut_asc zs.toArray zs.length (by simp) hg
  refine ⟨h1, fun x => ?_⟩
  show x ∈ Lib.compactUpTo zs.toArray zs.length ↔ _
  rw [h2 x, ← hm x]
  constructor
  · rintro ⟨j, hj, rfl⟩
    rw [getElem!_pos zs.toArray j (by simpa using hj)]
    simp
  · intro hx
    obtain ⟨j, hj, e⟩ := List.getElem_of_mem hx
    exact ⟨j, hj, by rw [getElem!_pos zs.toArray j (by simpa using hj)]; simpa using e⟩
theorem asc_len (xs : List Int) : (asc xs).length ≤ xs.length := by
  have := Lib.compact_length_le (xs.mergeSort fun x y => decide (x ≤ y))
  rw [List.length_mergeSort] at this
  exact this
theorem asc_is (xs ys : List Int) (h : ys.Pairwise (· < ·)) (hm : ∀ x, x ∈ ys ↔ x ∈ xs) : asc xs = ys :=
  asc_unique _ _ (asc_spec xs).1 h (fun x => by rw [(asc_spec xs).2 x, hm x])

theorem impl_WithoutServers.val (a b : List Int) (ha : a.length ≤ 100000000) (hb : b.length ≤ 100000000) : impl_WithoutServers.f a b = some ((asc a).filter fun x => !decide (x ∈ b)) := by
  rw [impl_WithoutServers.f, if_pos ⟨by omega, by omega⟩]
theorem asc_filter (a : List Int) (p : Int → Bool) : (asc a).filter p = puts (a.filter p) [] := by
  refine asc_unique _ _ ((asc_spec a).1.filter p) (puts_asc _ _ List.Pairwise.nil) (fun x => ?_)
  rw [List.mem_filter, (asc_spec a).2 x, mem_puts, List.mem_filter]
  simp
theorem impl_WithoutServers.is (a b : List Int) (ha : a.length ≤ 100000000) (hb : b.length ≤ 100000000) : impl_WithoutServers.f a b = some (puts (a.filter fun x => !decide (x ∈ b)) []) := by
  rw [impl_WithoutServers.val a b ha hb, asc_filter]

theorem FnExactWithoutServers : FnExactWithoutServersPure := by
  intro a b _ _ _ _ _ _
  refine Ev.rounds (g := fun k => laws_FnExactWithoutServers.f k a b) ?_
  by_cases h1 : (a.length : Int) > 1048576
  · simp only [laws_FnExactWithoutServers.f, if_pos h1]; exact Ev.now _
  by_cases h2 : (b.length : Int) > 1048576
  · simp only [laws_FnExactWithoutServers.f, if_neg h1, if_pos h2]; exact Ev.now _
  simp only [laws_FnExactWithoutServers.f, if_neg h1, if_neg h2]
  have ta := laws_toIntS.ev a (by omega)
  have tb := laws_toIntS.ev b (by omega)
  have hS := spec_WithoutServers.ev a b (by omega) (by omega)
  have hI := impl_WithoutServers.is a b (by omega) (by omega)
  have hlen : (puts (a.filter fun x => !decide (x ∈ b)) []).length ≤ 10000000 := by have h1 := puts_len (a.filter fun x => !decide (x ∈ b)) []; have h2 := List.length_filter_le (fun x => !decide (x ∈ b)) a; simp only [List.length_nil] at h1; omega
  generalize puts (a.filter fun x => !decide (x ∈ b)) [] = z at hS hI hlen
  refine Ev.bind ta (Ev.bind tb (Ev.bind hS (Ev.bind ta (Ev.bind tb ?_))))
  simp only [hI, Option.bind_some]
  refine Ev.bind (laws_eqIntS.same z (by omega)) ?_
  simp only [if_true]
  refine Ev.bind ta (Ev.bind (laws_eqIntS.same a (by omega)) ?_)
  simp only [if_true]
  refine Ev.bind tb (Ev.bind (laws_eqIntS.same b (by omega)) ?_)
  simp only [if_true]
  refine Ev.bind (laws_markIntS.ev a 1 (by omega) (by omega) (by omega)) (Ev.bind (laws_markIntS.ev b _ (by omega) (by omega) (by omega)) ?_)
  simp only [if_neg (show ¬ (1 + 1 * (a.length : Int) + 1 * (b.length : Int) < 0) by omega)]
  refine Ev.bind (laws_eqIntS.same z (by omega)) ?_
  simp only [Bool.not_true]
  refine ev_shift ?_
  simp only [laws_FnExactWithoutServers.j0, Bool.false_eq_true, if_false]
  refine Ev.bind (laws_markIntS.ev z 1 (by omega) (by omega) (by omega)) (Ev.bind (laws_heldIntS.ev z.length 1 (by omega) (by omega) (by omega)) ?_)
  simp only [if_neg (show ¬ (1 + 1 * (z.length : Int) < 0) by omega), if_true]
  refine Ev.bind ta (Ev.bind tb ?_)
  simp only [hI, Option.bind_some]
  refine Ev.bind (laws_eqIntS.same z (by omega)) ?_
  simp only [if_true]
  refine Ev.bind (laws_heldIntS.ev z.length 1 (by omega) (by omega) (by omega)) ?_
  simp only [if_neg (show ¬ (1 + 1 * (z.length : Int) < 0) by omega), if_true]
  exact Ev.now _

end Go.Proofs.Ytdbkhngdckleoaa.Pure
