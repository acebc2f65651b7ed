/- For every log and number the law FnExactProvesPrefix returns true; no conditions. -/
import Derived.Test.YtkkbcnghlnogpaaDoorQFnExactProvesPrefix
import Derived.Test.YtkkbcnghlnogpaaDoorDCom
set_option linter.unusedVariables false
set_option linter.unusedSimpArgs false
namespace Go.Proofs.YtkkbcnghlnogpaaDoor.Pure
open Go.RowKit Go.Proofs.YtkkbcnghlnogpaaDoor.D Go.Proofs.YtkkbcnghlnogpaaDoorW.PrintWords Go.Proofs.YtkkbcnghlnogpaaDoorW.PrintLast
open Go.Proofs.YtkkbcnghlnogpaaDoor.Opens
open Go.Proofs.YtkkbcnghlnogpaaDoor.Com
open Go.Proofs.YtkkbcnghlnogpaaDoor.Given

theorem laws_szEntryS.val (xs : List S82) (a : Int) (hn : xs.length ≤ maxLen) (h0 : 0 ≤ a) (h1 : a ≤ 1048576) :
    ∃ r, laws_szEntryS.f xs a = some r ∧ (¬ r < 0 → r = a - xs.length ∧ (xs.length : Int) ≤ a) := by
  unfold maxLen at hn
  unfold laws_szEntryS.f
  rw [w64 (show -9223372036854775808 ≤ a - (xs.length : Int) by omega) (by omega)]
  by_cases h : a - (xs.length : Int) < 0
  · exact ⟨-1, by rw [if_pos h], fun h' => by omega⟩
  · exact ⟨_, by rw [if_neg h], fun h' => ⟨rfl, by omega⟩⟩

theorem laws_toOp.val (a b c d e f : Int) : laws_toOp.f a b c d e f = some (a, b, c, d, e, f) := rfl

theorem laws_toEntry.val (x a b c d e f : Int) : laws_toEntry.f x a b c d e f = some (x, a, b, c, d, e, f) := rfl

theorem rdE (xs : List S77) (i : Nat) (h : i < xs.length) : rd_T77 xs (i : Int) = xs[i] := by simp [rd_T77, h]
theorem rdLE (xs : List S82) (i : Nat) (h : i < xs.length) : rd_T82 xs (i : Int) = xs[i] := by simp [rd_T82, h]
/-- An entry of the laws, as one of the program. -/
def toE (x : S82) : S77 := ⟨x.f0, ⟨x.f1.f0, x.f1.f1, x.f1.f2, x.f1.f3, x.f1.f4, x.f1.f5⟩⟩
theorem ent_eq (x y : S77) : x = y ↔ x.f0 = y.f0 ∧ x.f1.f0 = y.f1.f0 ∧ x.f1.f1 = y.f1.f1 ∧ x.f1.f2 = y.f1.f2 ∧ x.f1.f3 = y.f1.f3 ∧ x.f1.f4 = y.f1.f4 ∧ x.f1.f5 = y.f1.f5 := by
  constructor
  · intro h; subst h; simp
  · rintro ⟨h0, h1, h2, h3, h4, h5, h6⟩
    obtain ⟨a, ⟨b, c, d, e, f, g⟩⟩ := x
    obtain ⟨a', ⟨b', c', d', e', f', g'⟩⟩ := y
    simp_all

theorem laws_toEntryS.ev (xs : List S82) (hn : xs.length ≤ 5026338869833) : Ev (fun k => laws_toEntryS.f k xs) (xs.map toE) := by
  have := map_loop (fun k ys i => laws_toEntryS.l0 k xs ys i) toE xs
    (fun k ys _ => by simp only [laws_toEntryS.l0, if_neg (show ¬ ((xs.length : Int) < (xs.length : Int)) by omega)])
    (fun i h ys k hy => by
      simp only [laws_toEntryS.l0, if_pos (show (i : Int) < (xs.length : Int) by omega), if_pos (show (0 : Int) ≤ (i : Int) by omega), if_pos (show (i : Int) < (ys.length : Int) by omega),
        laws_toEntry.val, Option.bind_some, rdLE xs i h, Int.toNat_natCast, w64 (show -9223372036854775808 ≤ (i : Int) + 1 by omega) (by omega), toE])
    (List.replicate xs.length z77) (by simp)
  refine Ev.congr (fun k => ?_) this
  simp only [laws_toEntryS.f, if_pos (show (0 : Int) ≤ (xs.length : Int) by omega), Int.toNat_natCast, if_pos hn]

theorem laws_eqOp.val (a b c d e f a' b' c' d' e' f' : Int) : laws_eqOp.f a b c d e f a' b' c' d' e' f' = some (decide (a = a' ∧ b = b' ∧ c = c' ∧ d = d' ∧ e = e' ∧ f = f')) := by
  unfold laws_eqOp.f
  by_cases h1 : a = a' <;> by_cases h2 : b = b' <;> by_cases h3 : c = c' <;> by_cases h4 : d = d' <;> by_cases h5 : e = e' <;> by_cases h6 : f = f' <;> simp [h1, h2, h3, h4, h5, h6]

theorem laws_eqEntry.val (x y : S77) : ∃ b, laws_eqEntry.f x.f0 x.f1.f0 x.f1.f1 x.f1.f2 x.f1.f3 x.f1.f4 x.f1.f5 y.f0 y.f1.f0 y.f1.f1 y.f1.f2 y.f1.f3 y.f1.f4 y.f1.f5 = some b ∧ (b = true ↔ x = y) := by
  unfold laws_eqEntry.f
  rw [ent_eq]
  by_cases h : x.f0 = y.f0
  · rw [if_pos h, laws_eqOp.val]
    simp only [Option.bind_some]
    by_cases h2 : x.f1.f0 = y.f1.f0 ∧ x.f1.f1 = y.f1.f1 ∧ x.f1.f2 = y.f1.f2 ∧ x.f1.f3 = y.f1.f3 ∧ x.f1.f4 = y.f1.f4 ∧ x.f1.f5 = y.f1.f5
    · exact ⟨true, by rw [if_pos (decide_eq_true h2)], by simp only [true_iff]; exact ⟨h, h2⟩⟩
    · exact ⟨false, by rw [if_neg (by simpa using h2)], by simp only [Bool.false_eq_true, false_iff]; exact fun h' => h2 h'.2⟩
  · exact ⟨false, by rw [if_neg h], by simp only [Bool.false_eq_true, false_iff]; exact fun h' => h h'.1⟩

theorem laws_eqEntryS.ev (xs ys : List S77) (hn : xs.length ≤ 9223372036854775806) : ∃ b, Ev (fun k => laws_eqEntryS.f k xs ys) b ∧ (b = true ↔ xs = ys) := by
  by_cases hl : xs.length = ys.length
  · obtain ⟨b, hb, hq⟩ := eq_loop (fun k i => laws_eqEntryS.l0 k xs ys i) xs ys hl
      (fun k => by simp only [laws_eqEntryS.l0, if_neg (show ¬ ((xs.length : Int) < (xs.length : Int)) by omega)])
      (fun i h1 h2 => by
        obtain ⟨b, hb, hq⟩ := laws_eqEntry.val xs[i] ys[i]
        cases b with
        | true => exact .inl ⟨hq.1 rfl, 0, fun k _ => by simp only [laws_eqEntryS.l0, if_pos (show (i : Int) < (xs.length : Int) by omega), if_pos (show (0 : Int) ≤ (i : Int) by omega), if_pos (show (i : Int) < (ys.length : Int) by omega), rdE xs i h1, rdE ys i h2, hb, Option.bind_some, if_true, w64 (show -9223372036854775808 ≤ (i : Int) + 1 by omega) (by omega)]⟩
        | false => exact .inr ⟨fun h => by simpa using hq.2 h, 0, fun k _ => by simp only [laws_eqEntryS.l0, if_pos (show (i : Int) < (xs.length : Int) by omega), if_pos (show (0 : Int) ≤ (i : Int) by omega), if_pos (show (i : Int) < (ys.length : Int) by omega), rdE xs i h1, rdE ys i h2, hb, Option.bind_some, Bool.false_eq_true, if_false]⟩)
    refine ⟨b, ?_, hq⟩
    refine Ev.congr (fun k => ?_) hb
    simp only [laws_eqEntryS.f, if_pos (show (xs.length : Int) = (ys.length : Int) by omega)]
  · refine ⟨false, ev_val (fun k => ?_), ?_⟩
    · simp only [laws_eqEntryS.f, if_neg (show ¬ ((xs.length : Int) = (ys.length : Int)) by omega)]
    · constructor
      · intro h; cases h
      · intro h; subst h; exact absurd rfl hl
theorem laws_eqEntryS.same (xs : List S77) (hn : xs.length ≤ 9223372036854775806) : Ev (fun k => laws_eqEntryS.f k xs xs) true := by
  obtain ⟨b, hb, hq⟩ := laws_eqEntryS.ev xs xs hn
  exact ev_eq hb (hq.2 rfl)

/-- Bytes as a string. -/
def str (l : List UInt8) : ByteArray := ⟨l.toArray⟩
theorem str_append (a b : List UInt8) : str a ++ str b = str (a ++ b) := by
  apply ByteArray.ext
  simp [str]
theorem str_size (l : List UInt8) : (str l).size = l.length := by simp [str, ByteArray.size]
theorem str_inj {a b : List UInt8} (h : str a = str b) : a = b := by
  have := congrArg (fun s => s.data.toList) h
  simpa [str] using this
theorem str_toList (l : List UInt8) : (str l).toList = l := by rw [toList_data]; simp [str]
theorem toList_inj' {a b : ByteArray} (h : a.toList = b.toList) : a = b := bytesOf_inj (bytesOf_congr h)
/-- The digits of a number, none for 0. -/
def digs (m : Nat) : List UInt8 := if m = 0 then [] else Lib.decDigits m
theorem digs_step (m : Nat) (h : 0 < m) : digs m = digs (m / 10) ++ [UInt8.ofNat (48 + m % 10)] := by
  unfold digs
  rw [if_neg (by omega), Lib.decDigits]
  by_cases h9 : m < 10
  · rw [dif_pos h9, if_pos (by omega), Nat.mod_eq_of_lt h9]; rfl
  · rw [dif_neg h9, if_neg (by omega)]
theorem tmod10 (x : Int) : (0 ≤ x → Int.tmod x 10 = ((x.natAbs % 10 : Nat) : Int) ∧ Int.tdiv x 10 = ((x.natAbs / 10 : Nat) : Int)) ∧ (x < 0 → Int.tmod x 10 = -((x.natAbs % 10 : Nat) : Int) ∧ Int.tdiv x 10 = -((x.natAbs / 10 : Nat) : Int)) := by
  constructor
  · intro h
    obtain ⟨n, rfl⟩ := Int.eq_ofNat_of_zero_le h
    exact ⟨rfl, rfl⟩
  · intro h
    obtain ⟨n, rfl⟩ := Int.eq_negSucc_of_lt_zero h
    exact ⟨rfl, rfl⟩
theorem strOfNums_digit (d : Nat) (h : d < 10) : strOfNums ([(wrap64 (48 + (d : Int))) % 256] : List Int) = str [UInt8.ofNat (48 + d)] := by
  rw [w64 (by omega) (by omega)]
  apply ByteArray.ext
  apply Array.ext'
  rw [strOfNums_data]
  have e : ((48 + (d : Int)) % 256).toNat = 48 + d := by omega
  simp [str, e]
theorem itoa_zero : Lib.itoa 0 = [48] := by unfold Lib.itoa Lib.decDigits; simp
theorem itoa_digs (a : Int) (h : a ≠ 0) : Lib.itoa a = (if a < 0 then [45] else []) ++ digs a.natAbs := by
  have hn : ¬ a.natAbs = 0 := by omega
  unfold Lib.itoa digs
  by_cases c : a < 0
  · rw [if_pos c, if_pos c, if_neg hn]; rfl
  · rw [if_neg c, if_neg c, if_neg hn, show a.toNat = a.natAbs by omega]; rfl
theorem digs_len : ∀ n m : Nat, m < 10 ^ n → (digs m).length ≤ n := by
  intro n
  induction n with
  | zero => intro m h; obtain rfl : m = 0 := by simpa using h
            simp [digs]
  | succ n ih =>
    intro m h
    by_cases h0 : m = 0
    · subst h0; simp [digs]
    · rw [digs_step m (by omega), List.length_append]
      have := ih (m / 10) (by rw [Nat.pow_succ] at h; omega)
      simp only [List.length_cons, List.length_nil]
      omega
theorem itoa_len (a : Int) (h0 : -9223372036854775808 ≤ a) (h1 : a ≤ 9223372036854775807) : (Lib.itoa a).length ≤ 20 := by
  by_cases h : a = 0
  · subst h; rw [itoa_zero]; simp
  · rw [itoa_digs a h, List.length_append]
    have h2 := digs_len 19 a.natAbs (by omega)
    have h3 : (if a < 0 then ([45] : List UInt8) else []).length ≤ 1 := by split <;> simp
    omega
theorem str_lit (l : List UInt8) : (⟨l.toArray⟩ : ByteArray) = str l := rfl

theorem spec_FormatInt.l0ev (neg : Bool) : ∀ s : Int × List UInt8, (s.2.length + s.1.natAbs ≤ 9223372036854775808 ∧ (s.2.length = 0 ∨ s.2.length + s.1.natAbs ≤ 9223372036854775800)) →
    Ev (fun k => spec_FormatInt.l0 k s.1 (str s.2) neg) (str ((if neg then [45] else []) ++ digs s.1.natAbs ++ s.2)) := by
  refine loop_ev (fun k (s : Int × List UInt8) => spec_FormatInt.l0 k s.1 (str s.2) neg) _ (fun s => s.1.natAbs) (fun s => str ((if neg then [45] else []) ++ digs s.1.natAbs ++ s.2)) ?_
  rintro ⟨x, l⟩ ⟨h1, h2⟩
  simp only at h1 h2 ⊢
  by_cases hx : x = 0
  · subst hx
    refine .inl (ev_shift ?_)
    simp only [spec_FormatInt.l0, if_true, str_size]
    cases neg with
    | false => exact ev_val fun _ => by simp [digs]
    | true =>
      simp only [if_true, if_pos (show 1 + l.length ≤ 9223372036854775807 by omega)]
      exact ev_val fun _ => by rw [show (⟨#[45]⟩ : ByteArray) = str [45] from rfl, str_append]; simp [digs]
  · refine .inr ⟨(Int.tdiv x 10, UInt8.ofNat (48 + x.natAbs % 10) :: l), ?_, ?_, ?_, ?_⟩
    · have ht := tmod10 x
      simp only [List.length_cons]
      have : (Int.tdiv x 10).natAbs = x.natAbs / 10 := by rcases (show x < 0 ∨ 0 ≤ x by omega) with c | c; (have := (ht.2 c).2; omega); (have := (ht.1 c).2; omega)
      rw [this]
      omega
    · have ht := tmod10 x
      have : (Int.tdiv x 10).natAbs = x.natAbs / 10 := by rcases (show x < 0 ∨ 0 ≤ x by omega) with c | c; (have := (ht.2 c).2; omega); (have := (ht.1 c).2; omega)
      simp only [this]
      omega
    · have ht := tmod10 x
      have : (Int.tdiv x 10).natAbs = x.natAbs / 10 := by rcases (show x < 0 ∨ 0 ≤ x by omega) with c | c; (have := (ht.2 c).2; omega); (have := (ht.1 c).2; omega)
      simp only [this]
      rw [digs_step x.natAbs (by omega)]
      simp
    · intro r hr
      refine ev_shift ?_
      have ht := tmod10 x
      have e2 : wrap64 (Int.tdiv x 10) = Int.tdiv x 10 := w64 (by rcases (show x < 0 ∨ 0 ≤ x by omega) with c | c; (have := (ht.2 c).2; omega); (have := (ht.1 c).2; omega)) (by rcases (show x < 0 ∨ 0 ≤ x by omega) with c | c; (have := (ht.2 c).2; omega); (have := (ht.1 c).2; omega))
      have e3 : ∀ d : Nat, d < 10 → (strOfNums ([(wrap64 (48 + (d : Int))) % 256] : List Int)) ++ str l = str (UInt8.ofNat (48 + d) :: l) := fun d hd => by rw [strOfNums_digit d hd, str_append]; rfl
      have e4 : ∀ d : Nat, d < 10 → (strOfNums ([(wrap64 (48 + (d : Int))) % 256] : List Int)).size + (str l).size ≤ 9223372036854775807 := fun d hd => by rw [strOfNums_digit d hd, str_size, str_size]; simp only [List.length_cons, List.length_nil]; omega
      have hd : x.natAbs % 10 < 10 := by omega
      simp only [spec_FormatInt.l0, if_neg hx, e2]
      by_cases c : Int.tmod x 10 < 0
      · have hm : Int.tmod x 10 = -((x.natAbs % 10 : Nat) : Int) := by rcases (show x < 0 ∨ 0 ≤ x by omega) with c' | c'; exact (ht.2 c').1; (have := (ht.1 c').1; omega)
        have e1 : wrap64 (-(Int.tmod x 10)) = ((x.natAbs % 10 : Nat) : Int) := by rw [hm, w64 (by omega) (by omega)]; omega
        simp only [if_pos c, e1, Option.bind_some, if_pos (e4 _ hd), e3 _ hd]
        exact hr
      · have hm : Int.tmod x 10 = ((x.natAbs % 10 : Nat) : Int) := by rcases (show x < 0 ∨ 0 ≤ x by omega) with c' | c'; (have := (ht.2 c').1; omega); exact (ht.1 c').1
        rw [hm] at c
        simp only [hm, if_neg c, Option.bind_some, if_pos (e4 _ hd), e3 _ hd]
        exact hr
theorem spec_FormatInt.ev (a : Int) (h0 : -9223372036854775808 ≤ a) (h1 : a ≤ 9223372036854775807) : Ev (fun k => spec_FormatInt.f k a) (str (Lib.itoa a)) := by
  by_cases ha : a = 0
  · subst ha
    simp only [spec_FormatInt.f, if_true, itoa_zero]
    exact Ev.now _
  · simp only [spec_FormatInt.f, if_neg ha]
    have h := spec_FormatInt.l0ev (decide (a < 0)) (a, []) ⟨by simp only [List.length_nil]; omega, .inl rfl⟩
    refine ev_eq h ?_
    rw [itoa_digs a ha]
    simp only [List.append_nil, decide_eq_true_eq]

theorem spec_l1In.val (a b c : Int) : spec_l1In.f a b c = some (decide (b ≤ a ∧ a ≤ c)) := by
  unfold spec_l1In.f
  by_cases h : b ≤ a <;> simp [h]

/-- Is this an operation? -/
def vop (a b c d e f : Int) : Bool := decide ((0 ≤ a ∧ a ≤ 2) ∧ (1 ≤ b ∧ b ≤ 99) ∧ (0 ≤ d ∧ d ≤ 2) ∧ (0 ≤ f ∧ f ≤ 9) ∧ ((c = 1 ∧ e = 0) ∨ (c = 2 ∧ 0 ≤ e ∧ e ≤ 9)))

theorem spec_IsValidOp.val (a b c d e f : Int) : spec_IsValidOp.f a b c d e f = some (vop a b c d e f) := by
  unfold spec_IsValidOp.f vop
  simp only [spec_l1In.val, Option.bind_some]
  by_cases h1 : 0 ≤ a ∧ a ≤ 2
  · by_cases h2 : 1 ≤ b ∧ b ≤ 99
    · by_cases h3 : 0 ≤ d ∧ d ≤ 2
      · by_cases h4 : 0 ≤ f ∧ f ≤ 9
        · simp only [decide_eq_true h1, decide_eq_true h2, decide_eq_true h3, decide_eq_true h4, if_true]
          by_cases hc : c = 1
          · by_cases he : e = 0
            · simp [hc, he, h1, h2, h3, h4]
            · simp [hc, he, h1, h2, h3, h4]
          · by_cases hc2 : c = 2
            · simp [hc2, h1, h2, h3, h4]
            · simp [hc, hc2]
        · simp only [decide_eq_true h1, decide_eq_true h2, decide_eq_true h3, decide_eq_false h4, if_true, Bool.false_eq_true, if_false]
          simp; intros; omega
      · simp only [decide_eq_true h1, decide_eq_true h2, decide_eq_false h3, if_true, Bool.false_eq_true, if_false]
        simp; intros; omega
    · simp only [decide_eq_true h1, decide_eq_false h2, if_true, Bool.false_eq_true, if_false]
      simp; intros; omega
  · simp only [decide_eq_false h1, Bool.false_eq_true, if_false]
    simp; intros; omega

/-- Is this entry one of a log, behind the one before it? -/
def okAt (xs : List S77) (j : Nat) : Prop := (1 ≤ (rd_T77 xs (j : Int)).f0 ∧ (rd_T77 xs (j : Int)).f0 ≤ 20) ∧
  vop (rd_T77 xs (j : Int)).f1.f0 (rd_T77 xs (j : Int)).f1.f1 (rd_T77 xs (j : Int)).f1.f2 (rd_T77 xs (j : Int)).f1.f3 (rd_T77 xs (j : Int)).f1.f4 (rd_T77 xs (j : Int)).f1.f5 = true ∧
  (0 < j → (rd_T77 xs ((j : Int) - 1)).f0 ≤ (rd_T77 xs (j : Int)).f0)
/-- Is this a log? -/
def isLog (xs : List S77) : Prop := (∀ j, j < xs.length → okAt xs j) ∧ xs.length ≤ 16

theorem spec_IsLog.ev (xs : List S77) (hn : xs.length ≤ 9223372036854775806) : ∃ b, Ev (fun k => spec_IsLog.f k xs) b ∧ (b = true ↔ isLog xs) := by
  obtain ⟨b, hb, hq⟩ := all_ev (fun k i => spec_IsLog.l0 k xs i) (okAt xs) xs.length (decide ((xs.length : Int) ≤ 16))
    (ev_shift (ev_val fun k => by simp only [spec_IsLog.l0, if_neg (show ¬ ((xs.length : Int) < (xs.length : Int)) by omega)]))
    (fun i hi => by
      have e1 := w64 (show -9223372036854775808 ≤ (i : Int) + 1 by omega) (by omega)
      have e2 := w64 (show -9223372036854775808 ≤ (i : Int) - 1 by omega) (by omega)
      have jt : Ev (fun k => spec_IsLog.j1 k xs (i : Int) true) false := ev_shift (ev_val fun k => by simp only [spec_IsLog.j1, if_true])
      have jf : ∀ b, Ev (fun k => spec_IsLog.l0 k xs ((i : Int) + 1)) b → Ev (fun k => spec_IsLog.j1 k xs (i : Int) false) b := fun b h => ev_shift (by simp only [spec_IsLog.j1, Bool.false_eq_true, if_false, e1]; exact h)
      by_cases h : 1 ≤ (rd_T77 xs (i : Int)).f0 ∧ (rd_T77 xs (i : Int)).f0 ≤ 20
      · cases hv : vop (rd_T77 xs (i : Int)).f1.f0 (rd_T77 xs (i : Int)).f1.f1 (rd_T77 xs (i : Int)).f1.f2 (rd_T77 xs (i : Int)).f1.f3 (rd_T77 xs (i : Int)).f1.f4 (rd_T77 xs (i : Int)).f1.f5 with
        | true =>
          by_cases h0 : 0 < i
          · have hstep : ∀ b, Ev (fun k => spec_IsLog.j1 k xs (i : Int) (decide ((rd_T77 xs ((i : Int) - 1)).f0 > (rd_T77 xs (i : Int)).f0))) b → Ev (fun k => spec_IsLog.l0 k xs (i : Int)) b := by
              intro b hb
              refine ev_shift ?_
              simp only [spec_IsLog.l0, if_pos (show (i : Int) < (xs.length : Int) by omega), if_pos (show (0 : Int) ≤ (i : Int) by omega), spec_l1In.val, spec_IsValidOp.val, hv, Option.bind_some, decide_eq_true h, if_true, e2, if_pos (show (i : Int) > 0 by omega), if_pos (show (0 : Int) ≤ (i : Int) - 1 by omega), if_pos (show (i : Int) - 1 < (xs.length : Int) by omega)]
              exact hb
            by_cases h2 : (rd_T77 xs ((i : Int) - 1)).f0 ≤ (rd_T77 xs (i : Int)).f0
            · rw [decide_eq_false (show ¬ ((rd_T77 xs ((i : Int) - 1)).f0 > (rd_T77 xs (i : Int)).f0) by omega)] at hstep
              exact .inl ⟨⟨h, hv, fun _ => h2⟩, fun b hb => hstep b (jf b hb)⟩
            · rw [decide_eq_true (show (rd_T77 xs ((i : Int) - 1)).f0 > (rd_T77 xs (i : Int)).f0 by omega)] at hstep
              exact .inr ⟨fun hh => h2 (hh.2.2 h0), hstep false jt⟩
          · refine .inl ⟨⟨h, hv, fun h1 => absurd h1 h0⟩, fun b hb => ev_shift ?_⟩
            simp only [spec_IsLog.l0, if_pos (show (i : Int) < (xs.length : Int) by omega), if_pos (show (0 : Int) ≤ (i : Int) by omega), spec_l1In.val, spec_IsValidOp.val, hv, Option.bind_some, decide_eq_true h, if_true, if_neg (show ¬ ((i : Int) > 0) by omega)]
            exact jf b hb
        | false =>
          refine .inr ⟨fun hh => by have hx := hh.2.1; rw [hv] at hx; exact absurd hx (by decide), ev_shift ?_⟩
          simp only [spec_IsLog.l0, if_pos (show (i : Int) < (xs.length : Int) by omega), if_pos (show (0 : Int) ≤ (i : Int) by omega), spec_l1In.val, spec_IsValidOp.val, hv, Option.bind_some, decide_eq_true h, if_true, Bool.false_eq_true, if_false]
          exact jt
      · refine .inr ⟨fun hh => h hh.1, ev_shift ?_⟩
        simp only [spec_IsLog.l0, if_pos (show (i : Int) < (xs.length : Int) by omega), if_pos (show (0 : Int) ≤ (i : Int) by omega), spec_l1In.val, Option.bind_some, decide_eq_false h, Bool.false_eq_true, if_false]
        exact jt)
  refine ⟨b, hb, hq.trans ?_⟩
  rw [isLog, decide_eq_true_iff]
  exact ⟨fun h => ⟨h.1, by omega⟩, fun h => ⟨h.1, by omega⟩⟩

/-- An operation's text. -/
def opL (a b c d e f : Int) : List UInt8 := Lib.itoa a ++ [46] ++ Lib.itoa b ++ (if c = 2 then [32, 115, 119, 97, 112, 32] ++ Lib.itoa d ++ [32] ++ Lib.itoa e ++ [32] ++ Lib.itoa f else [32, 119, 114, 105, 116, 101, 32] ++ Lib.itoa d ++ [32] ++ Lib.itoa f)
def fopL (a b c d e f : Int) : List UInt8 := if vop a b c d e f = true then opL a b c d e f else []
theorem spec_FormatOp.ev (a b c d e f : Int) : Ev (fun k => spec_FormatOp.f k a b c d e f) (str (fopL a b c d e f)) := by
  cases hv : vop a b c d e f with
  | false => exact ev_val fun k => by simp only [spec_FormatOp.f, spec_IsValidOp.val, hv, Option.bind_some, Bool.false_eq_true, if_false, fopL]; rfl
  | true =>
    have hq := hv
    simp only [vop, decide_eq_true_eq] at hq
    obtain ⟨K0, h0⟩ := spec_FormatInt.ev a (by omega) (by omega)
    obtain ⟨K1, h1⟩ := spec_FormatInt.ev b (by omega) (by omega)
    obtain ⟨K3, h3⟩ := spec_FormatInt.ev d (by omega) (by omega)
    obtain ⟨K4, h4⟩ := spec_FormatInt.ev e (by omega) (by omega)
    obtain ⟨K5, h5⟩ := spec_FormatInt.ev f (by omega) (by omega)
    have l0 := itoa_len a (by omega) (by omega)
    have l1 := itoa_len b (by omega) (by omega)
    have l3 := itoa_len d (by omega) (by omega)
    have l4 := itoa_len e (by omega) (by omega)
    have l5 := itoa_len f (by omega) (by omega)
    refine ⟨K0 + K1 + K3 + K4 + K5, fun k hk => ?_⟩
    rcases (show (c = 1 ∧ ¬ c = 2) ∨ (c = 2 ∧ ¬ c = 1) by omega) with ⟨hc, hn⟩ | ⟨hc, hn⟩
    · simp only [spec_FormatOp.f, spec_IsValidOp.val, hv, Option.bind_some, if_true, h0 k (by omega), h1 k (by omega), h3 k (by omega), h5 k (by omega), if_pos hc, str_lit, str_append, str_size, List.length_append, List.length_cons, List.length_nil]
      simp (disch := omega) only [if_pos]
      simp only [fopL, hv, if_true, opL, if_neg hn, List.append_assoc, List.cons_append, List.nil_append]
    · simp only [spec_FormatOp.f, spec_IsValidOp.val, hv, Option.bind_some, if_true, h0 k (by omega), h1 k (by omega), h3 k (by omega), h4 k (by omega), h5 k (by omega), if_neg hn, str_lit, str_append, str_size, List.length_append, List.length_cons, List.length_nil]
      simp (disch := omega) only [if_pos]
      simp only [fopL, hv, if_true, opL, if_pos hc, List.append_assoc, List.cons_append, List.nil_append]

/-- An entry's text. -/
def entL (x : S77) : List UInt8 := Lib.itoa x.f0 ++ [58] ++ fopL x.f1.f0 x.f1.f1 x.f1.f2 x.f1.f3 x.f1.f4 x.f1.f5
/-- The entries' texts from the i-th on, as they are written behind what stands there. -/
def restL (xs : List S77) (i : Nat) : List UInt8 := if i = 0 then Lib.join (xs.map entL) [59] else Lib.joinTail [59] ((xs.drop i).map entL)
/-- A log's text. -/
def logL (xs : List S77) : List UInt8 := if xs.length = 0 then [110, 111, 110, 101] else Lib.join (xs.map entL) [59]
theorem restL_step (xs : List S77) (i : Nat) (h : i < xs.length) : restL xs i = (if i = 0 then entL xs[i] else [59] ++ entL xs[i]) ++ restL xs (i + 1) := by
  have hd : xs.drop i = xs[i] :: xs.drop (i + 1) := List.drop_eq_getElem_cons h
  unfold restL
  rw [if_neg (show ¬ (i + 1 = 0) by omega)]
  by_cases h0 : i = 0
  · subst h0
    rw [if_pos rfl, if_pos rfl]
    have e : xs.map entL = entL xs[0] :: (xs.drop 1).map entL := by
      conv => lhs; rw [← List.drop_zero (l := xs), hd]
      rfl
    rw [e, Lib.join_cons]
  · rw [if_neg h0, if_neg h0, hd]
    simp only [Lib.joinTail, List.map_cons, List.flatten_cons]
theorem restL_end (xs : List S77) : restL xs xs.length = [] := by
  unfold restL
  by_cases h : xs.length = 0
  · rw [if_pos h, List.length_eq_zero_iff.1 h]; rfl
  · rw [if_neg h, List.drop_length]; rfl
theorem fopL_len (a b c d e f : Int) : (fopL a b c d e f).length ≤ 150 := by
  unfold fopL
  cases hv : vop a b c d e f with
  | false => simp
  | true =>
    simp only [vop, decide_eq_true_eq] at hv
    have l0 := itoa_len a (by omega) (by omega)
    have l1 := itoa_len b (by omega) (by omega)
    have l3 := itoa_len d (by omega) (by omega)
    have l4 := itoa_len e (by omega) (by omega)
    have l5 := itoa_len f (by omega) (by omega)
    simp only [if_true, opL]
    split <;> simp only [List.length_append, List.length_cons, List.length_nil] <;> omega
theorem isLog_epoch (xs : List S77) (hv : isLog xs) (i : Nat) (h : i < xs.length) : 1 ≤ xs[i].f0 ∧ xs[i].f0 ≤ 20 := by
  have := (hv.1 i h).1
  rwa [rdE xs i h] at this

theorem spec_FormatLog.l0ev (xs : List S77) (hv : isLog xs) :
    ∀ s : Nat × List UInt8, (s.1 ≤ xs.length ∧ s.2.length ≤ 400 * s.1) → Ev (fun k => spec_FormatLog.l0 k xs (str s.2) (s.1 : Int)) (str (s.2 ++ restL xs s.1)) := by
  refine loop_ev (fun k (s : Nat × List UInt8) => spec_FormatLog.l0 k xs (str s.2) (s.1 : Int)) _ (fun s => xs.length - s.1) (fun s => str (s.2 ++ restL xs s.1)) ?_
  rintro ⟨i, acc⟩ ⟨h1, h2⟩
  simp only at h1 h2 ⊢
  have h16 := hv.2
  by_cases hi : i < xs.length
  · have hep := isLog_epoch xs hv i hi
    obtain ⟨K1, f1⟩ := spec_FormatInt.ev xs[i].f0 (by omega) (by omega)
    obtain ⟨K2, f2⟩ := spec_FormatOp.ev xs[i].f1.f0 xs[i].f1.f1 xs[i].f1.f2 xs[i].f1.f3 xs[i].f1.f4 xs[i].f1.f5
    have hl := itoa_len xs[i].f0 (by omega) (by omega)
    have hl2 := fopL_len xs[i].f1.f0 xs[i].f1.f1 xs[i].f1.f2 xs[i].f1.f3 xs[i].f1.f4 xs[i].f1.f5
    have e1 := w64 (show -9223372036854775808 ≤ (i : Int) + 1 by omega) (by omega)
    refine .inr ⟨(i + 1, acc ++ (if i = 0 then entL xs[i] else [59] ++ entL xs[i])), ⟨by simp only; omega, ?_⟩, by simp only; omega, ?_, ?_⟩
    · simp only [List.length_append]
      split <;> simp only [entL, List.length_append, List.length_cons, List.length_nil] <;> omega
    · simp only [restL_step xs i hi, List.append_assoc]
    · intro r hr'
      obtain ⟨K3, hr3⟩ := hr'
      refine ⟨K1 + K2 + K3 + 1, fun k hk => ?_⟩
      obtain ⟨k, rfl⟩ : ∃ m, k = m + 1 := ⟨k - 1, by omega⟩
      rw [← hr3 k (by omega)]
      by_cases h0 : i = 0
      · simp only [spec_FormatLog.l0, if_pos (show (i : Int) < (xs.length : Int) by omega), if_pos (show (0 : Int) ≤ (i : Int) by omega), if_neg (show ¬ ((i : Int) > 0) by omega), rdE xs i hi, f1 k (by omega), f2 k (by omega), Option.bind_some, str_lit, str_append, str_size, List.length_append, List.length_cons, List.length_nil, e1]
        simp (disch := omega) only [if_pos]
        simp only [entL, List.append_assoc, List.cons_append, List.nil_append]
        rfl
      · simp only [spec_FormatLog.l0, if_pos (show (i : Int) < (xs.length : Int) by omega), if_pos (show (0 : Int) ≤ (i : Int) by omega), if_pos (show (i : Int) > 0 by omega), rdE xs i hi, f1 k (by omega), f2 k (by omega), Option.bind_some, str_lit, str_append, str_size, List.length_append, List.length_cons, List.length_nil, e1]
        simp (disch := omega) only [if_pos, if_neg]
        simp only [entL, List.append_assoc, List.cons_append, List.nil_append]
        rfl
  · refine .inl (ev_shift (ev_val fun k => ?_))
    obtain rfl : i = xs.length := by omega
    simp only [spec_FormatLog.l0, if_neg (show ¬ ((xs.length : Int) < (xs.length : Int)) by omega), restL_end, List.append_nil]
theorem spec_FormatLog.ev (xs : List S77) (hn : xs.length ≤ 1048576) (b : Bool) (hb : Ev (fun k => spec_IsLog.f k xs) b) (hq : b = true ↔ isLog xs) : Ev (fun k => spec_FormatLog.f k xs) (str (if b = true then logL xs else [])) := by
  refine Ev.bind hb ?_
  cases b with
  | false => exact ev_val fun _ => rfl
  | true =>
    simp only [if_true, logL]
    by_cases h : xs.length = 0
    · simp only [if_pos h, if_pos (show (xs.length : Int) = 0 by omega)]; exact Ev.now _
    · simp only [if_neg h, if_neg (show ¬ ((xs.length : Int) = 0) by omega)]
      have := spec_FormatLog.l0ev xs (hq.1 rfl) (0, []) ⟨by simp, by simp⟩
      have e : (⟨#[]⟩ : ByteArray) = str [] := rfl
      rw [e]
      simpa [restL] using this

/-- One step of the checksum. -/
def ckStep (c b : Int) : Int := (c * 257 + b + 1) % 9949
/-- The checksum of a string's bytes. -/
def cks (l : List Int) : Int := l.foldl ckStep 5
theorem ckStep_range (c b : Int) : 0 ≤ ckStep c b ∧ ckStep c b ≤ 9948 := by unfold ckStep; omega
theorem ckFold_range (l : List Int) : ∀ c, 0 ≤ c → c ≤ 9948 → 0 ≤ l.foldl ckStep c ∧ l.foldl ckStep c ≤ 9948 := by
  induction l with
  | nil => intro c h0 h1; exact ⟨h0, h1⟩
  | cons b l ih => intro c h0 h1; exact ih _ (ckStep_range c b).1 (ckStep_range c b).2
theorem cks_range (l : List Int) : 0 ≤ cks l ∧ cks l ≤ 9948 := ckFold_range l 5 (by omega) (by omega)

theorem spec_Checksum.step (c b : Int) (h0 : 0 ≤ c) (h1 : c ≤ 9948) (b0 : 0 ≤ b) (b1 : b ≤ 255) : Int.tmod (wrap64 ((wrap64 ((wrap64 (c * 257)) + (wrap64 b))) + 1)) 9949 = ckStep c b := by
  rw [w64 (x := c * 257) (by omega) (by omega), w64 (x := b) (by omega) (by omega), w64 (x := c * 257 + b) (by omega) (by omega), w64 (x := c * 257 + b + 1) (by omega) (by omega), tmod_pos _ _ (by omega)]
  rfl
theorem spec_Checksum.ev (s : ByteArray) (hn : s.size ≤ 9223372036854775806) : Ev (fun k => spec_Checksum.f k s) (cks (bytesOf s)) := by
  have key : ∀ (d i : Nat) (c : Int), i + d = s.size → 0 ≤ c → c ≤ 9948 → Ev (fun k => spec_Checksum.l0 k s c (i : Int)) (((bytesOf s).drop i).foldl ckStep c) := by
    intro d
    induction d with
    | zero =>
      intro i c h h0 h1
      refine ev_shift ?_
      simp only [spec_Checksum.l0, if_neg (show ¬ ((i : Int) < (s.size : Int)) by omega)]
      exact ev_some (by rw [bytes_end s i (by omega)]; rfl)
    | succ d ih =>
      intro i c h h0 h1
      have hb := bt_range s (i : Int)
      have := ih (i + 1) (ckStep c (bt s (i : Int))) (by omega) (ckStep_range _ _).1 (ckStep_range _ _).2
      refine ev_shift ?_
      simp only [spec_Checksum.l0, if_pos (show (i : Int) < (s.size : Int) by omega), if_pos (show (0 : Int) ≤ (i : Int) by omega), w64 (show -9223372036854775808 ≤ (i : Int) + 1 by omega) (by omega),
        spec_Checksum.step c _ h0 h1 hb.1 hb.2]
      rw [bytes_cons s i (by omega), List.foldl_cons]
      simpa using this
  simpa [spec_Checksum.f, cks] using key s.size 0 5 (by omega) (by omega) (by omega)

/-- A digest, one entry on. -/
def dgStep (c : Int) (x : S77) : Int := (c * 31 + cks (bytesOf (str (entL x)))) % 9973
theorem dgStep_range (c : Int) (x : S77) : 0 ≤ dgStep c x ∧ dgStep c x ≤ 9972 := by unfold dgStep; omega
/-- The digests of a log, from one on. -/
def dgs : Int → List S77 → List Int
  | c, [] => [c]
  | c, x :: r => c :: dgs (dgStep c x) r
theorem dgs_len : ∀ (xs : List S77) (c : Int), (dgs c xs).length = xs.length + 1
  | [], _ => rfl
  | x :: r, c => by simp [dgs, dgs_len r]
theorem isLog_one (xs : List S77) (hv : isLog xs) (i : Nat) (h : i < xs.length) : isLog [xs[i]] := by
  have h1 := hv.1 i h
  refine ⟨fun j hj => ?_, by simp⟩
  obtain rfl : j = 0 := by simpa using hj
  simp only [okAt, rdE xs i h] at h1
  have e : rd_T77 [xs[i]] ((0 : Nat) : Int) = xs[i] := rdE [xs[i]] 0 (by simp)
  simp only [okAt, e]
  exact ⟨h1.1, h1.2.1, fun h0 => absurd h0 (Nat.lt_irrefl 0)⟩
theorem logL_one (x : S77) : logL [x] = entL x := by
  simp only [logL, List.length_singleton, if_neg (show ¬ (1 = 0) by omega), List.map_cons, List.map_nil]
  exact Lib.join_one _ _
theorem cut_one (xs : List S77) (i : Nat) (h : i < xs.length) : (xs.take (i + 1)).drop i = [xs[i]] := by
  rw [List.take_succ_eq_append_getElem h, List.drop_append_of_le_length (by rw [List.length_take]; omega), List.drop_eq_nil_of_le (by rw [List.length_take]; omega)]
  rfl
theorem entL_len (xs : List S77) (hv : isLog xs) (i : Nat) (h : i < xs.length) : (entL xs[i]).length ≤ 400 := by
  have hep := isLog_epoch xs hv i h
  have hl := itoa_len xs[i].f0 (by omega) (by omega)
  have hl2 := fopL_len xs[i].f1.f0 xs[i].f1.f1 xs[i].f1.f2 xs[i].f1.f3 xs[i].f1.f4 xs[i].f1.f5
  simp only [entL, List.length_append, List.length_cons, List.length_nil]
  omega
/-- The digest at a place, or -1. -/
def dgAt (l : List Int) (a : Int) : Int := if 0 ≤ a ∧ a ≤ (l.length : Int) - 1 then rd l a else -1

theorem spec_FormatLog.one (x : S77) (h : isLog [x]) : Ev (fun k => spec_FormatLog.f k [x]) (str (entL x)) := by
  obtain ⟨b, hb, hq⟩ := spec_IsLog.ev [x] (by simp)
  have := spec_FormatLog.ev [x] (by simp) b hb hq
  rw [if_pos (hq.2 h), logL_one] at this
  exact this
theorem spec_DigestList.l0ev (xs : List S77) (hv : isLog xs) :
    ∀ s : List Int × Int, (s.1.length ≤ xs.length ∧ 0 ≤ s.2 ∧ s.2 ≤ 9972) → Ev (fun k => spec_DigestList.l0 k xs (s.1 ++ [s.2]) s.2 (s.1.length : Int)) (s.1 ++ dgs s.2 (xs.drop s.1.length)) := by
  refine loop_ev (fun k (s : List Int × Int) => spec_DigestList.l0 k xs (s.1 ++ [s.2]) s.2 (s.1.length : Int)) _ (fun s => xs.length - s.1.length) (fun s => s.1 ++ dgs s.2 (xs.drop s.1.length)) ?_
  rintro ⟨pre, d⟩ ⟨h1, h2, h3⟩
  simp only at h1 h2 h3 ⊢
  have h16 := hv.2
  obtain ⟨i, hi0⟩ : ∃ i, i = pre.length := ⟨_, rfl⟩
  rw [← hi0] at h1 ⊢
  by_cases hi : i < xs.length
  · have hd : xs.drop i = xs[i] :: xs.drop (i + 1) := List.drop_eq_getElem_cons hi
    have e1 := w64 (show -9223372036854775808 ≤ (i : Int) + 1 by omega) (by omega)
    have e2 : (((i : Int) + 1).toNat) = i + 1 := by omega
    have hck := cks_range (bytesOf (str (entL xs[i])))
    have hl := entL_len xs hv i hi
    obtain ⟨K1, f1⟩ := spec_FormatLog.one xs[i] (isLog_one xs hv i hi)
    obtain ⟨K2, f2⟩ := spec_Checksum.ev (str (entL xs[i])) (by rw [str_size]; omega)
    have hst := dgStep_range d xs[i]
    refine .inr ⟨(pre ++ [d], dgStep d xs[i]), ⟨by simp only [List.length_append, List.length_singleton]; omega, hst.1, hst.2⟩, by simp only [List.length_append, List.length_singleton]; omega, ?_, ?_⟩
    · simp only [List.length_append, List.length_singleton, ← hi0]
      rw [hd]
      simp only [dgs, List.append_assoc, List.singleton_append]
    · rintro r ⟨K3, hr3⟩
      simp only [List.length_append, List.length_singleton, ← hi0] at hr3
      refine ⟨K1 + K2 + K3 + 1, fun k hk => ?_⟩
      obtain ⟨k, rfl⟩ : ∃ m, k = m + 1 := ⟨k - 1, by omega⟩
      rw [← hr3 k (by omega)]
      simp only [spec_DigestList.l0, if_pos (show (i : Int) < (xs.length : Int) by omega), if_pos (show (0 : Int) ≤ (i : Int) by omega), e1, e2, if_pos (show (i : Int) ≤ (i : Int) + 1 by omega), if_pos (show (i : Int) + 1 ≤ (xs.length : Int) by omega), Int.toNat_natCast, cut_one xs i hi, f1 k (by omega), f2 k (by omega), Option.bind_some, List.length_append, List.length_singleton, ← hi0, if_pos (show i + 1 < 17592186044416 by omega),
        w64 (show -9223372036854775808 ≤ d * 31 by omega) (by omega), w64 (show -9223372036854775808 ≤ d * 31 + cks (bytesOf (str (entL xs[i]))) by omega) (by omega), tmod_pos (d * 31 + cks (bytesOf (str (entL xs[i])))) 9973 (by omega)]
      rfl
  · obtain rfl : i = xs.length := by omega
    refine .inl (ev_shift (ev_val fun k => ?_))
    simp only [spec_DigestList.l0, if_neg (show ¬ ((xs.length : Int) < (xs.length : Int)) by omega), List.drop_length, dgs]
theorem spec_DigestList.ev (xs : List S77) (hn : xs.length ≤ 1048576) (b : Bool) (hb : Ev (fun k => spec_IsLog.f k xs) b) (hq : b = true ↔ isLog xs) : Ev (fun k => spec_DigestList.f k xs) (if b = true then dgs 11 xs else []) := by
  simp only [spec_DigestList.f, Option.bind_some, List.length_nil, if_pos (show 0 < 17592186044416 by omega), List.nil_append]
  refine Ev.bind hb ?_
  cases b with
  | false => exact ev_val fun _ => rfl
  | true =>
    simp only [if_true]
    have := spec_DigestList.l0ev xs (hq.1 rfl) ([], 11) ⟨by simp, by simp, by simp⟩
    simpa using this

theorem spec_DigestOf.ev (xs : List S77) (a : Int) (l : List Int) (hl : Ev (fun k => spec_DigestList.f k xs) l) (hn : l.length ≤ 1000000) : Ev (fun k => spec_DigestOf.f k xs a) (dgAt l a) := by
  refine Ev.bind hl (ev_val fun k => ?_)
  have e1 := w64 (show -9223372036854775808 ≤ (l.length : Int) - 1 by omega) (by omega)
  by_cases h : 0 ≤ a ∧ a ≤ (l.length : Int) - 1
  · simp only [spec_l1In.val, e1, Option.bind_some, decide_eq_true h, if_true, if_pos h.1, if_pos (show a < (l.length : Int) by omega), dgAt, if_pos h]
  · simp only [spec_l1In.val, e1, Option.bind_some, decide_eq_false h, Bool.false_eq_true, if_false, dgAt, if_neg h]

theorem spec_ProvesPrefix.ev (xs : List S77) (a d : Int) (l : List Int) (hl : Ev (fun k => spec_DigestList.f k xs) l) (hn : l.length ≤ 1000000) : Ev (fun k => spec_ProvesPrefix.f k xs a d) (decide (d ≥ 0) && (dgAt l a == d)) := by
  by_cases h : d ≥ 0
  · simp only [spec_ProvesPrefix.f, if_pos h, decide_eq_true h, Bool.true_and]
    exact Ev.bind (spec_DigestOf.ev xs a l hl hn) (Ev.now _)
  · simp only [spec_ProvesPrefix.f, if_neg h, decide_eq_false h, Bool.false_and]
    exact Ev.now _

theorem impl_FormatInt.val (a : Int) (h0 : -9223372036854775808 ≤ a) (h1 : a ≤ 9223372036854775807) : impl_FormatInt.f a = some (str (Lib.itoa a)) := by
  simp only [impl_FormatInt.f, strconv_Itoa.f, if_pos (show -9223372036854775808 ≤ a ∧ a ≤ 9223372036854775807 from ⟨h0, h1⟩), Option.bind_some]
  rfl

theorem impl_within.val (a b c : Int) : impl_within.f a b c = some (decide (b ≤ a ∧ a ≤ c)) := by
  unfold impl_within.f
  by_cases h : b ≤ a <;> simp [h]

theorem impl_IsValidOp.val (a b c d e f : Int) : impl_IsValidOp.f a b c d e f = some (vop a b c d e f) := by
  unfold impl_IsValidOp.f vop
  simp only [impl_within.val, Option.bind_some]
  by_cases h1 : 0 ≤ a ∧ a ≤ 2
  · by_cases h2 : 1 ≤ b ∧ b ≤ 99
    · by_cases h3 : 0 ≤ d ∧ d ≤ 2
      · by_cases h4 : 0 ≤ f ∧ f ≤ 9
        · simp only [decide_eq_true h1, decide_eq_true h2, decide_eq_true h3, decide_eq_true h4, if_true]
          by_cases hc : c = 1
          · by_cases he : e = 0
            · simp [hc, he, h1, h2, h3, h4]
            · simp [hc, he, h1, h2, h3, h4]
          · by_cases hc2 : c = 2
            · simp [hc2, h1, h2, h3, h4]
            · simp [hc, hc2]
        · simp only [decide_eq_true h1, decide_eq_true h2, decide_eq_true h3, decide_eq_false h4, if_true, Bool.false_eq_true, if_false]
          simp; intros; omega
      · simp only [decide_eq_true h1, decide_eq_true h2, decide_eq_false h3, if_true, Bool.false_eq_true, if_false]
        simp; intros; omega
    · simp only [decide_eq_true h1, decide_eq_false h2, if_true, Bool.false_eq_true, if_false]
      simp; intros; omega
  · simp only [decide_eq_false h1, Bool.false_eq_true, if_false]
    simp; intros; omega

theorem impl_IsLog.ev (xs : List S77) (hn : xs.length ≤ 9223372036854775806) : ∃ b, Ev (fun k => impl_IsLog.f k xs) b ∧ (b = true ↔ isLog xs) := by
  obtain ⟨b, hb, hq⟩ := all_ev (fun k i => impl_IsLog.l0 k xs xs (xs.length : Int) i) (okAt xs) xs.length (decide ((xs.length : Int) ≤ 16))
    (ev_shift (ev_val fun k => by simp only [impl_IsLog.l0, if_neg (show ¬ ((xs.length : Int) < (xs.length : Int)) by omega)]))
    (fun i hi => by
      have e1 := w64 (show -9223372036854775808 ≤ (i : Int) + 1 by omega) (by omega)
      have e2 := w64 (show -9223372036854775808 ≤ (i : Int) - 1 by omega) (by omega)
      have jt : Ev (fun k => impl_IsLog.j1 k xs xs (xs.length : Int) (i : Int) true) false := ev_shift (ev_val fun k => by simp only [impl_IsLog.j1, if_true])
      have jf : ∀ b, Ev (fun k => impl_IsLog.l0 k xs xs (xs.length : Int) ((i : Int) + 1)) b → Ev (fun k => impl_IsLog.j1 k xs xs (xs.length : Int) (i : Int) false) b := fun b h => ev_shift (by simp only [impl_IsLog.j1, Bool.false_eq_true, if_false, e1]; exact h)
      by_cases h : 1 ≤ (rd_T77 xs (i : Int)).f0 ∧ (rd_T77 xs (i : Int)).f0 ≤ 20
      · by_cases h2 : 0 < i ∧ ¬ (rd_T77 xs ((i : Int) - 1)).f0 ≤ (rd_T77 xs (i : Int)).f0
        · refine .inr ⟨fun hh => h2.2 (hh.2.2 h2.1), ev_shift ?_⟩
          simp only [impl_IsLog.l0, if_pos (show (i : Int) < (xs.length : Int) by omega), if_pos (show (0 : Int) ≤ (i : Int) by omega), impl_within.val, Option.bind_some, decide_eq_true h, if_true, e2, if_pos (show (i : Int) > 0 by omega), if_pos (show (0 : Int) ≤ (i : Int) - 1 by omega), if_pos (show (i : Int) - 1 < (xs.length : Int) by omega), if_pos (show (rd_T77 xs (i : Int)).f0 < (rd_T77 xs ((i : Int) - 1)).f0 by omega)]
          exact jt
        · have hstep : ∀ b, Ev (fun k => impl_IsLog.j1 k xs xs (xs.length : Int) (i : Int) (!(vop (rd_T77 xs (i : Int)).f1.f0 (rd_T77 xs (i : Int)).f1.f1 (rd_T77 xs (i : Int)).f1.f2 (rd_T77 xs (i : Int)).f1.f3 (rd_T77 xs (i : Int)).f1.f4 (rd_T77 xs (i : Int)).f1.f5))) b → Ev (fun k => impl_IsLog.l0 k xs xs (xs.length : Int) (i : Int)) b := by
            intro b hb
            refine ev_shift ?_
            by_cases h0 : 0 < i
            · simp only [impl_IsLog.l0, if_pos (show (i : Int) < (xs.length : Int) by omega), if_pos (show (0 : Int) ≤ (i : Int) by omega), impl_within.val, impl_IsValidOp.val, Option.bind_some, decide_eq_true h, if_true, e2, if_pos (show (i : Int) > 0 by omega), if_pos (show (0 : Int) ≤ (i : Int) - 1 by omega), if_pos (show (i : Int) - 1 < (xs.length : Int) by omega), if_neg (show ¬ (rd_T77 xs (i : Int)).f0 < (rd_T77 xs ((i : Int) - 1)).f0 by omega)]
              exact hb
            · simp only [impl_IsLog.l0, if_pos (show (i : Int) < (xs.length : Int) by omega), if_pos (show (0 : Int) ≤ (i : Int) by omega), impl_within.val, impl_IsValidOp.val, Option.bind_some, decide_eq_true h, if_true, if_neg (show ¬ ((i : Int) > 0) by omega)]
              exact hb
          cases hv : vop (rd_T77 xs (i : Int)).f1.f0 (rd_T77 xs (i : Int)).f1.f1 (rd_T77 xs (i : Int)).f1.f2 (rd_T77 xs (i : Int)).f1.f3 (rd_T77 xs (i : Int)).f1.f4 (rd_T77 xs (i : Int)).f1.f5 with
          | true =>
            rw [hv] at hstep
            exact .inl ⟨⟨h, hv, fun h0 => by omega⟩, fun b hb => hstep b (jf b hb)⟩
          | false =>
            rw [hv] at hstep
            exact .inr ⟨fun hh => by have hx := hh.2.1; rw [hv] at hx; exact absurd hx (by decide), hstep false jt⟩
      · refine .inr ⟨fun hh => h hh.1, ev_shift ?_⟩
        simp only [impl_IsLog.l0, if_pos (show (i : Int) < (xs.length : Int) by omega), if_pos (show (0 : Int) ≤ (i : Int) by omega), impl_within.val, Option.bind_some, decide_eq_false h, Bool.false_eq_true, if_false]
        exact jt)
  refine ⟨b, hb, hq.trans ?_⟩
  rw [isLog, decide_eq_true_iff]
  exact ⟨fun h => ⟨h.1, by omega⟩, fun h => ⟨h.1, by omega⟩⟩

theorem impl_FormatOp.val (a b c d e f : Int) : impl_FormatOp.f a b c d e f = some (str (fopL a b c d e f)) := by
  cases hv : vop a b c d e f with
  | false => simp only [impl_FormatOp.f, impl_IsValidOp.val, hv, Option.bind_some, Bool.false_eq_true, if_false, fopL]; rfl
  | true =>
    have hq := hv
    simp only [vop, decide_eq_true_eq] at hq
    have h0 := impl_FormatInt.val a (by omega) (by omega)
    have h1 := impl_FormatInt.val b (by omega) (by omega)
    have h3 := impl_FormatInt.val d (by omega) (by omega)
    have h4 := impl_FormatInt.val e (by omega) (by omega)
    have h5 := impl_FormatInt.val f (by omega) (by omega)
    have l0 := itoa_len a (by omega) (by omega)
    have l1 := itoa_len b (by omega) (by omega)
    have l3 := itoa_len d (by omega) (by omega)
    have l4 := itoa_len e (by omega) (by omega)
    have l5 := itoa_len f (by omega) (by omega)
    rcases (show (c = 1 ∧ ¬ c = 2) ∨ (c = 2 ∧ ¬ c = 1) by omega) with ⟨hc, hn⟩ | ⟨hc, hn⟩
    · simp only [impl_FormatOp.f, impl_IsValidOp.val, hv, Option.bind_some, if_true, h0, h1, h3, h5, if_neg hn, str_lit, str_append, str_size, List.length_append, List.length_cons, List.length_nil]
      simp (disch := omega) only [if_pos]
      simp only [fopL, hv, if_true, opL, if_neg hn, List.append_assoc, List.cons_append, List.nil_append]
    · simp only [impl_FormatOp.f, impl_IsValidOp.val, hv, Option.bind_some, if_true, h0, h1, h3, h4, h5, if_pos hc, str_lit, str_append, str_size, List.length_append, List.length_cons, List.length_nil]
      simp (disch := omega) only [if_pos]
      simp only [fopL, hv, if_true, opL, if_pos hc, List.append_assoc, List.cons_append, List.nil_append]

theorem strings_Join.val (ls : List (List UInt8)) (sep : List UInt8) (h1 : ls.length ≤ 140737488355328) (h2 : (Lib.join ls sep).length ≤ 140737488355328) : strings_Join.f (ls.map str) (str sep) = some (str (Lib.join ls sep)) := by
  have e : (ls.map str).map (·.data.toList) = ls := by rw [List.map_map]; conv => rhs; rw [← List.map_id ls]
                                                       apply List.map_congr_left; intro l _; simp [str]
  have e2 : (str sep).data.toList = sep := by simp [str]
  simp only [strings_Join.f, e, e2, List.length_map]
  rw [if_pos ⟨h1, h2⟩]
  rfl

theorem joinL_len (xs : List S77) (hv : isLog xs) : (Lib.join (xs.map entL) [59]).length ≤ 400 * 16 := by
  have h16 := hv.2
  have key : ∀ d i : Nat, i + d = xs.length → (restL xs i).length ≤ 400 * d := by
    intro d
    induction d with
    | zero => intro i h; obtain rfl : i = xs.length := by omega
              rw [restL_end]; simp
    | succ d ih =>
      intro i h
      have hi : i < xs.length := by omega
      have hep := isLog_epoch xs hv i hi
      have hl := itoa_len xs[i].f0 (by omega) (by omega)
      have hl2 := fopL_len xs[i].f1.f0 xs[i].f1.f1 xs[i].f1.f2 xs[i].f1.f3 xs[i].f1.f4 xs[i].f1.f5
      have := ih (i + 1) (by omega)
      rw [restL_step xs i hi, List.length_append]
      split <;> simp only [entL, List.length_append, List.length_cons, List.length_nil] <;> omega
  have := key xs.length 0 (by omega)
  simp only [restL, if_true] at this
  omega
theorem impl_FormatLog.l0ev (xs : List S77) (hv : isLog xs) :
    ∀ s : Nat, s ≤ xs.length → Ev (fun k => impl_FormatLog.l0 k ((xs.take s).map fun x => str (entL x)) xs (xs.length : Int) (s : Int)) (str (Lib.join (xs.map entL) [59])) := by
  refine loop_ev (fun k (s : Nat) => impl_FormatLog.l0 k ((xs.take s).map fun x => str (entL x)) xs (xs.length : Int) (s : Int)) _ (fun s => xs.length - s) (fun _ => str (Lib.join (xs.map entL) [59])) ?_
  intro i h1
  have h16 := hv.2
  by_cases hi : i < xs.length
  · have hep := isLog_epoch xs hv i hi
    have hl := itoa_len xs[i].f0 (by omega) (by omega)
    have hl2 := fopL_len xs[i].f1.f0 xs[i].f1.f1 xs[i].f1.f2 xs[i].f1.f3 xs[i].f1.f4 xs[i].f1.f5
    have f1 := impl_FormatInt.val xs[i].f0 (by omega) (by omega)
    have e1 := w64 (show -9223372036854775808 ≤ (i : Int) + 1 by omega) (by omega)
    have ht : (xs.take i).length = i := by rw [List.length_take]; omega
    refine .inr ⟨i + 1, by omega, by omega, rfl, fun r hr => ev_shift ?_⟩
    refine Ev.congr (fun k => ?_) hr
    simp only [impl_FormatLog.l0, if_pos (show (i : Int) < (xs.length : Int) by omega), if_pos (show (0 : Int) ≤ (i : Int) by omega), rdE xs i hi, f1, impl_FormatOp.val, Option.bind_some, str_lit, str_append, str_size, List.length_append, List.length_cons, List.length_nil, List.length_map, ht, e1]
    simp (disch := omega) only [if_pos]
    rw [List.take_succ_eq_append_getElem hi, List.map_append]
    simp only [entL, List.map_cons, List.map_nil, List.append_assoc]
    rfl
  · refine .inl (ev_shift (ev_val fun k => ?_))
    obtain rfl : i = xs.length := by omega
    have hj := strings_Join.val (xs.map entL) [59] (by simp; omega) (by have := joinL_len xs hv; omega)
    rw [List.map_map] at hj
    simp only [impl_FormatLog.l0, if_neg (show ¬ ((xs.length : Int) < (xs.length : Int)) by omega), List.take_length, str_lit]
    rw [show (fun x => str (entL x)) = (str ∘ entL) from rfl, hj]
    rfl
theorem impl_FormatLog.ev (xs : List S77) (hn : xs.length ≤ 1048576) (b : Bool) (hb : Ev (fun k => impl_IsLog.f k xs) b) (hq : b = true ↔ isLog xs) : Ev (fun k => impl_FormatLog.f k xs) (str (if b = true then logL xs else [])) := by
  refine Ev.bind hb ?_
  cases b with
  | false => exact ev_val fun _ => rfl
  | true =>
    simp only [if_true, logL]
    by_cases h : xs.length = 0
    · simp only [if_pos h, if_pos (show (xs.length : Int) = 0 by omega)]; exact Ev.now _
    · simp only [if_neg h, if_neg (show ¬ ((xs.length : Int) = 0) by omega)]
      have := impl_FormatLog.l0ev xs (hq.1 rfl) 0 (by omega)
      simpa using this

theorem impl_Checksum.step (c b : Int) (h0 : 0 ≤ c) (h1 : c ≤ 9948) (b0 : 0 ≤ b) (b1 : b ≤ 255) : Int.tmod (wrap64 ((wrap64 ((wrap64 (257 * c)) + (wrap64 b))) + 1)) 9949 = ckStep c b := by
  rw [w64 (x := 257 * c) (by omega) (by omega), w64 (x := b) (by omega) (by omega), w64 (x := 257 * c + b) (by omega) (by omega), w64 (x := 257 * c + b + 1) (by omega) (by omega), tmod_pos _ _ (by omega), Int.mul_comm 257 c]
  rfl
theorem impl_Checksum.ev (s : ByteArray) (hn : s.size ≤ 9223372036854775806) : Ev (fun k => impl_Checksum.f k s) (cks (bytesOf s)) := by
  have key : ∀ (d i : Nat) (c : Int), i + d = s.size → 0 ≤ c → c ≤ 9948 → Ev (fun k => impl_Checksum.l0 k s c (s.size : Int) (i : Int)) (((bytesOf s).drop i).foldl ckStep c) := by
    intro d
    induction d with
    | zero =>
      intro i c h h0 h1
      refine ev_shift ?_
      simp only [impl_Checksum.l0, if_neg (show ¬ ((i : Int) < (s.size : Int)) by omega)]
      exact ev_some (by rw [bytes_end s i (by omega)]; rfl)
    | succ d ih =>
      intro i c h h0 h1
      have hb := bt_range s (i : Int)
      have := ih (i + 1) (ckStep c (bt s (i : Int))) (by omega) (ckStep_range _ _).1 (ckStep_range _ _).2
      refine ev_shift ?_
      simp only [impl_Checksum.l0, if_pos (show (i : Int) < (s.size : Int) by omega), if_pos (show (0 : Int) ≤ (i : Int) by omega), w64 (show -9223372036854775808 ≤ (i : Int) + 1 by omega) (by omega),
        impl_Checksum.step c _ h0 h1 hb.1 hb.2]
      rw [bytes_cons s i (by omega), List.foldl_cons]
      simpa using this
  simpa [impl_Checksum.f, cks] using key s.size 0 5 (by omega) (by omega) (by omega)

theorem impl_FormatLog.one (x : S77) (h : isLog [x]) : Ev (fun k => impl_FormatLog.f k [x]) (str (entL x)) := by
  obtain ⟨b, hb, hq⟩ := impl_IsLog.ev [x] (by simp)
  have := impl_FormatLog.ev [x] (by simp) b hb hq
  rw [if_pos (hq.2 h), logL_one] at this
  exact this
theorem impl_DigestList.l0ev (xs : List S77) (hv : isLog xs) :
    ∀ s : List Int × Int, (s.1.length ≤ xs.length ∧ 0 ≤ s.2 ∧ s.2 ≤ 9972) → Ev (fun k => impl_DigestList.l0 k xs (s.1 ++ [s.2]) (xs.length : Int) (s.1.length : Int)) (s.1 ++ dgs s.2 (xs.drop s.1.length)) := by
  refine loop_ev (fun k (s : List Int × Int) => impl_DigestList.l0 k xs (s.1 ++ [s.2]) (xs.length : Int) (s.1.length : Int)) _ (fun s => xs.length - s.1.length) (fun s => s.1 ++ dgs s.2 (xs.drop s.1.length)) ?_
  rintro ⟨pre, d⟩ ⟨h1, h2, h3⟩
  simp only at h1 h2 h3 ⊢
  have h16 := hv.2
  obtain ⟨i, hi0⟩ : ∃ i, i = pre.length := ⟨_, rfl⟩
  rw [← hi0] at h1 ⊢
  by_cases hi : i < xs.length
  · have hd : xs.drop i = xs[i] :: xs.drop (i + 1) := List.drop_eq_getElem_cons hi
    have e1 := w64 (show -9223372036854775808 ≤ (i : Int) + 1 by omega) (by omega)
    have e2 : (((i : Int) + 1).toNat) = i + 1 := by omega
    have hck := cks_range (bytesOf (str (entL xs[i])))
    have hl := entL_len xs hv i hi
    obtain ⟨K1, f1⟩ := impl_FormatLog.one xs[i] (isLog_one xs hv i hi)
    obtain ⟨K2, f2⟩ := impl_Checksum.ev (str (entL xs[i])) (by rw [str_size]; omega)
    have hst := dgStep_range d xs[i]
    refine .inr ⟨(pre ++ [d], dgStep d xs[i]), ⟨by simp only [List.length_append, List.length_singleton]; omega, hst.1, hst.2⟩, by simp only [List.length_append, List.length_singleton]; omega, ?_, ?_⟩
    · simp only [List.length_append, List.length_singleton, ← hi0]
      rw [hd]
      simp only [dgs, List.append_assoc, List.singleton_append]
    · rintro r ⟨K3, hr3⟩
      simp only [List.length_append, List.length_singleton, ← hi0] at hr3
      refine ⟨K1 + K2 + K3 + 1, fun k hk => ?_⟩
      obtain ⟨k, rfl⟩ : ∃ m, k = m + 1 := ⟨k - 1, by omega⟩
      rw [← hr3 k (by omega)]
      have hrd : rd (pre ++ [d]) (i : Int) = d := by
        rw [rd_get _ i (by simp; omega), List.getElem_append_right (by omega)]
        simp [hi0]
      simp only [impl_DigestList.l0, if_pos (show (i : Int) < (xs.length : Int) by omega), if_pos (show (0 : Int) ≤ (i : Int) by omega), e1, e2, if_pos (show (i : Int) ≤ (i : Int) + 1 by omega), if_pos (show (i : Int) + 1 ≤ (xs.length : Int) by omega), Int.toNat_natCast, cut_one xs i hi, f1 k (by omega), f2 k (by omega), Option.bind_some, List.length_append, List.length_singleton, ← hi0, if_pos (show i + 1 < 17592186044416 by omega), if_pos (show (i : Int) < ((i + 1 : Nat) : Int) by omega), hrd,
        w64 (show -9223372036854775808 ≤ d * 31 by omega) (by omega), w64 (show -9223372036854775808 ≤ d * 31 + cks (bytesOf (str (entL xs[i]))) by omega) (by omega), tmod_pos (d * 31 + cks (bytesOf (str (entL xs[i])))) 9973 (by omega), Int.mul_comm 31 d]
      rfl
  · obtain rfl : i = xs.length := by omega
    refine .inl (ev_shift (ev_val fun k => ?_))
    simp only [impl_DigestList.l0, if_neg (show ¬ ((xs.length : Int) < (xs.length : Int)) by omega), List.drop_length, dgs]
theorem impl_DigestList.ev (xs : List S77) (hn : xs.length ≤ 1048576) (b : Bool) (hb : Ev (fun k => impl_IsLog.f k xs) b) (hq : b = true ↔ isLog xs) : Ev (fun k => impl_DigestList.f k xs) (if b = true then dgs 11 xs else []) := by
  unfold impl_DigestList.f
  refine Ev.bind hb ?_
  cases b with
  | false => exact ev_val fun _ => rfl
  | true =>
    simp only [if_true]
    have := impl_DigestList.l0ev xs (hq.1 rfl) ([], 11) ⟨by simp, by simp, by simp⟩
    simpa using this

theorem impl_DigestOf.ev (xs : List S77) (a : Int) (l : List Int) (hl : Ev (fun k => impl_DigestList.f k xs) l) (hn : l.length ≤ 1000000) : Ev (fun k => impl_DigestOf.f k xs a) (dgAt l a) := by
  refine Ev.bind hl (ev_val fun k => ?_)
  have e1 := w64 (show -9223372036854775808 ≤ (l.length : Int) - 1 by omega) (by omega)
  by_cases h : 0 ≤ a ∧ a ≤ (l.length : Int) - 1
  · simp only [impl_within.val, e1, Option.bind_some, decide_eq_true h, if_true, if_pos h.1, if_pos (show a < (l.length : Int) by omega), dgAt, if_pos h]
  · simp only [impl_within.val, e1, Option.bind_some, decide_eq_false h, Bool.false_eq_true, if_false, dgAt, if_neg h]

theorem impl_ProvesPrefix.ev (xs : List S77) (a d : Int) (l : List Int) (hl : Ev (fun k => impl_DigestList.f k xs) l) (hn : l.length ≤ 1000000) : Ev (fun k => impl_ProvesPrefix.f k xs a d) (decide (d ≥ 0) && (dgAt l a == d)) := by
  by_cases h : d ≥ 0
  · simp only [impl_ProvesPrefix.f, if_pos h, decide_eq_true h, Bool.true_and]
    exact Ev.bind (impl_DigestOf.ev xs a l hl hn) (Ev.now _)
  · simp only [impl_ProvesPrefix.f, if_neg h, decide_eq_false h, Bool.false_and]
    exact Ev.now _

theorem FnExactProvesPrefix : FnExactProvesPrefixPure := by
  intro l a d h1 h2 h3
  refine Ev.rounds (g := fun k => laws_FnExactProvesPrefix.f k l a d) ?_
  obtain ⟨r, hr, hq⟩ := laws_szEntryS.val l 1048576 h1.1 (by omega) (by omega)
  simp only [laws_FnExactProvesPrefix.f, hr, Option.bind_some]
  by_cases hneg : r < 0
  · simp only [if_pos hneg]; exact Ev.now _
  · obtain ⟨e1, e2⟩ := hq hneg
    simp only [if_neg hneg]
    have hT := laws_toEntryS.ev l (by omega)
    have hl : (l.map toE).length ≤ 1048576 := by simp; omega
    obtain ⟨b, hb1, hq1⟩ := spec_IsLog.ev (l.map toE) (by omega)
    obtain ⟨c, hc1, hq2⟩ := impl_IsLog.ev (l.map toE) (by omega)
    obtain rfl : c = b := by rw [Bool.eq_iff_iff, hq1, hq2]
    have hS := spec_DigestList.ev _ hl _ hb1 hq1
    have hI := impl_DigestList.ev _ hl _ hc1 hq2
    have hlen : (if c = true then dgs 11 (l.map toE) else []).length ≤ 1000000 := by
      split
      · next h => rw [dgs_len]; have := (hq1.1 h).2; omega
      · simp
    refine Ev.bind hT (Ev.bind (spec_ProvesPrefix.ev _ a d _ hS hlen) (Ev.bind hT (Ev.bind (impl_ProvesPrefix.ev _ a d _ hI hlen) ?_)))
    simp only [bne_self_eq_false, Bool.false_eq_true, if_false]
    refine Ev.bind hT (Ev.bind (laws_eqEntryS.same _ (by omega)) ?_)
    exact ev_val (fun _ => by simp)

end Go.Proofs.YtkkbcnghlnogpaaDoor.Pure
