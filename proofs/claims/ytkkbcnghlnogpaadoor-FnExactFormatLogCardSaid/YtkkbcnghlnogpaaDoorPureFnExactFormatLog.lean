/- For every log the law FnExactFormatLog returns true; no conditions. -/
import Derived.Test.YtkkbcnghlnogpaaDoorQFnExactFormatLog
import Derived.Test.YtkkbcnghlnogpaaDoorACom
set_option linter.unusedVariables false
set_option linter.unusedSimpArgs false
namespace Go.Proofs.YtkkbcnghlnogpaaDoor.Pure
open Go.RowKit Go.Proofs.YtkkbcnghlnogpaaDoor.A Go.Proofs.YtkkbcnghlnogpaaDoorW.PrintWords Go.Proofs.YtkkbcnghlnogpaaDoorW.PrintLast
open Go.Proofs.YtkkbcnghlnogpaaDoor.Opens
open Go.Proofs.YtkkbcnghlnogpaaDoor.Com
open Go.Proofs.YtkkbcnghlnogpaaDoor.Given

theorem laws_szEntryS.val (xs : List S82) (a : Int) (hn : xs.length ≤ maxLen) (h0 : 0 ≤ a) (h1 : a ≤ 1048576) :
    ∃ r, laws_szEntryS.f xs a = some r ∧ (¬ r < 0 → r = a - xs.length ∧ (xs.length : Int) ≤ a) := by
  unfold maxLen at hn
  unfold laws_szEntryS.f
  rw [w64 (show -9223372036854775808 ≤ a - (xs.length : Int) by omega) (by omega)]
  by_cases h : a - (xs.length : Int) < 0
  · exact ⟨-1, by rw [if_pos h], fun h' => by omega⟩
  · exact ⟨_, by rw [if_neg h], fun h' => ⟨rfl, by omega⟩⟩

/-- Bytes as a string. -/
def str (l : List UInt8) : ByteArray := ⟨l.toArray⟩
theorem str_append (a b : List UInt8) : str a ++ str b = str (a ++ b) := by
  apply ByteArray.ext
  simp [str]
theorem str_size (l : List UInt8) : (str l).size = l.length := by simp [str, ByteArray.size]
theorem str_inj {a b : List UInt8} (h : str a = str b) : a = b := by
  have := congrArg (fun s => s.data.toList) h
  simpa [str] using this
theorem str_toList (l : List UInt8) : (str l).toList = l := by rw [toList_data]; simp [str]
theorem toList_inj' {a b : ByteArray} (h : a.toList = b.toList) : a = b := bytesOf_inj (bytesOf_congr h)
/-- The digits of a number, none for 0. -/
def digs (m : Nat) : List UInt8 := if m = 0 then [] else Lib.decDigits m
theorem digs_step (m : Nat) (h : 0 < m) : digs m = digs (m / 10) ++ [UInt8.ofNat (48 + m % 10)] := by
  unfold digs
  rw [if_neg (by omega), Lib.decDigits]
  by_cases h9 : m < 10
  · rw [dif_pos h9, if_pos (by omega), Nat.mod_eq_of_lt h9]; rfl
  · rw [dif_neg h9, if_neg (by omega)]
theorem tmod10 (x : Int) : (0 ≤ x → Int.tmod x 10 = ((x.natAbs % 10 : Nat) : Int) ∧ Int.tdiv x 10 = ((x.natAbs / 10 : Nat) : Int)) ∧ (x < 0 → Int.tmod x 10 = -((x.natAbs % 10 : Nat) : Int) ∧ Int.tdiv x 10 = -((x.natAbs / 10 : Nat) : Int)) := by
  constructor
  · intro h
    obtain ⟨n, rfl⟩ := Int.eq_ofNat_of_zero_le h
    exact ⟨rfl, rfl⟩
  · intro h
    obtain ⟨n, rfl⟩ := Int.eq_negSucc_of_lt_zero h
    exact ⟨rfl, rfl⟩
theorem strOfNums_digit (d : Nat) (h : d < 10) : strOfNums ([(wrap64 (48 + (d : Int))) % 256] : List Int) = str [UInt8.ofNat (48 + d)] := by
  rw [w64 (by omega) (by omega)]
  apply ByteArray.ext
  apply Array.ext'
  rw [strOfNums_data]
  have e : ((48 + (d : Int)) % 256).toNat = 48 + d := by omega
  simp [str, e]
theorem itoa_zero : Lib.itoa 0 = [48] := by unfold Lib.itoa Lib.decDigits; simp
theorem itoa_digs (a : Int) (h : a ≠ 0) : Lib.itoa a = (if a < 0 then [45] else []) ++ digs a.natAbs := by
  have hn : ¬ a.natAbs = 0 := by omega
  unfold Lib.itoa digs
  by_cases c : a < 0
  · rw [if_pos c, if_pos c, if_neg hn]; rfl
  · rw [if_neg c, if_neg c, if_neg hn, show a.toNat = a.natAbs by omega]; rfl
theorem digs_len : ∀ n m : Nat, m < 10 ^ n → (digs m).length ≤ n := by
  intro n
  induction n with
  | zero => intro m h; obtain rfl : m = 0 := by simpa using h
            simp [digs]
  | succ n ih =>
    intro m h
    by_cases h0 : m = 0
    · subst h0; simp [digs]
    · rw [digs_step m (by omega), List.length_append]
      have := ih (m / 10) (by rw [Nat.pow_succ] at h; omega)
      simp only [List.length_cons, List.length_nil]
      omega
theorem itoa_len (a : Int) (h0 : -9223372036854775808 ≤ a) (h1 : a ≤ 9223372036854775807) : (Lib.itoa a).length ≤ 20 := by
  by_cases h : a = 0
  · subst h; rw [itoa_zero]; simp
  · rw [itoa_digs a h, List.length_append]
    have h2 := digs_len 19 a.natAbs (by omega)
    have h3 : (if a < 0 then ([45] : List UInt8) else []).length ≤ 1 := by split <;> simp
    omega
theorem str_lit (l : List UInt8) : (⟨l.toArray⟩ : ByteArray) = str l := rfl

theorem spec_FormatInt.l0ev (neg : Bool) : ∀ s : Int × List UInt8, (s.2.length + s.1.natAbs ≤ 9223372036854775808 ∧ (s.2.length = 0 ∨ s.2.length + s.1.natAbs ≤ 9223372036854775800)) →
    Ev (fun k => spec_FormatInt.l0 k s.1 (str s.2) neg) (str ((if neg then [45] else []) ++ digs s.1.natAbs ++ s.2)) := by
  refine loop_ev (fun k (s : Int × List UInt8) => spec_FormatInt.l0 k s.1 (str s.2) neg) _ (fun s => s.1.natAbs) (fun s => str ((if neg then [45] else []) ++ digs s.1.natAbs ++ s.2)) ?_
  rintro ⟨x, l⟩ ⟨h1, h2⟩
  simp only at h1 h2 ⊢
  by_cases hx : x = 0
  · subst hx
    refine .inl (ev_shift ?_)
    simp only [spec_FormatInt.l0, if_true, str_size]
    cases neg with
    | false => exact ev_val fun _ => by simp [digs]
    | true =>
      simp only [if_true, if_pos (show 1 + l.length ≤ 9223372036854775807 by omega)]
      exact ev_val fun _ => by rw [show (⟨#[45]⟩ : ByteArray) = str [45] from rfl, str_append]; simp [digs]
  · refine .inr ⟨(Int.tdiv x 10, UInt8.ofNat (48 + x.natAbs % 10) :: l), ?_, ?_, ?_, ?_⟩
    · have ht := tmod10 x
      simp only [List.length_cons]
      have : (Int.tdiv x 10).natAbs = x.natAbs / 10 := by rcases (show x < 0 ∨ 0 ≤ x by omega) with c | c; (have := (ht.2 c).2; omega); (have := (ht.1 c).2; omega)
      rw [this]
      omega
    · have ht := tmod10 x
      have : (Int.tdiv x 10).natAbs = x.natAbs / 10 := by rcases (show x < 0 ∨ 0 ≤ x by omega) with c | c; (have := (ht.2 c).2; omega); (have := (ht.1 c).2; omega)
      simp only [this]
      omega
    · have ht := tmod10 x
      have : (Int.tdiv x 10).natAbs = x.natAbs / 10 := by rcases (show x < 0 ∨ 0 ≤ x by omega) with c | c; (have := (ht.2 c).2; omega); (have := (ht.1 c).2; omega)
      simp only [this]
      rw [digs_step x.natAbs (by omega)]
      simp
    · intro r hr
      refine ev_shift ?_
      have ht := tmod10 x
      have e2 : wrap64 (Int.tdiv x 10) = Int.tdiv x 10 := w64 (by rcases (show x < 0 ∨ 0 ≤ x by omega) with c | c; (have := (ht.2 c).2; omega); (have := (ht.1 c).2; omega)) (by rcases (show x < 0 ∨ 0 ≤ x by omega) with c | c; (have := (ht.2 c).2; omega); (have := (ht.1 c).2; omega))
      have e3 : ∀ d : Nat, d < 10 → (strOfNums ([(wrap64 (48 + (d : Int))) % 256] : List Int)) ++ str l = str (UInt8.ofNat (48 + d) :: l) := fun d hd => by rw [strOfNums_digit d hd, str_append]; rfl
      have e4 : ∀ d : Nat, d < 10 → (strOfNums ([(wrap64 (48 + (d : Int))) % 256] : List Int)).size + (str l).size ≤ 9223372036854775807 := fun d hd => by rw [strOfNums_digit d hd, str_size, str_size]; simp only [List.length_cons, List.length_nil]; omega
      have hd : x.natAbs % 10 < 10 := by omega
      simp only [spec_FormatInt.l0, if_neg hx, e2]
      by_cases c : Int.tmod x 10 < 0
      · have hm : Int.tmod x 10 = -((x.natAbs % 10 : Nat) : Int) := by rcases (show x < 0 ∨ 0 ≤ x by omega) with c' | c'; exact (ht.2 c').1; (have := (ht.1 c').1; omega)
        have e1 : wrap64 (-(Int.tmod x 10)) = ((x.natAbs % 10 : Nat) : Int) := by rw [hm, w64 (by omega) (by omega)]; omega
        simp only [if_pos c, e1, Option.bind_some, if_pos (e4 _ hd), e3 _ hd]
        exact hr
      · have hm : Int.tmod x 10 = ((x.natAbs % 10 : Nat) : Int) := by rcases (show x < 0 ∨ 0 ≤ x by omega) with c' | c'; (have := (ht.2 c').1; omega); exact (ht.1 c').1
        rw [hm] at c
        simp only [hm, if_neg c, Option.bind_some, if_pos (e4 _ hd), e3 _ hd]
        exact hr
theorem spec_FormatInt.ev (a : Int) (h0 : -9223372036854775808 ≤ a) (h1 : a ≤ 9223372036854775807) : Ev (fun k => spec_FormatInt.f k a) (str (Lib.itoa a)) := by
  by_cases ha : a = 0
  · subst ha
    simp only [spec_FormatInt.f, if_true, itoa_zero]
    exact Ev.now _
  · simp only [spec_FormatInt.f, if_neg ha]
    have h := spec_FormatInt.l0ev (decide (a < 0)) (a, []) ⟨by simp only [List.length_nil]; omega, .inl rfl⟩
    refine ev_eq h ?_
    rw [itoa_digs a ha]
    simp only [List.append_nil, decide_eq_true_eq]

theorem spec_l1In.val (a b c : Int) : spec_l1In.f a b c = some (decide (b ≤ a ∧ a ≤ c)) := by
  unfold spec_l1In.f
  by_cases h : b ≤ a <;> simp [h]

/-- Is this an operation? -/
def vop (a b c d e f : Int) : Bool := decide ((0 ≤ a ∧ a ≤ 2) ∧ (1 ≤ b ∧ b ≤ 99) ∧ (0 ≤ d ∧ d ≤ 2) ∧ (0 ≤ f ∧ f ≤ 9) ∧ ((c = 1 ∧ e = 0) ∨ (c = 2 ∧ 0 ≤ e ∧ e ≤ 9)))

theorem spec_IsValidOp.val (a b c d e f : Int) : spec_IsValidOp.f a b c d e f = some (vop a b c d e f) := by
  unfold spec_IsValidOp.f vop
  simp only [spec_l1In.val, Option.bind_some]
  by_cases h1 : 0 ≤ a ∧ a ≤ 2
  · by_cases h2 : 1 ≤ b ∧ b ≤ 99
    · by_cases h3 : 0 ≤ d ∧ d ≤ 2
      · by_cases h4 : 0 ≤ f ∧ f ≤ 9
        · simp only [decide_eq_true h1, decide_eq_true h2, decide_eq_true h3, decide_eq_true h4, if_true]
          by_cases hc : c = 1
          · by_cases he : e = 0
            · simp [hc, he, h1, h2, h3, h4]
            · simp [hc, he, h1, h2, h3, h4]
          · by_cases hc2 : c = 2
            · simp [hc2, h1, h2, h3, h4]
            · simp [hc, hc2]
        · simp only [decide_eq_true h1, decide_eq_true h2, decide_eq_true h3, decide_eq_false h4, if_true, Bool.false_eq_true, if_false]
          simp; intros; omega
      · simp only [decide_eq_true h1, decide_eq_true h2, decide_eq_false h3, if_true, Bool.false_eq_true, if_false]
        simp; intros; omega
    · simp only [decide_eq_true h1, decide_eq_false h2, if_true, Bool.false_eq_true, if_false]
      simp; intros; omega
  · simp only [decide_eq_false h1, Bool.false_eq_true, if_false]
    simp; intros; omega

theorem rdE (xs : List S77) (i : Nat) (h : i < xs.length) : rd_T77 xs (i : Int) = xs[i] := by simp [rd_T77, h]
theorem rdLE (xs : List S82) (i : Nat) (h : i < xs.length) : rd_T82 xs (i : Int) = xs[i] := by simp [rd_T82, h]
/-- An entry of the laws, as one of the program. -/
def toE (x : S82) : S77 := ⟨x.f0, ⟨x.f1.f0, x.f1.f1, x.f1.f2, x.f1.f3, x.f1.f4, x.f1.f5⟩⟩
theorem ent_eq (x y : S77) : x = y ↔ x.f0 = y.f0 ∧ x.f1.f0 = y.f1.f0 ∧ x.f1.f1 = y.f1.f1 ∧ x.f1.f2 = y.f1.f2 ∧ x.f1.f3 = y.f1.f3 ∧ x.f1.f4 = y.f1.f4 ∧ x.f1.f5 = y.f1.f5 := by
  constructor
  · intro h; subst h; simp
  · rintro ⟨h0, h1, h2, h3, h4, h5, h6⟩
    obtain ⟨a, ⟨b, c, d, e, f, g⟩⟩ := x
    obtain ⟨a', ⟨b', c', d', e', f', g'⟩⟩ := y
    simp_all

/-- Is this entry one of a log, behind the one before it? -/
def okAt (xs : List S77) (j : Nat) : Prop := (1 ≤ (rd_T77 xs (j : Int)).f0 ∧ (rd_T77 xs (j : Int)).f0 ≤ 20) ∧
  vop (rd_T77 xs (j : Int)).f1.f0 (rd_T77 xs (j : Int)).f1.f1 (rd_T77 xs (j : Int)).f1.f2 (rd_T77 xs (j : Int)).f1.f3 (rd_T77 xs (j : Int)).f1.f4 (rd_T77 xs (j : Int)).f1.f5 = true ∧
  (0 < j → (rd_T77 xs ((j : Int) - 1)).f0 ≤ (rd_T77 xs (j : Int)).f0)
/-- Is this a log? -/
def isLog (xs : List S77) : Prop := (∀ j, j < xs.length → okAt xs j) ∧ xs.length ≤ 16

theorem spec_IsLog.ev (xs : List S77) (hn : xs.length ≤ 9223372036854775806) : ∃ b, Ev (fun k => spec_IsLog.f k xs) b ∧ (b = true ↔ isLog xs) := by
  obtain ⟨b, hb, hq⟩ := all_loop_end (fun k i => spec_IsLog.l0 k xs i) (okAt xs) xs.length (decide ((xs.length : Int) ≤ 16))
    (fun k => by simp only [spec_IsLog.l0, if_neg (show ¬ ((xs.length : Int) < (xs.length : Int)) by omega)])
    (fun i hi => by
      have e1 := w64 (show -9223372036854775808 ≤ (i : Int) + 1 by omega) (by omega)
      have e2 := w64 (show -9223372036854775808 ≤ (i : Int) - 1 by omega) (by omega)
      by_cases h : 1 ≤ (rd_T77 xs (i : Int)).f0 ∧ (rd_T77 xs (i : Int)).f0 ≤ 20
      · cases hv : vop (rd_T77 xs (i : Int)).f1.f0 (rd_T77 xs (i : Int)).f1.f1 (rd_T77 xs (i : Int)).f1.f2 (rd_T77 xs (i : Int)).f1.f3 (rd_T77 xs (i : Int)).f1.f4 (rd_T77 xs (i : Int)).f1.f5 with
        | true =>
          by_cases h0 : 0 < i
          · by_cases h2 : (rd_T77 xs ((i : Int) - 1)).f0 ≤ (rd_T77 xs (i : Int)).f0
            · exact .inl ⟨⟨h, hv, fun _ => h2⟩, 0, fun k _ => by simp only [spec_IsLog.l0, if_pos (show (i : Int) < (xs.length : Int) by omega), if_pos (show (0 : Int) ≤ (i : Int) by omega), spec_l1In.val, spec_IsValidOp.val, hv, Option.bind_some, decide_eq_true h, if_true, e1, e2, if_pos (show (i : Int) > 0 by omega), if_pos (show (0 : Int) ≤ (i : Int) - 1 by omega), if_pos (show (i : Int) - 1 < (xs.length : Int) by omega), if_neg (show ¬ ((rd_T77 xs ((i : Int) - 1)).f0 > (rd_T77 xs (i : Int)).f0) by omega)]⟩
            · exact .inr ⟨fun hh => h2 (hh.2.2 h0), 0, fun k _ => by simp only [spec_IsLog.l0, if_pos (show (i : Int) < (xs.length : Int) by omega), if_pos (show (0 : Int) ≤ (i : Int) by omega), spec_l1In.val, spec_IsValidOp.val, hv, Option.bind_some, decide_eq_true h, if_true, e1, e2, if_pos (show (i : Int) > 0 by omega), if_pos (show (0 : Int) ≤ (i : Int) - 1 by omega), if_pos (show (i : Int) - 1 < (xs.length : Int) by omega), if_pos (show (rd_T77 xs ((i : Int) - 1)).f0 > (rd_T77 xs (i : Int)).f0 by omega)]⟩
          · exact .inl ⟨⟨h, hv, fun h1 => absurd h1 h0⟩, 0, fun k _ => by simp only [spec_IsLog.l0, if_pos (show (i : Int) < (xs.length : Int) by omega), if_pos (show (0 : Int) ≤ (i : Int) by omega), spec_l1In.val, spec_IsValidOp.val, hv, Option.bind_some, decide_eq_true h, if_true, e1, e2, if_neg (show ¬ ((i : Int) > 0) by omega)]⟩
        | false => exact .inr ⟨fun hh => by have hx := hh.2.1; rw [hv] at hx; exact absurd hx (by decide), 0, fun k _ => by simp only [spec_IsLog.l0, if_pos (show (i : Int) < (xs.length : Int) by omega), if_pos (show (0 : Int) ≤ (i : Int) by omega), spec_l1In.val, spec_IsValidOp.val, hv, Option.bind_some, decide_eq_true h, if_true, Bool.false_eq_true, if_false]⟩
      · exact .inr ⟨fun hh => h hh.1, 0, fun k _ => by simp only [spec_IsLog.l0, if_pos (show (i : Int) < (xs.length : Int) by omega), if_pos (show (0 : Int) ≤ (i : Int) by omega), spec_l1In.val, Option.bind_some, decide_eq_false h, Bool.false_eq_true, if_false]⟩)
  refine ⟨b, hb, hq.trans ?_⟩
  rw [isLog, decide_eq_true_iff]
  exact ⟨fun h => ⟨h.1, by omega⟩, fun h => ⟨h.1, by omega⟩⟩

/-- An operation's text. -/
def opL (a b c d e f : Int) : List UInt8 := Lib.itoa a ++ [46] ++ Lib.itoa b ++ (if c = 2 then [32, 115, 119, 97, 112, 32] ++ Lib.itoa d ++ [32] ++ Lib.itoa e ++ [32] ++ Lib.itoa f else [32, 119, 114, 105, 116, 101, 32] ++ Lib.itoa d ++ [32] ++ Lib.itoa f)
def fopL (a b c d e f : Int) : List UInt8 := if vop a b c d e f = true then opL a b c d e f else []
theorem spec_FormatOp.ev (a b c d e f : Int) : Ev (fun k => spec_FormatOp.f k a b c d e f) (str (fopL a b c d e f)) := by
  cases hv : vop a b c d e f with
  | false => exact ev_val fun k => by simp only [spec_FormatOp.f, spec_IsValidOp.val, hv, Option.bind_some, Bool.false_eq_true, if_false, fopL]; rfl
  | true =>
    have hq := hv
    simp only [vop, decide_eq_true_eq] at hq
    obtain ⟨K0, h0⟩ := spec_FormatInt.ev a (by omega) (by omega)
    obtain ⟨K1, h1⟩ := spec_FormatInt.ev b (by omega) (by omega)
    obtain ⟨K3, h3⟩ := spec_FormatInt.ev d (by omega) (by omega)
    obtain ⟨K4, h4⟩ := spec_FormatInt.ev e (by omega) (by omega)
    obtain ⟨K5, h5⟩ := spec_FormatInt.ev f (by omega) (by omega)
    have l0 := itoa_len a (by omega) (by omega)
    have l1 := itoa_len b (by omega) (by omega)
    have l3 := itoa_len d (by omega) (by omega)
    have l4 := itoa_len e (by omega) (by omega)
    have l5 := itoa_len f (by omega) (by omega)
    refine ⟨K0 + K1 + K3 + K4 + K5, fun k hk => ?_⟩
    rcases (show (c = 1 ∧ ¬ c = 2) ∨ (c = 2 ∧ ¬ c = 1) by omega) with ⟨hc, hn⟩ | ⟨hc, hn⟩
    · simp only [spec_FormatOp.f, spec_IsValidOp.val, hv, Option.bind_some, if_true, h0 k (by omega), h1 k (by omega), h3 k (by omega), h5 k (by omega), if_pos hc, str_lit, str_append, str_size, List.length_append, List.length_cons, List.length_nil]
      simp (disch := omega) only [if_pos]
      simp only [fopL, hv, if_true, opL, if_neg hn, List.append_assoc, List.cons_append, List.nil_append]
    · simp only [spec_FormatOp.f, spec_IsValidOp.val, hv, Option.bind_some, if_true, h0 k (by omega), h1 k (by omega), h3 k (by omega), h4 k (by omega), h5 k (by omega), if_neg hn, str_lit, str_append, str_size, List.length_append, List.length_cons, List.length_nil]
      simp (disch := omega) only [if_pos]
      simp only [fopL, hv, if_true, opL, if_pos hc, List.append_assoc, List.cons_append, List.nil_append]

/-- An entry's text. -/
def entL (x : S77) : List UInt8 := Lib.itoa x.f0 ++ [58] ++ fopL x.f1.f0 x.f1.f1 x.f1.f2 x.f1.f3 x.f1.f4 x.f1.f5
/-- The entries' texts from the i-th on, as they are written behind what stands there. -/
def restL (xs : List S77) (i : Nat) : List UInt8 := if i = 0 then Lib.join (xs.map entL) [59] else Lib.joinTail [59] ((xs.drop i).map entL)
/-- A log's text. -/
def logL (xs : List S77) : List UInt8 := if xs.length = 0 then [110, 111, 110, 101] else Lib.join (xs.map entL) [59]
theorem restL_step (xs : List S77) (i : Nat) (h : i < xs.length) : restL xs i = (if i = 0 then entL xs[i] else [59] ++ entL xs[i]) ++ restL xs (i + 1) := by
  have hd : xs.drop i = xs[i] :: xs.drop (i + 1) := List.drop_eq_getElem_cons h
  unfold restL
  rw [if_neg (show ¬ (i + 1 = 0) by omega)]
  by_cases h0 : i = 0
  · subst h0
    rw [if_pos rfl, if_pos rfl]
    have e : xs.map entL = entL xs[0] :: (xs.drop 1).map entL := by
      conv => lhs; rw [← List.drop_zero (l := xs), hd]
      rfl
    rw [e, Lib.join_cons]
  · rw [if_neg h0, if_neg h0, hd]
    simp only [Lib.joinTail, List.map_cons, List.flatten_cons]
theorem restL_end (xs : List S77) : restL xs xs.length = [] := by
  unfold restL
  by_cases h : xs.length = 0
  · rw [if_pos h, List.length_eq_zero_iff.1 h]; rfl
  · rw [if_neg h, List.drop_length]; rfl
theorem fopL_len (a b c d e f : Int) : (fopL a b c d e f).length ≤ 150 := by
  unfold fopL
  cases hv : vop a b c d e f with
  | false => simp
  | true =>
    simp only [vop, decide_eq_true_eq] at hv
    have l0 := itoa_len a (by omega) (by omega)
    have l1 := itoa_len b (by omega) (by omega)
    have l3 := itoa_len d (by omega) (by omega)
    have l4 := itoa_len e (by omega) (by omega)
    have l5 := itoa_len f (by omega) (by omega)
    simp only [if_true, opL]
    split <;> simp only [List.length_append, List.length_cons, List.length_nil] <;> omega
theorem isLog_epoch (xs : List S77) (hv : isLog xs) (i : Nat) (h : i < xs.length) : 1 ≤ xs[i].f0 ∧ xs[i].f0 ≤ 20 := by
  have := (hv.1 i h).1
  rwa [rdE xs i h] at this

theorem spec_FormatLog.l0ev (xs : List S77) (hv : isLog xs) :
    ∀ s : Nat × List UInt8, (s.1 ≤ xs.length ∧ s.2.length ≤ 400 * s.1) → Ev (fun k => spec_FormatLog.l0 k xs (str s.2) (s.1 : Int)) (str (s.2 ++ restL xs s.1)) := by
  refine loop_ev (fun k (s : Nat × List UInt8) => spec_FormatLog.l0 k xs (str s.2) (s.1 : Int)) _ (fun s => xs.length - s.1) (fun s => str (s.2 ++ restL xs s.1)) ?_
  rintro ⟨i, acc⟩ ⟨h1, h2⟩
  simp only at h1 h2 ⊢
  have h16 := hv.2
  by_cases hi : i < xs.length
  · have hep := isLog_epoch xs hv i hi
    obtain ⟨K1, f1⟩ := spec_FormatInt.ev xs[i].f0 (by omega) (by omega)
    obtain ⟨K2, f2⟩ := spec_FormatOp.ev xs[i].f1.f0 xs[i].f1.f1 xs[i].f1.f2 xs[i].f1.f3 xs[i].f1.f4 xs[i].f1.f5
    have hl := itoa_len xs[i].f0 (by omega) (by omega)
    have hl2 := fopL_len xs[i].f1.f0 xs[i].f1.f1 xs[i].f1.f2 xs[i].f1.f3 xs[i].f1.f4 xs[i].f1.f5
    have e1 := w64 (show -9223372036854775808 ≤ (i : Int) + 1 by omega) (by omega)
    refine .inr ⟨(i + 1, acc ++ (if i = 0 then entL xs[i] else [59] ++ entL xs[i])), ⟨by simp only; omega, ?_⟩, by simp only; omega, ?_, ?_⟩
    · simp only [List.length_append]
      split <;> simp only [entL, List.length_append, List.length_cons, List.length_nil] <;> omega
    · simp only [restL_step xs i hi, List.append_assoc]
    · intro r hr'
      obtain ⟨K3, hr3⟩ := hr'
      refine ⟨K1 + K2 + K3 + 1, fun k hk => ?_⟩
      obtain ⟨k, rfl⟩ : ∃ m, k = m + 1 := ⟨k - 1, by omega⟩
      rw [← hr3 k (by omega)]
      by_cases h0 : i = 0
      · simp only [spec_FormatLog.l0, if_pos (show (i : Int) < (xs.length : Int) by omega), if_pos (show (0 : Int) ≤ (i : Int) by omega), if_neg (show ¬ ((i : Int) > 0) by omega), rdE xs i hi, f1 k (by omega), f2 k (by omega), Option.bind_some, str_lit, str_append, str_size, List.length_append, List.length_cons, List.length_nil, e1]
        simp (disch := omega) only [if_pos]
        simp only [entL, List.append_assoc, List.cons_append, List.nil_append]
        rfl
      · simp only [spec_FormatLog.l0, if_pos (show (i : Int) < (xs.length : Int) by omega), if_pos (show (0 : Int) ≤ (i : Int) by omega), if_pos (show (i : Int) > 0 by omega), rdE xs i hi, f1 k (by omega), f2 k (by omega), Option.bind_some, str_lit, str_append, str_size, List.length_append, List.length_cons, List.length_nil, e1]
        simp (disch := omega) only [if_pos, if_neg]
        simp only [entL, List.append_assoc, List.cons_append, List.nil_append]
        rfl
  · refine .inl (ev_shift (ev_val fun k => ?_))
    obtain rfl : i = xs.length := by omega
    simp only [spec_FormatLog.l0, if_neg (show ¬ ((xs.length : Int) < (xs.length : Int)) by omega), restL_end, List.append_nil]
theorem spec_FormatLog.ev (xs : List S77) (hn : xs.length ≤ 1048576) (b : Bool) (hb : Ev (fun k => spec_IsLog.f k xs) b) (hq : b = true ↔ isLog xs) : Ev (fun k => spec_FormatLog.f k xs) (str (if b = true then logL xs else [])) := by
  refine Ev.bind hb ?_
  cases b with
  | false => exact ev_val fun _ => rfl
  | true =>
    simp only [if_true, logL]
    by_cases h : xs.length = 0
    · simp only [if_pos h, if_pos (show (xs.length : Int) = 0 by omega)]; exact Ev.now _
    · simp only [if_neg h, if_neg (show ¬ ((xs.length : Int) = 0) by omega)]
      have := spec_FormatLog.l0ev xs (hq.1 rfl) (0, []) ⟨by simp, by simp⟩
      have e : (⟨#[]⟩ : ByteArray) = str [] := rfl
      rw [e]
      simpa [restL] using this

theorem laws_toOp.val (a b c d e f : Int) : laws_toOp.f a b c d e f = some (a, b, c, d, e, f) := rfl

theorem laws_toEntry.val (x a b c d e f : Int) : laws_toEntry.f x a b c d e f = some (x, a, b, c, d, e, f) := rfl

theorem laws_toEntryS.ev (xs : List S82) (hn : xs.length ≤ 5026338869833) : Ev (fun k => laws_toEntryS.f k xs) (xs.map toE) := by
  have := map_loop (fun k ys i => laws_toEntryS.l0 k xs ys i) toE xs
    (fun k ys _ => by simp only [laws_toEntryS.l0, if_neg (show ¬ ((xs.length : Int) < (xs.length : Int)) by omega)])
    (fun i h ys k hy => by
      simp only [laws_toEntryS.l0, if_pos (show (i : Int) < (xs.length : Int) by omega), if_pos (show (0 : Int) ≤ (i : Int) by omega), if_pos (show (i : Int) < (ys.length : Int) by omega),
        laws_toEntry.val, Option.bind_some, rdLE xs i h, Int.toNat_natCast, w64 (show -9223372036854775808 ≤ (i : Int) + 1 by omega) (by omega), toE])
    (List.replicate xs.length z77) (by simp)
  refine Ev.congr (fun k => ?_) this
  simp only [laws_toEntryS.f, if_pos (show (0 : Int) ≤ (xs.length : Int) by omega), Int.toNat_natCast, if_pos hn]

theorem impl_FormatInt.val (a : Int) (h0 : -9223372036854775808 ≤ a) (h1 : a ≤ 9223372036854775807) : impl_FormatInt.f a = some (str (Lib.itoa a)) := by
  simp only [impl_FormatInt.f, strconv_Itoa.f, if_pos (show -9223372036854775808 ≤ a ∧ a ≤ 9223372036854775807 from ⟨h0, h1⟩), Option.bind_some]
  rfl

theorem impl_within.val (a b c : Int) : impl_within.f a b c = some (decide (b ≤ a ∧ a ≤ c)) := by
  unfold impl_within.f
  by_cases h : b ≤ a <;> simp [h]

theorem impl_IsValidOp.val (a b c d e f : Int) : impl_IsValidOp.f a b c d e f = some (vop a b c d e f) := by
  unfold impl_IsValidOp.f vop
  simp only [impl_within.val, Option.bind_some]
  by_cases h1 : 0 ≤ a ∧ a ≤ 2
  · by_cases h2 : 1 ≤ b ∧ b ≤ 99
    · by_cases h3 : 0 ≤ d ∧ d ≤ 2
      · by_cases h4 : 0 ≤ f ∧ f ≤ 9
        · simp only [decide_eq_true h1, decide_eq_true h2, decide_eq_true h3, decide_eq_true h4, if_true]
          by_cases hc : c = 1
          · by_cases he : e = 0
            · simp [hc, he, h1, h2, h3, h4]
            · simp [hc, he, h1, h2, h3, h4]
          · by_cases hc2 : c = 2
            · simp [hc2, h1, h2, h3, h4]
            · simp [hc, hc2]
        · simp only [decide_eq_true h1, decide_eq_true h2, decide_eq_true h3, decide_eq_false h4, if_true, Bool.false_eq_true, if_false]
          simp; intros; omega
      · simp only [decide_eq_true h1, decide_eq_true h2, decide_eq_false h3, if_true, Bool.false_eq_true, if_false]
        simp; intros; omega
    · simp only [decide_eq_true h1, decide_eq_false h2, if_true, Bool.false_eq_true, if_false]
      simp; intros; omega
  · simp only [decide_eq_false h1, Bool.false_eq_true, if_false]
    simp; intros; omega

theorem impl_IsLog.ev (xs : List S77) (hn : xs.length ≤ 9223372036854775806) : ∃ b, Ev (fun k => impl_IsLog.f k xs) b ∧ (b = true ↔ isLog xs) := by
  obtain ⟨b, hb, hq⟩ := all_loop_end (fun k i => impl_IsLog.l0 k xs xs (xs.length : Int) i) (okAt xs) xs.length (decide ((xs.length : Int) ≤ 16))
    (fun k => by simp only [impl_IsLog.l0, if_neg (show ¬ ((xs.length : Int) < (xs.length : Int)) by omega)])
    (fun i hi => by
      have e1 := w64 (show -9223372036854775808 ≤ (i : Int) + 1 by omega) (by omega)
      have e2 := w64 (show -9223372036854775808 ≤ (i : Int) - 1 by omega) (by omega)
      by_cases h : 1 ≤ (rd_T77 xs (i : Int)).f0 ∧ (rd_T77 xs (i : Int)).f0 ≤ 20
      · cases hv : vop (rd_T77 xs (i : Int)).f1.f0 (rd_T77 xs (i : Int)).f1.f1 (rd_T77 xs (i : Int)).f1.f2 (rd_T77 xs (i : Int)).f1.f3 (rd_T77 xs (i : Int)).f1.f4 (rd_T77 xs (i : Int)).f1.f5 with
        | true =>
          by_cases h0 : 0 < i
          · by_cases h2 : (rd_T77 xs ((i : Int) - 1)).f0 ≤ (rd_T77 xs (i : Int)).f0
            · exact .inl ⟨⟨h, hv, fun _ => h2⟩, 0, fun k _ => by simp only [impl_IsLog.l0, if_pos (show (i : Int) < (xs.length : Int) by omega), if_pos (show (0 : Int) ≤ (i : Int) by omega), impl_within.val, impl_IsValidOp.val, hv, Option.bind_some, decide_eq_true h, if_true, e1, e2, if_pos (show (i : Int) > 0 by omega), if_pos (show (0 : Int) ≤ (i : Int) - 1 by omega), if_pos (show (i : Int) - 1 < (xs.length : Int) by omega), if_neg (show ¬ ((rd_T77 xs (i : Int)).f0 < (rd_T77 xs ((i : Int) - 1)).f0) by omega)]⟩
            · exact .inr ⟨fun hh => h2 (hh.2.2 h0), 0, fun k _ => by simp only [impl_IsLog.l0, if_pos (show (i : Int) < (xs.length : Int) by omega), if_pos (show (0 : Int) ≤ (i : Int) by omega), impl_within.val, impl_IsValidOp.val, hv, Option.bind_some, decide_eq_true h, if_true, e1, e2, if_pos (show (i : Int) > 0 by omega), if_pos (show (0 : Int) ≤ (i : Int) - 1 by omega), if_pos (show (i : Int) - 1 < (xs.length : Int) by omega), if_pos (show (rd_T77 xs (i : Int)).f0 < (rd_T77 xs ((i : Int) - 1)).f0 by omega)]⟩
          · exact .inl ⟨⟨h, hv, fun h1 => absurd h1 h0⟩, 0, fun k _ => by simp only [impl_IsLog.l0, if_pos (show (i : Int) < (xs.length : Int) by omega), if_pos (show (0 : Int) ≤ (i : Int) by omega), impl_within.val, impl_IsValidOp.val, hv, Option.bind_some, decide_eq_true h, if_true, e1, e2, if_neg (show ¬ ((i : Int) > 0) by omega)]⟩
        | false =>
          have hno : ¬ okAt xs i := fun hh => by have hx := hh.2.1; rw [hv] at hx; exact absurd hx (by decide)
          by_cases h0 : 0 < i
          · by_cases h2 : (rd_T77 xs ((i : Int) - 1)).f0 ≤ (rd_T77 xs (i : Int)).f0
            · exact .inr ⟨hno, 0, fun k _ => by simp only [impl_IsLog.l0, if_pos (show (i : Int) < (xs.length : Int) by omega), if_pos (show (0 : Int) ≤ (i : Int) by omega), impl_within.val, impl_IsValidOp.val, hv, Option.bind_some, decide_eq_true h, if_true, e1, e2, if_pos (show (i : Int) > 0 by omega), if_pos (show (0 : Int) ≤ (i : Int) - 1 by omega), if_pos (show (i : Int) - 1 < (xs.length : Int) by omega), if_neg (show ¬ ((rd_T77 xs (i : Int)).f0 < (rd_T77 xs ((i : Int) - 1)).f0) by omega), Bool.false_eq_true, if_false]⟩
            · exact .inr ⟨hno, 0, fun k _ => by simp only [impl_IsLog.l0, if_pos (show (i : Int) < (xs.length : Int) by omega), if_pos (show (0 : Int) ≤ (i : Int) by omega), impl_within.val, impl_IsValidOp.val, hv, Option.bind_some, decide_eq_true h, if_true, e1, e2, if_pos (show (i : Int) > 0 by omega), if_pos (show (0 : Int) ≤ (i : Int) - 1 by omega), if_pos (show (i : Int) - 1 < (xs.length : Int) by omega), if_pos (show (rd_T77 xs (i : Int)).f0 < (rd_T77 xs ((i : Int) - 1)).f0 by omega)]⟩
          · exact .inr ⟨hno, 0, fun k _ => by simp only [impl_IsLog.l0, if_pos (show (i : Int) < (xs.length : Int) by omega), if_pos (show (0 : Int) ≤ (i : Int) by omega), impl_within.val, impl_IsValidOp.val, hv, Option.bind_some, decide_eq_true h, if_true, e1, e2, if_neg (show ¬ ((i : Int) > 0) by omega), Bool.false_eq_true, if_false]⟩
      · exact .inr ⟨fun hh => h hh.1, 0, fun k _ => by simp only [impl_IsLog.l0, if_pos (show (i : Int) < (xs.length : Int) by omega), if_pos (show (0 : Int) ≤ (i : Int) by omega), impl_within.val, Option.bind_some, decide_eq_false h, Bool.false_eq_true, if_false]⟩)
  refine ⟨b, hb, hq.trans ?_⟩
  rw [isLog, decide_eq_true_iff]
  exact ⟨fun h => ⟨h.1, by omega⟩, fun h => ⟨h.1, by omega⟩⟩

theorem impl_FormatOp.val (a b c d e f : Int) : impl_FormatOp.f a b c d e f = some (str (fopL a b c d e f)) := by
  cases hv : vop a b c d e f with
  | false => simp only [impl_FormatOp.f, impl_IsValidOp.val, hv, Option.bind_some, Bool.false_eq_true, if_false, fopL]; rfl
  | true =>
    have hq := hv
    simp only [vop, decide_eq_true_eq] at hq
    have h0 := impl_FormatInt.val a (by omega) (by omega)
    have h1 := impl_FormatInt.val b (by omega) (by omega)
    have h3 := impl_FormatInt.val d (by omega) (by omega)
    have h4 := impl_FormatInt.val e (by omega) (by omega)
    have h5 := impl_FormatInt.val f (by omega) (by omega)
    have l0 := itoa_len a (by omega) (by omega)
    have l1 := itoa_len b (by omega) (by omega)
    have l3 := itoa_len d (by omega) (by omega)
    have l4 := itoa_len e (by omega) (by omega)
    have l5 := itoa_len f (by omega) (by omega)
    rcases (show (c = 1 ∧ ¬ c = 2) ∨ (c = 2 ∧ ¬ c = 1) by omega) with ⟨hc, hn⟩ | ⟨hc, hn⟩
    · simp only [impl_FormatOp.f, impl_IsValidOp.val, hv, Option.bind_some, if_true, h0, h1, h3, h5, if_neg hn, str_lit, str_append, str_size, List.length_append, List.length_cons, List.length_nil]
      simp (disch := omega) only [if_pos]
      simp only [fopL, hv, if_true, opL, if_neg hn, List.append_assoc, List.cons_append, List.nil_append]
    · simp only [impl_FormatOp.f, impl_IsValidOp.val, hv, Option.bind_some, if_true, h0, h1, h3, h4, h5, if_pos hc, str_lit, str_append, str_size, List.length_append, List.length_cons, List.length_nil]
      simp (disch := omega) only [if_pos]
      simp only [fopL, hv, if_true, opL, if_pos hc, List.append_assoc, List.cons_append, List.nil_append]

theorem strings_Join.val (ls : List (List UInt8)) (sep : List UInt8) (h1 : ls.length ≤ 140737488355328) (h2 : (Lib.join ls sep).length ≤ 140737488355328) : strings_Join.f (ls.map str) (str sep) = some (str (Lib.join ls sep)) := by
  have e : (ls.map str).map (·.data.toList) = ls := by rw [List.map_map]; conv => rhs; rw [← List.map_id ls]
                                                       apply List.map_congr_left; intro l _; simp [str]
  have e2 : (str sep).data.toList = sep := by simp [str]
  simp only [strings_Join.f, e, e2, List.length_map]
  rw [if_pos ⟨h1, h2⟩]
  rfl

theorem joinL_len (xs : List S77) (hv : isLog xs) : (Lib.join (xs.map entL) [59]).length ≤ 400 * 16 := by
  have h16 := hv.2
  have key : ∀ d i : Nat, i + d = xs.length → (restL xs i).length ≤ 400 * d := by
    intro d
    induction d with
    | zero => intro i h; obtain rfl : i = xs.length := by omega
              rw [restL_end]; simp
    | succ d ih =>
      intro i h
      have hi : i < xs.length := by omega
      have hep := isLog_epoch xs hv i hi
      have hl := itoa_len xs[i].f0 (by omega) (by omega)
      have hl2 := fopL_len xs[i].f1.f0 xs[i].f1.f1 xs[i].f1.f2 xs[i].f1.f3 xs[i].f1.f4 xs[i].f1.f5
      have := ih (i + 1) (by omega)
      rw [restL_step xs i hi, List.length_append]
      split <;> simp only [entL, List.length_append, List.length_cons, List.length_nil] <;> omega
  have := key xs.length 0 (by omega)
  simp only [restL, if_true] at this
  omega
theorem impl_FormatLog.l0ev (xs : List S77) (hv : isLog xs) :
    ∀ s : Nat, s ≤ xs.length → Ev (fun k => impl_FormatLog.l0 k ((xs.take s).map fun x => str (entL x)) xs (xs.length : Int) (s : Int)) (str (Lib.join (xs.map entL) [59])) := by
  refine loop_ev (fun k (s : Nat) => impl_FormatLog.l0 k ((xs.take s).map fun x => str (entL x)) xs (xs.length : Int) (s : Int)) _ (fun s => xs.length - s) (fun _ => str (Lib.join (xs.map entL) [59])) ?_
  intro i h1
  have h16 := hv.2
  by_cases hi : i < xs.length
  · have hep := isLog_epoch xs hv i hi
    have hl := itoa_len xs[i].f0 (by omega) (by omega)
    have hl2 := fopL_len xs[i].f1.f0 xs[i].f1.f1 xs[i].f1.f2 xs[i].f1.f3 xs[i].f1.f4 xs[i].f1.f5
    have f1 := impl_FormatInt.val xs[i].f0 (by omega) (by omega)
    have e1 := w64 (show -9223372036854775808 ≤ (i : Int) + 1 by omega) (by omega)
    have ht : (xs.take i).length = i := by rw [List.length_take]; omega
    refine .inr ⟨i + 1, by omega, by omega, rfl, fun r hr => ev_shift ?_⟩
    refine Ev.congr (fun k => ?_) hr
    simp only [impl_FormatLog.l0, if_pos (show (i : Int) < (xs.length : Int) by omega), if_pos (show (0 : Int) ≤ (i : Int) by omega), rdE xs i hi, f1, impl_FormatOp.val, Option.bind_some, str_lit, str_append, str_size, List.length_append, List.length_cons, List.length_nil, List.length_map, ht, e1]
    simp (disch := omega) only [if_pos]
    rw [List.take_succ_eq_append_getElem hi, List.map_append]
    simp only [entL, List.map_cons, List.map_nil, List.append_assoc]
    rfl
  · refine .inl (ev_shift (ev_val fun k => ?_))
    obtain rfl : i = xs.length := by omega
    have hj := strings_Join.val (xs.map entL) [59] (by simp; omega) (by have := joinL_len xs hv; omega)
    rw [List.map_map] at hj
    simp only [impl_FormatLog.l0, if_neg (show ¬ ((xs.length : Int) < (xs.length : Int)) by omega), List.take_length, str_lit]
    rw [show (fun x => str (entL x)) = (str ∘ entL) from rfl, hj]
    rfl
theorem impl_FormatLog.ev (xs : List S77) (hn : xs.length ≤ 1048576) (b : Bool) (hb : Ev (fun k => impl_IsLog.f k xs) b) (hq : b = true ↔ isLog xs) : Ev (fun k => impl_FormatLog.f k xs) (str (if b = true then logL xs else [])) := by
  refine Ev.bind hb ?_
  cases b with
  | false => exact ev_val fun _ => rfl
  | true =>
    simp only [if_true, logL]
    by_cases h : xs.length = 0
    · simp only [if_pos h, if_pos (show (xs.length : Int) = 0 by omega)]; exact Ev.now _
    · simp only [if_neg h, if_neg (show ¬ ((xs.length : Int) = 0) by omega)]
      have := impl_FormatLog.l0ev xs (hq.1 rfl) 0 (by omega)
      simpa using this

theorem laws_eqOp.val (a b c d e f a' b' c' d' e' f' : Int) : laws_eqOp.f a b c d e f a' b' c' d' e' f' = some (decide (a = a' ∧ b = b' ∧ c = c' ∧ d = d' ∧ e = e' ∧ f = f')) := by
  unfold laws_eqOp.f
  by_cases h1 : a = a' <;> by_cases h2 : b = b' <;> by_cases h3 : c = c' <;> by_cases h4 : d = d' <;> by_cases h5 : e = e' <;> by_cases h6 : f = f' <;> simp [h1, h2, h3, h4, h5, h6]

theorem laws_eqEntry.val (x y : S77) : ∃ b, laws_eqEntry.f x.f0 x.f1.f0 x.f1.f1 x.f1.f2 x.f1.f3 x.f1.f4 x.f1.f5 y.f0 y.f1.f0 y.f1.f1 y.f1.f2 y.f1.f3 y.f1.f4 y.f1.f5 = some b ∧ (b = true ↔ x = y) := by
  unfold laws_eqEntry.f
  rw [ent_eq]
  by_cases h : x.f0 = y.f0
  · rw [if_pos h, laws_eqOp.val]
    simp only [Option.bind_some]
    by_cases h2 : x.f1.f0 = y.f1.f0 ∧ x.f1.f1 = y.f1.f1 ∧ x.f1.f2 = y.f1.f2 ∧ x.f1.f3 = y.f1.f3 ∧ x.f1.f4 = y.f1.f4 ∧ x.f1.f5 = y.f1.f5
    · exact ⟨true, by rw [if_pos (decide_eq_true h2)], by simp only [true_iff]; exact ⟨h, h2⟩⟩
    · exact ⟨false, by rw [if_neg (by simpa using h2)], by simp only [Bool.false_eq_true, false_iff]; exact fun h' => h2 h'.2⟩
  · exact ⟨false, by rw [if_neg h], by simp only [Bool.false_eq_true, false_iff]; exact fun h' => h h'.1⟩

theorem laws_eqEntryS.ev (xs ys : List S77) (hn : xs.length ≤ 9223372036854775806) : ∃ b, Ev (fun k => laws_eqEntryS.f k xs ys) b ∧ (b = true ↔ xs = ys) := by
  by_cases hl : xs.length = ys.length
  · obtain ⟨b, hb, hq⟩ := eq_loop (fun k i => laws_eqEntryS.l0 k xs ys i) xs ys hl
      (fun k => by simp only [laws_eqEntryS.l0, if_neg (show ¬ ((xs.length : Int) < (xs.length : Int)) by omega)])
      (fun i h1 h2 => by
        obtain ⟨b, hb, hq⟩ := laws_eqEntry.val xs[i] ys[i]
        cases b with
        | true => exact .inl ⟨hq.1 rfl, 0, fun k _ => by simp only [laws_eqEntryS.l0, if_pos (show (i : Int) < (xs.length : Int) by omega), if_pos (show (0 : Int) ≤ (i : Int) by omega), if_pos (show (i : Int) < (ys.length : Int) by omega), rdE xs i h1, rdE ys i h2, hb, Option.bind_some, if_true, w64 (show -9223372036854775808 ≤ (i : Int) + 1 by omega) (by omega)]⟩
        | false => exact .inr ⟨fun h => by simpa using hq.2 h, 0, fun k _ => by simp only [laws_eqEntryS.l0, if_pos (show (i : Int) < (xs.length : Int) by omega), if_pos (show (0 : Int) ≤ (i : Int) by omega), if_pos (show (i : Int) < (ys.length : Int) by omega), rdE xs i h1, rdE ys i h2, hb, Option.bind_some, Bool.false_eq_true, if_false]⟩)
    refine ⟨b, ?_, hq⟩
    refine Ev.congr (fun k => ?_) hb
    simp only [laws_eqEntryS.f, if_pos (show (xs.length : Int) = (ys.length : Int) by omega)]
  · refine ⟨false, ev_val (fun k => ?_), ?_⟩
    · simp only [laws_eqEntryS.f, if_neg (show ¬ ((xs.length : Int) = (ys.length : Int)) by omega)]
    · constructor
      · intro h; cases h
      · intro h; subst h; exact absurd rfl hl
theorem laws_eqEntryS.same (xs : List S77) (hn : xs.length ≤ 9223372036854775806) : Ev (fun k => laws_eqEntryS.f k xs xs) true := by
  obtain ⟨b, hb, hq⟩ := laws_eqEntryS.ev xs xs hn
  exact ev_eq hb (hq.2 rfl)

theorem FnExactFormatLog : FnExactFormatLogPure := by
  intro l h1
  refine Ev.rounds (g := fun k => laws_FnExactFormatLog.f k l) ?_
  obtain ⟨r, hr, hq⟩ := laws_szEntryS.val l 1048576 h1.1 (by omega) (by omega)
  simp only [laws_FnExactFormatLog.f, hr, Option.bind_some]
  by_cases hneg : r < 0
  · simp only [if_pos hneg]; exact Ev.now _
  · obtain ⟨e1, e2⟩ := hq hneg
    simp only [if_neg hneg]
    have hT := laws_toEntryS.ev l (by omega)
    have hl : (l.map toE).length ≤ 1048576 := by simp; omega
    obtain ⟨b, hb1, hq1⟩ := spec_IsLog.ev (l.map toE) (by omega)
    obtain ⟨c, hc1, hq2⟩ := impl_IsLog.ev (l.map toE) (by omega)
    obtain rfl : c = b := by rw [Bool.eq_iff_iff, hq1, hq2]
    refine Ev.bind hT (Ev.bind (spec_FormatLog.ev _ hl _ hb1 hq1) (Ev.bind hT (Ev.bind (impl_FormatLog.ev _ hl _ hc1 hq2) ?_)))
    simp only [if_true]
    refine Ev.bind hT (Ev.bind (laws_eqEntryS.same _ (by omega)) ?_)
    exact ev_val (fun _ => by simp)

end Go.Proofs.YtkkbcnghlnogpaaDoor.Pure
