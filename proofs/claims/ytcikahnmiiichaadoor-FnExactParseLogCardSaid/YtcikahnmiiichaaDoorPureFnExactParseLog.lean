/- For every string the law FnExactParseLog returns true; no conditions. -/
import Derived.Test.YtcikahnmiiichaaDoorQFnExactParseLog
import Derived.Test.YtcikahnmiiichaaDoorLCom
set_option linter.unusedVariables false
set_option linter.unusedSimpArgs false
namespace Go.Proofs.YtcikahnmiiichaaDoor.Pure
open Go.RowKit Go.Proofs.YtcikahnmiiichaaDoor.L Go.Proofs.YtcikahnmiiichaaDoorW.PrintWords Go.Proofs.YtcikahnmiiichaaDoorW.PrintLast
open Go.Proofs.YtcikahnmiiichaaDoor.Opens
open Go.Proofs.YtcikahnmiiichaaDoor.Com
open Go.Proofs.YtcikahnmiiichaaDoor.Given

theorem spec_l1In.val (a b c : Int) : spec_l1In.f a b c = some (decide (b ≤ a ∧ a ≤ c)) := by
  unfold spec_l1In.f
  by_cases h : b ≤ a <;> simp [h]

/-- Is this an operation? -/
def vop (a b c d e f : Int) : Bool := decide ((0 ≤ a ∧ a ≤ 2) ∧ (1 ≤ b ∧ b ≤ 99) ∧ (0 ≤ d ∧ d ≤ 2) ∧ (0 ≤ f ∧ f ≤ 9) ∧ ((c = 1 ∧ e = 0) ∨ (c = 2 ∧ 0 ≤ e ∧ e ≤ 9)))

theorem spec_IsValidOp.val (a b c d e f : Int) : spec_IsValidOp.f a b c d e f = some (vop a b c d e f) := by
  unfold spec_IsValidOp.f vop
  simp only [spec_l1In.val, Option.bind_some]
  by_cases h1 : 0 ≤ a ∧ a ≤ 2
  · by_cases h2 : 1 ≤ b ∧ b ≤ 99
    · by_cases h3 : 0 ≤ d ∧ d ≤ 2
      · by_cases h4 : 0 ≤ f ∧ f ≤ 9
        · simp only [decide_eq_true h1, decide_eq_true h2, decide_eq_true h3, decide_eq_true h4, if_true]
          by_cases hc : c = 1
          · by_cases he : e = 0
            · simp [hc, he, h1, h2, h3, h4]
            · simp [hc, he, h1, h2, h3, h4]
          · by_cases hc2 : c = 2
            · simp [hc2, h1, h2, h3, h4]
            · simp [hc, hc2]
        · simp only [decide_eq_true h1, decide_eq_true h2, decide_eq_true h3, decide_eq_false h4, if_true, Bool.false_eq_true, if_false]
          simp; intros; omega
      · simp only [decide_eq_true h1, decide_eq_true h2, decide_eq_false h3, if_true, Bool.false_eq_true, if_false]
        simp; intros; omega
    · simp only [decide_eq_true h1, decide_eq_false h2, if_true, Bool.false_eq_true, if_false]
      simp; intros; omega
  · simp only [decide_eq_false h1, Bool.false_eq_true, if_false]
    simp; intros; omega

theorem rdE (xs : List S66) (i : Nat) (h : i < xs.length) : rd_T66 xs (i : Int) = xs[i] := by simp [rd_T66, h]
theorem ent_eq (x y : S66) : x = y ↔ x.f0 = y.f0 ∧ x.f1.f0 = y.f1.f0 ∧ x.f1.f1 = y.f1.f1 ∧ x.f1.f2 = y.f1.f2 ∧ x.f1.f3 = y.f1.f3 ∧ x.f1.f4 = y.f1.f4 ∧ x.f1.f5 = y.f1.f5 := by
  constructor
  · intro h; subst h; simp
  · rintro ⟨h0, h1, h2, h3, h4, h5, h6⟩
    obtain ⟨a, ⟨b, c, d, e, f, g⟩⟩ := x
    obtain ⟨a', ⟨b', c', d', e', f', g'⟩⟩ := y
    simp_all

/-- Is this entry one of a log, behind the one before it? -/
def okAt (xs : List S66) (j : Nat) : Prop := (1 ≤ (rd_T66 xs (j : Int)).f0 ∧ (rd_T66 xs (j : Int)).f0 ≤ 20) ∧
  vop (rd_T66 xs (j : Int)).f1.f0 (rd_T66 xs (j : Int)).f1.f1 (rd_T66 xs (j : Int)).f1.f2 (rd_T66 xs (j : Int)).f1.f3 (rd_T66 xs (j : Int)).f1.f4 (rd_T66 xs (j : Int)).f1.f5 = true ∧
  (0 < j → (rd_T66 xs ((j : Int) - 1)).f0 ≤ (rd_T66 xs (j : Int)).f0)
/-- Is this a log? -/
def isLog (xs : List S66) : Prop := (∀ j, j < xs.length → okAt xs j) ∧ xs.length ≤ 16

theorem spec_IsLog.ev (xs : List S66) (hn : xs.length ≤ 9223372036854775806) : ∃ b, Ev (fun k => spec_IsLog.f k xs) b ∧ (b = true ↔ isLog xs) := by
  refine ⟨decide (vL_spec xs), ev_val fun _ => rfl, decide_eq_true_iff.trans ?_⟩
  simp only [vL_spec, isLog, okE_spec, okAt, spec_IsValidOp.val, Option.some.injEq]
  exact And.comm

/-- Bytes as a string. -/
def str (l : List UInt8) : ByteArray := ⟨l.toArray⟩
theorem str_append (a b : List UInt8) : str a ++ str b = str (a ++ b) := by
  apply ByteArray.ext
  simp [str]
theorem str_size (l : List UInt8) : (str l).size = l.length := by simp [str, ByteArray.size]
theorem str_inj {a b : List UInt8} (h : str a = str b) : a = b := by
  have := congrArg (fun s => s.data.toList) h
  simpa [str] using this
theorem str_toList (l : List UInt8) : (str l).toList = l := by rw [toList_data]; simp [str]
theorem toList_inj' {a b : ByteArray} (h : a.toList = b.toList) : a = b := bytesOf_inj (bytesOf_congr h)
/-- The digits of a number, none for 0. -/
def digs (m : Nat) : List UInt8 := if m = 0 then [] else Lib.decDigits m
theorem digs_step (m : Nat) (h : 0 < m) : digs m = digs (m / 10) ++ [UInt8.ofNat (48 + m % 10)] := by
  unfold digs
  rw [if_neg (by omega), Lib.decDigits]
  by_cases h9 : m < 10
  · rw [dif_pos h9, if_pos (by omega), Nat.mod_eq_of_lt h9]; rfl
  · rw [dif_neg h9, if_neg (by omega)]
theorem tmod10 (x : Int) : (0 ≤ x → Int.tmod x 10 = ((x.natAbs % 10 : Nat) : Int) ∧ Int.tdiv x 10 = ((x.natAbs / 10 : Nat) : Int)) ∧ (x < 0 → Int.tmod x 10 = -((x.natAbs % 10 : Nat) : Int) ∧ Int.tdiv x 10 = -((x.natAbs / 10 : Nat) : Int)) := by
  constructor
  · intro h
    obtain ⟨n, rfl⟩ := Int.eq_ofNat_of_zero_le h
    exact ⟨rfl, rfl⟩
  · intro h
    obtain ⟨n, rfl⟩ := Int.eq_negSucc_of_lt_zero h
    exact ⟨rfl, rfl⟩
theorem strOfNums_digit (d : Nat) (h : d < 10) : strOfNums ([(wrap64 (48 + (d : Int))) % 256] : List Int) = str [UInt8.ofNat (48 + d)] := by
  rw [w64 (by omega) (by omega)]
  apply ByteArray.ext
  apply Array.ext'
  rw [strOfNums_data]
  have e : ((48 + (d : Int)) % 256).toNat = 48 + d := by omega
  simp [str, e]
theorem itoa_zero : Lib.itoa 0 = [48] := by unfold Lib.itoa Lib.decDigits; simp
theorem itoa_digs (a : Int) (h : a ≠ 0) : Lib.itoa a = (if a < 0 then [45] else []) ++ digs a.natAbs := by
  have hn : ¬ a.natAbs = 0 := by omega
  unfold Lib.itoa digs
  by_cases c : a < 0
  · rw [if_pos c, if_pos c, if_neg hn]; rfl
  · rw [if_neg c, if_neg c, if_neg hn, show a.toNat = a.natAbs by omega]; rfl
theorem digs_len : ∀ n m : Nat, m < 10 ^ n → (digs m).length ≤ n := by
  intro n
  induction n with
  | zero => intro m h; obtain rfl : m = 0 := by simpa using h
            simp [digs]
  | succ n ih =>
    intro m h
    by_cases h0 : m = 0
    · subst h0; simp [digs]
    · rw [digs_step m (by omega), List.length_append]
      have := ih (m / 10) (by rw [Nat.pow_succ] at h; omega)
      simp only [List.length_cons, List.length_nil]
      omega
theorem itoa_len (a : Int) (h0 : -9223372036854775808 ≤ a) (h1 : a ≤ 9223372036854775807) : (Lib.itoa a).length ≤ 20 := by
  by_cases h : a = 0
  · subst h; rw [itoa_zero]; simp
  · rw [itoa_digs a h, List.length_append]
    have h2 := digs_len 19 a.natAbs (by omega)
    have h3 : (if a < 0 then ([45] : List UInt8) else []).length ≤ 1 := by split <;> simp
    omega
theorem str_lit (l : List UInt8) : (⟨l.toArray⟩ : ByteArray) = str l := rfl

theorem spec_FormatInt.l0ev (neg : Bool) : ∀ s : Int × List UInt8, (s.2.length + s.1.natAbs ≤ 9223372036854775808 ∧ (s.2.length = 0 ∨ s.2.length + s.1.natAbs ≤ 9223372036854775800)) →
    Ev (fun k => spec_FormatInt.l0 k s.1 (str s.2) neg) (str ((if neg then [45] else []) ++ digs s.1.natAbs ++ s.2)) := by
  refine loop_ev (fun k (s : Int × List UInt8) => spec_FormatInt.l0 k s.1 (str s.2) neg) _ (fun s => s.1.natAbs) (fun s => str ((if neg then [45] else []) ++ digs s.1.natAbs ++ s.2)) ?_
  rintro ⟨x, l⟩ ⟨h1, h2⟩
  simp only at h1 h2 ⊢
  by_cases hx : x = 0
  · subst hx
    refine .inl (ev_shift ?_)
    simp only [spec_FormatInt.l0, if_true, str_size]
    cases neg with
    | false => exact ev_val fun _ => by simp [digs]
    | true =>
      simp only [if_true, if_pos (show 1 + l.length ≤ 9223372036854775807 by omega)]
      exact ev_val fun _ => by rw [show (⟨#[45]⟩ : ByteArray) = str [45] from rfl, str_append]; simp [digs]
  · refine .inr ⟨(Int.tdiv x 10, UInt8.ofNat (48 + x.natAbs % 10) :: l), ?_, ?_, ?_, ?_⟩
    · have ht := tmod10 x
      simp only [List.length_cons]
      have : (Int.tdiv x 10).natAbs = x.natAbs / 10 := by rcases (show x < 0 ∨ 0 ≤ x by omega) with c | c; (have := (ht.2 c).2; omega); (have := (ht.1 c).2; omega)
      rw [this]
      omega
    · have ht := tmod10 x
      have : (Int.tdiv x 10).natAbs = x.natAbs / 10 := by rcases (show x < 0 ∨ 0 ≤ x by omega) with c | c; (have := (ht.2 c).2; omega); (have := (ht.1 c).2; omega)
      simp only [this]
      omega
    · have ht := tmod10 x
      have : (Int.tdiv x 10).natAbs = x.natAbs / 10 := by rcases (show x < 0 ∨ 0 ≤ x by omega) with c | c; (have := (ht.2 c).2; omega); (have := (ht.1 c).2; omega)
      simp only [this]
      rw [digs_step x.natAbs (by omega)]
      simp
    · intro r hr
      refine ev_shift ?_
      have ht := tmod10 x
      have e2 : wrap64 (Int.tdiv x 10) = Int.tdiv x 10 := w64 (by rcases (show x < 0 ∨ 0 ≤ x by omega) with c | c; (have := (ht.2 c).2; omega); (have := (ht.1 c).2; omega)) (by rcases (show x < 0 ∨ 0 ≤ x by omega) with c | c; (have := (ht.2 c).2; omega); (have := (ht.1 c).2; omega))
      have e3 : ∀ d : Nat, d < 10 → (strOfNums ([(wrap64 (48 + (d : Int))) % 256] : List Int)) ++ str l = str (UInt8.ofNat (48 + d) :: l) := fun d hd => by rw [strOfNums_digit d hd, str_append]; rfl
      have e4 : ∀ d : Nat, d < 10 → (strOfNums ([(wrap64 (48 + (d : Int))) % 256] : List Int)).size + (str l).size ≤ 9223372036854775807 := fun d hd => by rw [strOfNums_digit d hd, str_size, str_size]; simp only [List.length_cons, List.length_nil]; omega
      have hd : x.natAbs % 10 < 10 := by omega
      simp only [spec_FormatInt.l0, if_neg hx, e2]
      by_cases c : Int.tmod x 10 < 0
      · have hm : Int.tmod x 10 = -((x.natAbs % 10 : Nat) : Int) := by rcases (show x < 0 ∨ 0 ≤ x by omega) with c' | c'; exact (ht.2 c').1; (have := (ht.1 c').1; omega)
        have e1 : wrap64 (-(Int.tmod x 10)) = ((x.natAbs % 10 : Nat) : Int) := by rw [hm, w64 (by omega) (by omega)]; omega
        simp only [if_pos c, e1, Option.bind_some, if_pos (e4 _ hd), e3 _ hd]
        exact hr
      · have hm : Int.tmod x 10 = ((x.natAbs % 10 : Nat) : Int) := by rcases (show x < 0 ∨ 0 ≤ x by omega) with c' | c'; (have := (ht.2 c').1; omega); exact (ht.1 c').1
        rw [hm] at c
        simp only [hm, if_neg c, Option.bind_some, if_pos (e4 _ hd), e3 _ hd]
        exact hr
theorem spec_FormatInt.ev (a : Int) (h0 : -9223372036854775808 ≤ a) (h1 : a ≤ 9223372036854775807) : Ev (fun k => spec_FormatInt.f k a) (str (Lib.itoa a)) := by
  by_cases ha : a = 0
  · subst ha
    simp only [spec_FormatInt.f, if_true, itoa_zero]
    exact Ev.now _
  · simp only [spec_FormatInt.f, if_neg ha]
    have h := spec_FormatInt.l0ev (decide (a < 0)) (a, []) ⟨by simp only [List.length_nil]; omega, .inl rfl⟩
    refine ev_eq h ?_
    rw [itoa_digs a ha]
    simp only [List.append_nil, decide_eq_true_eq]

/-- An operation's text. -/
def opL (a b c d e f : Int) : List UInt8 := Lib.itoa a ++ [46] ++ Lib.itoa b ++ (if c = 2 then [32, 115, 119, 97, 112, 32] ++ Lib.itoa d ++ [32] ++ Lib.itoa e ++ [32] ++ Lib.itoa f else [32, 119, 114, 105, 116, 101, 32] ++ Lib.itoa d ++ [32] ++ Lib.itoa f)
def fopL (a b c d e f : Int) : List UInt8 := if vop a b c d e f = true then opL a b c d e f else []

theorem spec_FormatOp.ev (a b c d e f : Int) : Ev (fun k => spec_FormatOp.f k a b c d e f) (str (fopL a b c d e f)) := by
  cases hv : vop a b c d e f with
  | false => exact ev_val fun k => by simp only [spec_FormatOp.f, spec_IsValidOp.val, hv, Option.bind_some, Bool.false_eq_true, if_false, fopL]; rfl
  | true =>
    have hq := hv
    simp only [vop, decide_eq_true_eq] at hq
    obtain ⟨K0, h0⟩ := spec_FormatInt.ev a (by omega) (by omega)
    obtain ⟨K1, h1⟩ := spec_FormatInt.ev b (by omega) (by omega)
    obtain ⟨K3, h3⟩ := spec_FormatInt.ev d (by omega) (by omega)
    obtain ⟨K4, h4⟩ := spec_FormatInt.ev e (by omega) (by omega)
    obtain ⟨K5, h5⟩ := spec_FormatInt.ev f (by omega) (by omega)
    have l0 := itoa_len a (by omega) (by omega)
    have l1 := itoa_len b (by omega) (by omega)
    have l3 := itoa_len d (by omega) (by omega)
    have l4 := itoa_len e (by omega) (by omega)
    have l5 := itoa_len f (by omega) (by omega)
    refine ⟨K0 + K1 + K3 + K4 + K5, fun k hk => ?_⟩
    rcases (show (c = 1 ∧ ¬ c = 2) ∨ (c = 2 ∧ ¬ c = 1) by omega) with ⟨hc, hn⟩ | ⟨hc, hn⟩
    · simp only [spec_FormatOp.f, spec_IsValidOp.val, hv, Option.bind_some, if_true, h0 k (by omega), h1 k (by omega), h3 k (by omega), h5 k (by omega), if_pos hc, str_lit, str_append, str_size, List.length_append, List.length_cons, List.length_nil]
      simp (disch := omega) only [if_pos]
      simp only [fopL, hv, if_true, opL, if_neg hn, List.append_assoc, List.cons_append, List.nil_append]
    · simp only [spec_FormatOp.f, spec_IsValidOp.val, hv, Option.bind_some, if_true, h0 k (by omega), h1 k (by omega), h3 k (by omega), h4 k (by omega), h5 k (by omega), if_neg hn, str_lit, str_append, str_size, List.length_append, List.length_cons, List.length_nil]
      simp (disch := omega) only [if_pos]
      simp only [fopL, hv, if_true, opL, if_pos hc, List.append_assoc, List.cons_append, List.nil_append]

/-- An entry's text. -/
def entL (x : S66) : List UInt8 := Lib.itoa x.f0 ++ [58] ++ fopL x.f1.f0 x.f1.f1 x.f1.f2 x.f1.f3 x.f1.f4 x.f1.f5
/-- The entries' texts from the i-th on, as they are written behind what stands there. -/
def restL (xs : List S66) (i : Nat) : List UInt8 := if i = 0 then Lib.join (xs.map entL) [59] else Lib.joinTail [59] ((xs.drop i).map entL)
/-- A log's text. -/
def logL (xs : List S66) : List UInt8 := if xs.length = 0 then [110, 111, 110, 101] else Lib.join (xs.map entL) [59]
theorem restL_step (xs : List S66) (i : Nat) (h : i < xs.length) : restL xs i = (if i = 0 then entL xs[i] else [59] ++ entL xs[i]) ++ restL xs (i + 1) := by
  have hd : xs.drop i = xs[i] :: xs.drop (i + 1) := List.drop_eq_getElem_cons h
  unfold restL
  rw [if_neg (show ¬ (i + 1 = 0) by omega)]
  by_cases h0 : i = 0
  · subst h0
    rw [if_pos rfl, if_pos rfl]
    have e : xs.map entL = entL xs[0] :: (xs.drop 1).map entL := by
      conv => lhs; rw [← List.drop_zero (l := xs), hd]
      rfl
    rw [e, Lib.join_cons]
  · rw [if_neg h0, if_neg h0, hd]
    simp only [Lib.joinTail, List.map_cons, List.flatten_cons]
theorem restL_end (xs : List S66) : restL xs xs.length = [] := by
  unfold restL
  by_cases h : xs.length = 0
  · rw [if_pos h, List.length_eq_zero_iff.1 h]; rfl
  · rw [if_neg h, List.drop_length]; rfl
theorem fopL_len (a b c d e f : Int) : (fopL a b c d e f).length ≤ 150 := by
  unfold fopL
  cases hv : vop a b c d e f with
  | false => simp
  | true =>
    simp only [vop, decide_eq_true_eq] at hv
    have l0 := itoa_len a (by omega) (by omega)
    have l1 := itoa_len b (by omega) (by omega)
    have l3 := itoa_len d (by omega) (by omega)
    have l4 := itoa_len e (by omega) (by omega)
    have l5 := itoa_len f (by omega) (by omega)
    simp only [if_true, opL]
    split <;> simp only [List.length_append, List.length_cons, List.length_nil] <;> omega
theorem isLog_epoch (xs : List S66) (hv : isLog xs) (i : Nat) (h : i < xs.length) : 1 ≤ xs[i].f0 ∧ xs[i].f0 ≤ 20 := by
  have := (hv.1 i h).1
  rwa [rdE xs i h] at this

theorem spec_FormatLog.l0ev (xs : List S66) (hv : isLog xs) :
    ∀ s : Nat × List UInt8, (s.1 ≤ xs.length ∧ s.2.length ≤ 400 * s.1) → Ev (fun k => spec_FormatLog.l0 k xs (str s.2) (s.1 : Int)) (str (s.2 ++ restL xs s.1)) := by
  refine loop_ev (fun k (s : Nat × List UInt8) => spec_FormatLog.l0 k xs (str s.2) (s.1 : Int)) _ (fun s => xs.length - s.1) (fun s => str (s.2 ++ restL xs s.1)) ?_
  rintro ⟨i, acc⟩ ⟨h1, h2⟩
  simp only at h1 h2 ⊢
  have h16 := hv.2
  by_cases hi : i < xs.length
  · have hep := isLog_epoch xs hv i hi
    obtain ⟨K1, f1⟩ := spec_FormatInt.ev xs[i].f0 (by omega) (by omega)
    obtain ⟨K2, f2⟩ := spec_FormatOp.ev xs[i].f1.f0 xs[i].f1.f1 xs[i].f1.f2 xs[i].f1.f3 xs[i].f1.f4 xs[i].f1.f5
    have hl := itoa_len xs[i].f0 (by omega) (by omega)
    have hl2 := fopL_len xs[i].f1.f0 xs[i].f1.f1 xs[i].f1.f2 xs[i].f1.f3 xs[i].f1.f4 xs[i].f1.f5
    have e1 := w64 (show -9223372036854775808 ≤ (i : Int) + 1 by omega) (by omega)
    refine .inr ⟨(i + 1, acc ++ (if i = 0 then entL xs[i] else [59] ++ entL xs[i])), ⟨by simp only; omega, ?_⟩, by simp only; omega, ?_, ?_⟩
    · simp only [List.length_append]
      split <;> simp only [entL, List.length_append, List.length_cons, List.length_nil] <;> omega
    · simp only [restL_step xs i hi, List.append_assoc]
    · intro r hr'
      obtain ⟨K3, hr3⟩ := hr'
      refine ⟨K1 + K2 + K3 + 1, fun k hk => ?_⟩
      obtain ⟨k, rfl⟩ : ∃ m, k = m + 1 := ⟨k - 1, by omega⟩
      rw [← hr3 k (by omega)]
      by_cases h0 : i = 0
      · simp only [spec_FormatLog.l0, if_pos (show (i : Int) < (xs.length : Int) by omega), if_pos (show (0 : Int) ≤ (i : Int) by omega), if_neg (show ¬ ((i : Int) > 0) by omega), rdE xs i hi, f1 k (by omega), f2 k (by omega), Option.bind_some, str_lit, str_append, str_size, List.length_append, List.length_cons, List.length_nil, e1]
        simp (disch := omega) only [if_pos]
        simp only [entL, List.append_assoc, List.cons_append, List.nil_append]
        rfl
      · simp only [spec_FormatLog.l0, if_pos (show (i : Int) < (xs.length : Int) by omega), if_pos (show (0 : Int) ≤ (i : Int) by omega), if_pos (show (i : Int) > 0 by omega), rdE xs i hi, f1 k (by omega), f2 k (by omega), Option.bind_some, str_lit, str_append, str_size, List.length_append, List.length_cons, List.length_nil, e1]
        simp (disch := omega) only [if_pos, if_neg]
        simp only [entL, List.append_assoc, List.cons_append, List.nil_append]
        rfl
  · refine .inl (ev_shift (ev_val fun k => ?_))
    obtain rfl : i = xs.length := by omega
    simp only [spec_FormatLog.l0, if_neg (show ¬ ((xs.length : Int) < (xs.length : Int)) by omega), restL_end, List.append_nil]
theorem spec_FormatLog.ev (xs : List S66) (hn : xs.length ≤ 1048577) (b : Bool) (hb : Ev (fun k => spec_IsLog.f k xs) b) (hq : b = true ↔ isLog xs) : Ev (fun k => spec_FormatLog.f k xs) (str (if b = true then logL xs else [])) := by
  refine Ev.bind hb ?_
  cases b with
  | false => exact ev_val fun _ => rfl
  | true =>
    simp only [if_true, logL]
    by_cases h : xs.length = 0
    · simp only [if_pos h, if_pos (show (xs.length : Int) = 0 by omega)]; exact Ev.now _
    · simp only [if_neg h, if_neg (show ¬ ((xs.length : Int) = 0) by omega)]
      have := spec_FormatLog.l0ev xs (hq.1 rfl) (0, []) ⟨by simp, by simp⟩
      have e : (⟨#[]⟩ : ByteArray) = str [] := rfl
      rw [e]
      simpa [restL] using this

/-- The number that the digits of a list of bytes tell. -/
def valD (l : List Int) : Int := l.foldl (fun n b => if 48 ≤ b ∧ b ≤ 57 then n * 10 + (b - 48) else n) 0
/-- How many digits there are. -/
def cntD (l : List Int) : Int := l.foldl (fun n b => if 48 ≤ b ∧ b ≤ 57 then n + 1 else n) 0
theorem valD_snoc (l : List Int) (b : Int) : valD (l ++ [b]) = if 48 ≤ b ∧ b ≤ 57 then valD l * 10 + (b - 48) else valD l := by simp [valD, List.foldl_append]
theorem cntD_snoc (l : List Int) (b : Int) : cntD (l ++ [b]) = if 48 ≤ b ∧ b ≤ 57 then cntD l + 1 else cntD l := by simp [cntD, List.foldl_append]
theorem fold_bound : ∀ (l : List Int) (n : Int), 0 ≤ n → 0 ≤ l.foldl (fun n b => if 48 ≤ b ∧ b ≤ 57 then n * 10 + (b - 48) else n) n ∧ l.foldl (fun n b => if 48 ≤ b ∧ b ≤ 57 then n * 10 + (b - 48) else n) n < (n + 1) * 10 ^ l.length := by
  intro l
  induction l with
  | nil => intro n h; simp; omega
  | cons b l ih =>
    intro n h
    have hP : (0 : Int) ≤ 10 ^ l.length := Int.le_of_lt (Int.pow_pos (by decide))
    rw [List.foldl_cons, List.length_cons, Int.pow_succ]
    by_cases hb : 48 ≤ b ∧ b ≤ 57
    · rw [if_pos hb]
      obtain ⟨h1, h2⟩ := ih (n * 10 + (b - 48)) (by omega)
      refine ⟨h1, Int.lt_of_lt_of_le h2 ?_⟩
      have h3 : (n * 10 + (b - 48) + 1) * 10 ^ l.length ≤ ((n + 1) * 10) * 10 ^ l.length := Int.mul_le_mul_of_nonneg_right (by omega) hP
      calc (n * 10 + (b - 48) + 1) * 10 ^ l.length ≤ ((n + 1) * 10) * 10 ^ l.length := h3
        _ = (n + 1) * (10 ^ l.length * 10) := by rw [Int.mul_assoc, Int.mul_comm 10]
    · rw [if_neg hb]
      obtain ⟨h1, h2⟩ := ih n h
      refine ⟨h1, Int.lt_of_lt_of_le h2 ?_⟩
      have h3 : (n + 1) * 10 ^ l.length ≤ ((n + 1) * 10) * 10 ^ l.length := Int.mul_le_mul_of_nonneg_right (by omega) hP
      calc (n + 1) * 10 ^ l.length ≤ ((n + 1) * 10) * 10 ^ l.length := h3
        _ = (n + 1) * (10 ^ l.length * 10) := by rw [Int.mul_assoc, Int.mul_comm 10]
theorem pow10_le {n : Nat} (h : n ≤ 11) : (10 : Int) ^ n ≤ 100000000000 := by
  have : n = 0 ∨ n = 1 ∨ n = 2 ∨ n = 3 ∨ n = 4 ∨ n = 5 ∨ n = 6 ∨ n = 7 ∨ n = 8 ∨ n = 9 ∨ n = 10 ∨ n = 11 := by omega
  rcases this with h | h | h | h | h | h | h | h | h | h | h | h <;> subst h <;> decide
theorem valD_bound (l : List Int) (h : l.length ≤ 11) : 0 ≤ valD l ∧ valD l < 100000000000 := by
  obtain ⟨h1, h2⟩ := fold_bound l 0 (by omega)
  refine ⟨h1, Int.lt_of_lt_of_le h2 ?_⟩
  rw [Int.zero_add, Int.one_mul]
  exact pow10_le h
theorem cnt_bound : ∀ (l : List Int) (n : Int), n ≤ l.foldl (fun n b => if 48 ≤ b ∧ b ≤ 57 then n + 1 else n) n ∧ l.foldl (fun n b => if 48 ≤ b ∧ b ≤ 57 then n + 1 else n) n ≤ n + l.length := by
  intro l
  induction l with
  | nil => intro n; simp
  | cons b l ih =>
    intro n
    rw [List.foldl_cons, List.length_cons]
    by_cases hb : 48 ≤ b ∧ b ≤ 57
    · rw [if_pos hb]; have := ih (n + 1); omega
    · rw [if_neg hb]; have := ih n; omega
theorem cnt_all : ∀ (l : List Int) (n : Int), (∀ b ∈ l, 48 ≤ b ∧ b ≤ 57) → l.foldl (fun n b => if 48 ≤ b ∧ b ≤ 57 then n + 1 else n) n = n + l.length := by
  intro l
  induction l with
  | nil => intro n _; simp
  | cons b l ih =>
    intro n h
    rw [List.foldl_cons, List.length_cons, if_pos (h b (by simp)), ih (n + 1) (fun c hc => h c (by simp [hc]))]
    omega
theorem cntD_all {l : List Int} (h : ∀ b ∈ l, 48 ≤ b ∧ b ≤ 57) : cntD l = l.length := by rw [cntD, cnt_all l 0 h]; omega
theorem valD_minus (l : List Int) : valD (45 :: l) = valD l := by simp [valD]
theorem cntD_minus (l : List Int) : cntD (45 :: l) = cntD l := by simp [cntD]
/-- A list of bytes as numbers. -/
def nums (l : List UInt8) : List Int := l.map fun b => (b.toNat : Int)
theorem bytesOf_str (l : List UInt8) : bytesOf (str l) = nums l := by simp [bytesOf, str, nums]
theorem digit_num (d : Nat) (h : d < 10) : nums [UInt8.ofNat (48 + d)] = [48 + (d : Int)] := by
  simp only [nums, List.map_cons, List.map_nil]
  rw [UInt8.toNat_ofNat_of_lt' (by simp [UInt8.size]; omega)]
  simp
/-- The digits of a number: all of them digits, telling the number. -/
theorem digs_val (m : Nat) : valD (nums (digs m)) = (m : Int) ∧ (∀ b ∈ nums (digs m), 48 ≤ b ∧ b ≤ 57) := by
  induction m using Nat.strongRecOn with
  | ind m ih =>
    by_cases h0 : m = 0
    · subst h0; simp [digs, nums, valD]
    · obtain ⟨h1, h2⟩ := ih (m / 10) (by omega)
      have hd : m % 10 < 10 := by omega
      have e : nums (digs m) = nums (digs (m / 10)) ++ [48 + ((m % 10 : Nat) : Int)] := by
        rw [digs_step m (by omega), ← digit_num (m % 10) hd]; simp [nums]
      rw [e]
      constructor
      · rw [valD_snoc, if_pos (by omega), h1]; omega
      · intro b hb
        rcases List.mem_append.1 hb with hb | hb
        · exact h2 b hb
        · rw [List.mem_singleton.1 hb]; omega
theorem dec_val (m : Nat) : valD (nums (Lib.decDigits m)) = (m : Int) ∧ (∀ b ∈ nums (Lib.decDigits m), 48 ≤ b ∧ b ≤ 57) ∧ 1 ≤ (Lib.decDigits m).length := by
  by_cases h0 : m = 0
  · subst h0; unfold Lib.decDigits; simp [nums, valD]
  · have h := digs_val m
    have e : digs m = Lib.decDigits m := by rw [digs, if_neg h0]
    rw [e] at h
    refine ⟨h.1, h.2, ?_⟩
    rw [← e, digs_step m (by omega)]
    simp
theorem itoa_bytes (a : Int) : bytesOf (str (Lib.itoa a)) = (if a < 0 then [45] else []) ++ nums (Lib.decDigits a.natAbs) := by
  rw [bytesOf_str]
  unfold Lib.itoa
  by_cases c : a < 0
  · rw [if_pos c, if_pos c]; rfl
  · rw [if_neg c, if_neg c, show a.toNat = a.natAbs by omega]; rfl
/-- Is there a minus ahead? -/
def negB (l : List Int) : Bool := decide (l.head? = some 45)
/-- What ParseInt takes for the number and its digits. -/
def tailB (l : List Int) : List Int := if negB l = true then l.tail else l
def numB (l : List Int) : Int := if negB l = true then -valD l else valD l
theorem valD_tailB (l : List Int) : valD (tailB l) = valD l ∧ cntD (tailB l) = cntD l := by
  unfold tailB
  by_cases h : negB l = true
  · rw [if_pos h]
    cases l with
    | nil => simp [negB] at h
    | cons b l => obtain rfl : b = 45 := by simpa [negB] using h
                  exact ⟨(valD_minus l).symm, (cntD_minus l).symm⟩
  · rw [if_neg h]; exact ⟨rfl, rfl⟩
def specOk (s : ByteArray) : Prop := cntD (bytesOf s) ≤ 9 ∧ s.size ≤ 10 ∧ str (Lib.itoa (numB (bytesOf s))) = s
def implOk (s : ByteArray) : Prop := 1 ≤ (tailB (bytesOf s)).length ∧ (tailB (bytesOf s)).length ≤ 9 ∧ (∀ b ∈ tailB (bytesOf s), 48 ≤ b ∧ b ≤ 57) ∧ str (Lib.itoa (numB (bytesOf s))) = s
theorem tailB_length (l : List Int) : l.length ≤ (tailB l).length + 1 := by
  unfold tailB
  by_cases h : negB l = true
  · rw [if_pos h, List.length_tail]; omega
  · rw [if_neg h]; omega
theorem itoa_tail (a : Int) : tailB (bytesOf (str (Lib.itoa a))) = nums (Lib.decDigits a.natAbs) ∧ numB (bytesOf (str (Lib.itoa a))) = a := by
  obtain ⟨h1, h2, h3⟩ := dec_val a.natAbs
  rw [itoa_bytes]
  by_cases c : a < 0
  · rw [if_pos c]
    have hn : negB ([45] ++ nums (Lib.decDigits a.natAbs)) = true := by simp [negB]
    refine ⟨by rw [tailB, if_pos hn]; rfl, ?_⟩
    rw [numB, if_pos hn]
    show -valD (45 :: nums (Lib.decDigits a.natAbs)) = a
    rw [valD_minus, h1]; omega
  · rw [if_neg c, List.nil_append]
    have hn : ¬ negB (nums (Lib.decDigits a.natAbs)) = true := by
      cases hl : nums (Lib.decDigits a.natAbs) with
      | nil => simp [negB]
      | cons b l => have := h2 b (by rw [hl]; simp)
                    simp only [negB, List.head?_cons, Option.some.injEq, decide_eq_true_eq]
                    omega
    refine ⟨by rw [tailB, if_neg hn], ?_⟩
    rw [numB, if_neg hn, h1]; omega
theorem ok_iff (s : ByteArray) : specOk s ↔ implOk s := by
  constructor
  · rintro ⟨h1, h2, h3⟩
    have e := itoa_tail (numB (bytesOf s))
    obtain ⟨d1, d2, d3⟩ := dec_val (numB (bytesOf s)).natAbs
    rw [h3] at e
    have hl : (tailB (bytesOf s)).length = (Lib.decDigits (numB (bytesOf s)).natAbs).length := by rw [e.1]; simp [nums]
    have hd : ∀ b ∈ tailB (bytesOf s), 48 ≤ b ∧ b ≤ 57 := by rw [e.1]; exact d2
    refine ⟨by omega, ?_, hd, h3⟩
    have := cntD_all hd
    rw [(valD_tailB (bytesOf s)).2] at this
    omega
  · rintro ⟨h1, h2, h3, h4⟩
    have := cntD_all h3
    rw [(valD_tailB (bytesOf s)).2] at this
    refine ⟨by omega, ?_, h4⟩
    have := tailB_length (bytesOf s)
    rw [bytesOf_length] at this
    omega
theorem cntD_take (l : List Int) (n : Nat) : cntD (l.take n) ≤ cntD l := by
  have h : cntD l = (l.drop n).foldl (fun n b => if 48 ≤ b ∧ b ≤ 57 then n + 1 else n) (cntD (l.take n)) := by
    conv => lhs; rw [← List.take_append_drop n l]
    rw [cntD, List.foldl_append]; rfl
  rw [h]
  exact (cnt_bound _ _).1
theorem take_bt (s : ByteArray) (i : Nat) (h : i < s.size) : (bytesOf s).take (i + 1) = (bytesOf s).take i ++ [bt s (i : Int)] ∧ 0 ≤ bt s (i : Int) ∧ bt s (i : Int) ≤ 255 := by
  have h2 : i < (bytesOf s).length := by rw [bytesOf_length]; exact h
  have hb : bt s (i : Int) = (bytesOf s)[i] := by rw [← rd_bytesOf, rd_get _ i h2]
  rw [hb, List.take_succ_eq_append_getElem h2]
  exact ⟨rfl, bytes_range s _ (List.getElem_mem h2)⟩
theorem negB_bt (s : ByteArray) : negB (bytesOf s) = if (s.size : Int) > 0 then (bt s 0 == 45) else false := by
  by_cases h : (s.size : Int) > 0
  · have h2 : 0 < (bytesOf s).length := by rw [bytesOf_length]; omega
    have hb : bt s ((0 : Nat) : Int) = (bytesOf s)[0] := by rw [← rd_bytesOf, rd_get _ 0 h2]
    have hb' : bt s 0 = (bytesOf s)[0] := hb
    rw [if_pos h, hb', negB]
    rw [List.head?_eq_getElem?, List.getElem?_eq_getElem h2]
    simp only [Option.some.injEq]
    by_cases c : (bytesOf s)[0] = 45 <;> simp [c]
  · rw [if_neg h]
    have : (bytesOf s) = [] := List.eq_nil_of_length_eq_zero (by rw [bytesOf_length]; omega)
    rw [this]; rfl

/-- The first place of a byte, or the end. -/
def fstB : List UInt8 → UInt8 → Nat
  | [], _ => 0
  | b :: l, c => if b == c then 0 else fstB l c + 1
theorem fstB_le : ∀ (l : List UInt8) (c : UInt8), fstB l c ≤ l.length
  | [], _ => Nat.le_refl 0
  | b :: l, c => by
    have := fstB_le l c
    unfold fstB
    split <;> simp only [List.length_cons] <;> omega
theorem indexByte_fst : ∀ (l : List UInt8) (c : UInt8), Lib.indexByte l c = if fstB l c < l.length then (fstB l c : Int) else -1
  | [], _ => rfl
  | b :: l, c => by
    have ih := indexByte_fst l c
    have hle := fstB_le l c
    unfold Lib.indexByte fstB
    by_cases h : (b == c) = true
    · rw [if_pos h, if_pos h, if_pos (by simp)]; rfl
    · rw [if_neg h, if_neg h]
      by_cases h2 : fstB l c < l.length
      · rw [if_pos h2] at ih
        rw [ih, if_neg (by simp only [beq_iff_eq]; omega), if_pos (by simp only [List.length_cons]; omega)]
        omega
      · rw [if_neg h2] at ih
        rw [ih, if_pos (by decide), if_neg (by simp only [List.length_cons]; omega)]
theorem str_str (s : ByteArray) : str s.data.toList = s := by apply ByteArray.ext; simp [str]
theorem str_data_ (l : List UInt8) : (str l).data.toList = l := by simp [str]
theorem bt_str (l : List UInt8) (i : Nat) (h : i < l.length) : bt (str l) (i : Int) = (l[i].toNat : Int) := by
  have h' : (i : Int).toNat < (str l).size := by rw [str_size]; simpa using h
  unfold bt
  rw [dif_pos h']
  simp [str]
  rfl
theorem u8_eq (x c : UInt8) : ((x.toNat : Int) = (c.toNat : Int)) ↔ x = c := by
  constructor
  · intro h; exact UInt8.toNat_inj.1 (by omega)
  · intro h; rw [h]
theorem str_extract (l : List UInt8) (i j : Nat) : (str l).extract i j = str ((l.drop i).take (j - i)) := by
  apply ByteArray.ext
  apply Array.ext'
  rw [ByteArray.data_extract, Array.toList_extract, str_data_, str_data_]
theorem fstB_step (l : List UInt8) (c : UInt8) (i : Nat) (h : i < l.length) : fstB (l.drop i) c = if l[i] = c then 0 else fstB (l.drop (i + 1)) c + 1 := by
  rw [List.drop_eq_getElem_cons h]
  by_cases e : l[i] = c
  · simp [fstB, e]
  · simp [fstB, e]
/-- What a text of a number says, or -1. -/
noncomputable def numV (s : ByteArray) : Int := open Classical in if implOk s then numB (bytesOf s) else -1
theorem implOk_len {s : ByteArray} (h : implOk s) : s.size ≤ 10 := by
  have h1 := tailB_length (bytesOf s)
  rw [bytesOf_length] at h1
  have := h.2.1
  omega
theorem numV_range (s : ByteArray) : -100000000000 ≤ numV s ∧ numV s ≤ 100000000000 := by
  unfold numV
  split
  · next h =>
    have hl := implOk_len h
    have hb := valD_bound (bytesOf s) (by rw [bytesOf_length]; omega)
    unfold numB
    split <;> omega
  · omega

/-- A text's pieces between a byte. -/
def splA : List UInt8 → UInt8 → List UInt8 → List (List UInt8)
  | [], _, cur => [cur]
  | b :: l, c, cur => if b = c then cur :: splA l c [] else splA l c (cur ++ [b])
def spl (l : List UInt8) (c : UInt8) : List (List UInt8) := splA l c []
theorem splA_cons (b : UInt8) (l : List UInt8) (c : UInt8) (cur : List UInt8) : splA (b :: l) c cur = if b = c then cur :: splA l c [] else splA l c (cur ++ [b]) := rfl
theorem splA_len : ∀ (l : List UInt8) (c : UInt8) (cur : List UInt8), 1 ≤ (splA l c cur).length ∧ (splA l c cur).length ≤ l.length + 1
  | [], _, _ => by simp [splA]
  | b :: l, c, cur => by
    have h1 := splA_len l c []
    have h2 := splA_len l c (cur ++ [b])
    rw [splA_cons]
    split <;> simp only [List.length_cons] <;> omega
theorem splA_fst : ∀ (l : List UInt8) (c : UInt8) (cur : List UInt8), splA l c cur = if fstB l c < l.length then (cur ++ l.take (fstB l c)) :: splA (l.drop (fstB l c + 1)) c [] else [cur ++ l]
  | [], _, cur => by simp [splA, fstB]
  | b :: l, c, cur => by
    rw [splA_cons]
    by_cases e : b = c
    · rw [if_pos e]
      have : fstB (b :: l) c = 0 := by simp [fstB, e]
      rw [this, if_pos (by simp)]
      simp
    · rw [if_neg e, splA_fst l c (cur ++ [b])]
      have : fstB (b :: l) c = fstB l c + 1 := by simp [fstB, e]
      rw [this]
      by_cases h : fstB l c < l.length
      · rw [if_pos h, if_pos (by simpa using h)]
        simp
      · rw [if_neg h, if_neg (by simpa using h)]
        simp
theorem count_fst : ∀ (l : List UInt8) (c : UInt8), Lib.countByte l c = if fstB l c < l.length then Lib.countByte (l.drop (fstB l c + 1)) c + 1 else 0
  | [], _ => rfl
  | b :: l, c => by
    by_cases e : b = c
    · have : fstB (b :: l) c = 0 := by simp [fstB, e]
      rw [this, if_pos (by simp)]
      simp [Lib.countByte, e]
    · have : fstB (b :: l) c = fstB l c + 1 := by simp [fstB, e]
      rw [this]
      have ih := count_fst l c
      by_cases h : fstB l c < l.length
      · rw [if_pos (by simpa using h)]
        rw [if_pos h] at ih
        simp only [List.drop_succ_cons, Lib.countByte, List.count_cons] at ih ⊢
        rw [ih]
        simp [e]
      · rw [if_neg (by simpa using h)]
        rw [if_neg h] at ih
        simp only [Lib.countByte, List.count_cons] at ih ⊢
        rw [ih]
        simp [e]
theorem count_le (l : List UInt8) (c : UInt8) : Lib.countByte l c ≤ l.length := List.count_le_length
theorem splA_count : ∀ (l : List UInt8) (c : UInt8) (cur : List UInt8), (splA l c cur).length = Lib.countByte l c + 1
  | [], _, _ => by simp [splA, Lib.countByte]
  | b :: l, c, cur => by
    have h1 := splA_count l c []
    have h2 := splA_count l c (cur ++ [b])
    rw [splA_cons]
    simp only [Lib.countByte, List.count_cons] at *
    by_cases e : b = c
    · rw [if_pos e, List.length_cons, h1]; simp [e]
    · rw [if_neg e, h2]; simp [e]
theorem splA_free : ∀ (x : List UInt8) (c : UInt8) (cur y : List UInt8), (∀ b ∈ x, b ≠ c) → splA (x ++ y) c cur = splA y c (cur ++ x)
  | [], _, cur, y, _ => by simp
  | b :: x, c, cur, y, h => by
    have hb : b ≠ c := h b (by simp)
    show splA (b :: (x ++ y)) c cur = _
    rw [splA_cons, if_neg hb, splA_free x c (cur ++ [b]) y (fun z hz => h z (by simp [hz]))]
    simp
theorem splA_sep (c : UInt8) (cur y : List UInt8) : splA (c :: y) c cur = cur :: splA y c [] := by simp [splA]

theorem spec_l2Cut.ev (L : List UInt8) (c : UInt8) (hn : L.length ≤ 1000000000) : Ev (fun k => spec_l2Cut.f k (str L) (c.toNat : Int)) ((spl L c).map str) := by
  have key : ∀ d i from_ : Nat, i + d = L.length → from_ ≤ i → ∀ out : List ByteArray, out.length ≤ i → Ev (fun k => spec_l2Cut.l0 k (str L) (c.toNat : Int) out (from_ : Int) (i : Int)) (out ++ (splA (L.drop i) c ((L.take i).drop from_)).map str) := by
    intro d
    induction d with
    | zero =>
      intro i from_ h hf out ho
      obtain rfl : i = L.length := by omega
      refine ev_shift (ev_val fun k => ?_)
      have x1 : (str L).extract from_ L.length = str (L.drop from_) := by rw [str_extract, List.take_of_length_le (by rw [List.length_drop]; omega)]
      simp only [spec_l2Cut.l0, str_size, if_neg (show ¬ ((L.length : Int) < (L.length : Int)) by omega), if_pos (show 0 ≤ (from_ : Int) by omega), if_pos (show (from_ : Int) ≤ (L.length : Int) by omega), if_pos (show out.length < 8796093022208 by omega), Int.toNat_natCast, x1, List.drop_length, splA, List.take_length, List.map_cons, List.map_nil]
    | succ d ih =>
      intro i from_ h hf out ho
      have hi : i < L.length := by omega
      have e1 := w64 (show -9223372036854775808 ≤ (i : Int) + 1 by omega) (by omega)
      rw [List.drop_eq_getElem_cons hi]
      unfold splA
      by_cases e : L[i] = c
      · have x1 : (str L).extract from_ i = str ((L.take i).drop from_) := by rw [str_extract, List.drop_take]
        rw [if_pos e]
        have := ih (i + 1) (i + 1) (by omega) (Nat.le_refl _) (out ++ [str ((L.take i).drop from_)]) (by simp; omega)
        refine ev_shift (Ev.congr (fun k => ?_) (ev_eq this ?_))
        · simp only [spec_l2Cut.l0, str_size, if_pos (show (i : Int) < (L.length : Int) by omega), if_pos (show 0 ≤ (i : Int) by omega), bt_str L i hi, if_pos (show (L[i].toNat : Int) = (c.toNat : Int) by rw [e]), if_pos (show 0 ≤ (from_ : Int) by omega), if_pos (show (from_ : Int) ≤ (i : Int) by omega), if_pos (show (i : Int) ≤ (L.length : Int) by omega), if_pos (show out.length < 8796093022208 by omega), Int.toNat_natCast, x1, e1]
          rfl
        · rw [List.drop_eq_nil_of_le (show (L.take (i + 1)).length ≤ i + 1 by rw [List.length_take]; omega)]
          simp
      · rw [if_neg e]
        have := ih (i + 1) from_ (by omega) (by omega) out (by omega)
        refine ev_shift (Ev.congr (fun k => ?_) (ev_eq this ?_))
        · simp only [spec_l2Cut.l0, str_size, if_pos (show (i : Int) < (L.length : Int) by omega), if_pos (show 0 ≤ (i : Int) by omega), bt_str L i hi, if_neg (show ¬ ((L[i].toNat : Int) = (c.toNat : Int)) from fun h' => e ((u8_eq _ _).1 h')), e1]
          rfl
        · rw [List.take_succ_eq_append_getElem hi, List.drop_append_of_le_length (by rw [List.length_take]; omega)]
  have := key L.length 0 0 (by omega) (Nat.le_refl _) [] (by simp)
  simpa [spec_l2Cut.f, spl] using this

theorem spec_ParseInt.l0ev (s : ByteArray) (r : Int × Bool) (hr : Ev (fun k => spec_ParseInt.j1 k s (valD ((bytesOf s).take 11)) (cntD ((bytesOf s).take 11)) ((min s.size 11 : Nat) : Int) false) r) :
    ∀ d i : Nat, i + d = min s.size 11 → Ev (fun k => spec_ParseInt.l0 k s (valD ((bytesOf s).take i)) (cntD ((bytesOf s).take i)) (i : Int)) r := by
  intro d
  induction d with
  | zero =>
    intro i h
    obtain rfl : i = min s.size 11 := by omega
    have ht : (bytesOf s).take (min s.size 11) = (bytesOf s).take 11 := by
      rcases Nat.le_total s.size 11 with h6 | h6
      · rw [List.take_of_length_le (by rw [bytesOf_length]; omega), List.take_of_length_le (by rw [bytesOf_length]; omega)]
      · rw [Nat.min_eq_right h6]
    refine ev_shift ?_
    rw [ht]
    by_cases hi : ((min s.size 11 : Nat) : Int) < (s.size : Int)
    · simp only [spec_ParseInt.l0, if_pos hi, decide_eq_false (show ¬ (((min s.size 11 : Nat) : Int) < 11) by omega)]
      exact hr
    · simp only [spec_ParseInt.l0, if_neg hi]
      exact hr
  | succ d ih =>
    intro i h
    have e1 := w64 (show -9223372036854775808 ≤ (i : Int) + 1 by omega) (by omega)
    have hi := ih (i + 1) (by omega)
    obtain ⟨tb, b0, b1⟩ := take_bt s i (by omega)
    have hv := valD_bound ((bytesOf s).take i) (by rw [List.length_take]; omega)
    have hc := cnt_bound ((bytesOf s).take i) 0
    have hc1 : 0 ≤ cntD ((bytesOf s).take i) ∧ cntD ((bytesOf s).take i) ≤ 11 := by
      have : ((bytesOf s).take i).length ≤ 11 := by rw [List.length_take]; omega
      unfold cntD
      omega
    have e2 : wrap64 (cntD ((bytesOf s).take i) + 1) = cntD ((bytesOf s).take i) + 1 := w64 (by omega) (by omega)
    rw [tb, valD_snoc, cntD_snoc] at hi
    refine ev_shift ?_
    simp only [spec_ParseInt.l0, if_pos (show (i : Int) < (s.size : Int) by omega), decide_eq_true (show (i : Int) < 11 by omega)]
    refine ev_shift ?_
    simp only [spec_ParseInt.j1, if_true, if_pos (show (0 : Int) ≤ (i : Int) by omega), if_pos (show (i : Int) < (s.size : Int) by omega), e1, e2]
    by_cases c1 : bt s (i : Int) ≥ 48
    · by_cases c2 : bt s (i : Int) ≤ 57
      · have e3 : wrap64 ((wrap64 (valD ((bytesOf s).take i) * 10)) + ((bt s (i : Int) - 48) % 256)) = valD ((bytesOf s).take i) * 10 + (bt s (i : Int) - 48) := by
          rw [w64 (show -9223372036854775808 ≤ valD ((bytesOf s).take i) * 10 by omega) (by omega), show (bt s (i : Int) - 48) % 256 = bt s (i : Int) - 48 by omega, w64 (by omega) (by omega)]
        simp only [if_pos c1, if_pos c2, e3]
        simp only [if_pos (show 48 ≤ bt s (i : Int) ∧ bt s (i : Int) ≤ 57 from ⟨c1, c2⟩)] at hi
        simpa using hi
      · simp only [if_pos c1, if_neg c2]
        simp only [if_neg (show ¬ (48 ≤ bt s (i : Int) ∧ bt s (i : Int) ≤ 57) from fun h => c2 h.2)] at hi
        simpa using hi
    · simp only [if_neg c1]
      simp only [if_neg (show ¬ (48 ≤ bt s (i : Int) ∧ bt s (i : Int) ≤ 57) from fun h => c1 h.1)] at hi
      simpa using hi
theorem spec_ParseInt.ev (s : ByteArray) : (specOk s ∧ Ev (fun k => spec_ParseInt.f k s) (numB (bytesOf s), true)) ∨ (¬ specOk s ∧ Ev (fun k => spec_ParseInt.f k s) (0, false)) := by
  have hv := valD_bound ((bytesOf s).take 11) (by rw [List.length_take]; omega)
  have j3 : ∀ n : Int, -100000000000 < n → n < 100000000000 → (s.size ≤ 10 → n = numB (bytesOf s)) →
      (specOk s ∧ Ev (fun k => spec_ParseInt.j3 k s n (cntD ((bytesOf s).take 11))) (numB (bytesOf s), true)) ∨ (¬ specOk s ∧ Ev (fun k => spec_ParseInt.j3 k s n (cntD ((bytesOf s).take 11))) (0, false)) := by
    intro n n0 n1 hn
    have hbad : Ev (fun k => spec_ParseInt.j4 k n true) (0, false) := ev_shift (ev_val fun k => by simp only [spec_ParseInt.j4, if_true])
    by_cases c1 : cntD ((bytesOf s).take 11) > 9
    · refine .inr ⟨fun h => ?_, ev_shift (by simp only [spec_ParseInt.j3, if_pos c1]; exact hbad)⟩
      have := cntD_take (bytesOf s) 11
      have := h.1
      omega
    · by_cases c2 : (s.size : Int) > 10
      · exact .inr ⟨fun h => by have := h.2.1; omega, ev_shift (by simp only [spec_ParseInt.j3, if_neg c1, if_pos c2]; exact hbad)⟩
      · have e := hn (by omega)
        subst e
        have ht : (bytesOf s).take 11 = bytesOf s := List.take_of_length_le (by rw [bytesOf_length]; omega)
        have hf := spec_FormatInt.ev (numB (bytesOf s)) (by omega) (by omega)
        by_cases c3 : str (Lib.itoa (numB (bytesOf s))) = s
        · refine .inl ⟨⟨by rw [ht] at c1; omega, by omega, c3⟩, ev_shift ?_⟩
          simp only [spec_ParseInt.j3, if_neg c1, if_neg c2]
          refine Ev.bind hf (ev_shift (ev_val fun k => ?_))
          simp only [spec_ParseInt.j4, c3, bne_self_eq_false, Bool.false_eq_true, if_false]
        · refine .inr ⟨fun h => c3 h.2.2, ev_shift ?_⟩
          simp only [spec_ParseInt.j3, if_neg c1, if_neg c2]
          refine Ev.bind hf (ev_shift (ev_val fun k => ?_))
          have : ((str (Lib.itoa (numB (bytesOf s)))).toList != s.toList) = true := bne_iff_ne.2 fun h => c3 (toList_inj' h)
          simp only [spec_ParseInt.j4, this, if_true]
  have hj1 : ∀ r, Ev (fun k => spec_ParseInt.j3 k s (if negB (bytesOf s) = true then -valD ((bytesOf s).take 11) else valD ((bytesOf s).take 11)) (cntD ((bytesOf s).take 11))) r → Ev (fun k => spec_ParseInt.f k s) r := by
    intro r hr
    have hz := spec_ParseInt.l0ev s r ?_ (min s.size 11) 0 (by omega)
    · simpa [spec_ParseInt.f, valD, cntD] using hz
    · refine ev_shift ?_
      simp only [spec_ParseInt.j1, Bool.false_eq_true, if_false]
      have hn := negB_bt s
      have e2 : wrap64 (-valD ((bytesOf s).take 11)) = -valD ((bytesOf s).take 11) := w64 (by omega) (by omega)
      by_cases c : (s.size : Int) > 0
      · rw [if_pos c] at hn
        simp only [if_pos c, if_pos (show (0 : Int) < (s.size : Int) by omega), ← hn]
        refine ev_shift ?_
        simp only [spec_ParseInt.j2, e2]
        cases hb : negB (bytesOf s) with
        | true => rw [hb] at hr; simpa using hr
        | false => rw [hb] at hr; simpa using hr
      · rw [if_neg c] at hn
        rw [hn] at hr
        simp only [if_neg c]
        refine ev_shift ?_
        simp only [spec_ParseInt.j2, Bool.false_eq_true, if_false]
        simpa using hr
  rcases j3 (if negB (bytesOf s) = true then -valD ((bytesOf s).take 11) else valD ((bytesOf s).take 11)) (by split <;> omega) (by split <;> omega) (fun h => by rw [numB, List.take_of_length_le (by rw [bytesOf_length]; omega)]) with ⟨h1, h2⟩ | ⟨h1, h2⟩
  · exact .inl ⟨h1, hj1 _ h2⟩
  · exact .inr ⟨h1, hj1 _ h2⟩

theorem spec_l3Num.ev (s : ByteArray) : Ev (fun k => spec_l3Num.f k s) (if numV s < 0 then -1 else numV s) := by
  unfold numV
  rcases spec_ParseInt.ev s with ⟨h, e⟩ | ⟨h, e⟩
  · rw [if_pos ((ok_iff s).1 h)]
    refine Ev.bind e (ev_val fun k => ?_)
    by_cases h2 : numB (bytesOf s) < 0
    · simp [h2]
    · simp [h2]
  · rw [if_neg (fun h' => h ((ok_iff s).2 h'))]
    exact Ev.bind e (ev_val fun k => by simp)

def badO : Int × Int × Int × Int × Int × Int × Bool := (0, 0, 0, 0, 0, 0, false)
/-- The last look at an operation that was read. -/
def chkO (a b c d e f : Int) (L : List UInt8) : Int × Int × Int × Int × Int × Int × Bool := if fopL a b c d e f = L then (a, b, c, d, e, f, true) else badO
noncomputable def l3V (s : ByteArray) : Int := if numV s < 0 then -1 else numV s
noncomputable def specO (L : List UInt8) : Int × Int × Int × Int × Int × Int × Bool :=
  if (spl L 32).length < 4 ∨ (spl ((spl L 32).getD 0 []) 46).length ≠ 2 then badO
  else if (spl L 32).getD 1 [] = [119, 114, 105, 116, 101] then chkO (l3V (str ((spl ((spl L 32).getD 0 []) 46).getD 0 []))) (l3V (str ((spl ((spl L 32).getD 0 []) 46).getD 1 []))) 1 (l3V (str ((spl L 32).getD 2 []))) 0 (l3V (str ((spl L 32).getD ((spl L 32).length - 1) []))) L
  else if (spl L 32).getD 1 [] = [115, 119, 97, 112] then chkO (l3V (str ((spl ((spl L 32).getD 0 []) 46).getD 0 []))) (l3V (str ((spl ((spl L 32).getD 0 []) 46).getD 1 []))) 2 (l3V (str ((spl L 32).getD 2 []))) (l3V (str ((spl L 32).getD 3 []))) (l3V (str ((spl L 32).getD ((spl L 32).length - 1) []))) L
  else chkO (l3V (str ((spl ((spl L 32).getD 0 []) 46).getD 0 []))) (l3V (str ((spl ((spl L 32).getD 0 []) 46).getD 1 []))) 0 (l3V (str ((spl L 32).getD 2 []))) 0 (l3V (str ((spl L 32).getD ((spl L 32).length - 1) []))) L
def cutA (l : List UInt8) (c : UInt8) : List UInt8 := if fstB l c < l.length then l.take (fstB l c) else l
def cutB (l : List UInt8) (c : UInt8) : List UInt8 := if fstB l c < l.length then l.drop (fstB l c + 1) else []
noncomputable def implO (L : List UInt8) : Int × Int × Int × Int × Int × Int × Bool :=
  if (spl L 32).length < 4 then badO
  else if (spl L 32).length = 5 then chkO (numV (str (cutA ((spl L 32).getD 0 []) 46))) (numV (str (cutB ((spl L 32).getD 0 []) 46))) 2 (numV (str ((spl L 32).getD 2 []))) (numV (str ((spl L 32).getD 3 []))) (numV (str ((spl L 32).getD ((spl L 32).length - 1) []))) L
  else chkO (numV (str (cutA ((spl L 32).getD 0 []) 46))) (numV (str (cutB ((spl L 32).getD 0 []) 46))) 1 (numV (str ((spl L 32).getD 2 []))) 0 (numV (str ((spl L 32).getD ((spl L 32).length - 1) []))) L
theorem rdW (W : List (List UInt8)) (i : Nat) (h : i < W.length) : rdOf ByteArray.empty (W.map str) (i : Int) = str (W.getD i []) := by
  rw [rdB_ (W.map str) i (by simpa using h)]
  simp [h]
  where rdB_ (xs : List ByteArray) (i : Nat) (h : i < xs.length) : rdOf ByteArray.empty xs (i : Int) = xs[i] := by simp [rdOf, h]
theorem itoa_dig (x : Int) (h : 0 ≤ x) : ∀ b ∈ Lib.itoa x, 48 ≤ b.toNat ∧ b.toNat ≤ 57 := by
  intro b hb
  have h1 := itoa_bytes x
  rw [bytesOf_str, if_neg (show ¬ x < 0 by omega), List.nil_append] at h1
  have h2 : (b.toNat : Int) ∈ nums (Lib.itoa x) := List.mem_map.2 ⟨b, hb, rfl⟩
  rw [h1] at h2
  have := (dec_val x.natAbs).2.1 _ h2
  omega
theorem itoa_free (x : Int) (h : 0 ≤ x) (c : UInt8) (hc : c.toNat < 48) : ∀ b ∈ Lib.itoa x, b ≠ c := by
  intro b hb e
  have := itoa_dig x h b hb
  rw [e] at this
  omega
theorem numV_itoa (x : Int) (h0 : 0 ≤ x) (h1 : x ≤ 999) : numV (str (Lib.itoa x)) = x := by
  obtain ⟨t1, t2⟩ := itoa_tail x
  obtain ⟨d1, d2, d3⟩ := dec_val x.natAbs
  have hl : (Lib.decDigits x.natAbs).length ≤ 9 := by
    by_cases hz : x.natAbs = 0
    · rw [hz]; unfold Lib.decDigits; simp
    · have := digs_len 3 x.natAbs (by omega)
      simp only [digs, if_neg hz] at this
      omega
  have hn : (nums (Lib.decDigits x.natAbs)).length = (Lib.decDigits x.natAbs).length := by simp [nums]
  have ho : implOk (str (Lib.itoa x)) := by
    unfold implOk
    rw [t1, t2, hn]
    exact ⟨d3, hl, d2, rfl⟩
  unfold numV
  rw [if_pos ho, t2]
theorem l3V_itoa (x : Int) (h0 : 0 ≤ x) (h1 : x ≤ 999) : l3V (str (Lib.itoa x)) = x := by
  unfold l3V
  rw [numV_itoa x h0 h1, if_neg (by omega)]
theorem spl_word (x : List UInt8) (c : UInt8) (y : List UInt8) (h : ∀ b ∈ x, b ≠ c) : spl (x ++ c :: y) c = x :: spl y c := by
  unfold spl
  rw [splA_free x c [] _ h, splA_sep, List.nil_append]
theorem spl_last (x : List UInt8) (c : UInt8) (h : ∀ b ∈ x, b ≠ c) : spl x c = [x] := by
  have := splA_free x c [] [] h
  rw [List.append_nil, List.nil_append] at this
  unfold spl
  rw [this]
  rfl
theorem fstB_free : ∀ (x : List UInt8) (c : UInt8) (y : List UInt8), (∀ b ∈ x, b ≠ c) → fstB (x ++ c :: y) c = x.length
  | [], c, y, _ => by simp [fstB]
  | b :: x, c, y, h => by
    have hb : b ≠ c := h b (by simp)
    have := fstB_free x c y (fun z hz => h z (by simp [hz]))
    simp [fstB, hb, this]
theorem op_words (a b c d e f : Int) (hv : vop a b c d e f = true) :
    spl (opL a b c d e f) 32 = if c = 2 then [Lib.itoa a ++ 46 :: Lib.itoa b, [115, 119, 97, 112], Lib.itoa d, Lib.itoa e, Lib.itoa f] else [Lib.itoa a ++ 46 :: Lib.itoa b, [119, 114, 105, 116, 101], Lib.itoa d, Lib.itoa f] := by
  simp only [vop, decide_eq_true_eq] at hv
  have fa := itoa_free a (by omega) 32 (by decide)
  have fb := itoa_free b (by omega) 32 (by decide)
  have fd := itoa_free d (by omega) 32 (by decide)
  have fe := itoa_free e (by omega) 32 (by decide)
  have ff := itoa_free f (by omega) 32 (by decide)
  have fh : ∀ z ∈ Lib.itoa a ++ 46 :: Lib.itoa b, z ≠ 32 := by
    intro z hz
    rcases List.mem_append.1 hz with h | h
    · exact fa z h
    · rcases List.mem_cons.1 h with h | h
      · rw [h]; decide
      · exact fb z h
  by_cases hc : c = 2
  · have e1 : opL a b c d e f = (Lib.itoa a ++ 46 :: Lib.itoa b) ++ 32 :: ([115, 119, 97, 112] ++ 32 :: (Lib.itoa d ++ 32 :: (Lib.itoa e ++ 32 :: Lib.itoa f))) := by
      simp only [opL, if_pos hc, List.append_assoc, List.cons_append, List.nil_append]
    rw [e1, if_pos hc, spl_word _ _ _ fh, spl_word [115, 119, 97, 112] _ _ (by decide), spl_word _ _ _ fd, spl_word _ _ _ fe, spl_last _ _ ff]
  · have e1 : opL a b c d e f = (Lib.itoa a ++ 46 :: Lib.itoa b) ++ 32 :: ([119, 114, 105, 116, 101] ++ 32 :: (Lib.itoa d ++ 32 :: Lib.itoa f)) := by
      simp only [opL, if_neg hc, List.append_assoc, List.cons_append, List.nil_append]
    rw [e1, if_neg hc, spl_word _ _ _ fh, spl_word [119, 114, 105, 116, 101] _ _ (by decide), spl_word _ _ _ fd, spl_last _ _ ff]
theorem specO_valid (a b c d e f : Int) (hv : vop a b c d e f = true) : specO (opL a b c d e f) = (a, b, c, d, e, f, true) := by
  have hw := op_words a b c d e f hv
  have hq := hv
  simp only [vop, decide_eq_true_eq] at hq
  have hf : fopL a b c d e f = opL a b c d e f := by unfold fopL; rw [if_pos hv]
  have hh : spl (Lib.itoa a ++ 46 :: Lib.itoa b) 46 = [Lib.itoa a, Lib.itoa b] := by
    rw [spl_word _ _ _ (itoa_free a (by omega) 46 (by decide)), spl_last _ _ (itoa_free b (by omega) 46 (by decide))]
  have na := l3V_itoa a (by omega) (by omega)
  have nb := l3V_itoa b (by omega) (by omega)
  have nd := l3V_itoa d (by omega) (by omega)
  have ne := l3V_itoa e (by omega) (by omega)
  have nf := l3V_itoa f (by omega) (by omega)
  by_cases hc : c = 2
  · rw [if_pos hc] at hw
    unfold specO
    simp only [hw, List.getD_cons_zero, List.getD_cons_succ, hh, List.length_cons, List.length_nil, na, nb, nd, ne, nf]
    rw [if_neg (by omega), if_neg (by decide), if_pos trivial, ← hc, chkO, if_pos hf]
  · have hc1 : c = 1 := by omega
    have he : e = 0 := by omega
    rw [if_neg hc] at hw
    unfold specO
    simp only [hw, List.getD_cons_zero, List.getD_cons_succ, hh, List.length_cons, List.length_nil, na, nb, nd, nf]
    rw [if_neg (by omega), if_pos trivial]
    rw [hc1, he] at hf ⊢
    rw [chkO, if_pos hf]
theorem implO_valid (a b c d e f : Int) (hv : vop a b c d e f = true) : implO (opL a b c d e f) = (a, b, c, d, e, f, true) := by
  have hw := op_words a b c d e f hv
  have hq := hv
  simp only [vop, decide_eq_true_eq] at hq
  have hf : fopL a b c d e f = opL a b c d e f := by unfold fopL; rw [if_pos hv]
  have hfst := fstB_free (Lib.itoa a) 46 (Lib.itoa b) (itoa_free a (by omega) 46 (by decide))
  have ha : cutA (Lib.itoa a ++ 46 :: Lib.itoa b) 46 = Lib.itoa a := by
    unfold cutA; rw [hfst, if_pos (by simp)]; simp
  have hb : cutB (Lib.itoa a ++ 46 :: Lib.itoa b) 46 = Lib.itoa b := by
    unfold cutB; rw [hfst, if_pos (by simp)]
    rw [List.drop_append, List.drop_eq_nil_of_le (by omega)]
    simp
  have na := numV_itoa a (by omega) (by omega)
  have nb := numV_itoa b (by omega) (by omega)
  have nd := numV_itoa d (by omega) (by omega)
  have ne := numV_itoa e (by omega) (by omega)
  have nf := numV_itoa f (by omega) (by omega)
  by_cases hc : c = 2
  · rw [if_pos hc] at hw
    unfold implO
    simp only [hw, List.getD_cons_zero, List.getD_cons_succ, ha, hb, List.length_cons, List.length_nil, na, nb, nd, ne, nf]
    rw [if_neg (by omega), if_pos trivial, ← hc, chkO, if_pos hf]
  · have hc1 : c = 1 := by omega
    have he : e = 0 := by omega
    rw [if_neg hc] at hw
    unfold implO
    simp only [hw, List.getD_cons_zero, List.getD_cons_succ, ha, hb, List.length_cons, List.length_nil, na, nb, nd, nf]
    rw [if_neg (by omega), if_neg (by omega)]
    rw [hc1, he] at hf ⊢
    rw [chkO, if_pos hf]
theorem chkO_bad (L : List UInt8) (hx : ¬ ∃ a b c d e f : Int, vop a b c d e f = true ∧ opL a b c d e f = L) (hl : ¬ (spl L 32).length < 4) (a b c d e f : Int) : chkO a b c d e f L = badO := by
  unfold chkO
  refine if_neg (fun h => ?_)
  cases hv : vop a b c d e f with
  | true => exact hx ⟨a, b, c, d, e, f, hv, by rw [← h]; unfold fopL; rw [if_pos hv]⟩
  | false =>
    have : fopL a b c d e f = [] := by unfold fopL; rw [hv]; rfl
    rw [← h, this] at hl
    exact hl (by decide)
theorem specO_implO (L : List UInt8) : specO L = implO L := by
  by_cases hx : ∃ a b c d e f : Int, vop a b c d e f = true ∧ opL a b c d e f = L
  · obtain ⟨a, b, c, d, e, f, hv, rfl⟩ := hx
    rw [specO_valid a b c d e f hv, implO_valid a b c d e f hv]
  · by_cases hl : (spl L 32).length < 4
    · unfold specO implO
      rw [if_pos (.inl hl), if_pos hl]
    · have hb := chkO_bad L hx hl
      unfold specO implO
      simp only [hb, ite_self]

theorem spec_ParseOp.j1ev (L : List UInt8) (a b c d e f : Int) : Ev (fun k => spec_ParseOp.j1 k (str L) a b c d e f) (chkO a b c d e f L) := by
  refine ev_shift (Ev.bind (spec_FormatOp.ev a b c d e f) (ev_val fun k => ?_))
  simp only [str_toList]
  unfold chkO
  by_cases h : fopL a b c d e f = L
  · rw [if_pos h, if_pos h]
  · rw [if_neg h, if_neg h]; rfl
theorem spec_ParseOp.ev (L : List UInt8) (hn : L.length ≤ 1048576) : Ev (fun k => spec_ParseOp.f k (str L)) (specO L) := by
  have h32 : Ev (fun k => spec_l2Cut.f k (str L) 32) ((spl L 32).map str) := spec_l2Cut.ev L 32 (by omega)
  refine Ev.bind h32 ?_
  have hwl := splA_len L 32 []
  obtain ⟨W, hW⟩ : ∃ W, W = spl L 32 := ⟨_, rfl⟩
  have hWl : 1 ≤ W.length ∧ W.length ≤ L.length + 1 := by rw [hW]; exact hwl
  have hmem : ∀ (l : List UInt8) (c : UInt8) (cur : List UInt8), ∀ w ∈ splA l c cur, w.length ≤ l.length + cur.length := by
    intro l
    induction l with
    | nil => intro c cur w hw; simp [splA] at hw; simp [hw]
    | cons x l ih =>
      intro c cur w hw
      unfold splA at hw
      split at hw
      · rcases List.mem_cons.1 hw with h | h
        · rw [h]; simp only [List.length_cons]; omega
        · have := ih c [] w h; simp only [List.length_cons, List.length_nil] at *; omega
      · have := ih c _ w hw; simp only [List.length_cons, List.length_append, List.length_nil] at *; omega
  have h0len : (W.getD 0 []).length ≤ 1048576 := by
    have : W.getD 0 [] ∈ W := by
      rw [List.getD_eq_getElem?_getD, List.getElem?_eq_getElem (by omega)]
      simp
    have := hmem L 32 [] _ (by rw [hW] at this; exact this)
    rw [← hW] at this
    simp only [List.length_nil] at this
    omega
  rw [← hW]
  simp only [List.length_map, if_pos (show 0 < (W.length : Int) by omega)]
  have r0 := rdW W 0 (by omega)
  have e0 : ((0 : Nat) : Int) = 0 := rfl
  rw [e0] at r0
  rw [r0]
  have h46 : Ev (fun k => spec_l2Cut.f k (str (W.getD 0 [])) 46) ((spl (W.getD 0 []) 46).map str) := spec_l2Cut.ev (W.getD 0 []) 46 (by omega)
  refine Ev.bind h46 ?_
  obtain ⟨H, hH⟩ : ∃ H, H = spl (W.getD 0 []) 46 := ⟨_, rfl⟩
  rw [← hH]
  simp only [List.length_map]
  have hs : specO L = if W.length < 4 ∨ H.length ≠ 2 then badO
      else if W.getD 1 [] = [119, 114, 105, 116, 101] then chkO (l3V (str (H.getD 0 []))) (l3V (str (H.getD 1 []))) 1 (l3V (str (W.getD 2 []))) 0 (l3V (str (W.getD (W.length - 1) []))) L
      else if W.getD 1 [] = [115, 119, 97, 112] then chkO (l3V (str (H.getD 0 []))) (l3V (str (H.getD 1 []))) 2 (l3V (str (W.getD 2 []))) (l3V (str (W.getD 3 []))) (l3V (str (W.getD (W.length - 1) []))) L
      else chkO (l3V (str (H.getD 0 []))) (l3V (str (H.getD 1 []))) 0 (l3V (str (W.getD 2 []))) 0 (l3V (str (W.getD (W.length - 1) []))) L := by
    unfold specO; rw [← hW, ← hH]
  rw [hs]
  by_cases h4 : W.length < 4
  · rw [if_pos (.inl h4)]
    simp only [if_pos (show (W.length : Int) < 4 by omega)]
    exact ev_shift (ev_val fun k => by simp only [spec_ParseOp.j0, if_true]; rfl)
  · simp only [if_neg (show ¬ ((W.length : Int) < 4) by omega)]
    by_cases h2 : H.length = 2
    · rw [if_neg (by omega)]
      have hb : ((H.length : Int) != 2) = false := by rw [h2]; rfl
      refine ev_shift ?_
      have x0 := rdW H 0 (by omega)
      have x1 := rdW H 1 (by omega)
      have y1 := rdW W 1 (by omega)
      have y2 := rdW W 2 (by omega)
      have y3 := rdW W 3 (by omega)
      have yl := rdW W (W.length - 1) (by omega)
      rw [show ((W.length - 1 : Nat) : Int) = (W.length : Int) - 1 by omega] at yl
      have e1 := w64 (show -9223372036854775808 ≤ (W.length : Int) - 1 by omega) (by omega)
      have c0 : ((0 : Nat) : Int) = 0 := rfl
      have c1 : ((1 : Nat) : Int) = 1 := rfl
      have c2 : ((2 : Nat) : Int) = 2 := rfl
      have c3 : ((3 : Nat) : Int) = 3 := rfl
      rw [c0] at x0
      rw [c1] at x1 y1
      rw [c2] at y2
      rw [c3] at y3
      simp only [spec_ParseOp.j0, hb, Bool.false_eq_true, if_false, List.length_map, if_pos (show 0 < (H.length : Int) by omega), x0]
      refine Ev.bind (spec_l3Num.ev _) ?_
      simp only [if_pos (show 1 < (H.length : Int) by omega), x1]
      refine Ev.bind (spec_l3Num.ev _) ?_
      simp only [if_pos (show 2 < (W.length : Int) by omega), y2]
      refine Ev.bind (spec_l3Num.ev _) ?_
      simp only [e1, if_pos (show 0 ≤ (W.length : Int) - 1 by omega), if_pos (show (W.length : Int) - 1 < (W.length : Int) by omega), yl]
      refine Ev.bind (spec_l3Num.ev _) ?_
      simp only [if_pos (show 1 < (W.length : Int) by omega), y1, str_toList]
      by_cases k1 : W.getD 1 [] = [119, 114, 105, 116, 101]
      · simp only [if_pos k1]
        exact spec_ParseOp.j1ev L _ _ _ _ _ _
      · simp only [if_neg k1]
        by_cases k2 : W.getD 1 [] = [115, 119, 97, 112]
        · simp only [if_pos k2, if_pos (show 3 < (W.length : Int) by omega), y3]
          refine Ev.bind (spec_l3Num.ev _) ?_
          exact spec_ParseOp.j1ev L _ _ _ _ _ _
        · simp only [if_neg k2]
          exact spec_ParseOp.j1ev L _ _ _ _ _ _
    · rw [if_pos (.inr h2)]
      have hb : ((H.length : Int) != 2) = true := by simp; omega
      exact ev_shift (ev_val fun k => by simp only [spec_ParseOp.j0, hb, if_true]; rfl)

theorem splA_le : ∀ (l : List UInt8) (c : UInt8) (cur : List UInt8), ∀ x ∈ splA l c cur, x.length ≤ l.length + cur.length
  | [], c, cur, x, h => by simp [splA] at h; subst h; simp
  | b :: l, c, cur, x, h => by
    rw [splA_cons] at h
    split at h
    · rcases List.mem_cons.1 h with rfl | h
      · simp
      · have := splA_le l c [] x h
        simp at this ⊢; omega
    · have := splA_le l c (cur ++ [b]) x h
      simp at this ⊢; omega
theorem spl_le (l : List UInt8) (c : UInt8) (i : Nat) : ((spl l c).getD i []).length ≤ l.length := by
  by_cases h : i < (spl l c).length
  · have h2 : (spl l c).getD i [] = (spl l c)[i] := by simp [h]
    rw [h2]
    have := splA_le l c [] _ (List.getElem_mem h)
    simpa using this
  · rw [show (spl l c).getD i [] = [] by simp [Nat.le_of_not_lt h]]; simp
def opE (q : Int × Int × Int × Int × Int × Int × Bool) : S64 := ⟨q.1, q.2.1, q.2.2.1, q.2.2.2.1, q.2.2.2.2.1, q.2.2.2.2.2.1⟩
/-- What the reference reads of a piece, and what the program reads. -/
noncomputable def entS (p : List UInt8) : S66 := ⟨l3V (str ((spl p 58).getD 0 [])), opE (specO ((spl p 58).getD ((spl p 58).length - 1) []))⟩
noncomputable def entI (p : List UInt8) : S66 := ⟨numV (str (cutA p 58)), opE (implO (cutB p 58))⟩
/-- The end of both: the text is looked at again. -/
def finL (b : Bool) (xs : List S66) (L : List UInt8) : List S66 × Bool := if L = [] then ([], false) else if (if b = true then logL xs else []) = L then (xs, true) else ([], false)
theorem opL_free (a b c d e f : Int) (hv : vop a b c d e f = true) : ∀ z ∈ opL a b c d e f, z ≠ 58 ∧ z ≠ 59 := by
  simp only [vop, decide_eq_true_eq] at hv
  have key : ∀ x : Int, 0 ≤ x → ∀ z ∈ Lib.itoa x, z ≠ 58 ∧ z ≠ 59 := fun x hx z hz => by
    have := itoa_dig x hx z hz
    constructor
    · intro e; rw [e] at this; exact absurd this.2 (by decide)
    · intro e; rw [e] at this; exact absurd this.2 (by decide)
  have ka := key a (by omega)
  have kb := key b (by omega)
  have kd := key d (by omega)
  have ke := key e (by omega)
  have kf := key f (by omega)
  intro z hz
  unfold opL at hz
  split at hz
  · simp only [List.mem_append] at hz
    rcases hz with ((h | h) | h) | (((((h | h) | h) | h) | h) | h)
    · exact ka z h
    · rw [List.mem_singleton] at h; subst h; decide
    · exact kb z h
    · have : ∀ z ∈ ([32, 115, 119, 97, 112, 32] : List UInt8), z ≠ 58 ∧ z ≠ 59 := by decide
      exact this z h
    · exact kd z h
    · rw [List.mem_singleton] at h; subst h; decide
    · exact ke z h
    · rw [List.mem_singleton] at h; subst h; decide
    · exact kf z h
  · simp only [List.mem_append] at hz
    rcases hz with ((h | h) | h) | (((h | h) | h) | h)
    · exact ka z h
    · rw [List.mem_singleton] at h; subst h; decide
    · exact kb z h
    · have : ∀ z ∈ ([32, 119, 114, 105, 116, 101, 32] : List UInt8), z ≠ 58 ∧ z ≠ 59 := by decide
      exact this z h
    · exact kd z h
    · rw [List.mem_singleton] at h; subst h; decide
    · exact kf z h
theorem entL_eq (x : S66) (hv : vop x.f1.f0 x.f1.f1 x.f1.f2 x.f1.f3 x.f1.f4 x.f1.f5 = true) : entL x = Lib.itoa x.f0 ++ 58 :: opL x.f1.f0 x.f1.f1 x.f1.f2 x.f1.f3 x.f1.f4 x.f1.f5 := by
  unfold entL fopL
  rw [if_pos hv]
  simp
theorem itoa_free2 (x : Int) (h : 0 ≤ x) (c : UInt8) (hc : 57 < c.toNat) : ∀ b ∈ Lib.itoa x, b ≠ c := by
  intro b hb e
  have := itoa_dig x h b hb
  rw [e] at this
  omega
theorem entL_free (x : S66) (h0 : 0 ≤ x.f0) (hv : vop x.f1.f0 x.f1.f1 x.f1.f2 x.f1.f3 x.f1.f4 x.f1.f5 = true) : ∀ z ∈ entL x, z ≠ 59 := by
  rw [entL_eq x hv]
  intro z hz
  rcases List.mem_append.1 hz with h | h
  · exact itoa_free2 x.f0 h0 59 (by decide) z h
  · rcases List.mem_cons.1 h with rfl | h
    · decide
    · exact (opL_free _ _ _ _ _ _ hv z h).2
/-- A valid entry's text is read back, by both. -/
theorem ent_back (x : S66) (h0 : 0 ≤ x.f0) (h1 : x.f0 ≤ 20) (hv : vop x.f1.f0 x.f1.f1 x.f1.f2 x.f1.f3 x.f1.f4 x.f1.f5 = true) : entS (entL x) = x ∧ entI (entL x) = x := by
  have hf := itoa_free2 x.f0 h0 58 (by decide)
  have hs : spl (entL x) 58 = [Lib.itoa x.f0, opL x.f1.f0 x.f1.f1 x.f1.f2 x.f1.f3 x.f1.f4 x.f1.f5] := by
    rw [entL_eq x hv, spl_word _ _ _ hf, spl_last _ _ (fun z hz => (opL_free _ _ _ _ _ _ hv z hz).1)]
  have hc := fstB_free (Lib.itoa x.f0) 58 (opL x.f1.f0 x.f1.f1 x.f1.f2 x.f1.f3 x.f1.f4 x.f1.f5) hf
  have ha : cutA (entL x) 58 = Lib.itoa x.f0 := by
    rw [entL_eq x hv]; unfold cutA; rw [hc, if_pos (by simp)]; simp
  have hb : cutB (entL x) 58 = opL x.f1.f0 x.f1.f1 x.f1.f2 x.f1.f3 x.f1.f4 x.f1.f5 := by
    rw [entL_eq x hv]; unfold cutB; rw [hc, if_pos (by simp)]
    rw [List.drop_append, List.drop_eq_nil_of_le (by omega)]
    simp
  constructor
  · unfold entS
    rw [hs]
    simp only [List.length_cons, List.length_nil, List.getD_cons_zero, List.getD_cons_succ, specO_valid _ _ _ _ _ _ hv, l3V_itoa x.f0 h0 (by omega), opE]
  · unfold entI
    rw [ha, hb]
    simp only [implO_valid _ _ _ _ _ _ hv, numV_itoa x.f0 h0 (by omega), opE]
theorem spl_join : ∀ (x : List UInt8) (W : List (List UInt8)), (∀ w ∈ x :: W, ∀ z ∈ w, z ≠ 59) → spl (x ++ Lib.joinTail [59] W) 59 = x :: W
  | x, [], h => by
    rw [show Lib.joinTail [59] ([] : List (List UInt8)) = [] from rfl, List.append_nil]
    exact spl_last x 59 (h x (by simp))
  | x, y :: W, h => by
    have e : Lib.joinTail [59] (y :: W) = 59 :: (y ++ Lib.joinTail [59] W) := by simp [Lib.joinTail]
    rw [e, spl_word x 59 _ (h x (by simp)), spl_join y W (fun w hw => h w (by simp [List.mem_cons.1 hw]))]
theorem isLog_get (xs : List S66) (hv : isLog xs) (x : S66) (hx : x ∈ xs) : (0 ≤ x.f0 ∧ x.f0 ≤ 20) ∧ vop x.f1.f0 x.f1.f1 x.f1.f2 x.f1.f3 x.f1.f4 x.f1.f5 = true := by
  obtain ⟨j, hj, rfl⟩ := List.mem_iff_getElem.1 hx
  obtain ⟨h1, h2, _⟩ := hv.1 j hj
  rw [rdE xs j hj] at h1 h2
  exact ⟨⟨by omega, h1.2⟩, h2⟩
/-- The pieces of a log's text are its entries' texts. -/
theorem log_pieces (xs : List S66) (hv : isLog xs) (hn : xs ≠ []) : spl (logL xs) 59 = xs.map entL := by
  unfold logL
  rw [if_neg (fun h => hn (List.length_eq_zero_iff.1 h))]
  cases xs with
  | nil => exact absurd rfl hn
  | cons x r =>
    rw [List.map_cons, Lib.join_cons]
    refine spl_join _ _ fun w hw => ?_
    rw [← List.map_cons] at hw
    obtain ⟨y, hy, rfl⟩ := List.mem_map.1 hw
    obtain ⟨h1, h2⟩ := isLog_get _ hv y hy
    exact entL_free y h1.1 h2
theorem map_back (P : List (List UInt8)) (e : List UInt8 → S66) (h : P = (P.map e).map entL) : ∀ p ∈ P, p = entL (e p) := by
  intro p hp
  obtain ⟨j, hj, rfl⟩ := List.mem_iff_getElem.1 hp
  have h2 : P[j]? = ((P.map e).map entL)[j]? := by rw [← h]
  rw [List.getElem?_eq_getElem hj, List.getElem?_map, List.getElem?_map, List.getElem?_eq_getElem hj] at h2
  simpa using h2
theorem par_eq (L : List UInt8) (bS bI : Bool) (qS : bS = true ↔ isLog (((spl L 59).take 17).map entS)) (qI : bI = true ↔ isLog ((spl L 59).map entI)) :
    finL bS (((spl L 59).take 17).map entS) L = finL bI ((spl L 59).map entI) L := by
  by_cases h0 : L = []
  · unfold finL; rw [if_pos h0, if_pos h0]
  have hP := (splA_len L 59 []).1
  have hP' : 1 ≤ (spl L 59).length := hP
  have key : ((bS = true ∧ logL (((spl L 59).take 17).map entS) = L) ∨ (bI = true ∧ logL ((spl L 59).map entI) = L)) → ((spl L 59).take 17).map entS = (spl L 59).map entI := by
    rintro (⟨h1, h2⟩ | ⟨h1, h2⟩)
    · have hl := qS.1 h1
      have h17 : (spl L 59).take 17 = spl L 59 := by
        refine List.take_of_length_le ?_
        have := hl.2
        rw [List.length_map, List.length_take] at this
        omega
      rw [h17] at hl h2 ⊢
      have hp := log_pieces _ hl (by intro h; have := congrArg List.length h; simp at this; rw [this] at hP'; simp at hP')
      rw [h2] at hp
      have hb := map_back _ _ hp
      refine List.map_congr_left fun p hp' => ?_
      obtain ⟨a1, a2⟩ := isLog_get _ hl (entS p) (List.mem_map.2 ⟨p, hp', rfl⟩)
      have := (ent_back (entS p) a1.1 a1.2 a2).2
      rw [← hb p hp'] at this
      exact this.symm
    · have hl := qI.1 h1
      have h17 : (spl L 59).take 17 = spl L 59 := by
        refine List.take_of_length_le ?_
        have := hl.2
        rw [List.length_map] at this
        omega
      rw [h17]
      have hp := log_pieces _ hl (by intro h; have := congrArg List.length h; simp at this; rw [this] at hP'; simp at hP')
      rw [h2] at hp
      have hb := map_back _ _ hp
      refine List.map_congr_left fun p hp' => ?_
      obtain ⟨a1, a2⟩ := isLog_get _ hl (entI p) (List.mem_map.2 ⟨p, hp', rfl⟩)
      have := (ent_back (entI p) a1.1 a1.2 a2).1
      rw [← hb p hp'] at this
      exact this
  have yes : ∀ (b : Bool) (xs : List S66), b = true ∧ logL xs = L → finL b xs L = (xs, true) := fun b xs h => by
    unfold finL; rw [if_neg h0, if_pos (by rw [if_pos h.1]; exact h.2)]
  have no : ∀ (b : Bool) (xs : List S66), ¬ (b = true ∧ logL xs = L) → finL b xs L = ([], false) := fun b xs h => by
    unfold finL; rw [if_neg h0]
    refine if_neg fun h2 => ?_
    by_cases hb : b = true
    · rw [if_pos hb] at h2; exact h ⟨hb, h2⟩
    · rw [if_neg hb] at h2; exact h0 h2.symm
  by_cases hS : bS = true ∧ logL (((spl L 59).take 17).map entS) = L
  · have e := key (.inl hS)
    have hI : bI = true ∧ logL ((spl L 59).map entI) = L := by
      rw [← e]; exact ⟨by rw [qI, ← e]; exact qS.1 hS.1, hS.2⟩
    rw [yes _ _ hS, yes _ _ hI, e]
  · have hI : ¬ (bI = true ∧ logL ((spl L 59).map entI) = L) := fun hI => by
      have e := key (.inr hI)
      exact hS (by rw [e]; exact ⟨by rw [qS, e]; exact qI.1 hI.1, hI.2⟩)
    rw [no _ _ hS, no _ _ hI]

theorem spec_ParseLog.l0ev (L : List UInt8) (hn : L.length ≤ 1048576) (b : Bool) (hb : Ev (fun k => spec_IsLog.f k (((spl L 59).take 17).map entS)) b) (hq : b = true ↔ isLog (((spl L 59).take 17).map entS)) :
    ∀ d i : Nat, i + d = min (spl L 59).length 17 → Ev (fun k => spec_ParseLog.l0 k (str L) (((spl L 59).take i).map entS) ((spl L 59).map str) (i : Int)) (finL b (((spl L 59).take 17).map entS) L) := by
  intro d
  induction d with
  | zero =>
    intro i h
    have ht : (spl L 59).take i = (spl L 59).take 17 := by
      rcases Nat.le_total (spl L 59).length 17 with h6 | h6
      · rw [List.take_of_length_le (by omega), List.take_of_length_le (by omega)]
      · rw [show i = 17 by omega]
    rw [ht]
    have fin : Ev (fun k => spec_ParseLog.j1 k (str L) (((spl L 59).take 17).map entS) ((spl L 59).map str) (i : Int) false) (finL b (((spl L 59).take 17).map entS) L) := by
      refine ev_shift ?_
      simp only [spec_ParseLog.j1, Bool.false_eq_true, if_false, str_toList]
      unfold finL
      by_cases h0 : L = []
      · simp only [if_pos h0]; exact Ev.now _
      · simp only [if_neg h0]
        refine Ev.bind (spec_FormatLog.ev _ (by rw [List.length_map, List.length_take]; omega) b hb hq) (ev_val fun _ => ?_)
        rw [str_toList]
        by_cases h2 : (if b = true then logL (((spl L 59).take 17).map entS) else []) = L
        · rw [if_pos h2, if_pos h2]
        · rw [if_neg h2, if_neg h2]
    refine ev_shift ?_
    by_cases hi : (i : Int) < ((spl L 59).length : Int)
    · simp only [spec_ParseLog.l0, List.length_map, if_pos hi, decide_eq_false (show ¬ ((i : Int) ≤ 16) by omega)]
      exact fin
    · simp only [spec_ParseLog.l0, List.length_map, if_neg hi]
      exact fin
  | succ d ih =>
    intro i h
    have e1 := w64 (show -9223372036854775808 ≤ (i : Int) + 1 by omega) (by omega)
    have hi : i < (spl L 59).length := by omega
    have hI := ih (i + 1) (by omega)
    rw [List.take_succ_eq_append_getElem hi, List.map_append] at hI
    have hp : (spl L 59).getD i [] = (spl L 59)[i] := by simp [hi]
    have hpl := spl_le L 59 i
    rw [hp] at hpl
    have hr := rdW (spl L 59) i hi
    rw [hp] at hr
    generalize (spl L 59)[i] = p at hI hpl hr
    refine ev_shift ?_
    simp only [spec_ParseLog.l0, List.length_map, if_pos (show (i : Int) < ((spl L 59).length : Int) by omega), decide_eq_true (show (i : Int) ≤ 16 by omega)]
    refine ev_shift ?_
    simp only [spec_ParseLog.j1, List.length_map, if_true, if_pos (show (0 : Int) ≤ (i : Int) by omega), if_pos (show (i : Int) < ((spl L 59).length : Int) by omega), hr]
    have h58 : Ev (fun k => spec_l2Cut.f k (str p) 58) ((spl p 58).map str) := spec_l2Cut.ev p 58 (by omega)
    refine Ev.bind h58 ?_
    have hl := (splA_len p 58 []).1
    have hl2 := (splA_len p 58 []).2
    have hl' : 1 ≤ (spl p 58).length := hl
    have hl2' : (spl p 58).length ≤ p.length + 1 := hl2
    have e2 : wrap64 (((spl p 58).length : Int) - 1) = (((spl p 58).length - 1 : Nat) : Int) := by rw [w64 (by omega) (by omega)]; omega
    simp only [List.length_map, e2, if_pos (show (0 : Int) ≤ (((spl p 58).length - 1 : Nat) : Int) by omega), if_pos (show (((spl p 58).length - 1 : Nat) : Int) < ((spl p 58).length : Int) by omega), rdW (spl p 58) _ (show (spl p 58).length - 1 < (spl p 58).length by omega)]
    refine Ev.bind (spec_ParseOp.ev _ (Nat.le_trans (spl_le p 58 _) (by omega))) ?_
    have hr0 := rdW (spl p 58) 0 (by omega)
    simp only [if_pos (show (0 : Int) < ((spl p 58).length : Int) by omega), show rdOf ByteArray.empty ((spl p 58).map str) 0 = str ((spl p 58).getD 0 []) from hr0]
    refine Ev.bind (spec_l3Num.ev _) ?_
    simp only [if_pos (show ((spl L 59).take i).length < 2513169434916 by rw [List.length_take]; omega), List.length_map, e1]
    exact hI
theorem spec_ParseLog.ev (L : List UInt8) (hn : L.length ≤ 1048576) (b : Bool) (hb : Ev (fun k => spec_IsLog.f k (((spl L 59).take 17).map entS)) b) (hq : b = true ↔ isLog (((spl L 59).take 17).map entS)) :
    Ev (fun k => spec_ParseLog.f k (str L)) (if L = [110, 111, 110, 101] then ([], true) else finL b (((spl L 59).take 17).map entS) L) := by
  simp only [spec_ParseLog.f, Option.bind_some, str_toList]
  by_cases h : L = [110, 111, 110, 101]
  · simp only [if_pos h]; exact Ev.now _
  · simp only [if_neg h]
    have h59 : Ev (fun k => spec_l2Cut.f k (str L) 59) ((spl L 59).map str) := spec_l2Cut.ev L 59 (by omega)
    refine Ev.bind h59 ?_
    simpa using spec_ParseLog.l0ev L hn b hb hq (min (spl L 59).length 17) 0 (by omega)

theorem impl_within.val (a b c : Int) : impl_within.f a b c = some (decide (b ≤ a ∧ a ≤ c)) := by
  unfold impl_within.f
  by_cases h : b ≤ a <;> simp [h]

theorem impl_IsValidOp.val (a b c d e f : Int) : impl_IsValidOp.f a b c d e f = some (vop a b c d e f) := by
  unfold impl_IsValidOp.f vop
  simp only [impl_within.val, Option.bind_some]
  by_cases h1 : 0 ≤ a ∧ a ≤ 2
  · by_cases h2 : 1 ≤ b ∧ b ≤ 99
    · by_cases h3 : 0 ≤ d ∧ d ≤ 2
      · by_cases h4 : 0 ≤ f ∧ f ≤ 9
        · simp only [decide_eq_true h1, decide_eq_true h2, decide_eq_true h3, decide_eq_true h4, if_true]
          by_cases hc : c = 1
          · by_cases he : e = 0
            · simp [hc, he, h1, h2, h3, h4]
            · simp [hc, he, h1, h2, h3, h4]
          · by_cases hc2 : c = 2
            · simp [hc2, h1, h2, h3, h4]
            · simp [hc, hc2]
        · simp only [decide_eq_true h1, decide_eq_true h2, decide_eq_true h3, decide_eq_false h4, if_true, Bool.false_eq_true, if_false]
          simp; intros; omega
      · simp only [decide_eq_true h1, decide_eq_true h2, decide_eq_false h3, if_true, Bool.false_eq_true, if_false]
        simp; intros; omega
    · simp only [decide_eq_true h1, decide_eq_false h2, if_true, Bool.false_eq_true, if_false]
      simp; intros; omega
  · simp only [decide_eq_false h1, Bool.false_eq_true, if_false]
    simp; intros; omega

theorem impl_IsLog.ev (xs : List S66) (hn : xs.length ≤ 9223372036854775806) : ∃ b, Ev (fun k => impl_IsLog.f k xs) b ∧ (b = true ↔ isLog xs) := by
  refine ⟨decide (vL_impl xs), ev_val fun _ => rfl, decide_eq_true_iff.trans ?_⟩
  simp only [vL_impl, isLog, okE_impl, okAt, impl_IsValidOp.val, Option.some.injEq]
  exact And.comm

theorem impl_FormatInt.val (a : Int) (h0 : -9223372036854775808 ≤ a) (h1 : a ≤ 9223372036854775807) : impl_FormatInt.f a = some (str (Lib.itoa a)) := by
  simp only [impl_FormatInt.f, strconv_Itoa.f, if_pos (show -9223372036854775808 ≤ a ∧ a ≤ 9223372036854775807 from ⟨h0, h1⟩), Option.bind_some]
  rfl

theorem impl_FormatOp.val (a b c d e f : Int) : impl_FormatOp.f a b c d e f = some (str (fopL a b c d e f)) := by
  cases hv : vop a b c d e f with
  | false => simp only [impl_FormatOp.f, impl_IsValidOp.val, hv, Option.bind_some, Bool.false_eq_true, if_false, fopL]; rfl
  | true =>
    have hq := hv
    simp only [vop, decide_eq_true_eq] at hq
    have h0 := impl_FormatInt.val a (by omega) (by omega)
    have h1 := impl_FormatInt.val b (by omega) (by omega)
    have h3 := impl_FormatInt.val d (by omega) (by omega)
    have h4 := impl_FormatInt.val e (by omega) (by omega)
    have h5 := impl_FormatInt.val f (by omega) (by omega)
    have l0 := itoa_len a (by omega) (by omega)
    have l1 := itoa_len b (by omega) (by omega)
    have l3 := itoa_len d (by omega) (by omega)
    have l4 := itoa_len e (by omega) (by omega)
    have l5 := itoa_len f (by omega) (by omega)
    rcases (show (c = 1 ∧ ¬ c = 2) ∨ (c = 2 ∧ ¬ c = 1) by omega) with ⟨hc, hn⟩ | ⟨hc, hn⟩
    · simp only [impl_FormatOp.f, impl_IsValidOp.val, hv, Option.bind_some, if_true, h0, h1, h3, h5, if_neg hn, str_lit, str_append, str_size, List.length_append, List.length_cons, List.length_nil]
      simp (disch := omega) only [if_pos]
      simp only [fopL, hv, if_true, opL, if_neg hn, List.append_assoc, List.cons_append, List.nil_append]
    · simp only [impl_FormatOp.f, impl_IsValidOp.val, hv, Option.bind_some, if_true, h0, h1, h3, h4, h5, if_pos hc, str_lit, str_append, str_size, List.length_append, List.length_cons, List.length_nil]
      simp (disch := omega) only [if_pos]
      simp only [fopL, hv, if_true, opL, if_pos hc, List.append_assoc, List.cons_append, List.nil_append]

theorem strings_Join.val (ls : List (List UInt8)) (sep : List UInt8) (h1 : ls.length ≤ 140737488355328) (h2 : (Lib.join ls sep).length ≤ 140737488355328) : strings_Join.f (ls.map str) (str sep) = some (str (Lib.join ls sep)) := by
  have e : (ls.map str).map (·.data.toList) = ls := by rw [List.map_map]; conv => rhs; rw [← List.map_id ls]
                                                       apply List.map_congr_left; intro l _; simp [str]
  have e2 : (str sep).data.toList = sep := by simp [str]
  simp only [strings_Join.f, e, e2, List.length_map]
  rw [if_pos ⟨h1, h2⟩]
  rfl

theorem joinL_len (xs : List S66) (hv : isLog xs) : (Lib.join (xs.map entL) [59]).length ≤ 400 * 16 := by
  have h16 := hv.2
  have key : ∀ d i : Nat, i + d = xs.length → (restL xs i).length ≤ 400 * d := by
    intro d
    induction d with
    | zero => intro i h; obtain rfl : i = xs.length := by omega
              rw [restL_end]; simp
    | succ d ih =>
      intro i h
      have hi : i < xs.length := by omega
      have hep := isLog_epoch xs hv i hi
      have hl := itoa_len xs[i].f0 (by omega) (by omega)
      have hl2 := fopL_len xs[i].f1.f0 xs[i].f1.f1 xs[i].f1.f2 xs[i].f1.f3 xs[i].f1.f4 xs[i].f1.f5
      have := ih (i + 1) (by omega)
      rw [restL_step xs i hi, List.length_append]
      split <;> simp only [entL, List.length_append, List.length_cons, List.length_nil] <;> omega
  have := key xs.length 0 (by omega)
  simp only [restL, if_true] at this
  omega
theorem impl_FormatLog.l0ev (xs : List S66) (hv : isLog xs) :
    ∀ s : Nat, s ≤ xs.length → Ev (fun k => impl_FormatLog.l0 k ((xs.take s).map fun x => str (entL x)) xs (xs.length : Int) (s : Int)) (str (Lib.join (xs.map entL) [59])) := by
  refine loop_ev (fun k (s : Nat) => impl_FormatLog.l0 k ((xs.take s).map fun x => str (entL x)) xs (xs.length : Int) (s : Int)) _ (fun s => xs.length - s) (fun _ => str (Lib.join (xs.map entL) [59])) ?_
  intro i h1
  have h16 := hv.2
  by_cases hi : i < xs.length
  · have hep := isLog_epoch xs hv i hi
    have hl := itoa_len xs[i].f0 (by omega) (by omega)
    have hl2 := fopL_len xs[i].f1.f0 xs[i].f1.f1 xs[i].f1.f2 xs[i].f1.f3 xs[i].f1.f4 xs[i].f1.f5
    have f1 := impl_FormatInt.val xs[i].f0 (by omega) (by omega)
    have e1 := w64 (show -9223372036854775808 ≤ (i : Int) + 1 by omega) (by omega)
    have ht : (xs.take i).length = i := by rw [List.length_take]; omega
    refine .inr ⟨i + 1, by omega, by omega, rfl, fun r hr => ev_shift ?_⟩
    refine Ev.congr (fun k => ?_) hr
    simp only [impl_FormatLog.l0, if_pos (show (i : Int) < (xs.length : Int) by omega), if_pos (show (0 : Int) ≤ (i : Int) by omega), rdE xs i hi, f1, impl_FormatOp.val, Option.bind_some, str_lit, str_append, str_size, List.length_append, List.length_cons, List.length_nil, List.length_map, ht, e1]
    simp (disch := omega) only [if_pos]
    rw [List.take_succ_eq_append_getElem hi, List.map_append]
    simp only [entL, List.map_cons, List.map_nil, List.append_assoc]
    rfl
  · refine .inl (ev_shift (ev_val fun k => ?_))
    obtain rfl : i = xs.length := by omega
    have hj := strings_Join.val (xs.map entL) [59] (by simp; omega) (by have := joinL_len xs hv; omega)
    rw [List.map_map] at hj
    simp only [impl_FormatLog.l0, if_neg (show ¬ ((xs.length : Int) < (xs.length : Int)) by omega), List.take_length, str_lit]
    rw [show (fun x => str (entL x)) = (str ∘ entL) from rfl, hj]
    rfl
theorem impl_FormatLog.ev (xs : List S66) (hn : xs.length ≤ 1048577) (b : Bool) (hb : Ev (fun k => impl_IsLog.f k xs) b) (hq : b = true ↔ isLog xs) : Ev (fun k => impl_FormatLog.f k xs) (str (if b = true then logL xs else [])) := by
  refine Ev.bind hb ?_
  cases b with
  | false => exact ev_val fun _ => rfl
  | true =>
    simp only [if_true, logL]
    by_cases h : xs.length = 0
    · simp only [if_pos h, if_pos (show (xs.length : Int) = 0 by omega)]; exact Ev.now _
    · simp only [if_neg h, if_neg (show ¬ ((xs.length : Int) = 0) by omega)]
      have := impl_FormatLog.l0ev xs (hq.1 rfl) 0 (by omega)
      simpa using this





theorem internal_stringslite_Index.val (l : List UInt8) (c : UInt8) : internal_stringslite_Index.f (str l) ⟨#[c]⟩ = some (if fstB l c < l.length then (fstB l c : Int) else -1) := by
  simp only [internal_stringslite_Index.f, str_data_, indexByte_fst]

theorem strings_Index.val (l : List UInt8) (c : UInt8) : strings_Index.f (str l) ⟨#[c]⟩ = some (if fstB l c < l.length then (fstB l c : Int) else -1) := by
  simp only [strings_Index.f, internal_stringslite_Index.val, Option.bind_some]

theorem strings_genSplit.step (c : UInt8) (N m i k : Nat) (l : List UInt8) (a : List ByteArray) (hx : strings_Index.f (str l) ⟨#[c]⟩ = some (m : Int)) (hm : m < l.length) (hl : l.length ≤ 1000000000) (hi : i < N) (hN : N ≤ 1000000001) (ha : a.length = N + 1) :
    strings_genSplit.l0 (k + 1) (str l) ⟨#[c]⟩ 0 (N : Int) a (i : Int) = strings_genSplit.l0 k (str (l.drop (m + 1))) ⟨#[c]⟩ 0 (N : Int) (a.set i (str (l.take m))) ((i : Int) + 1) := by
  have p0 : (i : Int) < (N : Int) := by omega
  have p1 : ¬ ((m : Int) < 0) := by omega
  have p2 : (0 : Int) ≤ (m : Int) := by omega
  have p3 : (m : Int) ≤ (l.length : Int) := by omega
  have p4 : (0 : Int) ≤ (i : Int) := by omega
  have p5 : (i : Int) < (a.length : Int) := by omega
  have p6 : (0 : Int) ≤ (m : Int) + 1 := by omega
  have p7 : (m : Int) + 1 ≤ (l.length : Int) := by omega
  have e4 : ((m : Int) + 1).toNat = m + 1 := by omega
  have e1 : wrap64 ((i : Int) + 1) = (i : Int) + 1 := w64 (by omega) (by omega)
  have e2 : wrap64 ((m : Int) + 0) = (m : Int) := by rw [Int.add_zero]; exact w64 (by omega) (by omega)
  have e3 : wrap64 ((m : Int) + ((⟨#[c]⟩ : ByteArray).size : Int)) = (m : Int) + 1 := by
    rw [show ((⟨#[c]⟩ : ByteArray).size : Int) = 1 from rfl]; exact w64 (by omega) (by omega)
  have x1 : (str l).extract (m + 1) l.length = str (l.drop (m + 1)) := by rw [str_extract, List.take_of_length_le (by rw [List.length_drop]; omega)]
  have x2 : (str l).extract 0 m = str (l.take m) := by rw [str_extract, List.drop_zero, Nat.sub_zero]
  have e5 : (m : Int).toNat = m := by omega
  generalize (m : Int) = q at hx p1 p2 p3 p6 p7 e2 e3 e4 e5
  simp -implicitDefEqProofs only [strings_genSplit.l0, if_pos p0, hx, Option.bind_some, if_neg p1, e2, if_pos p2, str_size, if_pos p3, if_pos p4, if_pos p5, e3, if_pos p6, if_pos p7, e4, x1, e1, e5, Int.toNat_natCast, x2]
theorem strings_genSplit.l0ev (c : UInt8) (N : Nat) (hN : N ≤ 1000000001) :
    ∀ d i : Nat, i + d = N → ∀ (l : List UInt8) (a : List ByteArray), l.length ≤ 1000000000 → a.length = N + 1 → Lib.countByte l c = d → Ev (fun k => strings_genSplit.l0 k (str l) ⟨#[c]⟩ 0 (N : Int) a (i : Int)) (a.take i ++ (splA l c []).map str) := by
  intro d
  induction d with
  | zero =>
    intro i h l a hl ha hc
    obtain rfl : i = N := by omega
    have hf : ¬ fstB l c < l.length := fun h' => by rw [count_fst, if_pos h'] at hc; omega
    refine ev_shift (ev_val fun k => ?_)
    have e1 := w64 (show -9223372036854775808 ≤ (i : Int) + 1 by omega) (by omega)
    have e2 : ((i : Int) + 1).toNat = i + 1 := by omega
    simp -implicitDefEqProofs only [strings_genSplit.l0, if_neg (show ¬ ((i : Int) < (i : Int)) by omega), if_pos (show 0 ≤ (i : Int) by omega), if_pos (show (i : Int) < (a.length : Int) by omega), e1, if_pos (show 0 ≤ (i : Int) + 1 by omega), if_pos (show (i : Int) + 1 ≤ (a.length : Int) by omega), e2, Int.toNat_natCast]
    rw [splA_fst, if_neg hf, List.take_succ_eq_append_getElem (by simp; omega), List.take_set_of_le (Nat.le_refl _)]
    simp
  | succ d ih =>
    intro i h l a hl ha hc
    have hf : fstB l c < l.length := by
      rcases Nat.lt_or_ge (fstB l c) l.length with h' | h'
      · exact h'
      · rw [count_fst, if_neg (by omega)] at hc; omega
    have hc2 : Lib.countByte (l.drop (fstB l c + 1)) c = d := by rw [count_fst, if_pos hf] at hc; omega
    have := ih (i + 1) (by omega) (l.drop (fstB l c + 1)) (a.set i (str (l.take (fstB l c)))) (by rw [List.length_drop]; omega) (by simpa using ha) hc2
    rw [show ((i + 1 : Nat) : Int) = (i : Int) + 1 by omega] at this
    refine ev_shift (Ev.congr (fun k => ?_) (ev_eq this ?_))
    · exact strings_genSplit.step c N (fstB l c) i k l a (by rw [strings_Index.val, if_pos hf]) hf hl (by omega) hN ha
    · rw [splA_fst l c [], if_pos hf, List.take_succ_eq_append_getElem (by simp; omega), List.take_set_of_le (Nat.le_refl _)]
      simp
theorem strings_Split.ev_ (l : List UInt8) (c : UInt8) (hn : l.length ≤ 1000000000) : Ev (fun k => strings_genSplit.f k (str l) ⟨#[c]⟩ 0 (-1)) ((spl l c).map str) := by
  have hcl := count_le l c
  have h1 : ¬ ((⟨#[c]⟩ : ByteArray).toList = ([] : List UInt8)) := by rw [toList_data]; simp
  have h2 : strings_Count.f (str l) ⟨#[c]⟩ = some (Lib.countByte l c : Int) := by simp only [strings_Count.f, str_data_]
  have e1 := w64 (show -9223372036854775808 ≤ (Lib.countByte l c : Int) + 1 by omega) (by omega)
  have e2 := w64 (show -9223372036854775808 ≤ (l.length : Int) + 1 by omega) (by omega)
  have e4 := w64 (show -9223372036854775808 ≤ (Lib.countByte l c : Int) by omega) (by omega)
  have e5 : ((Lib.countByte l c : Int) + 1).toNat = Lib.countByte l c + 1 := by omega
  simp -implicitDefEqProofs only [strings_genSplit.f, if_neg (show ¬ ((-1 : Int) = 0) by omega), if_neg h1, if_pos (show (-1 : Int) < 0 by omega), h2, Option.bind_some, e1]
  refine ev_shift ?_
  simp -implicitDefEqProofs only [strings_genSplit.j0, str_size, e2, if_neg (show ¬ ((l.length : Int) + 1 < (Lib.countByte l c : Int) + 1) by omega), if_pos (show 0 ≤ (Lib.countByte l c : Int) + 1 by omega), e5, if_pos (show Lib.countByte l c + 1 ≤ 17592186044416 by omega), Int.add_sub_cancel, e4]
  have := strings_genSplit.l0ev c (Lib.countByte l c) (by omega) (Lib.countByte l c) 0 (by omega) l (List.replicate (Lib.countByte l c + 1) (⟨#[]⟩ : ByteArray)) hn (by simp) rfl
  simpa [spl] using this

theorem strings_Split.ev (l : List UInt8) (c : UInt8) (hn : l.length ≤ 1000000000) : Ev (fun k => strings_Split.f k (str l) ⟨#[c]⟩) ((spl l c).map str) :=
  Ev.bind (strings_Split.ev_ l c hn) (Ev.now _)

theorem internal_stringslite_Cut.val (l : List UInt8) (c : UInt8) (hn : l.length ≤ 1000000000) : internal_stringslite_Cut.f (str l) ⟨#[c]⟩ = some (if fstB l c < l.length then (str (l.take (fstB l c)), str (l.drop (fstB l c + 1)), true) else (str l, str [], false)) := by
  simp only [internal_stringslite_Cut.f, internal_stringslite_Index.val, Option.bind_some]
  by_cases h : fstB l c < l.length
  · have e1 : wrap64 ((fstB l c : Int) + ((⟨#[c]⟩ : ByteArray).size : Int)) = (fstB l c : Int) + 1 := by
      rw [show (⟨#[c]⟩ : ByteArray).size = 1 from rfl]; exact w64 (by omega) (by omega)
    have e2 : ((fstB l c : Int) + 1).toNat = fstB l c + 1 := by omega
    simp only [if_pos h, if_pos (show (fstB l c : Int) ≥ 0 by omega), if_pos (show 0 ≤ (fstB l c : Int) by omega), str_size, if_pos (show (fstB l c : Int) ≤ (l.length : Int) by omega), e1, e2, if_pos (show 0 ≤ (fstB l c : Int) + 1 by omega), if_pos (show (fstB l c : Int) + 1 ≤ (l.length : Int) by omega), Int.toNat_natCast, str_extract, List.drop_zero, Nat.sub_zero]
    rw [List.take_of_length_le (l := l.drop (fstB l c + 1)) (by rw [List.length_drop]; omega)]
  · simp only [if_neg h, if_neg (show ¬ ((-1 : Int) ≥ 0) by omega)]
    rfl

theorem strings_Cut.val (l : List UInt8) (c : UInt8) (hn : l.length ≤ 1000000000) : strings_Cut.f (str l) ⟨#[c]⟩ = some (if fstB l c < l.length then (str (l.take (fstB l c)), str (l.drop (fstB l c + 1)), true) else (str l, str [], false)) := by
  simp only [strings_Cut.f, internal_stringslite_Cut.val l c hn, Option.bind_some]

theorem bytesOf_tail (s : ByteArray) : bytesOf (s.extract 1 s.size) = (bytesOf s).tail := by
  rw [bytesOf, bytesOf, ← List.map_tail]
  congr 1
  rw [ByteArray.data_extract, Array.toList_extract, ByteArray.size, ← Array.length_toList]
  cases s.data.toList with
  | nil => rfl
  | cons a l => simp [List.extract]
theorem impl_ParseInt.l0ev (s t : ByteArray) (g : Int) (hg : g = 1 ∨ g = -1) (ht : t.size ≤ 9) (r : Int × Bool)
    (hbad : ¬ (∀ b ∈ bytesOf t, 48 ≤ b ∧ b ≤ 57) → r = (0, false))
    (hok : (∀ b ∈ bytesOf t, 48 ≤ b ∧ b ≤ 57) → (if str (Lib.itoa (g * valD (bytesOf t))) = s then (g * valD (bytesOf t), true) else (0, false)) = r) :
    ∀ d i : Nat, i + d = t.size → (∀ b ∈ (bytesOf t).take i, 48 ≤ b ∧ b ≤ 57) → Ev (fun k => impl_ParseInt.l0 k s t g (valD ((bytesOf t).take i)) (t.size : Int) (i : Int)) r := by
  intro d
  induction d with
  | zero =>
    intro i h hd
    obtain rfl : i = t.size := by omega
    have hall : (bytesOf t).take t.size = bytesOf t := List.take_of_length_le (by rw [bytesOf_length]; omega)
    rw [hall] at hd ⊢
    have hv := valD_bound (bytesOf t) (by rw [bytesOf_length]; omega)
    have e1 : wrap64 (g * valD (bytesOf t)) = g * valD (bytesOf t) := by rcases hg with rfl | rfl <;> exact w64 (by omega) (by omega)
    have hr := hok hd
    refine ev_shift ?_
    simp only [impl_ParseInt.l0, if_neg (show ¬ ((t.size : Int) < (t.size : Int)) by omega), e1, impl_FormatInt.val (g * valD (bytesOf t)) (by rcases hg with rfl | rfl <;> omega) (by rcases hg with rfl | rfl <;> omega), Option.bind_some]
    by_cases c : str (Lib.itoa (g * valD (bytesOf t))) = s
    · rw [if_pos c] at hr
      subst hr
      exact ev_val fun k => by rw [c]; simp
    · rw [if_neg c] at hr
      subst hr
      exact ev_val fun k => by rw [if_neg (fun h => c (toList_inj' h))]
  | succ d ih =>
    intro i h hd
    have e1 := w64 (show -9223372036854775808 ≤ (i : Int) + 1 by omega) (by omega)
    obtain ⟨tb, b0, b1⟩ := take_bt t i (by omega)
    have hv := valD_bound ((bytesOf t).take i) (by rw [List.length_take]; omega)
    have hm : bt t (i : Int) ∈ bytesOf t := List.mem_of_mem_take (i := i + 1) (by rw [tb]; simp)
    refine ev_shift ?_
    by_cases c1 : bt t (i : Int) < 48
    · rw [hbad fun hh => by have := hh _ hm; omega]
      exact ev_val fun k => by simp only [impl_ParseInt.l0, if_pos (show (i : Int) < (t.size : Int) by omega), if_pos (show (0 : Int) ≤ (i : Int) by omega), if_pos c1]
    · by_cases c2 : bt t (i : Int) > 57
      · rw [hbad fun hh => by have := hh _ hm; omega]
        exact ev_val fun k => by simp only [impl_ParseInt.l0, if_pos (show (i : Int) < (t.size : Int) by omega), if_pos (show (0 : Int) ≤ (i : Int) by omega), if_neg c1, if_pos c2]
      · have hi := ih (i + 1) (by omega) (by
          rw [tb]
          intro b hb
          rcases List.mem_append.1 hb with hb | hb
          · exact hd b hb
          · rw [List.mem_singleton.1 hb]; omega)
        rw [tb, valD_snoc, if_pos (by omega)] at hi
        have e3 : wrap64 ((wrap64 (10 * valD ((bytesOf t).take i))) + ((bt t (i : Int) - 48) % 256)) = valD ((bytesOf t).take i) * 10 + (bt t (i : Int) - 48) := by
          rw [w64 (show -9223372036854775808 ≤ 10 * valD ((bytesOf t).take i) by omega) (by omega), show (bt t (i : Int) - 48) % 256 = bt t (i : Int) - 48 by omega, w64 (by omega) (by omega)]
          omega
        simp only [impl_ParseInt.l0, if_pos (show (i : Int) < (t.size : Int) by omega), if_pos (show (0 : Int) ≤ (i : Int) by omega), if_neg c1, if_neg c2, e1, e3]
        simpa using hi
theorem impl_ParseInt.ev (s : ByteArray) : (implOk s ∧ Ev (fun k => impl_ParseInt.f k s) (numB (bytesOf s), true)) ∨ (¬ implOk s ∧ Ev (fun k => impl_ParseInt.f k s) (0, false)) := by
  have j1 : ∀ (t : ByteArray) (g : Int), (g = 1 ∨ g = -1) → bytesOf t = tailB (bytesOf s) → g * valD (bytesOf t) = numB (bytesOf s) →
      (implOk s ∧ Ev (fun k => impl_ParseInt.j1 k s t g) (numB (bytesOf s), true)) ∨ (¬ implOk s ∧ Ev (fun k => impl_ParseInt.j1 k s t g) (0, false)) := by
    intro t g hg ht hn
    have hl : t.size = (tailB (bytesOf s)).length := by rw [← ht, bytesOf_length]
    by_cases c : 1 ≤ (t.size : Int) ∧ (t.size : Int) ≤ 9
    · have go : ∀ r, (¬ (∀ b ∈ bytesOf t, 48 ≤ b ∧ b ≤ 57) → r = (0, false)) → ((∀ b ∈ bytesOf t, 48 ≤ b ∧ b ≤ 57) → (if str (Lib.itoa (g * valD (bytesOf t))) = s then (g * valD (bytesOf t), true) else (0, false)) = r) → Ev (fun k => impl_ParseInt.j1 k s t g) r := by
        intro r h1 h2
        refine ev_shift ?_
        simp only [impl_ParseInt.j1, impl_within.val, Option.bind_some, decide_eq_true c, if_true]
        have := impl_ParseInt.l0ev s t g hg (by omega) r h1 h2 t.size 0 (by omega) (by simp)
        simpa [valD] using this
      by_cases hd : ∀ b ∈ bytesOf t, 48 ≤ b ∧ b ≤ 57
      · by_cases hs : str (Lib.itoa (numB (bytesOf s))) = s
        · exact .inl ⟨⟨by omega, by omega, by rw [← ht]; exact hd, hs⟩, go _ (fun h => absurd hd h) (fun _ => by rw [hn, if_pos hs])⟩
        · exact .inr ⟨fun h => hs h.2.2.2, go _ (fun _ => rfl) (fun _ => by rw [hn, if_neg hs])⟩
      · exact .inr ⟨fun h => hd (by rw [ht]; exact h.2.2.1), go _ (fun _ => rfl) (fun h => absurd h hd)⟩
    · refine .inr ⟨fun h => c (by have := h.1; have := h.2.1; omega), ev_shift (ev_val fun k => ?_)⟩
      simp only [impl_ParseInt.j1, impl_within.val, Option.bind_some, decide_eq_false c, Bool.false_eq_true, if_false]
  have hn := negB_bt s
  cases hb : negB (bytesOf s) with
  | true =>
    rw [hb] at hn
    have c : (s.size : Int) > 0 := by
      by_cases c : (s.size : Int) > 0
      · exact c
      · rw [if_neg c] at hn; exact absurd hn (by decide)
    rw [if_pos c] at hn
    have hj := j1 (s.extract 1 s.size) (-1) (.inr rfl) (by rw [bytesOf_tail, tailB, if_pos hb]) (by
      rw [numB, if_pos hb, bytesOf_tail]
      have := (valD_tailB (bytesOf s)).1
      rw [tailB, if_pos hb] at this
      rw [this]; omega)
    have hup : ∀ r, Ev (fun k => impl_ParseInt.j1 k s (s.extract 1 s.size) (-1)) r → Ev (fun k => impl_ParseInt.f k s) r := fun r hr => by
      simp only [impl_ParseInt.f, if_pos c, if_pos (show (0 : Int) < (s.size : Int) by omega), ← hn]
      refine ev_shift ?_
      simp only [impl_ParseInt.j0, if_true, if_pos (show 1 ≤ (s.size : Int) by omega)]
      exact hr
    rcases hj with ⟨h1, h2⟩ | ⟨h1, h2⟩
    · exact .inl ⟨h1, hup _ h2⟩
    · exact .inr ⟨h1, hup _ h2⟩
  | false =>
    rw [hb] at hn
    have hj := j1 s 1 (.inl rfl) (by rw [tailB, hb]; rfl) (by rw [numB, hb, Int.one_mul]; rfl)
    have hup : ∀ r, Ev (fun k => impl_ParseInt.j1 k s s 1) r → Ev (fun k => impl_ParseInt.f k s) r := fun r hr => by
      by_cases c : (s.size : Int) > 0
      · rw [if_pos c] at hn
        simp only [impl_ParseInt.f, if_pos c, if_pos (show (0 : Int) < (s.size : Int) by omega), ← hn]
        refine ev_shift ?_
        simp only [impl_ParseInt.j0, Bool.false_eq_true, if_false]
        exact hr
      · simp only [impl_ParseInt.f, if_neg c]
        refine ev_shift ?_
        simp only [impl_ParseInt.j0, Bool.false_eq_true, if_false]
        exact hr
    rcases hj with ⟨h1, h2⟩ | ⟨h1, h2⟩
    · exact .inl ⟨h1, hup _ h2⟩
    · exact .inr ⟨h1, hup _ h2⟩

theorem impl_number.ev (s : ByteArray) : Ev (fun k => impl_number.f k s) (numV s) := by
  unfold numV
  rcases impl_ParseInt.ev s with ⟨h, e⟩ | ⟨h, e⟩
  · rw [if_pos h]
    exact Ev.bind e (ev_val fun k => by simp)
  · rw [if_neg h]
    exact Ev.bind e (ev_val fun k => by simp)

theorem impl_ParseOp.j0ev (L : List UInt8) (a b c d e f : Int) : Ev (fun k => impl_ParseOp.j0 k (str L) a b c d e f) (chkO a b c d e f L) := by
  refine ev_shift (ev_val fun k => ?_)
  simp only [impl_ParseOp.j0, impl_FormatOp.val, Option.bind_some, str_toList]
  unfold chkO
  by_cases h : fopL a b c d e f = L
  · rw [if_pos h, if_pos h]
  · rw [if_neg h, if_neg h]; rfl
theorem spl_mem : ∀ (l : List UInt8) (c : UInt8) (cur : List UInt8), ∀ w ∈ splA l c cur, w.length ≤ l.length + cur.length := by
  intro l
  induction l with
  | nil => intro c cur w hw; simp [splA] at hw; simp [hw]
  | cons x l ih =>
    intro c cur w hw
    unfold splA at hw
    split at hw
    · rcases List.mem_cons.1 hw with h | h
      · rw [h]; simp only [List.length_cons]; omega
      · have := ih c [] w h; simp only [List.length_cons, List.length_nil] at *; omega
    · have := ih c _ w hw; simp only [List.length_cons, List.length_append, List.length_nil] at *; omega
theorem impl_ParseOp.ev (L : List UInt8) (hn : L.length ≤ 1048576) : Ev (fun k => impl_ParseOp.f k (str L)) (implO L) := by
  refine Ev.bind (strings_Split.ev L 32 (by omega)) ?_
  have hwl := splA_len L 32 []
  obtain ⟨W, hW⟩ : ∃ W, W = spl L 32 := ⟨_, rfl⟩
  have hWl : 1 ≤ W.length ∧ W.length ≤ L.length + 1 := by rw [hW]; exact hwl
  have h0len : (W.getD 0 []).length ≤ 1048576 := by
    have : W.getD 0 [] ∈ W := by
      rw [List.getD_eq_getElem?_getD, List.getElem?_eq_getElem (by omega)]
      simp
    have := spl_mem L 32 [] _ (by rw [hW] at this; exact this)
    rw [← hW] at this
    simp only [List.length_nil] at this
    omega
  rw [← hW]
  have hs : implO L = if W.length < 4 then badO
      else if W.length = 5 then chkO (numV (str (cutA (W.getD 0 []) 46))) (numV (str (cutB (W.getD 0 []) 46))) 2 (numV (str (W.getD 2 []))) (numV (str (W.getD 3 []))) (numV (str (W.getD (W.length - 1) []))) L
      else chkO (numV (str (cutA (W.getD 0 []) 46))) (numV (str (cutB (W.getD 0 []) 46))) 1 (numV (str (W.getD 2 []))) 0 (numV (str (W.getD (W.length - 1) []))) L := by
    unfold implO; rw [← hW]
  rw [hs]
  simp only [List.length_map]
  by_cases h4 : W.length < 4
  · rw [if_pos h4]
    simp only [if_pos (show (W.length : Int) < 4 by omega)]
    exact Ev.now _
  · rw [if_neg h4]
    have r0 := rdW W 0 (by omega)
    have y2 := rdW W 2 (by omega)
    have y3 := rdW W 3 (by omega)
    have yl := rdW W (W.length - 1) (by omega)
    rw [show ((W.length - 1 : Nat) : Int) = (W.length : Int) - 1 by omega] at yl
    have e1 := w64 (show -9223372036854775808 ≤ (W.length : Int) - 1 by omega) (by omega)
    have c0 : ((0 : Nat) : Int) = 0 := rfl
    have c2 : ((2 : Nat) : Int) = 2 := rfl
    have c3 : ((3 : Nat) : Int) = 3 := rfl
    rw [c0] at r0
    rw [c2] at y2
    rw [c3] at y3
    have hcut : strings_Cut.f (str (W.getD 0 [])) (⟨#[46]⟩ : ByteArray) = some (str (cutA (W.getD 0 []) 46), str (cutB (W.getD 0 []) 46), decide (fstB (W.getD 0 []) 46 < (W.getD 0 []).length)) := by
      rw [strings_Cut.val _ 46 (by omega)]
      unfold cutA cutB
      by_cases h : fstB (W.getD 0 []) 46 < (W.getD 0 []).length
      · rw [if_pos h, if_pos h, if_pos h, decide_eq_true h]
      · rw [if_neg h, if_neg h, if_neg h, decide_eq_false h]
    simp only [if_neg (show ¬ ((W.length : Int) < 4) by omega), if_pos (show 0 < (W.length : Int) by omega), r0, hcut, Option.bind_some]
    refine Ev.bind (impl_number.ev _) (Ev.bind (impl_number.ev _) ?_)
    simp only [if_pos (show 2 < (W.length : Int) by omega), y2]
    refine Ev.bind (impl_number.ev _) ?_
    simp only [e1, if_pos (show 0 ≤ (W.length : Int) - 1 by omega), if_pos (show (W.length : Int) - 1 < (W.length : Int) by omega), yl]
    refine Ev.bind (impl_number.ev _) ?_
    by_cases h5 : W.length = 5
    · rw [if_pos h5]
      simp only [if_pos (show (W.length : Int) = 5 by omega), if_pos (show 3 < (W.length : Int) by omega), y3]
      refine Ev.bind (impl_number.ev _) ?_
      exact impl_ParseOp.j0ev L _ _ _ _ _ _
    · rw [if_neg h5]
      simp only [if_neg (show ¬ ((W.length : Int) = 5) by omega)]
      exact impl_ParseOp.j0ev L _ _ _ _ _ _

theorem impl_ParseLog.l0ev (L : List UInt8) (hn : L.length ≤ 1048576) (b : Bool) (hb : Ev (fun k => impl_IsLog.f k ((spl L 59).map entI)) b) (hq : b = true ↔ isLog ((spl L 59).map entI)) :
    ∀ d i : Nat, i + d = (spl L 59).length → Ev (fun k => impl_ParseLog.l0 k (str L) (((spl L 59).take i).map entI) ((spl L 59).map str) ((spl L 59).length : Int) (i : Int)) (finL b ((spl L 59).map entI) L) := by
  intro d
  have hPl : (spl L 59).length ≤ L.length + 1 := (splA_len L 59 []).2
  induction d with
  | zero =>
    intro i h
    rw [List.take_of_length_le (show (spl L 59).length ≤ i by omega)]
    refine ev_shift ?_
    simp only [impl_ParseLog.l0, if_neg (show ¬ ((i : Int) < ((spl L 59).length : Int)) by omega), str_toList]
    unfold finL
    by_cases h0 : L = []
    · simp only [if_pos h0]; exact Ev.now _
    · simp only [if_neg h0]
      refine Ev.bind (impl_FormatLog.ev _ (by rw [List.length_map]; omega) b hb hq) (ev_val fun _ => ?_)
      rw [str_toList]
      by_cases h2 : (if b = true then logL ((spl L 59).map entI) else []) = L
      · rw [if_pos h2, if_pos h2]
      · rw [if_neg h2, if_neg h2]
  | succ d ih =>
    intro i h
    have e1 := w64 (show -9223372036854775808 ≤ (i : Int) + 1 by omega) (by omega)
    have hi : i < (spl L 59).length := by omega
    have hI := ih (i + 1) (by omega)
    rw [List.take_succ_eq_append_getElem hi, List.map_append] at hI
    have hp : (spl L 59).getD i [] = (spl L 59)[i] := by simp [hi]
    have hpl := spl_le L 59 i
    rw [hp] at hpl
    have hr := rdW (spl L 59) i hi
    rw [hp] at hr
    generalize (spl L 59)[i] = p at hI hpl hr
    have hcut : strings_Cut.f (str p) ⟨#[58]⟩ = some (str (cutA p 58), str (cutB p 58), decide (fstB p 58 < p.length)) := by
      rw [strings_Cut.val p 58 (by omega)]
      unfold cutA cutB
      split <;> simp [*]
    refine ev_shift ?_
    simp only [impl_ParseLog.l0, List.length_map, if_pos (show (i : Int) < ((spl L 59).length : Int) by omega), if_pos (show (0 : Int) ≤ (i : Int) by omega), hr, hcut, Option.bind_some]
    have hcb : (cutB p 58).length ≤ 1048576 := by
      unfold cutB
      split
      · rw [List.length_drop]; omega
      · simp
    refine Ev.bind (impl_ParseOp.ev _ hcb) (Ev.bind (impl_number.ev _) ?_)
    simp only [if_pos (show ((spl L 59).take i).length < 2513169434916 by rw [List.length_take]; omega), List.length_map, e1]
    exact hI
theorem impl_ParseLog.ev (L : List UInt8) (hn : L.length ≤ 1048576) (b : Bool) (hb : Ev (fun k => impl_IsLog.f k ((spl L 59).map entI)) b) (hq : b = true ↔ isLog ((spl L 59).map entI)) :
    Ev (fun k => impl_ParseLog.f k (str L)) (if L = [110, 111, 110, 101] then ([], true) else finL b ((spl L 59).map entI) L) := by
  simp only [impl_ParseLog.f, Option.bind_some, str_toList]
  by_cases h : L = [110, 111, 110, 101]
  · simp only [if_pos h]; exact Ev.now _
  · simp only [if_neg h]
    refine Ev.bind (strings_Split.ev L 59 (by omega)) ?_
    have := impl_ParseLog.l0ev L hn b hb hq (spl L 59).length 0 (by omega)
    simpa using this

theorem laws_eqOp.val (a b c d e f a' b' c' d' e' f' : Int) : laws_eqOp.f a b c d e f a' b' c' d' e' f' = some (decide (a = a' ∧ b = b' ∧ c = c' ∧ d = d' ∧ e = e' ∧ f = f')) := by
  unfold laws_eqOp.f
  by_cases h1 : a = a' <;> by_cases h2 : b = b' <;> by_cases h3 : c = c' <;> by_cases h4 : d = d' <;> by_cases h5 : e = e' <;> by_cases h6 : f = f' <;> simp [h1, h2, h3, h4, h5, h6]

theorem laws_eqEntry.val (x y : S66) : ∃ b, laws_eqEntry.f x.f0 x.f1.f0 x.f1.f1 x.f1.f2 x.f1.f3 x.f1.f4 x.f1.f5 y.f0 y.f1.f0 y.f1.f1 y.f1.f2 y.f1.f3 y.f1.f4 y.f1.f5 = some b ∧ (b = true ↔ x = y) := by
  unfold laws_eqEntry.f
  rw [ent_eq]
  by_cases h : x.f0 = y.f0
  · rw [if_pos h, laws_eqOp.val]
    simp only [Option.bind_some]
    by_cases h2 : x.f1.f0 = y.f1.f0 ∧ x.f1.f1 = y.f1.f1 ∧ x.f1.f2 = y.f1.f2 ∧ x.f1.f3 = y.f1.f3 ∧ x.f1.f4 = y.f1.f4 ∧ x.f1.f5 = y.f1.f5
    · exact ⟨true, by rw [if_pos (decide_eq_true h2)], by simp only [true_iff]; exact ⟨h, h2⟩⟩
    · exact ⟨false, by rw [if_neg (by simpa using h2)], by simp only [Bool.false_eq_true, false_iff]; exact fun h' => h2 h'.2⟩
  · exact ⟨false, by rw [if_neg h], by simp only [Bool.false_eq_true, false_iff]; exact fun h' => h h'.1⟩

theorem laws_eqEntryS.ev (xs ys : List S66) (hn : xs.length ≤ 9223372036854775806) : ∃ b, Ev (fun k => laws_eqEntryS.f k xs ys) b ∧ (b = true ↔ xs = ys) := by
  by_cases hl : xs.length = ys.length
  · obtain ⟨b, hb, hq⟩ := eq_loop (fun k i => laws_eqEntryS.l0 k xs ys i) xs ys hl
      (fun k => by simp only [laws_eqEntryS.l0, if_neg (show ¬ ((xs.length : Int) < (xs.length : Int)) by omega)])
      (fun i h1 h2 => by
        obtain ⟨b, hb, hq⟩ := laws_eqEntry.val xs[i] ys[i]
        cases b with
        | true => exact .inl ⟨hq.1 rfl, 0, fun k _ => by simp only [laws_eqEntryS.l0, if_pos (show (i : Int) < (xs.length : Int) by omega), if_pos (show (0 : Int) ≤ (i : Int) by omega), if_pos (show (i : Int) < (ys.length : Int) by omega), rdE xs i h1, rdE ys i h2, hb, Option.bind_some, if_true, w64 (show -9223372036854775808 ≤ (i : Int) + 1 by omega) (by omega)]⟩
        | false => exact .inr ⟨fun h => by simpa using hq.2 h, 0, fun k _ => by simp only [laws_eqEntryS.l0, if_pos (show (i : Int) < (xs.length : Int) by omega), if_pos (show (0 : Int) ≤ (i : Int) by omega), if_pos (show (i : Int) < (ys.length : Int) by omega), rdE xs i h1, rdE ys i h2, hb, Option.bind_some, Bool.false_eq_true, if_false]⟩)
    refine ⟨b, ?_, hq⟩
    refine Ev.congr (fun k => ?_) hb
    simp only [laws_eqEntryS.f, if_pos (show (xs.length : Int) = (ys.length : Int) by omega)]
  · refine ⟨false, ev_val (fun k => ?_), ?_⟩
    · simp only [laws_eqEntryS.f, if_neg (show ¬ ((xs.length : Int) = (ys.length : Int)) by omega)]
    · constructor
      · intro h; cases h
      · intro h; subst h; exact absurd rfl hl
theorem laws_eqEntryS.same (xs : List S66) (hn : xs.length ≤ 9223372036854775806) : Ev (fun k => laws_eqEntryS.f k xs xs) true := by
  obtain ⟨b, hb, hq⟩ := laws_eqEntryS.ev xs xs hn
  exact ev_eq hb (hq.2 rfl)

/-- The mark of an entry. -/
def markE (a : Int) : S66 := ⟨a, ⟨a + 1, a + 2, a + 3, a + 4, a + 5, a + 6⟩⟩
def marksE (n : Nat) (a : Int) : List S66 := (List.range n).map fun (i : Nat) => markE (a + 7 * (i : Int))
theorem marksE_length (n : Nat) (a : Int) : (marksE n a).length = n := by simp [marksE]

theorem laws_markEntryS.ev (xs : List S66) (a : Int) (hn : xs.length ≤ 1048576000) (h0 : 0 ≤ a) (h1 : a ≤ 1048576000000) : Ev (fun k => laws_markEntryS.f k xs a) (a + 7 * xs.length, marksE xs.length a) := by
  have := mark_loop (fun k ys a i => laws_markEntryS.l0 k ys a i) 7 markE ⟨by omega, by omega⟩
    (fun k xs a => by simp only [laws_markEntryS.l0, if_neg (show ¬ ((xs.length : Int) < (xs.length : Int)) by omega)])
    (fun xs a i k hi hi2 ha ha' => by
      have r1 : ∀ (ys : List S66) (v : S66), i < ys.length → rd_T66 (ys.set i v) (i : Int) = v := fun ys v h => by
        rw [rdE _ i (by simpa using h)]; simp
      simp only [laws_markEntryS.l0, if_pos (show (i : Int) < (xs.length : Int) by omega), if_pos (show (0 : Int) ≤ (i : Int) by omega), Int.toNat_natCast, w64 (show -9223372036854775808 ≤ (i : Int) + 1 by omega) (by omega), w64 (show -9223372036854775808 ≤ a + 1 by omega) (by omega), w64 (show -9223372036854775808 ≤ a + 1 + 1 by omega) (by omega), w64 (show -9223372036854775808 ≤ a + 1 + 1 + 1 by omega) (by omega), w64 (show -9223372036854775808 ≤ a + 1 + 1 + 1 + 1 by omega) (by omega), w64 (show -9223372036854775808 ≤ a + 1 + 1 + 1 + 1 + 1 by omega) (by omega), w64 (show -9223372036854775808 ≤ a + 1 + 1 + 1 + 1 + 1 + 1 by omega) (by omega), w64 (show -9223372036854775808 ≤ a + 1 + 1 + 1 + 1 + 1 + 1 + 1 by omega) (by omega), Option.bind_some]
      rw [r1 xs _ hi]
      simp only []
      rw [r1 _ _ (by simpa using hi)]
      simp only []
      rw [r1 _ _ (by simpa using hi)]
      simp only []
      rw [r1 _ _ (by simpa using hi)]
      simp only []
      rw [r1 _ _ (by simpa using hi)]
      simp only []
      rw [r1 _ _ (by simpa using hi)]
      simp only [List.set_set, markE, show a + 1 + 1 = a + 2 by omega, show a + 2 + 1 = a + 3 by omega, show a + 3 + 1 = a + 4 by omega, show a + 4 + 1 = a + 5 by omega, show a + 5 + 1 = a + 6 by omega, show a + 6 + 1 = a + 7 by omega])
    xs a hn h0 h1
  exact this

theorem laws_heldEntryS.ev (n : Nat) (a : Int) (hn : n ≤ 1048576000) (h0 : 0 ≤ a) (h1 : a ≤ 1048576000000) : Ev (fun k => laws_heldEntryS.f k (marksE n a) a) (a + 7 * n) := by
  have := held_loop (fun k a' i => laws_heldEntryS.l0 k (marksE n a) a' i) 7 markE ⟨by omega, by omega⟩ (marksE n a)
    (fun k a' => by simp only [laws_heldEntryS.l0, if_neg (show ¬ (((marksE n a).length : Int) < ((marksE n a).length : Int)) by omega)])
    (fun a' i k hi hi2 ha ha' hx => by
      simp only [laws_heldEntryS.l0, if_pos (show (i : Int) < ((marksE n a).length : Int) by omega), if_pos (show (0 : Int) ≤ (i : Int) by omega), rdE (marksE n a) i hi, hx, markE, w64 (show -9223372036854775808 ≤ (i : Int) + 1 by omega) (by omega), w64 (show -9223372036854775808 ≤ a' + 1 by omega) (by omega), w64 (show -9223372036854775808 ≤ a' + 2 by omega) (by omega), w64 (show -9223372036854775808 ≤ a' + 3 by omega) (by omega), w64 (show -9223372036854775808 ≤ a' + 4 by omega) (by omega), w64 (show -9223372036854775808 ≤ a' + 5 by omega) (by omega), w64 (show -9223372036854775808 ≤ a' + 6 by omega) (by omega), w64 (show -9223372036854775808 ≤ a' + 7 by omega) (by omega), if_true,
        show a' + 1 + 1 = a' + 2 by omega, show a' + 2 + 1 = a' + 3 by omega, show a' + 3 + 1 = a' + 4 by omega, show a' + 4 + 1 = a' + 5 by omega, show a' + 5 + 1 = a' + 6 by omega, show a' + 6 + 1 = a' + 7 by omega])
    a (by rw [marksE_length]; exact hn) h0 h1 (by rw [marksE_length]; rfl)
  rw [marksE_length] at this
  exact this

theorem FnExactParseLog : FnExactParseLogPure := by
  intro s hs
  refine Ev.rounds (g := fun k => laws_FnExactParseLog.f k s) ?_
  by_cases hb : (s.size : Int) > 1048576
  · simp only [laws_FnExactParseLog.f, if_pos hb]; exact Ev.now _
  simp only [laws_FnExactParseLog.f, if_neg hb]
  have hl : s.data.toList.length ≤ 1048576 := by rw [Array.length_toList]; have : s.data.size = s.size := rfl; omega
  have hPl : (spl s.data.toList 59).length ≤ s.data.toList.length + 1 := (splA_len s.data.toList 59 []).2
  obtain ⟨bS, sv, qS⟩ := spec_IsLog.ev (((spl s.data.toList 59).take 17).map entS) (by rw [List.length_map, List.length_take]; omega)
  obtain ⟨bI, iv, qI⟩ := impl_IsLog.ev ((spl s.data.toList 59).map entI) (by rw [List.length_map]; omega)
  have hS := spec_ParseLog.ev s.data.toList hl bS sv qS
  have hI := impl_ParseLog.ev s.data.toList hl bI iv qI
  rw [str_str] at hS hI
  rw [par_eq s.data.toList bS bI qS qI] at hS
  have hlen : (if s.data.toList = [110, 111, 110, 101] then (([] : List S66), true) else finL bI ((spl s.data.toList 59).map entI) s.data.toList).1.length ≤ 1048577 := by
    by_cases hN : s.data.toList = [110, 111, 110, 101]
    · rw [if_pos hN]; simp
    · rw [if_neg hN]
      unfold finL
      split
      · simp
      · by_cases h2 : (if bI = true then logL ((spl s.data.toList 59).map entI) else []) = s.data.toList
        · rw [if_pos h2]
          show ((spl s.data.toList 59).map entI).length ≤ _
          rw [List.length_map]; omega
        · rw [if_neg h2]; simp
  generalize (if s.data.toList = [110, 111, 110, 101] then (([] : List S66), true) else finL bI ((spl s.data.toList 59).map entI) s.data.toList) = q at hS hI hlen
  obtain ⟨l, t⟩ := q
  simp only at hlen
  refine Ev.bind hS (Ev.bind hI (Ev.bind (laws_eqEntryS.same l (by omega)) ?_))
  simp only [if_true, bne_self_eq_false]
  refine ev_shift ?_
  simp only [laws_FnExactParseLog.j0, Bool.false_eq_true, if_false]
  refine Ev.bind (laws_markEntryS.ev l 1 (by omega) (by omega) (by omega)) (Ev.bind (laws_heldEntryS.ev l.length 1 (by omega) (by omega) (by omega)) ?_)
  simp only [if_neg (show ¬ (1 + 7 * (l.length : Int) < 0) by omega), if_true]
  refine Ev.bind hI (Ev.bind (laws_eqEntryS.same l (by omega)) ?_)
  simp only [if_true, bne_self_eq_false]
  refine ev_shift ?_
  simp only [laws_FnExactParseLog.j1, Bool.false_eq_true, if_false]
  refine Ev.bind (laws_heldEntryS.ev l.length 1 (by omega) (by omega) (by omega)) ?_
  simp only [if_neg (show ¬ (1 + 7 * (l.length : Int) < 0) by omega), if_true]
  exact Ev.now _

end Go.Proofs.YtcikahnmiiichaaDoor.Pure
